import PyProof.Rows.All
import Wide.All
import OpenK.AllK
import Wide.FinOn
import HandS.ForMost
import HandS.IsInst
import HandS.Flow
import HandS.Conv
import HandS.Deep
import HandS.DictComp
import HandS.TupAny
import HandS.TupMul
import HandS.TryMany
import HandS.ForExc
import HandS.ExcSuper
import HandS.ExcField
import HandS.WordsExc
import HandS.RevRange
import HandS.AnyAll
import HandS.WideBits
import HandS.Steps
import HandS.Small
import PySem.Challenge.RW_backstair_k37_whole_calls_and_uncalls
import HandS.ExcInit
import KE.KExcSuper
import HandS.ExcOwn
import HandS.More
import KE.KDictSum
import HandS.Walk
section -- BkM
set_option Elab.async false
set_option linter.all false
/-! BkM: reversible machines by pieces, in the abstract: bodies, pieces, concrete steps, abstract steps, the bisimulation, calls and uncalls. Core Lean alone. -/
namespace Bk

/-- a body: statements in a row -/
inductive Bd (P C N : Type) where
  | nil
  | pr (p : P) (r : Bd P C N)
  | cl (s : Bool) (n : N) (r : Bd P C N)
  | ite (c d : C) (A B r : Bd P C N)
  | lp (c d : C) (A B r : Bd P C N)

/-- a piece between points -/
inductive Pc (P C N : Type) where
  | call (here after : Nat) (n : N) (s : Bool)
  | act (here after : Nat) (p : P)
  | fork (one : Nat) (c : C) (yes no : Nat)
  | join (yes no : Nat) (c : C) (one : Nat)

/-- the points of a program -/
structure Pts (P C N : Type) where
  cnt : Nat
  pcs : List (Pc P C N)
  lv : Nat → Option Nat
  ar : Nat → Option Nat

/-- what prims and conditions do -/
structure Sem (P C S : Type) where
  act : P → S → S
  und : P → P
  tst : C → S → Bool
  ok : S → Prop
  good : P → Prop
  und_good : ∀ p, good p → good (und p)
  und2 : ∀ p, und (und p) = p
  keep : ∀ p s, good p → ok s → ok (act p s)
  rev : ∀ p s, good p → ok s → act (und p) (act p s) = s

variable {P C N S : Type}

def Bd.app : Bd P C N → Bd P C N → Bd P C N
  | .nil, y => y
  | .pr p r, y => .pr p (r.app y)
  | .cl s n r, y => .cl s n (r.app y)
  | .ite c d A B r, y => .ite c d A B (r.app y)
  | .lp c d A B r, y => .lp c d A B (r.app y)
def Bd.inv (u : P → P) : Bd P C N → Bd P C N
  | .nil => .nil
  | .pr p r => (r.inv u).app (.pr (u p) .nil)
  | .cl s n r => (r.inv u).app (.cl (!s) n .nil)
  | .ite c d A B r => (r.inv u).app (.ite d c (A.inv u) (B.inv u) .nil)
  | .lp c d A B r => (r.inv u).app (.lp d c (A.inv u) (B.inv u) .nil)
def Bd.all (g : P → Prop) (q : N → Prop) : Bd P C N → Prop
  | .nil => True
  | .pr p r => g p ∧ r.all g q
  | .cl _ n r => q n ∧ r.all g q
  | .ite _ _ A B r => A.all g q ∧ B.all g q ∧ r.all g q
  | .lp _ _ A B r => A.all g q ∧ B.all g q ∧ r.all g q
theorem Bd.all_app {g : P → Prop} {q : N → Prop} : ∀ {x y : Bd P C N}, x.all g q → y.all g q → (x.app y).all g q
  | .nil, _, _, h => h
  | .pr _ _, _, h, k => ⟨h.1, Bd.all_app h.2 k⟩
  | .cl _ _ _, _, h, k => ⟨h.1, Bd.all_app h.2 k⟩
  | .ite _ _ _ _ _, _, h, k => ⟨h.1, h.2.1, Bd.all_app h.2.2 k⟩
  | .lp _ _ _ _ _, _, h, k => ⟨h.1, h.2.1, Bd.all_app h.2.2 k⟩
theorem Bd.all_inv {g : P → Prop} {q : N → Prop} {u : P → P} (hu : ∀ p, g p → g (u p)) : ∀ {x : Bd P C N}, x.all g q → (x.inv u).all g q
  | .nil, _ => trivial
  | .pr _ _, h => Bd.all_app (Bd.all_inv hu h.2) ⟨hu _ h.1, trivial⟩
  | .cl _ _ _, h => Bd.all_app (Bd.all_inv hu h.2) ⟨h.1, trivial⟩
  | .ite _ _ _ _ _, h => Bd.all_app (Bd.all_inv hu h.2.2) ⟨Bd.all_inv hu h.1, Bd.all_inv hu h.2.1, trivial⟩
  | .lp _ _ _ _ _, h => Bd.all_app (Bd.all_inv hu h.2.2) ⟨Bd.all_inv hu h.1, Bd.all_inv hu h.2.1, trivial⟩

/-! ### the concrete machine -/
structure Cf (S : Type) where
  pt : Nat
  hd : Bool
  fr : List Nat
  st : S
def Cf.flip (c : Cf S) : Cf S := ⟨c.pt, !c.hd, c.fr, c.st⟩

/-- the ends of the procedures -/
abbrev En (N : Type) := N → Nat × Nat

def Pts.out (T : Pts P C N) (h : Bool) : Nat → Option Nat := if h then T.lv else T.ar
def Pts.inn (T : Pts P C N) (h : Bool) : Nat → Option Nat := if h then T.ar else T.lv
theorem Pts.out_not (T : Pts P C N) (h : Bool) : T.out (!h) = T.inn h := by cases h <;> rfl
theorem Pts.inn_not (T : Pts P C N) (h : Bool) : T.inn (!h) = T.out h := by cases h <;> rfl

def gate (M : Sem P C S) (outw : Bool) (one : Nat) (cd : C) (yes no : Nat) (c : Cf S) : Option (Cf S) :=
  if outw then some ⟨if M.tst cd c.st then yes else no, c.hd, c.fr, c.st⟩
  else if M.tst cd c.st = (c.pt == yes) then some ⟨one, c.hd, c.fr, c.st⟩ else none
def turn (M : Sem P C S) (E : En N) (k : Nat) (c : Cf S) : Pc P C N → Option (Cf S)
  | .call _ _ n s => some ⟨if c.hd == s then (E n).1 else (E n).2, c.hd == s, c.fr ++ [k], c.st⟩
  | .act here after p => some ⟨if c.hd then after else here, c.hd, c.fr, M.act (if c.hd then p else M.und p) c.st⟩
  | .fork one cd yes no => gate M c.hd one cd yes no c
  | .join yes no cd one => gate M (!c.hd) one cd yes no c
def retn (T : Pts P C N) (c : Cf S) : Option (Cf S) :=
  match c.fr.getLast? with
  | none => none
  | some k => match T.pcs[k]? with
    | some (.call here after _ s) => some ⟨if c.hd == s then after else here, c.hd == s, c.fr.dropLast, c.st⟩
    | _ => none
def stepC (M : Sem P C S) (T : Pts P C N) (E : En N) (c : Cf S) : Option (Cf S) :=
  match T.out c.hd c.pt with
  | none => retn T c
  | some k => match T.pcs[k]? with
    | some p => turn M E k c p
    | none => none

/-! ### laid bodies -/
def Pts.forkAt (T : Pts P C N) (h : Bool) (k one : Nat) (cd : C) (yes no : Nat) : Prop :=
  T.pcs[k]? = some (if h then .fork one cd yes no else .join yes no cd one)
def Pts.actAt (T : Pts P C N) (u : P → P) (h : Bool) (k f m : Nat) (p : P) : Prop :=
  if h then T.pcs[k]? = some (.act f m p) else ∃ p0, p = u p0 ∧ T.pcs[k]? = some (.act m f p0)
def Pts.callAt (T : Pts P C N) (h : Bool) (k f m : Nat) (n : N) (s : Bool) : Prop :=
  T.pcs[k]? = some (if h then .call f m n s else .call m f n (!s))

def Laid (u : P → P) (T : Pts P C N) (h : Bool) : Bd P C N → Nat → Nat → Prop
  | .nil, f, l => f = l
  | .pr p r, f, l => ∃ m k, T.actAt u h k f m p ∧ T.out h f = some k ∧ T.inn h m = some k ∧ Laid u T h r m l
  | .cl s n r, f, l => ∃ m k, T.callAt h k f m n s ∧ T.out h f = some k ∧ T.inn h m = some k ∧ Laid u T h r m l
  | .ite c d A B r, f, l => ∃ m k1 k2 f1 l1 f2 l2, T.forkAt h k1 f c f1 f2 ∧ T.out h f = some k1 ∧ T.inn h f1 = some k1 ∧ T.inn h f2 = some k1 ∧
      T.forkAt (!h) k2 m d l1 l2 ∧ T.inn h m = some k2 ∧ T.out h l1 = some k2 ∧ T.out h l2 = some k2 ∧ f1 ≠ f2 ∧ l1 ≠ l2 ∧
      Laid u T h A f1 l1 ∧ Laid u T h B f2 l2 ∧ Laid u T h r m l
  | .lp c d A B r, f, l => ∃ m k1 k2 f1 l1 f2 l2, T.forkAt (!h) k1 f1 c f l2 ∧ T.inn h f1 = some k1 ∧ T.out h f = some k1 ∧ T.out h l2 = some k1 ∧
      T.forkAt h k2 l1 d m f2 ∧ T.out h l1 = some k2 ∧ T.inn h m = some k2 ∧ T.inn h f2 = some k2 ∧ f ≠ l2 ∧ m ≠ f2 ∧
      Laid u T h A f1 l1 ∧ Laid u T h B f2 l2 ∧ Laid u T h r m l

theorem laid_app {u : P → P} {T : Pts P C N} {h : Bool} {y : Bd P C N} {m l : Nat} (hy : Laid u T h y m l) : ∀ {x : Bd P C N} {f : Nat}, Laid u T h x f m → Laid u T h (x.app y) f l
  | .nil, _, hx => by cases hx; exact hy
  | .pr _ _, _, ⟨m1, k, a, b, c, d⟩ => ⟨m1, k, a, b, c, laid_app hy d⟩
  | .cl _ _ _, _, ⟨m1, k, a, b, c, d⟩ => ⟨m1, k, a, b, c, laid_app hy d⟩
  | .ite _ _ _ _ _, _, ⟨m1, k1, k2, f1, l1, f2, l2, a1, a2, a3, a4, a5, a6, a7, a8, a9, b0, b1, b2, b3⟩ => ⟨m1, k1, k2, f1, l1, f2, l2, a1, a2, a3, a4, a5, a6, a7, a8, a9, b0, b1, b2, laid_app hy b3⟩
  | .lp _ _ _ _ _, _, ⟨m1, k1, k2, f1, l1, f2, l2, a1, a2, a3, a4, a5, a6, a7, a8, a9, b0, b1, b2, b3⟩ => ⟨m1, k1, k2, f1, l1, f2, l2, a1, a2, a3, a4, a5, a6, a7, a8, a9, b0, b1, b2, laid_app hy b3⟩

theorem actAt_t {u : P → P} {T : Pts P C N} {k f m : Nat} {p : P} : T.actAt u true k f m p ↔ T.pcs[k]? = some (.act f m p) := by simp [Pts.actAt]
theorem actAt_f {u : P → P} {T : Pts P C N} {k f m : Nat} {p : P} : T.actAt u false k f m p ↔ ∃ p0, p = u p0 ∧ T.pcs[k]? = some (.act m f p0) := by simp [Pts.actAt]
/-- a body that is laid forwards is laid backwards, as its inverse -/
theorem laid_inv {u : P → P} {T : Pts P C N} : ∀ {x : Bd P C N} {f l : Nat}, Laid u T true x f l → Laid u T false (x.inv u) l f
  | .nil, _, _, h => h.symm
  | .pr p r, f, l, ⟨m, k, a, b, c, d⟩ => by
    have h1 : Laid u T false (.pr (u p) .nil) m f := ⟨f, k, actAt_f.mpr ⟨p, rfl, actAt_t.mp a⟩, c, b, rfl⟩
    exact laid_app h1 (laid_inv d)
  | .cl s n r, f, l, ⟨m, k, a, b, c, d⟩ => by
    have h1 : Laid u T false (.cl (!s) n .nil) m f := ⟨f, k, by simpa [Pts.callAt] using a, c, b, rfl⟩
    exact laid_app h1 (laid_inv d)
  | .ite c d A B r, f, l, ⟨m, k1, k2, f1, l1, f2, l2, a1, a2, a3, a4, a5, a6, a7, a8, a9, b0, b1, b2, b3⟩ => by
    have h1 : Laid u T false (.ite d c (A.inv u) (B.inv u) .nil) m f := ⟨f, k2, k1, l1, f1, l2, f2, a5, a6, a7, a8, a1, a2, a3, a4, b0, a9, laid_inv b1, laid_inv b2, rfl⟩
    exact laid_app h1 (laid_inv b3)
  | .lp c d A B r, f, l, ⟨m, k1, k2, f1, l1, f2, l2, a1, a2, a3, a4, a5, a6, a7, a8, a9, b0, b1, b2, b3⟩ => by
    have h1 : Laid u T false (.lp d c (A.inv u) (B.inv u) .nil) m f := ⟨f, k2, k1, l1, f1, l2, f2, a5, a6, a7, a8, a1, a2, a3, a4, b0, a9, laid_inv b1, laid_inv b2, rfl⟩
    exact laid_app h1 (laid_inv b3)

/-! ### the abstract machine -/
inductive Itm (P C N : Type) where
  | bd (b : Bd P C N)
  | chk (c : C) (v : Bool)
  | lpd (c d : C) (A B : Bd P C N)
  | lpc (c d : C) (A B : Bd P C N)
  | ret

def anorm : List (Itm P C N) → List (Itm P C N)
  | .bd .nil :: r => anorm r
  | x => x
/-- the next state, of a list whose first item is not the empty body -/
def astep1 (M : Sem P C S) (R : N → Bd P C N) (s : S) : List (Itm P C N) → Option (List (Itm P C N) × S)
  | [] => none
  | .bd .nil :: _ => none
  | .bd (.pr p r) :: K => some (.bd r :: K, M.act p s)
  | .bd (.cl v n r) :: K => some (.bd (if v then R n else (R n).inv M.und) :: .ret :: .bd r :: K, s)
  | .bd (.ite c d A B r) :: K => some (.bd (if M.tst c s then A else B) :: .chk d (M.tst c s) :: .bd r :: K, s)
  | .bd (.lp c d A B r) :: K => if M.tst c s then some (.bd A :: .lpd c d A B :: .bd r :: K, s) else none
  | .chk d v :: K => if M.tst d s = v then some (K, s) else none
  | .lpd c d A B :: K => if M.tst d s then some (K, s) else some (.bd B :: .lpc c d A B :: K, s)
  | .lpc c d A B :: K => if M.tst c s then none else some (.bd A :: .lpd c d A B :: K, s)
  | .ret :: K => some (K, s)
def astep (M : Sem P C S) (R : N → Bd P C N) (s : S) (l : List (Itm P C N)) : Option (List (Itm P C N) × S) := astep1 M R s (anorm l)

/-! ### which place belongs to which items: from (pt, hd, fr) through the items to the target -/
abbrev Pl := Nat × Bool × List Nat
def Rel (M : Sem P C S) (T : Pts P C N) (E : En N) : List (Itm P C N) → Pl → Pl → Prop
  | [], c, t => c = t
  | .bd b :: K, c, t => ∃ e, Laid M.und T c.2.1 b c.1 e ∧ Rel M T E K (e, c.2.1, c.2.2) t
  | .chk d v :: K, c, t => ∃ k yes no one, T.forkAt (!c.2.1) k one d yes no ∧ T.out c.2.1 c.1 = some k ∧ c.1 = (if v then yes else no) ∧ yes ≠ no ∧ T.inn c.2.1 one = some k ∧ Rel M T E K (one, c.2.1, c.2.2) t
  | .lpd cc d A B :: K, c, t => ∃ k1 k2 f f1 f2 l2 m, T.forkAt (!c.2.1) k1 f1 cc f l2 ∧ T.inn c.2.1 f1 = some k1 ∧ T.out c.2.1 l2 = some k1 ∧ T.forkAt c.2.1 k2 c.1 d m f2 ∧ T.out c.2.1 c.1 = some k2 ∧ T.inn c.2.1 m = some k2 ∧
      T.inn c.2.1 f2 = some k2 ∧ f ≠ l2 ∧ m ≠ f2 ∧ Laid M.und T c.2.1 A f1 c.1 ∧ Laid M.und T c.2.1 B f2 l2 ∧ Rel M T E K (m, c.2.1, c.2.2) t
  | .lpc cc d A B :: K, c, t => ∃ k1 k2 f f1 l1 f2 m, T.forkAt (!c.2.1) k1 f1 cc f c.1 ∧ T.inn c.2.1 f1 = some k1 ∧ T.out c.2.1 c.1 = some k1 ∧ T.forkAt c.2.1 k2 l1 d m f2 ∧ T.out c.2.1 l1 = some k2 ∧ T.inn c.2.1 m = some k2 ∧
      T.inn c.2.1 f2 = some k2 ∧ f ≠ c.1 ∧ m ≠ f2 ∧ Laid M.und T c.2.1 A f1 l1 ∧ Laid M.und T c.2.1 B f2 c.1 ∧ Rel M T E K (m, c.2.1, c.2.2) t
  | .ret :: K, c, t => ∃ k here after n s fr, c.2.2 = fr ++ [k] ∧ T.pcs[k]? = some (.call here after n s) ∧ T.out c.2.1 c.1 = none ∧ c.1 = (if c.2.1 then (E n).2 else (E n).1) ∧
      T.inn (c.2.1 == s) (if c.2.1 == s then after else here) = some k ∧ Rel M T E K (if c.2.1 == s then after else here, c.2.1 == s, fr) t

theorem rel_norm {M : Sem P C S} {T : Pts P C N} {E : En N} {t : Pl} : ∀ {l : List (Itm P C N)} {c : Pl}, Rel M T E l c t → Rel M T E (anorm l) c t
  | [], _, h => h
  | .bd .nil :: r, c, ⟨e, h1, h2⟩ => by
    have h1' : c.1 = e := h1
    subst h1'
    exact rel_norm (l := r) h2
  | .bd (.pr _ _) :: _, _, h => h
  | .bd (.cl _ _ _) :: _, _, h => h
  | .bd (.ite _ _ _ _ _) :: _, _, h => h
  | .bd (.lp _ _ _ _ _) :: _, _, h => h
  | .chk _ _ :: _, _, h => h
  | .lpd _ _ _ _ :: _, _, h => h
  | .lpc _ _ _ _ :: _, _, h => h
  | .ret :: _, _, h => h

/-- the program's points lie right -/
structure Right (M : Sem P C S) (T : Pts P C N) (E : En N) (R : N → Bd P C N) (q : N → Prop) : Prop where
  laid : ∀ n, q n → Laid M.und T true (R n) (E n).1 (E n).2
  first : ∀ n, q n → T.ar (E n).1 = none
  last : ∀ n, q n → T.lv (E n).2 = none
  all : ∀ n, q n → (R n).all M.good q

def Itm.good (M : Sem P C S) (q : N → Prop) : Itm P C N → Prop
  | .bd b => b.all M.good q
  | .lpd _ _ A B => A.all M.good q ∧ B.all M.good q
  | .lpc _ _ A B => A.all M.good q ∧ B.all M.good q
  | _ => True
def AllGood (M : Sem P C S) (q : N → Prop) (l : List (Itm P C N)) : Prop := ∀ x ∈ l, x.good M q
theorem allGood_norm {M : Sem P C S} {q : N → Prop} : ∀ {l : List (Itm P C N)}, AllGood M q l → AllGood M q (anorm l)
  | [], h => h
  | .bd .nil :: r, h => allGood_norm (l := r) fun x hx => h x (List.mem_cons_of_mem _ hx)
  | .bd (.pr _ _) :: _, h => h
  | .bd (.cl _ _ _) :: _, h => h
  | .bd (.ite _ _ _ _ _) :: _, h => h
  | .bd (.lp _ _ _ _ _) :: _, h => h
  | .chk _ _ :: _, h => h
  | .lpd _ _ _ _ :: _, h => h
  | .lpc _ _ _ _ :: _, h => h
  | .ret :: _, h => h
theorem AllGood.tail {M : Sem P C S} {q : N → Prop} {x : Itm P C N} {l : List (Itm P C N)} (h : AllGood M q (x :: l)) : AllGood M q l := fun y hy => h y (List.mem_cons_of_mem _ hy)
theorem AllGood.cons {M : Sem P C S} {q : N → Prop} {x : Itm P C N} {l : List (Itm P C N)} (h : x.good M q) (hl : AllGood M q l) : AllGood M q (x :: l) := fun y hy => by
  rcases List.mem_cons.mp hy with e | e
  · subst e; exact h
  · exact hl y e

def at_ (c : Pl) (s : S) : Cf S := ⟨c.1, c.2.1, c.2.2, s⟩
def flipPl (c : Pl) : Pl := (c.1, !c.2.1, c.2.2)

/-- a step that can be taken back -/
def Two (M : Sem P C S) (T : Pts P C N) (E : En N) (c c' : Cf S) : Prop := stepC M T E c = some c' ∧ stepC M T E c'.flip = some c.flip

theorem gate_out {M : Sem P C S} {T : Pts P C N} {E : En N} {h : Bool} {k one : Nat} {cd : C} {yes no : Nat} {fr : List Nat} {s : S} (hf : T.forkAt h k one cd yes no) (ho : T.out h one = some k) (hy : T.inn h yes = some k) (hn : T.inn h no = some k) (ne : yes ≠ no) :
    Two M T E ⟨one, h, fr, s⟩ ⟨if M.tst cd s then yes else no, h, fr, s⟩ := by
  unfold Pts.forkAt at hf
  have e : T.out (!h) (if M.tst cd s then yes else no) = some k := by
    rw [Pts.out_not]
    cases M.tst cd s
    · exact hn
    · exact hy
  constructor
  · simp only [stepC, ho, hf]
    cases h <;> simp [turn, gate]
  · show stepC M T E ⟨_, !h, fr, s⟩ = some ⟨one, !h, fr, s⟩
    simp only [stepC, e, hf]
    cases h <;> cases ht : M.tst cd s <;> simp [turn, gate, ht, ne, Ne.symm ne]
theorem gate_in {M : Sem P C S} {T : Pts P C N} {E : En N} {h : Bool} {k one : Nat} {cd : C} {yes no x : Nat} {fr : List Nat} {s : S} (hf : T.forkAt (!h) k one cd yes no) (hi : T.inn h one = some k) (hx : T.out h x = some k) (ex : x = if M.tst cd s then yes else no) (ne : yes ≠ no) :
    Two M T E ⟨x, h, fr, s⟩ ⟨one, h, fr, s⟩ := by
  unfold Pts.forkAt at hf
  have e : T.out (!h) one = some k := by rw [Pts.out_not]; exact hi
  constructor
  · simp only [stepC, hx, hf]
    subst ex
    cases h <;> cases ht : M.tst cd s <;> simp [turn, gate, ht, ne, Ne.symm ne]
  · show stepC M T E ⟨_, !h, fr, s⟩ = some ⟨x, !h, fr, s⟩
    simp only [stepC, e, hf]
    subst ex
    cases h <;> simp [turn, gate]
theorem gate_stuck {M : Sem P C S} {T : Pts P C N} {E : En N} {h : Bool} {k one : Nat} {cd : C} {yes no x : Nat} {fr : List Nat} {s : S} (hf : T.forkAt (!h) k one cd yes no) (hx : T.out h x = some k) (ex : x = if !M.tst cd s then yes else no) (ne : yes ≠ no) :
    stepC M T E ⟨x, h, fr, s⟩ = none := by
  unfold Pts.forkAt at hf
  simp only [stepC, hx, hf]
  subst ex
  cases h <;> cases ht : M.tst cd s <;> simp [turn, gate, ht, ne, Ne.symm ne]


theorem two_act {M : Sem P C S} {T : Pts P C N} {E : En N} {h : Bool} {k f m : Nat} {p : P} {fr : List Nat} {s : S} (ha : T.actAt M.und h k f m p) (ho : T.out h f = some k) (hi : T.inn h m = some k) (g : M.good p) (ok : M.ok s) :
    Two M T E ⟨f, h, fr, s⟩ ⟨m, h, fr, M.act p s⟩ := by
  have e2 : T.out (!h) m = some k := by rw [Pts.out_not]; exact hi
  cases h with
  | true =>
    rw [actAt_t] at ha
    constructor
    · simp [stepC, ho, ha, turn]
    · show stepC M T E ⟨m, !true, fr, _⟩ = some ⟨f, !true, fr, s⟩
      simp only [stepC, e2, ha]
      simp [turn, M.rev p s g ok]
  | false =>
    obtain ⟨p0, rfl, hp⟩ := actAt_f.mp ha
    constructor
    · simp [stepC, ho, hp, turn]
    · show stepC M T E ⟨m, !false, fr, _⟩ = some ⟨f, !false, fr, s⟩
      simp only [stepC, e2, hp]
      have z := M.rev (M.und p0) s g ok
      rw [M.und2] at z
      simp [turn, z]
theorem two_call {M : Sem P C S} {T : Pts P C N} {E : En N} {h v : Bool} {k f m : Nat} {n : N} {fr : List Nat} {s : S} (ha : T.callAt h k f m n v) (ho : T.out h f = some k) (h0 : T.inn v (if v then (E n).1 else (E n).2) = none) :
    Two M T E ⟨f, h, fr, s⟩ ⟨if v then (E n).1 else (E n).2, v, fr ++ [k], s⟩ := by
  have e2 : T.out (!v) (if v then (E n).1 else (E n).2) = none := by rw [Pts.out_not]; exact h0
  unfold Pts.callAt at ha
  constructor
  · simp only [stepC, ho, ha]
    cases h <;> cases v <;> simp [turn]
  · show stepC M T E ⟨_, !v, fr ++ [k], s⟩ = some ⟨f, !h, fr, s⟩
    simp only [stepC, e2, retn, List.getLast?_append, List.getLast?_singleton, Option.some_or, ha]
    cases h <;> cases v <;> simp
theorem two_ret {M : Sem P C S} {T : Pts P C N} {E : En N} {h : Bool} {k here after pt : Nat} {n : N} {v : Bool} {fr : List Nat} {s : S} (ha : T.pcs[k]? = some (.call here after n v)) (ho : T.out h pt = none) (hp : pt = if h then (E n).2 else (E n).1)
    (hi : T.inn (h == v) (if h == v then after else here) = some k) : Two M T E ⟨pt, h, fr ++ [k], s⟩ ⟨if h == v then after else here, h == v, fr, s⟩ := by
  have e2 : T.out (!(h == v)) (if h == v then after else here) = some k := by rw [Pts.out_not]; exact hi
  constructor
  · simp only [stepC, ho, retn, List.getLast?_append, List.getLast?_singleton, Option.some_or, ha, List.dropLast_concat]
  · show stepC M T E ⟨_, !(h == v), fr, s⟩ = some ⟨pt, !h, fr ++ [k], s⟩
    simp only [stepC, e2, ha]
    subst hp
    cases h <;> cases v <;> simp [turn]

theorem bis1 {M : Sem P C S} {T : Pts P C N} {E : En N} {R : N → Bd P C N} {q : N → Prop} (hR : Right M T E R q) {t : Pl} {l : List (Itm P C N)} {c : Pl} {s : S} (hr : Rel M T E l c t) (ok : M.ok s) (hg : AllGood M q l) {l' : List (Itm P C N)} {s' : S} (hs : astep1 M R s l = some (l', s')) :
    ∃ c', Two M T E (at_ c s) (at_ c' s') ∧ Rel M T E l' c' t ∧ M.ok s' ∧ AllGood M q l' := by
  obtain ⟨pt, h, fr⟩ := c
  match l, hr, hg, hs with
  | .bd (.pr p r) :: K, ⟨e, ⟨m, k, ha, ho, hi, hl⟩, hk⟩, hg, hs =>
    cases hs
    have g0 : M.good p ∧ r.all M.good q := hg _ (List.mem_cons_self ..)
    exact ⟨(m, h, fr), two_act ha ho hi g0.1 ok, ⟨e, hl, hk⟩, M.keep _ _ g0.1 ok, .cons g0.2 hg.tail⟩
  | .bd (.cl v n r) :: K, ⟨e, ⟨m, k, ha, ho, hi, hl⟩, hk⟩, hg, hs =>
    cases hs
    have g0 : q n ∧ r.all M.good q := hg _ (List.mem_cons_self ..)
    have hq := g0.1
    have h0 : T.inn v (if v then (E n).1 else (E n).2) = none := by cases v; exact hR.last n hq; exact hR.first n hq
    have h9 : T.out v (if v then (E n).2 else (E n).1) = none := by cases v; exact hR.first n hq; exact hR.last n hq
    refine ⟨(if v then (E n).1 else (E n).2, v, fr ++ [k]), two_call ha ho h0, ⟨if v then (E n).2 else (E n).1, ?_, ?_⟩, ok, .cons ?_ (.cons trivial (.cons g0.2 hg.tail))⟩
    · cases v with
      | true => exact hR.laid n hq
      | false => exact laid_inv (hR.laid n hq)
    · unfold Pts.callAt at ha
      refine ⟨k, if h then pt else m, if h then m else pt, n, (v == h), fr, rfl, ?_, h9, rfl, ?_, e, ?_, ?_⟩
      · rw [ha]; cases h <;> cases v <;> rfl
      · show T.inn (v == (v == h)) (if v == (v == h) then (if h then m else pt) else (if h then pt else m)) = some k
        revert hi; cases h <;> cases v <;> exact id
      · show Laid M.und T (v == (v == h)) r (if v == (v == h) then (if h then m else pt) else (if h then pt else m)) e
        revert hl; cases h <;> cases v <;> exact id
      · show Rel M T E K (e, v == (v == h), fr) t
        revert hk; cases h <;> cases v <;> exact id
    · cases v with
      | true => exact hR.all n hq
      | false => exact Bd.all_inv M.und_good (hR.all n hq)
  | .bd (.ite cc d A B r) :: K, ⟨e, ⟨m, k1, k2, f1, l1, f2, l2, a1, a2, a3, a4, a5, a6, a7, a8, a9, b0, b1, b2, b3⟩, hk⟩, hg, hs =>
    cases hs
    have g0 : A.all M.good q ∧ B.all M.good q ∧ r.all M.good q := hg _ (List.mem_cons_self ..)
    refine ⟨(if M.tst cc s then f1 else f2, h, fr), gate_out a1 a2 a3 a4 a9, ?_, ok, .cons ?_ (.cons trivial (.cons g0.2.2 hg.tail))⟩
    · cases hc : M.tst cc s with
      | true => exact ⟨l1, b1, k2, l1, l2, m, a5, a7, rfl, b0, a6, e, b3, hk⟩
      | false => exact ⟨l2, b2, k2, l1, l2, m, a5, a8, rfl, b0, a6, e, b3, hk⟩
    · cases M.tst cc s
      · exact g0.2.1
      · exact g0.1
  | .bd (.lp cc d A B r) :: K, ⟨e, ⟨m, k1, k2, f1, l1, f2, l2, a1, a2, a3, a4, a5, a6, a7, a8, a9, b0, b1, b2, b3⟩, hk⟩, hg, hs =>
    have g0 : A.all M.good q ∧ B.all M.good q ∧ r.all M.good q := hg _ (List.mem_cons_self ..)
    simp only [astep1] at hs
    split at hs
    · rename_i hc
      cases hs
      exact ⟨(f1, h, fr), gate_in a1 a2 a3 (by rw [hc]; rfl) a9, ⟨l1, b1, k1, k2, pt, f1, f2, l2, m, a1, a2, a4, a5, a6, a7, a8, a9, b0, b1, b2, e, b3, hk⟩, ok, .cons g0.1 (.cons ⟨g0.1, g0.2.1⟩ (.cons g0.2.2 hg.tail))⟩
    · cases hs
  | .chk d v :: K, ⟨k, yes, no, one, a1, a2, a3, a4, a5, hk⟩, hg, hs =>
    simp only [astep1] at hs
    split at hs
    · rename_i hc
      cases hs
      exact ⟨(one, h, fr), gate_in a1 a5 a2 (by rw [hc]; exact a3) a4, hk, ok, hg.tail⟩
    · cases hs
  | .lpd cc d A B :: K, ⟨k1, k2, f, f1, f2, l2, m, a1, a2, a3, a4, a5, a6, a7, a8, a9, b1, b2, hk⟩, hg, hs =>
    have g0 : A.all M.good q ∧ B.all M.good q := hg _ (List.mem_cons_self ..)
    have g := gate_out (E := E) (M := M) (fr := fr) (s := s) a4 a5 a6 a7 a9
    simp only [astep1] at hs
    split at hs
    · rename_i hc
      cases hs
      rw [hc] at g
      exact ⟨(m, h, fr), g, hk, ok, hg.tail⟩
    · rename_i hc
      cases hs
      rw [Bool.not_eq_true] at hc
      rw [hc] at g
      exact ⟨(f2, h, fr), g, ⟨l2, b2, k1, k2, f, f1, pt, f2, m, a1, a2, a3, a4, a5, a6, a7, a8, a9, b1, b2, hk⟩, ok, .cons g0.2 (.cons g0 hg.tail)⟩
  | .lpc cc d A B :: K, ⟨k1, k2, f, f1, l1, f2, m, a1, a2, a3, a4, a5, a6, a7, a8, a9, b1, b2, hk⟩, hg, hs =>
    have g0 : A.all M.good q ∧ B.all M.good q := hg _ (List.mem_cons_self ..)
    simp only [astep1] at hs
    split at hs
    · cases hs
    · rename_i hc
      cases hs
      rw [Bool.not_eq_true] at hc
      exact ⟨(f1, h, fr), gate_in a1 a2 a3 (by rw [hc]; rfl) a8, ⟨l1, b1, k1, k2, f, f1, f2, pt, m, a1, a2, a3, a4, a5, a6, a7, a8, a9, b1, b2, hk⟩, ok, .cons g0.1 (.cons g0 hg.tail)⟩
  | .ret :: K, ⟨k, here, after, n, v, fr', e1, a1, a2, a3, a4, hk⟩, hg, hs =>
    cases hs
    have e1' : fr = fr' ++ [k] := e1
    subst e1'
    exact ⟨_, two_ret a1 a2 a3 a4, hk, ok, hg.tail⟩

theorem anorm_ne : ∀ (l : List (Itm P C N)) (K : List (Itm P C N)), anorm l ≠ .bd .nil :: K
  | [], _ => fun h => by cases h
  | .bd .nil :: r, K => anorm_ne r K
  | .bd (.pr _ _) :: _, _ => fun h => by cases h
  | .bd (.cl _ _ _) :: _, _ => fun h => by cases h
  | .bd (.ite _ _ _ _ _) :: _, _ => fun h => by cases h
  | .bd (.lp _ _ _ _ _) :: _, _ => fun h => by cases h
  | .chk _ _ :: _, _ => fun h => by cases h
  | .lpd _ _ _ _ :: _, _ => fun h => by cases h
  | .lpc _ _ _ _ :: _, _ => fun h => by cases h
  | .ret :: _, _ => fun h => by cases h

theorem bis0 {M : Sem P C S} {T : Pts P C N} {E : En N} {R : N → Bd P C N} {t : Pl} {l : List (Itm P C N)} {c : Pl} {s : S} (hr : Rel M T E l c t) (hs : astep1 M R s l = none) (hn : l ≠ []) (hb : ∀ K, l ≠ .bd .nil :: K) :
    stepC M T E (at_ c s) = none ∧ (T.out c.2.1 c.1).isSome = true := by
  obtain ⟨pt, h, fr⟩ := c
  match l, hr, hs, hn, hb with
  | [], _, _, hn, _ => exact absurd rfl hn
  | .bd .nil :: K, _, _, _, hb => exact absurd rfl (hb K)
  | .bd (.lp cc d A B r) :: K, ⟨e, ⟨m, k1, k2, f1, l1, f2, l2, a1, a2, a3, a4, a5, a6, a7, a8, a9, b0, b1, b2, b3⟩, hk⟩, hs, _, _ =>
    simp only [astep1] at hs
    split at hs
    · cases hs
    · rename_i hc
      rw [Bool.not_eq_true] at hc
      exact ⟨gate_stuck a1 a3 (by rw [hc]; rfl) a9, by rw [a3]; rfl⟩
  | .chk d v :: K, ⟨k, yes, no, one, a1, a2, a3, a4, a5, hk⟩, hs, _, _ =>
    simp only [astep1] at hs
    split at hs
    · cases hs
    · rename_i hc
      refine ⟨gate_stuck a1 a2 ?_ a4, by rw [a2]; rfl⟩
      have z : (!M.tst d s) = v := by cases hv : M.tst d s <;> cases v <;> simp_all
      rw [z]; exact a3
  | .lpd cc d A B :: K, _, hs, _, _ =>
    simp only [astep1] at hs
    split at hs <;> cases hs
  | .lpc cc d A B :: K, ⟨k1, k2, f, f1, l1, f2, m, a1, a2, a3, a4, a5, a6, a7, a8, a9, b1, b2, hk⟩, hs, _, _ =>
    simp only [astep1] at hs
    split at hs
    · rename_i hc
      exact ⟨gate_stuck a1 a3 (by rw [hc]; rfl) a8, by rw [a3]; rfl⟩
    · cases hs

/-! ### runs -/
inductive Res (S : Type) where
  | done (s : S) (n : Nat)
  | refused (n : Nat) (s : S)
  | long
def Res.up : Res S → Res S
  | .done s n => .done s (n + 1)
  | .refused n s => .refused (n + 1) s
  | .long => .long

def ares (M : Sem P C S) (R : N → Bd P C N) : Nat → List (Itm P C N) → S → Res S
  | 0, l, s => if (anorm l).isEmpty then .done s 0 else match astep1 M R s (anorm l) with
    | none => .refused 0 s
    | some _ => .long
  | k + 1, l, s => if (anorm l).isEmpty then .done s 0 else match astep1 M R s (anorm l) with
    | none => .refused 0 s
    | some (l2, s2) => (ares M R k l2 s2).up

inductive Ch (M : Sem P C S) (T : Pts P C N) (E : En N) : Nat → Cf S → Cf S → Prop where
  | nil (c : Cf S) : Ch M T E 0 c c
  | cons {n : Nat} {c c1 c2 : Cf S} : Two M T E c c1 → Ch M T E n c1 c2 → Ch M T E (n + 1) c c2
inductive Fw (M : Sem P C S) (T : Pts P C N) (E : En N) : Nat → Cf S → Cf S → Prop where
  | nil (c : Cf S) : Fw M T E 0 c c
  | cons {n : Nat} {c c1 c2 : Cf S} : stepC M T E c = some c1 → Fw M T E n c1 c2 → Fw M T E (n + 1) c c2
section
variable {M : Sem P C S} {T : Pts P C N} {E : En N} {R : N → Bd P C N} {q : N → Prop}
theorem Ch.fw {n : Nat} {c c' : Cf S} (h : Ch M T E n c c') : Fw M T E n c c' := by
  induction h with
  | nil c => exact .nil c
  | cons a _ ih => exact .cons a.1 ih
theorem Fw.app {n : Nat} {c c1 : Cf S} (h : Fw M T E n c c1) : ∀ {m : Nat} {c2 : Cf S}, Fw M T E m c1 c2 → Fw M T E (n + m) c c2 := by
  induction h with
  | nil c => intro m c2 h; rw [Nat.zero_add]; exact h
  | cons a _ ih => intro m c2 h; rw [Nat.add_right_comm]; exact .cons a (ih h)
theorem Fw.one {c c' : Cf S} (h : stepC M T E c = some c') : Fw M T E 1 c c' := .cons h (.nil c')
theorem Ch.back {n : Nat} {c c' : Cf S} (h : Ch M T E n c c') : Fw M T E n c'.flip c.flip := by
  induction h with
  | nil c => exact .nil _
  | cons a _ ih => exact ih.app (Fw.one a.2)

/-- what a run of the items means for the machine -/
def Says (M : Sem P C S) (T : Pts P C N) (E : En N) (k : Nat) (c t : Pl) (s : S) : Res S → Prop
  | .done s' n => n ≤ k ∧ Ch M T E n (at_ c s) (at_ t s') ∧ M.ok s'
  | .refused n s' => n ≤ k ∧ ∃ c', Ch M T E n (at_ c s) c' ∧ c'.st = s' ∧ stepC M T E c' = none ∧ (T.out c'.hd c'.pt).isSome = true
  | .long => ∃ c', Fw M T E (k + 1) (at_ c s) c'
theorem Says.up {k : Nat} {c c1 t : Pl} {s s1 : S} {r : Res S} (h2 : Two M T E (at_ c s) (at_ c1 s1)) (h : Says M T E k c1 t s1 r) : Says M T E (k + 1) c t s r.up := by
  cases r with
  | done s' n => exact ⟨Nat.succ_le_succ h.1, .cons h2 h.2.1, h.2.2⟩
  | refused n s' =>
    obtain ⟨h0, c', h1, h3⟩ := h
    exact ⟨Nat.succ_le_succ h0, c', .cons h2 h1, h3⟩
  | long =>
    obtain ⟨c', h1⟩ := h
    exact ⟨c', .cons h2.1 h1⟩
theorem says (hR : Right M T E R q) {t : Pl} : ∀ (k : Nat) {l : List (Itm P C N)} {c : Pl} {s : S}, Rel M T E l c t → M.ok s → AllGood M q l → Says M T E k c t s (ares M R k l s) := by
  intro k
  induction k with
  | zero =>
    intro l c s hr ok hg
    have hr := rel_norm hr
    have hg := allGood_norm hg
    have hb := anorm_ne l
    simp only [ares]
    split
    · rename_i he
      rw [List.isEmpty_iff] at he
      rw [he] at hr
      cases hr
      exact ⟨Nat.le_refl _, .nil _, ok⟩
    · rename_i he
      have hn : anorm l ≠ [] := fun z => he (by rw [z]; rfl)
      split
      · rename_i hs
        have z := bis0 hr hs hn hb
        exact ⟨Nat.le_refl _, _, .nil _, rfl, z.1, z.2⟩
      · rename_i x hs
        obtain ⟨c', h2, _⟩ := bis1 hR hr ok hg hs
        exact ⟨_, Fw.one h2.1⟩
  | succ k ih =>
    intro l c s hr ok hg
    have hr := rel_norm hr
    have hg := allGood_norm hg
    have hb := anorm_ne l
    simp only [ares]
    split
    · rename_i he
      rw [List.isEmpty_iff] at he
      rw [he] at hr
      cases hr
      exact ⟨Nat.zero_le _, .nil _, ok⟩
    · rename_i he
      have hn : anorm l ≠ [] := fun z => he (by rw [z]; rfl)
      split
      · rename_i hs
        have z := bis0 hr hs hn hb
        exact ⟨Nat.zero_le _, _, .nil _, rfl, z.1, z.2⟩
      · rename_i l2 s2 hs
        obtain ⟨c', h2, hr2, ok2, hg2⟩ := bis1 hR hr ok hg hs
        exact Says.up h2 (ih hr2 ok2 hg2)
end

/-- other procedures elsewhere do not matter -/
theorem ares_other {M : Sem P C S} {R R' : N → Bd P C N} {q : N → Prop} (hq : ∀ n, q n → R n = R' n) (ha : ∀ n, q n → (R n).all M.good q) : ∀ (k : Nat) {l : List (Itm P C N)} {s : S}, AllGood M q l → ares M R k l s = ares M R' k l s := by
  have one : ∀ {l : List (Itm P C N)} {s : S}, AllGood M q l → astep1 M R s l = astep1 M R' s l ∧ ∀ l2 s2, astep1 M R s l = some (l2, s2) → AllGood M q l2 := by
    intro l s hg
    match l, hg with
    | [], _ => exact ⟨rfl, fun _ _ h => by cases h⟩
    | .bd .nil :: _, _ => exact ⟨rfl, fun _ _ h => by cases h⟩
    | .bd (.pr p r) :: K, hg =>
      have g0 : M.good p ∧ r.all M.good q := hg _ (List.mem_cons_self ..)
      exact ⟨rfl, fun _ _ h => by cases h; exact .cons g0.2 hg.tail⟩
    | .bd (.cl v n r) :: K, hg =>
      have g0 : q n ∧ r.all M.good q := hg _ (List.mem_cons_self ..)
      refine ⟨by simp only [astep1, hq n g0.1], fun _ _ h => ?_⟩
      cases h
      refine .cons ?_ (.cons trivial (.cons g0.2 hg.tail))
      cases v with
      | true => exact ha n g0.1
      | false => exact Bd.all_inv M.und_good (ha n g0.1)
    | .bd (.ite cc d A B r) :: K, hg =>
      have g0 : A.all M.good q ∧ B.all M.good q ∧ r.all M.good q := hg _ (List.mem_cons_self ..)
      refine ⟨rfl, fun _ _ h => ?_⟩
      cases h
      refine .cons ?_ (.cons trivial (.cons g0.2.2 hg.tail))
      cases M.tst cc s
      · exact g0.2.1
      · exact g0.1
    | .bd (.lp cc d A B r) :: K, hg =>
      have g0 : A.all M.good q ∧ B.all M.good q ∧ r.all M.good q := hg _ (List.mem_cons_self ..)
      refine ⟨rfl, fun _ _ h => ?_⟩
      simp only [astep1] at h
      split at h
      · cases h; exact .cons g0.1 (.cons ⟨g0.1, g0.2.1⟩ (.cons g0.2.2 hg.tail))
      · cases h
    | .chk d v :: K, hg =>
      refine ⟨rfl, fun _ _ h => ?_⟩
      simp only [astep1] at h
      split at h
      · cases h; exact hg.tail
      · cases h
    | .lpd cc d A B :: K, hg =>
      have g0 : A.all M.good q ∧ B.all M.good q := hg _ (List.mem_cons_self ..)
      refine ⟨rfl, fun _ _ h => ?_⟩
      simp only [astep1] at h
      split at h
      · cases h; exact hg.tail
      · cases h; exact .cons g0.2 (.cons g0 hg.tail)
    | .lpc cc d A B :: K, hg =>
      have g0 : A.all M.good q ∧ B.all M.good q := hg _ (List.mem_cons_self ..)
      refine ⟨rfl, fun _ _ h => ?_⟩
      simp only [astep1] at h
      split at h
      · cases h
      · cases h; exact .cons g0.1 (.cons g0 hg.tail)
    | .ret :: K, hg => exact ⟨rfl, fun _ _ h => by cases h; exact hg.tail⟩
  intro k
  induction k with
  | zero =>
    intro l s hg
    have z := one (s := s) (allGood_norm hg)
    simp only [ares, z.1]
  | succ k ih =>
    intro l s hg
    have z := one (s := s) (allGood_norm hg)
    simp only [ares, ← z.1]
    split
    · rfl
    · split
      · rfl
      · rename_i l2 s2 hs
        rw [ih (z.2 l2 s2 hs)]

/-! ### the answer -/
def runC (M : Sem P C S) (T : Pts P C N) (E : En N) : Nat → Cf S → Cf S × Nat
  | 0, c => (c, 0)
  | k + 1, c => match stepC M T E c with
    | none => (c, 0)
    | some c' => ((runC M T E k c').1, (runC M T E k c').2 + 1)
def stopC (E : En N) (mn : N) (c : Cf S) : Bool := c.fr.isEmpty && (c.pt == (if c.hd then (E mn).2 else (E mn).1))
def ansC (M : Sem P C S) (T : Pts P C N) (E : En N) (mn : N) (most : Nat) (s : S) : Res S :=
  let r := runC M T E most ⟨(E mn).1, true, [], s⟩
  if stopC E mn r.1 then .done r.1.st r.2 else if (stepC M T E r.1).isNone then .refused r.2 r.1.st else .long
section
variable {M : Sem P C S} {T : Pts P C N} {E : En N} {R : N → Bd P C N} {q : N → Prop} {mn : N}
theorem runC_end {n : Nat} {c c' : Cf S} (h : Fw M T E n c c') (he : stepC M T E c' = none) : ∀ {k : Nat}, n ≤ k → runC M T E k c = (c', n) := by
  induction h with
  | nil c =>
    intro k _
    cases k with
    | zero => rfl
    | succ k => simp only [runC, he]
  | cons a _ ih =>
    intro k hk
    cases k with
    | zero => omega
    | succ k => simp only [runC, a, ih he (Nat.le_of_succ_le_succ hk)]
theorem runC_more : ∀ {k : Nat} {c c' : Cf S}, Fw M T E (k + 1) c c' → ∃ c2, runC M T E k c = (c2, k) ∧ (stepC M T E c2).isSome = true := by
  intro k
  induction k with
  | zero =>
    intro c c' h
    cases h with
    | cons a b => exact ⟨c, rfl, by rw [a]; rfl⟩
  | succ k ih =>
    intro c c' h
    cases h with
    | cons a b =>
      obtain ⟨c2, h1, h2⟩ := ih b
      exact ⟨c2, by simp only [runC, a, h1], h2⟩
theorem stop_out (hf : T.ar (E mn).1 = none) (hl : T.lv (E mn).2 = none) {c : Cf S} (h : stopC E mn c = true) : T.out c.hd c.pt = none ∧ stepC M T E c = none := by
  obtain ⟨pt, hd, fr, s⟩ := c
  simp only [stopC, Bool.and_eq_true, List.isEmpty_iff, beq_iff_eq] at h
  have h1 : fr = [] := h.1
  have h2 : pt = if hd then (E mn).2 else (E mn).1 := h.2
  subst h1
  subst h2
  have z : T.out hd (if hd then (E mn).2 else (E mn).1) = none := by
    cases hd
    · exact hf
    · exact hl
  refine ⟨z, ?_⟩
  simp only [stepC, z, retn, List.getLast?_nil]
theorem ans_done (hf : T.ar (E mn).1 = none) (hl : T.lv (E mn).2 = none) {n k : Nat} {s s' : S} (h : Fw M T E n ⟨(E mn).1, true, [], s⟩ ⟨(E mn).2, true, [], s'⟩) (hk : n ≤ k) : ansC M T E mn k s = .done s' n := by
  have hs : stopC E mn (⟨(E mn).2, true, [], s'⟩ : Cf S) = true := by simp [stopC]
  have z := runC_end h (stop_out hf hl hs).2 hk
  simp only [ansC, z, hs, if_true]
theorem ans_refused (hf : T.ar (E mn).1 = none) (hl : T.lv (E mn).2 = none) {n k : Nat} {s : S} {c' : Cf S} (h : Fw M T E n ⟨(E mn).1, true, [], s⟩ c') (hk : n ≤ k) (he : stepC M T E c' = none) (ho : (T.out c'.hd c'.pt).isSome = true) :
    ansC M T E mn k s = .refused n c'.st := by
  have z := runC_end h he hk
  have hs : stopC E mn c' = false := by
    cases e : stopC E mn c' with
    | false => rfl
    | true =>
      rw [(stop_out (M := M) hf hl e).1] at ho
      cases ho
  simp only [ansC, z, hs, he, Option.isNone_none, if_true]
  rfl
theorem ans_long (hf : T.ar (E mn).1 = none) (hl : T.lv (E mn).2 = none) {k : Nat} {s : S} {c' : Cf S} (h : Fw M T E (k + 1) ⟨(E mn).1, true, [], s⟩ c') : ansC M T E mn k s = .long := by
  obtain ⟨c2, h1, h2⟩ := runC_more h
  have hs : stopC E mn c2 = false := by
    cases e : stopC E mn c2 with
    | false => rfl
    | true =>
      rw [(stop_out (M := M) hf hl e).2] at h2
      cases h2
  have hn : (stepC M T E c2).isNone = false := by
    cases e : stepC M T E c2 with
    | none => rw [e] at h2; cases h2
    | some x => rfl
  simp only [ansC, h1, hs, hn]
  rfl
/-- the machine's answer is the items' -/
theorem ans_eq (hR : Right M T E R q) (hm : q mn) {s : S} (ok : M.ok s) (k : Nat) : ansC M T E mn k s = ares M R k [.bd (R mn)] s := by
  have h := says hR (t := ((E mn).2, true, [])) k (l := [.bd (R mn)]) (c := ((E mn).1, true, [])) (s := s) ⟨(E mn).2, hR.laid mn hm, rfl⟩ ok (.cons (hR.all mn hm) fun _ hx => by cases hx)
  have hf := hR.first mn hm
  have hl := hR.last mn hm
  revert h
  cases ares M R k [.bd (R mn)] s with
  | done s' n => intro h; exact ans_done hf hl h.2.1.fw h.1
  | refused n s' =>
    intro h
    obtain ⟨h0, c', h1, h2, h3, h4⟩ := h
    rw [← h2]
    exact ans_refused hf hl h1.fw h0 h3 h4
  | long =>
    intro h
    obtain ⟨c', h1⟩ := h
    exact ans_long hf hl h1

/-! ### a call, an uncall, and both -/
def way (M : Sem P C S) (v : Bool) (b : Bd P C N) : Bd P C N := if v then b else b.inv M.und
theorem way_laid (hR : Right M T E R q) {z : N} (hz : q z) (v : Bool) : Laid M.und T v (way M v (R z)) (if v then (E z).1 else (E z).2) (if v then (E z).2 else (E z).1) := by
  cases v with
  | true => exact hR.laid z hz
  | false => exact laid_inv (hR.laid z hz)
theorem way_says (hR : Right M T E R q) {z : N} (hz : q z) (v : Bool) (fr : List Nat) {s : S} (ok : M.ok s) (k : Nat) :
    Says M T E k (if v then (E z).1 else (E z).2, v, fr) (if v then (E z).2 else (E z).1, v, fr) s (ares M R k [.bd (way M v (R z))] s) := by
  refine says hR k ⟨_, way_laid hR hz v, rfl⟩ ok (.cons ?_ fun _ hx => by cases hx)
  cases v with
  | true => exact hR.all z hz
  | false => exact Bd.all_inv M.und_good (hR.all z hz)
def Res.once : Res S → Res S
  | .done s n => .done s (n + 2)
  | .refused n s => .refused (n + 1) s
  | .long => .long
def Res.both (s0 : S) : Res S → Res S
  | .done _ n => .done s0 (2 * n + 4)
  | .refused n s => .refused (n + 1) s
  | .long => .long
theorem once_ans (hR : Right M T E R q) (hm : q mn) {z : N} (hz : q z) {v : Bool} (hb : R mn = .cl v z .nil) {s : S} (ok : M.ok s) {k k' : Nat} (hk : k + 2 ≤ k') {r : Res S} (hr : ares M R k [.bd (way M v (R z))] s = r) (hn : r ≠ .long) :
    ansC M T E mn k' s = r.once := by
  have hl0 := hR.laid mn hm
  rw [hb] at hl0
  obtain ⟨m, i, a1, a2, a3, e⟩ := hl0
  have e' : m = (E mn).2 := e
  subst e'
  have h := way_says hR hz v [i] ok k
  rw [hr] at h
  have hf := hR.first mn hm
  have hl := hR.last mn hm
  have h0 : T.inn v (if v then (E z).1 else (E z).2) = none := by cases v; exact hR.last z hz; exact hR.first z hz
  have h9 : T.out v (if v then (E z).2 else (E z).1) = none := by cases v; exact hR.first z hz; exact hR.last z hz
  have s1 : Two M T E ⟨(E mn).1, true, [], s⟩ ⟨if v then (E z).1 else (E z).2, v, [] ++ [i], s⟩ := two_call a1 a2 h0
  have a1' : T.pcs[i]? = some (.call (E mn).1 (E mn).2 z v) := by simpa [Pts.callAt] using a1
  cases r with
  | done s' n =>
    have s2 : Two M T E ⟨if v then (E z).2 else (E z).1, v, [] ++ [i], s'⟩ ⟨if v == v then (E mn).2 else (E mn).1, v == v, [], s'⟩ := two_ret a1' h9 rfl (by rw [beq_self_eq_true]; exact a3)
    rw [beq_self_eq_true, if_pos rfl] at s2
    exact ans_done hf hl ((Fw.cons s1.1 h.2.1.fw).app (Fw.one s2.1)) (by have := h.1; omega)
  | refused n s' =>
    obtain ⟨h0', c', h1, h2, h3, h4⟩ := h
    show ansC M T E mn k' s = .refused (n + 1) s'
    rw [← h2]
    exact ans_refused hf hl (Fw.cons s1.1 h1.fw) (by omega) h3 h4
  | long => exact absurd rfl hn
theorem both_ans (hR : Right M T E R q) (hm : q mn) {z : N} (hz : q z) {v : Bool} (hb : R mn = .cl v z (.cl (!v) z .nil)) {s : S} (ok : M.ok s) {k k' : Nat} (hk : 2 * k + 4 ≤ k') {r : Res S} (hr : ares M R k [.bd (way M v (R z))] s = r) (hn : r ≠ .long) :
    ansC M T E mn k' s = r.both s := by
  have hl0 := hR.laid mn hm
  rw [hb] at hl0
  obtain ⟨m, i, a1, a2, a3, m2, j, b1, b2, b3, e⟩ := hl0
  have e' : m2 = (E mn).2 := e
  subst e'
  have h := way_says hR hz v [i] ok k
  have g := way_says hR hz v [j] ok k
  rw [hr] at h g
  have hf := hR.first mn hm
  have hl := hR.last mn hm
  have h0 : T.inn v (if v then (E z).1 else (E z).2) = none := by cases v; exact hR.last z hz; exact hR.first z hz
  have h9 : T.out v (if v then (E z).2 else (E z).1) = none := by cases v; exact hR.first z hz; exact hR.last z hz
  have s1 : Two M T E ⟨(E mn).1, true, [], s⟩ ⟨if v then (E z).1 else (E z).2, v, [] ++ [i], s⟩ := two_call a1 a2 h0
  have a1' : T.pcs[i]? = some (.call (E mn).1 m z v) := by simpa [Pts.callAt] using a1
  have b1' : T.pcs[j]? = some (.call m (E mn).2 z (!v)) := by simpa [Pts.callAt] using b1
  cases r with
  | done s' n =>
    have s2 : Two M T E ⟨if v then (E z).2 else (E z).1, v, [] ++ [i], s'⟩ ⟨if v == v then m else (E mn).1, v == v, [], s'⟩ := two_ret a1' h9 rfl (by rw [beq_self_eq_true]; exact a3)
    rw [beq_self_eq_true, if_pos rfl] at s2
    have h0' : T.inn (!v) (if !v then (E z).1 else (E z).2) = none := by cases v; exact hR.first z hz; exact hR.last z hz
    have h9' : T.out (!v) (if !v then (E z).2 else (E z).1) = none := by cases v; exact hR.last z hz; exact hR.first z hz
    have s3 : Two M T E ⟨m, true, [], s'⟩ ⟨if !v then (E z).1 else (E z).2, !v, [] ++ [j], s'⟩ := two_call b1 b2 h0'
    have f4 : Fw M T E n ⟨if v then (E z).2 else (E z).1, !v, [j], s'⟩ ⟨if v then (E z).1 else (E z).2, !v, [j], s⟩ := g.2.1.back
    have s5 : Two M T E ⟨if !v then (E z).2 else (E z).1, !v, [] ++ [j], s⟩ ⟨if (!v) == (!v) then (E mn).2 else m, (!v) == (!v), [], s⟩ := two_ret b1' h9' rfl (by rw [beq_self_eq_true]; exact b3)
    rw [beq_self_eq_true, if_pos rfl] at s5
    have q3 : (if !v then (E z).1 else (E z).2) = (if v then (E z).2 else (E z).1) := by cases v <;> rfl
    have q5 : (if !v then (E z).2 else (E z).1) = (if v then (E z).1 else (E z).2) := by cases v <;> rfl
    rw [q3] at s3
    rw [q5] at s5
    have f : Fw M T E (n + 1 + 1 + 1 + n + 1) ⟨(E mn).1, true, [], s⟩ ⟨(E mn).2, true, [], s⟩ := ((((Fw.cons s1.1 h.2.1.fw).app (Fw.one s2.1)).app (Fw.one s3.1)).app f4).app (Fw.one s5.1)
    have en : n + 1 + 1 + 1 + n + 1 = 2 * n + 4 := by omega
    rw [en] at f
    exact ans_done hf hl f (by have := h.1; omega)
  | refused n s' =>
    obtain ⟨h0', c', h1, h2, h3, h4⟩ := h
    show ansC M T E mn k' s = .refused (n + 1) s'
    rw [← h2]
    exact ans_refused hf hl (Fw.cons s1.1 h1.fw) (by omega) h3 h4
  | long => exact absurd rfl hn
end
end Bk
end -- BkM
section -- BkL
set_option Elab.async false
set_option linter.all false
set_option autoImplicit false
/-! BkL: laying a body: the points' invariant. Core Lean alone (over BkM). -/
namespace Bk
variable {P C N : Type}

def put (f : Nat → Option Nat) (xs : List Nat) (k : Nat) : Nat → Option Nat := fun x => if x ∈ xs then some k else f x
theorem put_none {f : Nat → Option Nat} {xs : List Nat} {k x : Nat} (h : x ∉ xs) (e : f x = none) : put f xs k x = none := by unfold put; rw [if_neg h]; exact e
theorem put_in {f : Nat → Option Nat} {xs : List Nat} {k x : Nat} (h : x ∈ xs) : put f xs k x = some k := by unfold put; rw [if_pos h]
theorem put_out {f : Nat → Option Nat} {xs : List Nat} {k x : Nat} (h : x ∉ xs) : put f xs k x = f x := by unfold put; rw [if_neg h]
def Pts.add (T : Pts P C N) (p : Pc P C N) (S D : List Nat) : Pts P C N := ⟨T.cnt, T.pcs ++ [p], put T.lv S T.pcs.length, put T.ar D T.pcs.length⟩
def Pts.bump (T : Pts P C N) (n : Nat) : Pts P C N := { T with cnt := T.cnt + n }
def Bd.isNil : Bd P C N → Bool
  | .nil => true
  | _ => false
theorem Bd.isNil_iff {b : Bd P C N} : b.isNil = true ↔ b = .nil := by cases b <;> simp [Bd.isNil]

structure Ext (T T' : Pts P C N) : Prop where
  pcs : ∀ (k : Nat) (p : Pc P C N), T.pcs[k]? = some p → T'.pcs[k]? = some p
  lv : ∀ x k, T.lv x = some k → T'.lv x = some k
  ar : ∀ x k, T.ar x = some k → T'.ar x = some k
theorem Ext.refl (T : Pts P C N) : Ext T T := ⟨fun _ _ h => h, fun _ _ h => h, fun _ _ h => h⟩
theorem Ext.trans {T T1 T2 : Pts P C N} (a : Ext T T1) (b : Ext T1 T2) : Ext T T2 := ⟨fun k p h => b.pcs k p (a.pcs k p h), fun k p h => b.lv k p (a.lv k p h), fun k p h => b.ar k p (a.ar k p h)⟩
theorem Ext.bump {T T' : Pts P C N} (n : Nat) : Ext T T' ↔ Ext T (T'.bump n) := ⟨fun h => ⟨h.pcs, h.lv, h.ar⟩, fun h => ⟨h.pcs, h.lv, h.ar⟩⟩
theorem Ext.add {T : Pts P C N} {p : Pc P C N} {S D : List Nat} (hS : ∀ x ∈ S, T.lv x = none) (hD : ∀ x ∈ D, T.ar x = none) : Ext T (T.add p S D) := by
  refine ⟨fun k p' h => ?_, fun x k h => ?_, fun x k h => ?_⟩
  · show (T.pcs ++ [p])[k]? = some p'
    rw [List.getElem?_append_left (by have := (List.getElem?_eq_some_iff.mp h).1; exact this)]
    exact h
  · show put T.lv S T.pcs.length x = some k
    rw [put_out (fun z => by rw [hS x z] at h; cases h)]
    exact h
  · show put T.ar D T.pcs.length x = some k
    rw [put_out (fun z => by rw [hD x z] at h; cases h)]
    exact h
theorem Ext.out {T T' : Pts P C N} (e : Ext T T') {h : Bool} {x k : Nat} (q : T.out h x = some k) : T'.out h x = some k := by cases h; exact e.ar x k q; exact e.lv x k q
theorem Ext.inn {T T' : Pts P C N} (e : Ext T T') {h : Bool} {x k : Nat} (q : T.inn h x = some k) : T'.inn h x = some k := by cases h; exact e.lv x k q; exact e.ar x k q
theorem laid_ext {u : P → P} {T T' : Pts P C N} (e : Ext T T') {h : Bool} : ∀ {b : Bd P C N} {f l : Nat}, Laid u T h b f l → Laid u T' h b f l
  | .nil, _, _, q => q
  | .pr p r, _, _, ⟨m, k, a, b, c, d⟩ => by
    refine ⟨m, k, ?_, e.out b, e.inn c, laid_ext e d⟩
    cases h with
    | true => rw [actAt_t] at a ⊢; exact e.pcs _ _ a
    | false =>
      rw [actAt_f] at a ⊢
      obtain ⟨p0, h1, h2⟩ := a
      exact ⟨p0, h1, e.pcs _ _ h2⟩
  | .cl s n r, _, _, ⟨m, k, a, b, c, d⟩ => ⟨m, k, e.pcs _ _ a, e.out b, e.inn c, laid_ext e d⟩
  | .ite c d A B r, f, l, ⟨m, k1, k2, f1, l1, f2, l2, a1, a2, a3, a4, a5, a6, a7, a8, a9, b0, b1, b2, b3⟩ =>
    ⟨m, k1, k2, f1, l1, f2, l2, e.pcs _ _ a1, e.out a2, e.inn a3, e.inn a4, e.pcs _ _ a5, e.inn a6, e.out a7, e.out a8, a9, b0, laid_ext e b1, laid_ext e b2, laid_ext e b3⟩
  | .lp c d A B r, f, l, ⟨m, k1, k2, f1, l1, f2, l2, a1, a2, a3, a4, a5, a6, a7, a8, a9, b0, b1, b2, b3⟩ =>
    ⟨m, k1, k2, f1, l1, f2, l2, e.pcs _ _ a1, e.inn a2, e.out a3, e.out a4, e.pcs _ _ a5, e.out a6, e.inn a7, e.inn a8, a9, b0, laid_ext e b1, laid_ext e b2, laid_ext e b3⟩

abbrev Todo (P C N : Type) := Bd P C N × Nat × Nat
/-- T0 the points at the start; T the points now; f0, l0 the ends of the body that is laid -/
structure LB (T0 : Pts P C N) (f0 l0 : Nat) (T : Pts P C N) : Prop where
  ext : Ext T0 T
  cnt : T0.cnt ≤ T.cnt
  lvb : ∀ x, T.cnt ≤ x → T.lv x = none
  arb : ∀ x, T.cnt ≤ x → T.ar x = none
  lvo : ∀ x, x < T0.cnt → T.lv x = T0.lv x
  aro : ∀ x, x < T0.cnt → T.ar x = T0.ar x
  f0r : T.ar f0 = none ∧ T0.cnt ≤ f0 ∧ f0 < T.cnt
  l0r : T.lv l0 = none ∧ T0.cnt ≤ l0 ∧ l0 < T.cnt
/-- the invariant: b0 the body; what is still to be laid -/
structure LI (u : P → P) (T0 : Pts P C N) (b0 : Bd P C N) (f0 l0 : Nat) (T : Pts P C N) (todo : List (Todo P C N)) : Prop extends LB T0 f0 l0 T where
  fresh : ∀ e ∈ todo, e.1 ≠ .nil → (T0.cnt ≤ e.2.1 ∧ e.2.1 < T.cnt ∧ T.lv e.2.1 = none ∧ e.2.1 ≠ l0) ∧ (T0.cnt ≤ e.2.2 ∧ e.2.2 < T.cnt ∧ T.ar e.2.2 = none ∧ e.2.2 ≠ f0)
  nil_ : ∀ e ∈ todo, e.1 = .nil → e.2.1 = e.2.2
  apart : todo.Pairwise fun e e' => e.1 ≠ .nil → e'.1 ≠ .nil → e.2.1 ≠ e'.2.1 ∧ e.2.2 ≠ e'.2.2
  goal : ∀ T', Ext T T' → (∀ e ∈ todo, Laid u T' true e.1 e.2.1 e.2.2) → Laid u T' true b0 f0 l0

/-- the ends of a body, made at the count -/
def endOf (b : Bd P C N) (n : Nat) : Nat := if b.isNil then n else n + 1
def endN (b : Bd P C N) : Nat := if b.isNil then 1 else 2
/-- points whose maps hold below the count -/
structure Below (T : Pts P C N) : Prop where
  lvb : ∀ x, T.cnt ≤ x → T.lv x = none
  arb : ∀ x, T.cnt ≤ x → T.ar x = none

theorem endOf_nil {b : Bd P C N} {n : Nat} (h : b = .nil) : endOf b n = n ∧ endN b = 1 := by subst h; exact ⟨rfl, rfl⟩
theorem endOf_not {b : Bd P C N} {n : Nat} (h : b ≠ .nil) : endOf b n = n + 1 ∧ endN b = 2 := by
  have hn : b.isNil = false := by cases e : b.isNil with
    | false => rfl
    | true => exact absurd (Bd.isNil_iff.mp e) h
  unfold endOf endN
  rw [hn]
  exact ⟨rfl, rfl⟩
theorem endOf_le (b : Bd P C N) (n : Nat) : n ≤ endOf b n ∧ endOf b n < n + endN b ∧ 1 ≤ endN b ∧ endN b ≤ 2 := by unfold endOf endN; split <;> omega
theorem LI.start {u : P → P} {T0 : Pts P C N} (hb : Below T0) (b : Bd P C N) : LI u T0 b T0.cnt (endOf b T0.cnt) (T0.bump (endN b)) [(b, T0.cnt, endOf b T0.cnt)] := by
  have hc : (T0.bump (endN b)).cnt = T0.cnt + endN b := rfl
  have he := endOf_le b T0.cnt
  refine ⟨⟨(Ext.bump _).mp (Ext.refl _), by omega, fun x h => hb.lvb x (by omega), fun x h => hb.arb x (by omega), fun x h => rfl, fun x h => rfl, ⟨hb.arb _ (Nat.le_refl _), Nat.le_refl _, by omega⟩, ⟨hb.lvb _ he.1, he.1, he.2.1⟩⟩,
    ?_, ?_, List.pairwise_singleton _ _, fun T' _ h => h _ (List.mem_singleton_self _)⟩
  · intro e hm hn
    rw [List.mem_singleton] at hm
    subst hm
    have h2 := endOf_not (n := T0.cnt) hn
    dsimp only at h2
    refine ⟨⟨Nat.le_refl _, ?_, hb.lvb _ (Nat.le_refl _), ?_⟩, ⟨?_, ?_, hb.arb _ ?_, ?_⟩⟩ <;> (first | omega | (dsimp only; omega))
  · intro e hm hn
    rw [List.mem_singleton] at hm
    subst hm
    exact (endOf_nil hn).1.symm

/-- behind a statement: the next point -/
def nextOf (r : Bd P C N) (l n : Nat) : Nat := if r.isNil then l else n
def nextN (r : Bd P C N) : Nat := if r.isNil then 0 else 1

section
variable {u : P → P} {T0 T : Pts P C N} {b0 r : Bd P C N} {f0 l0 f l : Nat} {todo : List (Todo P C N)} {b : Bd P C N}
theorem LB.bump {n : Nat} (I : LB T0 f0 l0 T) : LB T0 f0 l0 (T.bump n) := by
  have hc : (T.bump n).cnt = T.cnt + n := rfl
  have c0 := I.cnt
  obtain ⟨a1, a2, a3⟩ := I.f0r
  obtain ⟨b1, b2, b3⟩ := I.l0r
  exact ⟨(Ext.bump n).mp I.ext, by omega, fun x h => I.lvb x (by omega), fun x h => I.arb x (by omega), I.lvo, I.aro, ⟨a1, a2, by omega⟩, ⟨b1, b2, by omega⟩⟩
/-- a piece is added, from source points S to target points D -/
theorem LB.add {p : Pc P C N} {S D : List Nat} (I : LB T0 f0 l0 T)
    (hS : ∀ x ∈ S, T0.cnt ≤ x ∧ x < T.cnt ∧ T.lv x = none ∧ x ≠ l0) (hD : ∀ x ∈ D, T0.cnt ≤ x ∧ x < T.cnt ∧ T.ar x = none ∧ x ≠ f0) : LB T0 f0 l0 (T.add p S D) := by
  have hc : (T.add p S D).cnt = T.cnt := rfl
  have c0 := I.cnt
  have ex : Ext T (T.add p S D) := Ext.add (fun x h => (hS x h).2.2.1) (fun x h => (hD x h).2.2.1)
  refine ⟨I.ext.trans ex, by omega, fun x h => put_none (fun z => by have := (hS x z).2.1; omega) (I.lvb x (by omega)), fun x h => put_none (fun z => by have := (hD x z).2.1; omega) (I.arb x (by omega)),
    fun x h => (put_out (fun z => by have := (hS x z).1; omega)).trans (I.lvo x h), fun x h => (put_out (fun z => by have := (hD x z).1; omega)).trans (I.aro x h), ?_, ?_⟩
  · obtain ⟨h1, h2, h3⟩ := I.f0r
    exact ⟨put_none (fun z => (hD _ z).2.2.2 rfl) h1, h2, by omega⟩
  · obtain ⟨h1, h2, h3⟩ := I.l0r
    exact ⟨put_none (fun z => (hS _ z).2.2.2 rfl) h1, h2, by omega⟩

theorem next_facts (I : LI u T0 b0 f0 l0 T ((b, f, l) :: todo)) (hb : b ≠ .nil) (r : Bd P C N) :
    T0.cnt ≤ nextOf r l T.cnt ∧ nextOf r l T.cnt < T.cnt + nextN r ∧ T.ar (nextOf r l T.cnt) = none ∧ nextOf r l T.cnt ≠ f0 ∧
    (r ≠ .nil → T.lv (nextOf r l T.cnt) = none ∧ nextOf r l T.cnt ≠ l0 ∧ nextOf r l T.cnt ≠ f ∧ nextOf r l T.cnt ≠ l ∧ nextOf r l T.cnt = T.cnt ∧ nextN r = 1) ∧ (r = .nil → nextOf r l T.cnt = l ∧ nextN r = 0) := by
  obtain ⟨⟨a1, a2, a3, a4⟩, b1, b2, b3, b4⟩ := I.fresh _ (List.mem_cons_self ..) hb
  have c0 := I.cnt
  have c1 := I.f0r
  have c2 := I.l0r
  dsimp only at a1 a2 a3 a4 b1 b2 b3 b4
  cases e : r.isNil with
  | true =>
    have h1 : nextOf r l T.cnt = l := by unfold nextOf; rw [e]; rfl
    have h2 : nextN r = 0 := by unfold nextN; rw [e]; rfl
    rw [h1, h2]
    exact ⟨b1, b2, b3, b4, fun z => absurd (Bd.isNil_iff.mp e) z, fun _ => ⟨rfl, rfl⟩⟩
  | false =>
    have h1 : nextOf r l T.cnt = T.cnt := by unfold nextOf; rw [e]; rfl
    have h2 : nextN r = 1 := by unfold nextN; rw [e]; rfl
    rw [h1, h2]
    refine ⟨c0, by omega, I.arb _ (Nat.le_refl _), by omega, fun _ => ⟨I.lvb _ (Nat.le_refl _), by omega, by omega, by omega, rfl, rfl⟩, fun z => ?_⟩
    rw [Bd.isNil_iff.mpr z] at e
    cases e

/-- a simple statement -/
theorem LI.simple {p : Pc P C N} (I : LI u T0 b0 f0 l0 T ((b, f, l) :: todo)) (hb : b ≠ .nil)
    (hl : ∀ T' : Pts P C N, T'.pcs[T.pcs.length]? = some p → T'.lv f = some T.pcs.length → T'.ar (nextOf r l T.cnt) = some T.pcs.length → Laid u T' true r (nextOf r l T.cnt) l → Laid u T' true b f l) :
    LI u T0 b0 f0 l0 ((T.bump (nextN r)).add p [f] [nextOf r l T.cnt]) ((r, nextOf r l T.cnt, l) :: todo) := by
  obtain ⟨⟨a1, a2, a3, a4⟩, b1, b2, b3, b4⟩ := I.fresh _ (List.mem_cons_self ..) hb
  obtain ⟨n1, n2, n3, n4, n5, n6⟩ := next_facts I hb r
  have ap := List.pairwise_cons.mp I.apart
  have fr : ∀ e ∈ todo, e.1 ≠ .nil → (T0.cnt ≤ e.2.1 ∧ e.2.1 < T.cnt ∧ T.lv e.2.1 = none ∧ e.2.1 ≠ l0) ∧ (T0.cnt ≤ e.2.2 ∧ e.2.2 < T.cnt ∧ T.ar e.2.2 = none ∧ e.2.2 ≠ f0) := fun e he hn => I.fresh e (List.mem_cons_of_mem _ he) hn
  have ap1 : ∀ e ∈ todo, e.1 ≠ .nil → f ≠ e.2.1 ∧ l ≠ e.2.2 := fun e he hn => ap.1 e he hb hn
  dsimp only at a1 a2 a3 a4 b1 b2 b3 b4
  have hS : ∀ x ∈ [f], T0.cnt ≤ x ∧ x < (T.bump (nextN r)).cnt ∧ T.lv x = none ∧ x ≠ l0 := fun x hx => by
    rw [List.mem_singleton] at hx
    subst hx
    exact ⟨a1, (by show x < T.cnt + nextN r; omega), a3, a4⟩
  have hD : ∀ x ∈ [nextOf r l T.cnt], T0.cnt ≤ x ∧ x < (T.bump (nextN r)).cnt ∧ T.ar x = none ∧ x ≠ f0 := fun x hx => by
    rw [List.mem_singleton] at hx
    subst hx
    exact ⟨n1, n2, n3, n4⟩
  refine ⟨(I.toLB.bump (n := nextN r)).add hS hD, fun e he hn => ?_, fun e he hn => ?_, ?_, fun T' ex hT => ?_⟩
  · have hc : ((T.bump (nextN r)).add p [f] [nextOf r l T.cnt]).cnt = T.cnt + nextN r := rfl
    rw [hc]
    rcases List.mem_cons.mp he with e1 | he
    · subst e1
      obtain ⟨m1, m2, m3, m4, m5, m6⟩ := n5 hn
      refine ⟨⟨n1, n2, put_none ?_ m1, m2⟩, b1, ?_, put_none ?_ b3, b4⟩
      · rw [List.mem_singleton]; exact m3
      · show l < T.cnt + nextN r
        omega
      · rw [List.mem_singleton]; exact Ne.symm m4
    · obtain ⟨⟨x1, x2, x3, x4⟩, y1, y2, y3, y4⟩ := fr e he hn
      have z := ap1 e he hn
      refine ⟨⟨x1, by omega, put_none ?_ x3, x4⟩, y1, by omega, put_none ?_ y3, y4⟩
      · rw [List.mem_singleton]; exact fun h => z.1 h.symm
      · rw [List.mem_singleton]
        by_cases hr : r = .nil
        · rw [(n6 hr).1]
          exact fun h => z.2 h.symm
        · rw [(n5 hr).2.2.2.2.1]
          omega
  · rcases List.mem_cons.mp he with e1 | he
    · subst e1
      exact (n6 hn).1
    · exact I.nil_ e (List.mem_cons_of_mem _ he) hn
  · refine List.pairwise_cons.mpr ⟨fun e he h1 h2 => ?_, ap.2⟩
    have q := (n5 h1).2.2.2.2.1
    have z := ap1 e he h2
    have w := fr e he h2
    refine ⟨?_, z.2⟩
    show nextOf r l T.cnt ≠ e.2.1
    rw [q]
    omega
  · have hp : ((T.bump (nextN r)).add p [f] [nextOf r l T.cnt]).pcs[T.pcs.length]? = some p := by
      show (T.pcs ++ [p])[T.pcs.length]? = some p
      rw [List.getElem?_append_right (Nat.le_refl _), Nat.sub_self]
      rfl
    have h0 : Laid u T' true b f l := hl T' (ex.pcs _ _ hp) (ex.lv _ _ (put_in (List.mem_singleton_self _))) (ex.ar _ _ (put_in (List.mem_singleton_self _))) (hT _ (List.mem_cons_self ..))
    have exT : Ext T T' := ((Ext.bump (nextN r)).mp (Ext.refl T)).trans ((Ext.add (T := T.bump (nextN r)) (fun x h => (hS x h).2.2.1) (fun x h => (hD x h).2.2.1)).trans ex)
    refine I.goal T' exT fun e he => ?_
    rcases List.mem_cons.mp he with e1 | he
    · subst e1
      exact h0
    · exact hT e (List.mem_cons_of_mem _ he)
theorem LI.pr {p : P} (I : LI u T0 b0 f0 l0 T ((.pr p r, f, l) :: todo)) :
    LI u T0 b0 f0 l0 ((T.bump (nextN r)).add (.act f (nextOf r l T.cnt) p) [f] [nextOf r l T.cnt]) ((r, nextOf r l T.cnt, l) :: todo) :=
  I.simple (fun h => by cases h) fun T' h1 h2 h3 h4 => ⟨_, _, actAt_t.mpr h1, h2, h3, h4⟩
theorem LI.cl {v : Bool} {n : N} (I : LI u T0 b0 f0 l0 T ((.cl v n r, f, l) :: todo)) :
    LI u T0 b0 f0 l0 ((T.bump (nextN r)).add (.call f (nextOf r l T.cnt) n v) [f] [nextOf r l T.cnt]) ((r, nextOf r l T.cnt, l) :: todo) :=
  I.simple (fun h => by cases h) fun T' h1 h2 h3 h4 => ⟨_, _, h1, h2, h3, h4⟩

/-- two pieces and two bodies: from f and y's to x's and m. S1 D1 the first piece's, S2 D2 the second's -/
theorem LI.double {p1 p2 : Pc P C N} {A B : Bd P C N} {f1 l1 f2 l2 m n : Nat} {S1 D1 S2 D2 : List Nat} (I : LI u T0 b0 f0 l0 T ((b, f, l) :: todo)) (hb : b ≠ .nil) (hn : n = nextN r + endN A + endN B) (hm : m = nextOf r l T.cnt)
    (ef1 : f1 = T.cnt + nextN r) (el1 : l1 = endOf A f1) (ef2 : f2 = T.cnt + nextN r + endN A) (el2 : l2 = endOf B f2)
    (hS : (S1 = [f] ∧ S2 = [l1, l2]) ∨ (S1 = [f, l2] ∧ S2 = [l1])) (hD : (D1 = [f1, f2] ∧ D2 = [m]) ∨ (D1 = [f1] ∧ D2 = [m, f2]))
    (hl : ∀ T' : Pts P C N, T'.pcs[T.pcs.length]? = some p1 → T'.pcs[T.pcs.length + 1]? = some p2 → (∀ x ∈ S1, T'.lv x = some T.pcs.length) → (∀ x ∈ D1, T'.ar x = some T.pcs.length) → (∀ x ∈ S2, T'.lv x = some (T.pcs.length + 1)) →
      (∀ x ∈ D2, T'.ar x = some (T.pcs.length + 1)) → f1 ≠ f2 → l1 ≠ l2 → f ≠ l2 → m ≠ f2 → Laid u T' true A f1 l1 → Laid u T' true B f2 l2 → Laid u T' true r m l → Laid u T' true b f l) :
    LI u T0 b0 f0 l0 (((T.bump n).add p1 S1 D1).add p2 S2 D2) ((r, m, l) :: (todo ++ [(A, f1, l1), (B, f2, l2)])) := by
  obtain ⟨⟨a1, a2, a3, a4⟩, b1, b2, b3, b4⟩ := I.fresh _ (List.mem_cons_self ..) hb
  obtain ⟨n1, n2, n3, n4, n5, n6⟩ := next_facts I hb r
  rw [← hm] at n1 n2 n3 n4 n5 n6
  have ap := List.pairwise_cons.mp I.apart
  have fr : ∀ e ∈ todo, e.1 ≠ .nil → (T0.cnt ≤ e.2.1 ∧ e.2.1 < T.cnt ∧ T.lv e.2.1 = none ∧ e.2.1 ≠ l0) ∧ (T0.cnt ≤ e.2.2 ∧ e.2.2 < T.cnt ∧ T.ar e.2.2 = none ∧ e.2.2 ≠ f0) := fun e he hn => I.fresh e (List.mem_cons_of_mem _ he) hn
  have ap1 : ∀ e ∈ todo, e.1 ≠ .nil → f ≠ e.2.1 ∧ l ≠ e.2.2 := fun e he hn => ap.1 e he hb hn
  dsimp only at a1 a2 a3 a4 b1 b2 b3 b4
  have c0 := I.cnt
  have cf := I.f0r
  have cl := I.l0r
  have hA := endOf_le A f1
  have hB := endOf_le B f2
  rw [← el1] at hA
  rw [← el2] at hB
  have lvn : ∀ x, T.cnt ≤ x → T.lv x = none := I.lvb
  have arn : ∀ x, T.cnt ≤ x → T.ar x = none := I.arb
  -- the targets' own points
  have dm : m = l ∨ m = T.cnt ∧ nextN r = 1 := by
    by_cases hr : r = .nil
    · exact .inl (n6 hr).1
    · exact .inr ⟨(n5 hr).2.2.2.2.1, (n5 hr).2.2.2.2.2⟩
  have mlt : m < T.cnt + nextN r := n2
  have sF : ∀ x, x = f ∨ x = l1 ∨ x = l2 → T0.cnt ≤ x ∧ x < T.cnt + n ∧ T.lv x = none ∧ x ≠ l0 := by
    rintro x (e | e | e) <;> subst e
    · exact ⟨a1, by omega, a3, a4⟩
    · exact ⟨by omega, by omega, lvn _ (by omega), by omega⟩
    · exact ⟨by omega, by omega, lvn _ (by omega), by omega⟩
  have dF : ∀ x, x = m ∨ x = f1 ∨ x = f2 → T0.cnt ≤ x ∧ x < T.cnt + n ∧ T.ar x = none ∧ x ≠ f0 := by
    rintro x (e | e | e) <;> subst e
    · exact ⟨n1, by omega, n3, n4⟩
    · exact ⟨by omega, by omega, arn _ (by omega), by omega⟩
    · exact ⟨by omega, by omega, arn _ (by omega), by omega⟩
  have s12 : (∀ x ∈ S1, x = f ∨ x = l1 ∨ x = l2) ∧ (∀ x ∈ S2, (x = f ∨ x = l1 ∨ x = l2) ∧ x ∉ S1) := by
    rcases hS with ⟨e1, e2⟩ | ⟨e1, e2⟩ <;> subst e1 <;> subst e2 <;> refine ⟨fun x hx => ?_, fun x hx => ⟨?_, fun hy => ?_⟩⟩ <;> simp only [List.mem_cons, List.not_mem_nil, or_false] at hx <;> (try simp only [List.mem_cons, List.not_mem_nil, or_false] at hy) <;> omega
  have d12 : (∀ x ∈ D1, x = m ∨ x = f1 ∨ x = f2) ∧ (∀ x ∈ D2, (x = m ∨ x = f1 ∨ x = f2) ∧ x ∉ D1) := by
    rcases hD with ⟨e1, e2⟩ | ⟨e1, e2⟩ <;> subst e1 <;> subst e2 <;> refine ⟨fun x hx => ?_, fun x hx => ⟨?_, fun hy => ?_⟩⟩ <;> simp only [List.mem_cons, List.not_mem_nil, or_false] at hx <;> (try simp only [List.mem_cons, List.not_mem_nil, or_false] at hy) <;> omega
  have h1S : ∀ x ∈ S1, T0.cnt ≤ x ∧ x < (T.bump n).cnt ∧ (T.bump n).lv x = none ∧ x ≠ l0 := fun x hx => sF x (s12.1 x hx)
  have h1D : ∀ x ∈ D1, T0.cnt ≤ x ∧ x < (T.bump n).cnt ∧ (T.bump n).ar x = none ∧ x ≠ f0 := fun x hx => dF x (d12.1 x hx)
  have h2S : ∀ x ∈ S2, T0.cnt ≤ x ∧ x < ((T.bump n).add p1 S1 D1).cnt ∧ ((T.bump n).add p1 S1 D1).lv x = none ∧ x ≠ l0 := fun x hx => by
    obtain ⟨q1, q2, q3, q4⟩ := sF x (s12.2 x hx).1
    exact ⟨q1, q2, put_none (s12.2 x hx).2 q3, q4⟩
  have h2D : ∀ x ∈ D2, T0.cnt ≤ x ∧ x < ((T.bump n).add p1 S1 D1).cnt ∧ ((T.bump n).add p1 S1 D1).ar x = none ∧ x ≠ f0 := fun x hx => by
    obtain ⟨q1, q2, q3, q4⟩ := dF x (d12.2 x hx).1
    exact ⟨q1, q2, put_none (d12.2 x hx).2 q3, q4⟩
  have hc : (((T.bump n).add p1 S1 D1).add p2 S2 D2).cnt = T.cnt + n := rfl
  have lvt : ∀ x, x ≠ f → x ≠ l1 → x ≠ l2 → T.lv x = none → (((T.bump n).add p1 S1 D1).add p2 S2 D2).lv x = none := fun x q1 q2 q3 q =>
    put_none (fun z => by have := (s12.2 x z).1; omega) (put_none (fun z => by have := s12.1 x z; omega) q)
  have art : ∀ x, x ≠ m → x ≠ f1 → x ≠ f2 → T.ar x = none → (((T.bump n).add p1 S1 D1).add p2 S2 D2).ar x = none := fun x q1 q2 q3 q =>
    put_none (fun z => by have := (d12.2 x z).1; omega) (put_none (fun z => by have := d12.1 x z; omega) q)
  have fA : A ≠ .nil → l1 = f1 + 1 := fun h => by rw [el1]; exact (endOf_not h).1
  have fB : B ≠ .nil → l2 = f2 + 1 := fun h => by rw [el2]; exact (endOf_not h).1
  refine ⟨((I.toLB.bump (n := n)).add h1S h1D).add h2S h2D, fun e he hn => ?_, fun e he hn => ?_, ?_, fun T' ex hT => ?_⟩
  · rw [hc]
    rcases List.mem_cons.mp he with e1 | he
    · subst e1
      obtain ⟨m1, m2, m3, m4, m5, m6⟩ := n5 hn
      refine ⟨⟨n1, ?_, lvt m ?_ ?_ ?_ m1, m2⟩, b1, ?_, art l ?_ ?_ ?_ b3, b4⟩ <;> (first | omega | (dsimp only; omega))
    · rcases List.mem_append.mp he with he | he
      · obtain ⟨⟨x1, x2, x3, x4⟩, y1, y2, y3, y4⟩ := fr e he hn
        have z := ap1 e he hn
        refine ⟨⟨x1, by omega, lvt _ ?_ ?_ ?_ x3, x4⟩, y1, by omega, art _ ?_ ?_ ?_ y3, y4⟩ <;> omega
      · rcases List.mem_cons.mp he with e1 | he
        · subst e1
          have q := fA hn
          refine ⟨⟨?_, ?_, lvt f1 ?_ ?_ ?_ (lvn f1 (by omega)), ?_⟩, ?_, ?_, art l1 ?_ ?_ ?_ (arn l1 (by omega)), ?_⟩ <;> (first | omega | (dsimp only; omega))
        · rw [List.mem_singleton] at he
          subst he
          have q := fB hn
          refine ⟨⟨?_, ?_, lvt f2 ?_ ?_ ?_ (lvn f2 (by omega)), ?_⟩, ?_, ?_, art l2 ?_ ?_ ?_ (arn l2 (by omega)), ?_⟩ <;> (first | omega | (dsimp only; omega))
  · rcases List.mem_cons.mp he with e1 | he
    · subst e1
      exact (n6 hn).1
    · rcases List.mem_append.mp he with he | he
      · exact I.nil_ e (List.mem_cons_of_mem _ he) hn
      · rcases List.mem_cons.mp he with e1 | he
        · subst e1
          have q : endOf A f1 = f1 := (endOf_nil hn).1
          dsimp only
          omega
        · rw [List.mem_singleton] at he
          subst he
          have q : endOf B f2 = f2 := (endOf_nil hn).1
          dsimp only
          omega
  · refine List.pairwise_cons.mpr ⟨fun e he h1 h2 => ?_, List.pairwise_append.mpr ⟨ap.2, ?_, ?_⟩⟩
    · have q := (n5 h1).2.2.2.2
      rcases List.mem_append.mp he with he | he
      · have z := ap1 e he h2
        have w := fr e he h2
        refine ⟨?_, z.2⟩
        show m ≠ e.2.1
        omega
      · rcases List.mem_cons.mp he with e1 | he
        · subst e1
          refine ⟨?_, ?_⟩ <;> (first | omega | (dsimp only; omega))
        · rw [List.mem_singleton] at he
          subst he
          refine ⟨?_, ?_⟩ <;> (first | omega | (dsimp only; omega))
    · refine List.pairwise_cons.mpr ⟨fun e he h1 h2 => ?_, List.pairwise_singleton _ _⟩
      rw [List.mem_singleton] at he
      subst he
      refine ⟨?_, ?_⟩ <;> (first | omega | (dsimp only; omega))
    · intro e he e' he' h1 h2
      have w := fr e he h1
      rcases List.mem_cons.mp he' with e1 | he'
      · subst e1
        refine ⟨?_, ?_⟩ <;> (first | omega | (dsimp only; omega))
      · rw [List.mem_singleton] at he'
        subst he'
        refine ⟨?_, ?_⟩ <;> (first | omega | (dsimp only; omega))
  · have k1 : ((T.bump n).add p1 S1 D1).pcs[T.pcs.length]? = some p1 := by
      show (T.pcs ++ [p1])[T.pcs.length]? = some p1
      rw [List.getElem?_append_right (Nat.le_refl _), Nat.sub_self]
      rfl
    have kl : ((T.bump n).add p1 S1 D1).pcs.length = T.pcs.length + 1 := by
      show (T.pcs ++ [p1]).length = _
      rw [List.length_append]
      rfl
    have e2 : Ext ((T.bump n).add p1 S1 D1) (((T.bump n).add p1 S1 D1).add p2 S2 D2) := Ext.add (fun x h => (h2S x h).2.2.1) (fun x h => (h2D x h).2.2.1)
    have k2 : (((T.bump n).add p1 S1 D1).add p2 S2 D2).pcs[T.pcs.length + 1]? = some p2 := by
      show (((T.bump n).add p1 S1 D1).pcs ++ [p2])[T.pcs.length + 1]? = some p2
      rw [List.getElem?_append_right (by rw [kl]; exact Nat.le_refl _), kl, Nat.sub_self]
      rfl
    have exT : Ext T T' := ((Ext.bump n).mp (Ext.refl T)).trans ((Ext.add (T := T.bump n) (fun x h => (h1S x h).2.2.1) (fun x h => (h1D x h).2.2.1)).trans (e2.trans ex))
    have h0 : Laid u T' true b f l := by
      refine hl T' (ex.pcs _ _ (e2.pcs _ _ k1)) (ex.pcs _ _ k2) (fun x hx => ex.lv _ _ (e2.lv _ _ (put_in hx))) (fun x hx => ex.ar _ _ (e2.ar _ _ (put_in hx))) (fun x hx => ex.lv _ _ ?_) (fun x hx => ex.ar _ _ ?_) (by omega) (by omega) (by omega) (by omega)
        (hT _ (List.mem_cons_of_mem _ (List.mem_append.mpr (.inr (List.mem_cons_self ..))))) (hT _ (List.mem_cons_of_mem _ (List.mem_append.mpr (.inr (List.mem_cons_of_mem _ (List.mem_singleton_self _)))))) (hT _ (List.mem_cons_self ..))
      · rw [← kl]
        exact put_in hx
      · rw [← kl]
        exact put_in hx
    refine I.goal T' exT fun e he => ?_
    rcases List.mem_cons.mp he with e1 | he
    · subst e1
      exact h0
    · exact hT e (List.mem_cons_of_mem _ (List.mem_append.mpr (.inl he)))
theorem LI.ite {c d : C} {A B : Bd P C N} (I : LI u T0 b0 f0 l0 T ((.ite c d A B r, f, l) :: todo)) {f1 l1 f2 l2 m n : Nat} (hn : n = nextN r + endN A + endN B) (hm : m = nextOf r l T.cnt)
    (ef1 : f1 = T.cnt + nextN r) (el1 : l1 = endOf A f1) (ef2 : f2 = T.cnt + nextN r + endN A) (el2 : l2 = endOf B f2) :
    LI u T0 b0 f0 l0 (((T.bump n).add (.fork f c f1 f2) [f] [f1, f2]).add (.join l1 l2 d m) [l1, l2] [m]) ((r, m, l) :: (todo ++ [(A, f1, l1), (B, f2, l2)])) :=
  I.double (fun h => by cases h) hn hm ef1 el1 ef2 el2 (.inl ⟨rfl, rfl⟩) (.inl ⟨rfl, rfl⟩) fun T' h1 h2 h3 h4 h5 h6 g1 g2 g3 g4 LA LB Lr =>
    ⟨m, _, _, f1, l1, f2, l2, h1, h3 f (by simp), h4 f1 (by simp), h4 f2 (by simp), h2, h6 m (by simp), h5 l1 (by simp), h5 l2 (by simp), g1, g2, LA, LB, Lr⟩
theorem LI.lp {c d : C} {A B : Bd P C N} (I : LI u T0 b0 f0 l0 T ((.lp c d A B r, f, l) :: todo)) {f1 l1 f2 l2 m n : Nat} (hn : n = nextN r + endN A + endN B) (hm : m = nextOf r l T.cnt)
    (ef1 : f1 = T.cnt + nextN r) (el1 : l1 = endOf A f1) (ef2 : f2 = T.cnt + nextN r + endN A) (el2 : l2 = endOf B f2) :
    LI u T0 b0 f0 l0 (((T.bump n).add (.join f l2 c f1) [f, l2] [f1]).add (.fork l1 d m f2) [l1] [m, f2]) ((r, m, l) :: (todo ++ [(A, f1, l1), (B, f2, l2)])) :=
  I.double (fun h => by cases h) hn hm ef1 el1 ef2 el2 (.inr ⟨rfl, rfl⟩) (.inr ⟨rfl, rfl⟩) fun T' h1 h2 h3 h4 h5 h6 g1 g2 g3 g4 LA LB Lr =>
    ⟨m, _, _, f1, l1, f2, l2, h1, h4 f1 (by simp), h3 f (by simp), h3 l2 (by simp), h2, h5 l1 (by simp), h6 m (by simp), h6 f2 (by simp), g3, g4, LA, LB, Lr⟩
/-- an empty body is done -/
theorem LI.drop (I : LI u T0 b0 f0 l0 T ((.nil, f, l) :: todo)) : LI u T0 b0 f0 l0 T todo := by
  have e : f = l := I.nil_ _ (List.mem_cons_self ..) rfl
  refine ⟨I.toLB, fun e he => I.fresh e (List.mem_cons_of_mem _ he), fun e he => I.nil_ e (List.mem_cons_of_mem _ he), (List.pairwise_cons.mp I.apart).2, fun T' ex hT => I.goal T' ex fun e' he => ?_⟩
  rcases List.mem_cons.mp he with e1 | he
  · subst e1
    exact e
  · exact hT e' he
/-- the entries may stand in another order: the last one first -/
theorem LI.pop {x : Todo P C N} (I : LI u T0 b0 f0 l0 T (todo ++ [x])) : LI u T0 b0 f0 l0 T (x :: todo) := by
  have sub : ∀ e, e ∈ x :: todo → e ∈ todo ++ [x] := fun e he => by
    rcases List.mem_cons.mp he with h | h
    · exact List.mem_append.mpr (.inr (by rw [h]; exact List.mem_singleton_self _))
    · exact List.mem_append.mpr (.inl h)
  have bus : ∀ e, e ∈ todo ++ [x] → e ∈ x :: todo := fun e he => by
    rcases List.mem_append.mp he with h | h
    · exact List.mem_cons_of_mem _ h
    · rw [List.mem_singleton] at h
      rw [h]
      exact List.mem_cons_self ..
  refine ⟨I.toLB, fun e he => I.fresh e (sub e he), fun e he => I.nil_ e (sub e he), ?_, fun T' ex hT => I.goal T' ex fun e he => hT e (bus e he)⟩
  have ap := List.pairwise_append.mp I.apart
  refine List.pairwise_cons.mpr ⟨fun e he h1 h2 => ?_, ap.1⟩
  have z := ap.2.2 e he x (List.mem_singleton_self _) h2 h1
  exact ⟨Ne.symm z.1, Ne.symm z.2⟩
/-- all is laid -/
theorem LI.fin (I : LI u T0 b0 f0 l0 T []) : Laid u T true b0 f0 l0 := I.goal T (Ext.refl T) fun e he => by cases he
end
end Bk
end -- BkL
section -- KBase
set_option Elab.async false
set_option linter.all false
set_option maxRecDepth 100000
set_option maxHeartbeats 4000000
/-! KBase: the text by places; where each def stands; the data and how the heap bears it. -/
namespace Kt
open PySem L2
def top (i : Nat) : Stmt := PySem.Challenge.pw_backstair_k37_whole_calls_and_uncalls.main.body.getD i (.Pass ⟨0, 0, 0, 0⟩)
abbrev s_is_number : Stmt := top 20
abbrev s_is_name : Stmt := top 21
abbrev s_atoms_of : Stmt := top 22
abbrev s_count_statements : Stmt := top 24
abbrev s_atom_value : Stmt := top 27
abbrev s_expression_value : Stmt := top 28
abbrev s_holds : Stmt := top 29
abbrev s_changed : Stmt := top 30
abbrev s_check_store : Stmt := top 35
abbrev s_answer : Stmt := top 36
abbrev s_nested : Stmt := top 39
abbrev s_inverse_of : Stmt := top 40
abbrev s_inverse_program : Stmt := top 41
abbrev s_law_draws : Stmt := top 43
abbrev s_law_atom : Stmt := top 45
abbrev s_law_plain : Stmt := top 46
abbrev s_law_condition : Stmt := top 47
abbrev s_law_body : Stmt := top 48
abbrev s_law_compound : Stmt := top 49
abbrev s_law_main : Stmt := top 50
abbrev s_law_program : Stmt := top 51
abbrev s_law_recursive : Stmt := top 52
abbrev s_law_store : Stmt := top 53
abbrev s_law_answer : Stmt := top 54
abbrev s_law_around : Stmt := top 55
abbrev s_law : Stmt := top 56
abbrev s_Checker_init : Stmt := inClass (top 23) 0
abbrev s_Checker__is_atom : Stmt := inClass (top 23) 1
abbrev s_Checker__is_pair : Stmt := inClass (top 23) 2
abbrev s_Checker__is_change : Stmt := inClass (top 23) 3
abbrev s_Checker__is_variable : Stmt := inClass (top 23) 4
abbrev s_Checker_is_statement : Stmt := inClass (top 23) 5
abbrev s_Program_init : Stmt := inClass (top 25) 0
abbrev s_Program_body : Stmt := inClass (top 25) 1
abbrev s_Points_init : Stmt := inClass (top 33) 0
abbrev s_Points__point : Stmt := inClass (top 33) 1
abbrev s_Points__ends : Stmt := inClass (top 33) 2
abbrev s_Points__add : Stmt := inClass (top 33) 3
abbrev s_Points__lay : Stmt := inClass (top 33) 4
abbrev s_Points__place : Stmt := inClass (top 33) 5
abbrev s_Machine_init : Stmt := inClass (top 34) 0
abbrev s_Machine_begin : Stmt := inClass (top 34) 1
abbrev s_Machine_stopped : Stmt := inClass (top 34) 3
abbrev s_Machine_step : Stmt := inClass (top 34) 4
abbrev s_Machine__done : Stmt := inClass (top 34) 5
abbrev s_Machine__next_point : Stmt := inClass (top 34) 6
abbrev s_Machine__returned : Stmt := inClass (top 34) 7
abbrev s_Machine_run : Stmt := inClass (top 34) 9
/-- where each def, class and table stands -/
structure Ad where
  f_is_number : Addr
  d_is_number : FuncData
  f_is_name : Addr
  d_is_name : FuncData
  f_atoms_of : Addr
  d_atoms_of : FuncData
  f_count_statements : Addr
  d_count_statements : FuncData
  f_atom_value : Addr
  d_atom_value : FuncData
  f_expression_value : Addr
  d_expression_value : FuncData
  f_holds : Addr
  d_holds : FuncData
  f_changed : Addr
  d_changed : FuncData
  f_check_store : Addr
  d_check_store : FuncData
  f_answer : Addr
  d_answer : FuncData
  f_nested : Addr
  d_nested : FuncData
  f_inverse_of : Addr
  d_inverse_of : FuncData
  f_inverse_program : Addr
  d_inverse_program : FuncData
  f_law_draws : Addr
  d_law_draws : FuncData
  f_law_atom : Addr
  d_law_atom : FuncData
  f_law_plain : Addr
  d_law_plain : FuncData
  f_law_condition : Addr
  d_law_condition : FuncData
  f_law_body : Addr
  d_law_body : FuncData
  f_law_compound : Addr
  d_law_compound : FuncData
  f_law_main : Addr
  d_law_main : FuncData
  f_law_program : Addr
  d_law_program : FuncData
  f_law_recursive : Addr
  d_law_recursive : FuncData
  f_law_store : Addr
  d_law_store : FuncData
  f_law_answer : Addr
  d_law_answer : FuncData
  f_law_around : Addr
  d_law_around : FuncData
  f_law : Addr
  d_law : FuncData
  c_Checker : Addr
  c_Program : Addr
  c_Points : Addr
  c_Machine : Addr
  f_Checker_init : Addr
  d_Checker_init : FuncData
  f_Checker__is_atom : Addr
  d_Checker__is_atom : FuncData
  f_Checker__is_pair : Addr
  d_Checker__is_pair : FuncData
  f_Checker__is_change : Addr
  d_Checker__is_change : FuncData
  f_Checker__is_variable : Addr
  d_Checker__is_variable : FuncData
  f_Checker_is_statement : Addr
  d_Checker_is_statement : FuncData
  f_Program_init : Addr
  d_Program_init : FuncData
  f_Program_body : Addr
  d_Program_body : FuncData
  f_Points_init : Addr
  d_Points_init : FuncData
  f_Points__point : Addr
  d_Points__point : FuncData
  f_Points__ends : Addr
  d_Points__ends : FuncData
  f_Points__add : Addr
  d_Points__add : FuncData
  f_Points__lay : Addr
  d_Points__lay : FuncData
  f_Points__place : Addr
  d_Points__place : FuncData
  f_Machine_init : Addr
  d_Machine_init : FuncData
  f_Machine_begin : Addr
  d_Machine_begin : FuncData
  f_Machine_stopped : Addr
  d_Machine_stopped : FuncData
  f_Machine_step : Addr
  d_Machine_step : FuncData
  f_Machine__done : Addr
  d_Machine__done : FuncData
  f_Machine__next_point : Addr
  d_Machine__next_point : FuncData
  f_Machine__returned : Addr
  d_Machine__returned : FuncData
  f_Machine_run : Addr
  d_Machine_run : FuncData
  k_WORDS : Addr
  k_MORE_WORDS : Addr
  k_CHANGES : Addr
  k_OPERATORS : Addr
  k_RELATIONS : Addr
  k_UNDONE : Addr
  k_OPPOSITES : Addr
  c_TooLong : Addr
  c_Refused : Addr
  c_BackError : Addr
  f_Refused_init : Addr
structure Tx (w : World) (K : PySem.W.Frag) (mg : Str → Option Value) (a : Ad) : Prop where
  F_is_number : Fun K "is_number" "is_number" s_is_number a.f_is_number a.d_is_number
  g_is_number : mg "is_number" = some (.ref a.f_is_number)
  b_is_number : Binds K a.d_is_number ["value", "bound"] []
  F_is_name : Fun K "is_name" "is_name" s_is_name a.f_is_name a.d_is_name
  g_is_name : mg "is_name" = some (.ref a.f_is_name)
  b_is_name : Binds K a.d_is_name ["value"] []
  F_atoms_of : Fun K "atoms_of" "atoms_of" s_atoms_of a.f_atoms_of a.d_atoms_of
  g_atoms_of : mg "atoms_of" = some (.ref a.f_atoms_of)
  b_atoms_of : Binds K a.d_atoms_of ["expression"] []
  F_count_statements : Fun K "count_statements" "count_statements" s_count_statements a.f_count_statements a.d_count_statements
  g_count_statements : mg "count_statements" = some (.ref a.f_count_statements)
  b_count_statements : Binds K a.d_count_statements ["checker", "bodies"] []
  F_atom_value : Fun K "atom_value" "atom_value" s_atom_value a.f_atom_value a.d_atom_value
  g_atom_value : mg "atom_value" = some (.ref a.f_atom_value)
  b_atom_value : Binds K a.d_atom_value ["atom", "places", "store"] []
  F_expression_value : Fun K "expression_value" "expression_value" s_expression_value a.f_expression_value a.d_expression_value
  g_expression_value : mg "expression_value" = some (.ref a.f_expression_value)
  b_expression_value : Binds K a.d_expression_value ["expression", "places", "store", "width"] []
  F_holds : Fun K "holds" "holds" s_holds a.f_holds a.d_holds
  g_holds : mg "holds" = some (.ref a.f_holds)
  b_holds : Binds K a.d_holds ["condition", "places", "store"] []
  F_changed : Fun K "changed" "changed" s_changed a.f_changed a.d_changed
  g_changed : mg "changed" = some (.ref a.f_changed)
  b_changed : Binds K a.d_changed ["statement", "places", "store", "width"] []
  F_check_store : Fun K "check_store" "check_store" s_check_store a.f_check_store a.d_check_store
  g_check_store : mg "check_store" = some (.ref a.f_check_store)
  b_check_store : Binds K a.d_check_store ["program", "store"] []
  F_answer : Fun K "answer" "answer" s_answer a.f_answer a.d_answer
  g_answer : mg "answer" = some (.ref a.f_answer)
  b_answer : Binds K a.d_answer ["program", "store", "most"] []
  F_nested : Fun K "nested" "nested" s_nested a.f_nested a.d_nested
  g_nested : mg "nested" = some (.ref a.f_nested)
  b_nested : Binds K a.d_nested ["body"] []
  F_inverse_of : Fun K "inverse_of" "inverse_of" s_inverse_of a.f_inverse_of a.d_inverse_of
  g_inverse_of : mg "inverse_of" = some (.ref a.f_inverse_of)
  b_inverse_of : Binds K a.d_inverse_of ["body"] []
  F_inverse_program : Fun K "inverse_program" "inverse_program" s_inverse_program a.f_inverse_program a.d_inverse_program
  g_inverse_program : mg "inverse_program" = some (.ref a.f_inverse_program)
  b_inverse_program : Binds K a.d_inverse_program ["program"] []
  F_law_draws : Fun K "_law_draws" "_law_draws" s_law_draws a.f_law_draws a.d_law_draws
  g_law_draws : mg "_law_draws" = some (.ref a.f_law_draws)
  b_law_draws : Binds K a.d_law_draws ["_law_script", "_law_many"] []
  F_law_atom : Fun K "_law_atom" "_law_atom" s_law_atom a.f_law_atom a.d_law_atom
  g_law_atom : mg "_law_atom" = some (.ref a.f_law_atom)
  b_law_atom : Binds K a.d_law_atom ["_law_draw", "_law_names", "_law_bound"] []
  F_law_plain : Fun K "_law_plain" "_law_plain" s_law_plain a.f_law_plain a.d_law_plain
  g_law_plain : mg "_law_plain" = some (.ref a.f_law_plain)
  b_law_plain : Binds K a.d_law_plain ["_law_draw", "_law_more", "_law_names", "_law_bound", "_law_callees"] []
  F_law_condition : Fun K "_law_condition" "_law_condition" s_law_condition a.f_law_condition a.d_law_condition
  g_law_condition : mg "_law_condition" = some (.ref a.f_law_condition)
  b_law_condition : Binds K a.d_law_condition ["_law_draw", "_law_names", "_law_bound"] []
  F_law_body : Fun K "_law_body" "_law_body" s_law_body a.f_law_body a.d_law_body
  g_law_body : mg "_law_body" = some (.ref a.f_law_body)
  b_law_body : Binds K a.d_law_body ["_law_draws_here", "_law_at", "_law_many", "_law_names", "_law_bound", "_law_callees"] []
  F_law_compound : Fun K "_law_compound" "_law_compound" s_law_compound a.f_law_compound a.d_law_compound
  g_law_compound : mg "_law_compound" = some (.ref a.f_law_compound)
  b_law_compound : Binds K a.d_law_compound ["_law_draws_here", "_law_at", "_law_first", "_law_second", "_law_names", "_law_bound", "_law_loops"] []
  F_law_main : Fun K "_law_main" "_law_main" s_law_main a.f_law_main a.d_law_main
  g_law_main : mg "_law_main" = some (.ref a.f_law_main)
  b_law_main : Binds K a.d_law_main ["_law_draws_here", "_law_names", "_law_bound", "_law_callees", "_law_loops"] []
  F_law_program : Fun K "_law_program" "_law_program" s_law_program a.f_law_program a.d_law_program
  g_law_program : mg "_law_program" = some (.ref a.f_law_program)
  b_law_program : Binds K a.d_law_program ["_law_draws_here", "_law_loops"] []
  F_law_recursive : Fun K "_law_recursive" "_law_recursive" s_law_recursive a.f_law_recursive a.d_law_recursive
  g_law_recursive : mg "_law_recursive" = some (.ref a.f_law_recursive)
  b_law_recursive : Binds K a.d_law_recursive ["_law_draws_here", "_law_width"] []
  F_law_store : Fun K "_law_store" "_law_store" s_law_store a.f_law_store a.d_law_store
  g_law_store : mg "_law_store" = some (.ref a.f_law_store)
  b_law_store : Binds K a.d_law_store ["_law_draws_here", "_law_at", "_law_told"] []
  F_law_answer : Fun K "_law_answer" "_law_answer" s_law_answer a.f_law_answer a.d_law_answer
  g_law_answer : mg "_law_answer" = some (.ref a.f_law_answer)
  b_law_answer : Binds K a.d_law_answer ["_law_program_here", "_law_store_here", "_law_most"] []
  F_law_around : Fun K "_law_around" "_law_around" s_law_around a.f_law_around a.d_law_around
  g_law_around : mg "_law_around" = some (.ref a.f_law_around)
  b_law_around : Binds K a.d_law_around ["_law_told", "_law_main_here"] []
  F_law : Fun K "law" "law" s_law a.f_law a.d_law
  g_law : mg "law" = some (.ref a.f_law)
  b_law : Binds K a.d_law ["_law_script"] []
  cl_Checker : Cls K a.c_Checker
  g_Checker : mg "Checker" = some (.ref a.c_Checker)
  mk_Checker : Mk K a.c_Checker a.f_Checker_init
  na_Checker__bound : NoAttr K a.c_Checker "_bound"
  na_Checker__variables : NoAttr K a.c_Checker "_variables"
  na_Checker__names : NoAttr K a.c_Checker "_names"
  cl_Program : Cls K a.c_Program
  g_Program : mg "Program" = some (.ref a.c_Program)
  mk_Program : Mk K a.c_Program a.f_Program_init
  na_Program_width : NoAttr K a.c_Program "width"
  na_Program_variables : NoAttr K a.c_Program "variables"
  na_Program_names : NoAttr K a.c_Program "names"
  na_Program__bodies : NoAttr K a.c_Program "_bodies"
  cl_Points : Cls K a.c_Points
  g_Points : mg "Points" = some (.ref a.c_Points)
  mk_Points : Mk K a.c_Points a.f_Points_init
  na_Points__count : NoAttr K a.c_Points "_count"
  na_Points_pieces : NoAttr K a.c_Points "pieces"
  na_Points_leaving : NoAttr K a.c_Points "leaving"
  na_Points_arriving : NoAttr K a.c_Points "arriving"
  na_Points_ends : NoAttr K a.c_Points "ends"
  cl_Machine : Cls K a.c_Machine
  g_Machine : mg "Machine" = some (.ref a.c_Machine)
  mk_Machine : Mk K a.c_Machine a.f_Machine_init
  na_Machine__program : NoAttr K a.c_Machine "_program"
  na_Machine__points : NoAttr K a.c_Machine "_points"
  na_Machine__places : NoAttr K a.c_Machine "_places"
  F_Checker_init : Fun K "__init__" "Checker.__init__" s_Checker_init a.f_Checker_init a.d_Checker_init
  b_Checker_init : Binds K a.d_Checker_init ["self", "width", "variables", "names"] []
  F_Checker__is_atom : Fun K "_is_atom" "Checker._is_atom" s_Checker__is_atom a.f_Checker__is_atom a.d_Checker__is_atom
  b_Checker__is_atom : Binds K a.d_Checker__is_atom ["self", "value"] []
  m_Checker__is_atom : Meth K a.c_Checker "_is_atom" a.f_Checker__is_atom
  F_Checker__is_pair : Fun K "_is_pair" "Checker._is_pair" s_Checker__is_pair a.f_Checker__is_pair a.d_Checker__is_pair
  b_Checker__is_pair : Binds K a.d_Checker__is_pair ["self", "value", "signs"] []
  m_Checker__is_pair : Meth K a.c_Checker "_is_pair" a.f_Checker__is_pair
  F_Checker__is_change : Fun K "_is_change" "Checker._is_change" s_Checker__is_change a.f_Checker__is_change a.d_Checker__is_change
  b_Checker__is_change : Binds K a.d_Checker__is_change ["self", "statement"] []
  m_Checker__is_change : Meth K a.c_Checker "_is_change" a.f_Checker__is_change
  F_Checker__is_variable : Fun K "_is_variable" "Checker._is_variable" s_Checker__is_variable a.f_Checker__is_variable a.d_Checker__is_variable
  b_Checker__is_variable : Binds K a.d_Checker__is_variable ["self", "value"] []
  m_Checker__is_variable : Meth K a.c_Checker "_is_variable" a.f_Checker__is_variable
  F_Checker_is_statement : Fun K "is_statement" "Checker.is_statement" s_Checker_is_statement a.f_Checker_is_statement a.d_Checker_is_statement
  b_Checker_is_statement : Binds K a.d_Checker_is_statement ["self", "statement"] []
  m_Checker_is_statement : Meth K a.c_Checker "is_statement" a.f_Checker_is_statement
  F_Program_init : Fun K "__init__" "Program.__init__" s_Program_init a.f_Program_init a.d_Program_init
  b_Program_init : Binds K a.d_Program_init ["self", "width", "variables", "procedures"] []
  F_Program_body : Fun K "body" "Program.body" s_Program_body a.f_Program_body a.d_Program_body
  b_Program_body : Binds K a.d_Program_body ["self", "name"] []
  m_Program_body : Meth K a.c_Program "body" a.f_Program_body
  F_Points_init : Fun K "__init__" "Points.__init__" s_Points_init a.f_Points_init a.d_Points_init
  b_Points_init : Binds K a.d_Points_init ["self", "program"] []
  F_Points__point : Fun K "_point" "Points._point" s_Points__point a.f_Points__point a.d_Points__point
  b_Points__point : Binds K a.d_Points__point ["self"] []
  m_Points__point : Meth K a.c_Points "_point" a.f_Points__point
  F_Points__ends : Fun K "_ends" "Points._ends" s_Points__ends a.f_Points__ends a.d_Points__ends
  b_Points__ends : Binds K a.d_Points__ends ["self", "body"] []
  m_Points__ends : Meth K a.c_Points "_ends" a.f_Points__ends
  F_Points__add : Fun K "_add" "Points._add" s_Points__add a.f_Points__add a.d_Points__add
  b_Points__add : Binds K a.d_Points__add ["self", "piece", "sources", "targets"] []
  m_Points__add : Meth K a.c_Points "_add" a.f_Points__add
  F_Points__lay : Fun K "_lay" "Points._lay" s_Points__lay a.f_Points__lay a.d_Points__lay
  b_Points__lay : Binds K a.d_Points__lay ["self", "body"] []
  m_Points__lay : Meth K a.c_Points "_lay" a.f_Points__lay
  F_Points__place : Fun K "_place" "Points._place" s_Points__place a.f_Points__place a.d_Points__place
  b_Points__place : Binds K a.d_Points__place ["self", "statement", "here", "after"] []
  m_Points__place : Meth K a.c_Points "_place" a.f_Points__place
  F_Machine_init : Fun K "__init__" "Machine.__init__" s_Machine_init a.f_Machine_init a.d_Machine_init
  b_Machine_init : Binds K a.d_Machine_init ["self", "program"] []
  F_Machine_begin : Fun K "begin" "Machine.begin" s_Machine_begin a.f_Machine_begin a.d_Machine_begin
  b_Machine_begin : Binds K a.d_Machine_begin ["self", "store"] []
  m_Machine_begin : Meth K a.c_Machine "begin" a.f_Machine_begin
  F_Machine_stopped : Fun K "stopped" "Machine.stopped" s_Machine_stopped a.f_Machine_stopped a.d_Machine_stopped
  b_Machine_stopped : Binds K a.d_Machine_stopped ["self", "configuration"] []
  m_Machine_stopped : Meth K a.c_Machine "stopped" a.f_Machine_stopped
  F_Machine_step : Fun K "step" "Machine.step" s_Machine_step a.f_Machine_step a.d_Machine_step
  b_Machine_step : Binds K a.d_Machine_step ["self", "configuration"] []
  m_Machine_step : Meth K a.c_Machine "step" a.f_Machine_step
  F_Machine__done : Fun K "_done" "Machine._done" s_Machine__done a.f_Machine__done a.d_Machine__done
  b_Machine__done : Binds K a.d_Machine__done ["self", "piece", "configuration"] []
  m_Machine__done : Meth K a.c_Machine "_done" a.f_Machine__done
  F_Machine__next_point : Fun K "_next_point" "Machine._next_point" s_Machine__next_point a.f_Machine__next_point a.d_Machine__next_point
  b_Machine__next_point : Binds K a.d_Machine__next_point ["self", "piece", "point", "heading", "store"] []
  m_Machine__next_point : Meth K a.c_Machine "_next_point" a.f_Machine__next_point
  F_Machine__returned : Fun K "_returned" "Machine._returned" s_Machine__returned a.f_Machine__returned a.d_Machine__returned
  b_Machine__returned : Binds K a.d_Machine__returned ["self", "configuration"] []
  m_Machine__returned : Meth K a.c_Machine "_returned" a.f_Machine__returned
  F_Machine_run : Fun K "run" "Machine.run" s_Machine_run a.f_Machine_run a.d_Machine_run
  b_Machine_run : Binds K a.d_Machine_run ["self", "configuration", "steps"] []
  m_Machine_run : Meth K a.c_Machine "run" a.f_Machine_run
  g_MOST_WIDTH : ∃ t, mg "MOST_WIDTH" = some (.int 8 t)
  g_MOST_VARIABLES : ∃ t, mg "MOST_VARIABLES" = some (.int 6 t)
  g_MOST_PROCEDURES : ∃ t, mg "MOST_PROCEDURES" = some (.int 8 t)
  g_MOST_STATEMENTS : ∃ t, mg "MOST_STATEMENTS" = some (.int 200 t)
  g_MOST_DEPTH : ∃ t, mg "MOST_DEPTH" = some (.int 10 t)
  g_LONGEST_NAME : ∃ t, mg "LONGEST_NAME" = some (.int 8 t)
  g_LETTERS : ∃ t, mg "LETTERS" = some (.str "abcdefghijklmnopqrstuvwxyz" t)
  g_WORDS : mg "WORDS" = some (.ref a.k_WORDS)
  v_WORDS : ∀ H, SqT K H a.k_WORDS ((["add", "call", "do", "else", "end", "fi", "from", "if", "loop", "proc", "swap", "then", "uncall", "until"] : List Str).map V.str)
  g_MORE_WORDS : mg "MORE_WORDS" = some (.ref a.k_MORE_WORDS)
  v_MORE_WORDS : ∀ H, SqT K H a.k_MORE_WORDS ((["vars", "width"] : List Str).map V.str)
  g_CHANGES : mg "CHANGES" = some (.ref a.k_CHANGES)
  v_CHANGES : ∀ H, SqT K H a.k_CHANGES ((["+=", "-=", "^="] : List Str).map V.str)
  g_OPERATORS : mg "OPERATORS" = some (.ref a.k_OPERATORS)
  v_OPERATORS : ∀ H, SqT K H a.k_OPERATORS ((["+", "-", "*", "&", "|", "^"] : List Str).map V.str)
  g_RELATIONS : mg "RELATIONS" = some (.ref a.k_RELATIONS)
  v_RELATIONS : ∀ H, SqT K H a.k_RELATIONS ((["==", "!=", "<"] : List Str).map V.str)
  g_UNDONE : mg "UNDONE" = some (.ref a.k_UNDONE)
  v_UNDONE_add : KDct K w a.k_UNDONE "+=" (.str "-=")
  v_UNDONE_sub : KDct K w a.k_UNDONE "-=" (.str "+=")
  v_UNDONE_xor : KDct K w a.k_UNDONE "^=" (.str "^=")
  v_UNDONE_swap : KDct K w a.k_UNDONE "swap" (.str "swap")
  g_OPPOSITES : mg "OPPOSITES" = some (.ref a.k_OPPOSITES)
  v_OPPOSITES_add : KDct K w a.k_OPPOSITES "+=" (.str "-=")
  v_OPPOSITES_sub : KDct K w a.k_OPPOSITES "-=" (.str "+=")
  v_OPPOSITES_xor : KDct K w a.k_OPPOSITES "^=" (.str "^=")
  v_OPPOSITES_swap : KDct K w a.k_OPPOSITES "swap" (.str "swap")
  v_OPPOSITES_call : KDct K w a.k_OPPOSITES "call" (.str "uncall")
  v_OPPOSITES_uncall : KDct K w a.k_OPPOSITES "uncall" (.str "call")
  z_isinstance : mg "isinstance" = none
  z_int : mg "int" = none
  z_bool : mg "bool" = none
  z_str : mg "str" = none
  z_len : mg "len" = none
  z_all : mg "all" = none
  z_tuple : mg "tuple" = none
  z_list : mg "list" = none
  z_sorted : mg "sorted" = none
  z_dict : mg "dict" = none
  z_range : mg "range" = none
  z_abs : mg "abs" = none
  z_super : mg "super" = none

/-! ### the data -/
inductive At where
  | num (i : Int)
  | var (x : Str)
inductive Ex where
  | at_ (a : At)
  | bin (g : Str) (a b : At)
/-- a condition: relation, two atoms -/
structure Cd where
  rel : Str
  a : At
  b : At
/-- a change: word, name, the other -/
structure Pr where
  w : Str
  x : Str
  o : Ex
abbrev Body := Bk.Bd Pr Cd Str
def At.v : At → V
  | .num i => .int i
  | .var x => .str x

/-- tuples stay -/
def Im (H H' : Hp) : Prop := ∀ a xs, H a = some (.tup xs) → H' a = some (.tup xs)
theorem Im.refl (H : Hp) : Im H H := fun _ _ h => h
theorem Im.trans {H H1 H2 : Hp} (a : Im H H1) (b : Im H1 H2) : Im H H2 := fun c o h => b c o (a c o h)
theorem Im.of {H H' : Hp} (s : Same H H') : Im H H' := fun a xs h => s a _ h
theorem Im.upd {H : Hp} {p : Addr} {o : HO} (h : ∀ xs, H p ≠ some (.tup xs)) : Im H (upd H p o) := fun a xs e => by
  have n : a ≠ p := fun z => h xs (by rw [← z]; exact e)
  rw [upd_ne n]
  exact e
theorem _root_.L2.Same.new {H : Hp} {p : Addr} {o : HO} (h : H p = none) : Same H (upd H p o) := fun a u e => by
  rw [upd_ne (ne_of_none e h)]
  exact e
theorem _root_.L2.Same.mut {H H' : Hp} {p : Addr} {o : HO} (e : Same H H') (h : H p = none) : Same H (upd H' p o) := fun a u ha => by
  rw [upd_ne (ne_of_none ha h)]
  exact e a u ha
/-- all but the objects in M stays -/
def Kp (M : List Addr) (H H' : Hp) : Prop := ∀ b o, H b = some o → b ∉ M → H' b = some o
theorem Kp.refl (M : List Addr) (H : Hp) : Kp M H H := fun _ _ h _ => h
theorem Kp.trans {M : List Addr} {H H1 H2 : Hp} (a : Kp M H H1) (b : Kp M H1 H2) : Kp M H H2 := fun c o h n => b c o (a c o h n) n
theorem Kp.of {M : List Addr} {H H' : Hp} (s : Same H H') : Kp M H H' := fun a o h _ => s a o h
theorem Kp.upd {M : List Addr} {H : Hp} {p : Addr} {o : HO} (h : p ∈ M) : Kp M H (upd H p o) := fun a u e n => by
  have n' : a ≠ p := fun z => n (by rw [z]; exact h)
  rw [upd_ne n']
  exact e

def ExV (H : Hp) (v : V) : Ex → Prop
  | .at_ a => v = a.v
  | .bin g a b => ∃ p, v = .ref p ∧ H p = some (.tup [.str g, a.v, b.v])
def CdV (H : Hp) (v : V) (c : Cd) : Prop := ∃ p, v = .ref p ∧ H p = some (.tup [.str c.rel, c.a.v, c.b.v])
def PrV (H : Hp) (v : V) (p : Pr) : Prop := ∃ q ov, v = .ref q ∧ H q = some (.tup [.str p.w, .str p.x, ov]) ∧ ExV H ov p.o
/-- the items of a body -/
def BdV (H : Hp) : List V → Body → Prop
  | xs, .nil => xs = []
  | xs, .pr p r => ∃ v ys, xs = v :: ys ∧ PrV H v p ∧ BdV H ys r
  | xs, .cl s n r => ∃ q ys, xs = .ref q :: ys ∧ H q = some (.tup [.str (if s then "call" else "uncall"), .str n]) ∧ BdV H ys r
  | xs, .ite c d A B r => ∃ q ys cv dv pa xa pb xb, xs = .ref q :: ys ∧ H q = some (.tup [.str "if", cv, .ref pa, .ref pb, dv]) ∧ CdV H cv c ∧ CdV H dv d ∧
      H pa = some (.tup xa) ∧ BdV H xa A ∧ H pb = some (.tup xb) ∧ BdV H xb B ∧ BdV H ys r
  | xs, .lp c d A B r => ∃ q ys cv dv pa xa pb xb, xs = .ref q :: ys ∧ H q = some (.tup [.str "from", cv, .ref pa, .ref pb, dv]) ∧ CdV H cv c ∧ CdV H dv d ∧
      H pa = some (.tup xa) ∧ BdV H xa A ∧ H pb = some (.tup xb) ∧ BdV H xb B ∧ BdV H ys r
/-- a body's tuple -/
def BdT (H : Hp) (v : V) (b : Body) : Prop := ∃ p xs, v = .ref p ∧ H p = some (.tup xs) ∧ BdV H xs b
section
variable {H H' : Hp}
theorem ExV.mono (i : Im H H') {v : V} : ∀ {e : Ex}, ExV H v e → ExV H' v e
  | .at_ _, h => h
  | .bin _ _ _, ⟨p, e, h⟩ => ⟨p, e, i _ _ h⟩
theorem CdV.mono (i : Im H H') {v : V} {c : Cd} (h : CdV H v c) : CdV H' v c := let ⟨p, e, h⟩ := h; ⟨p, e, i _ _ h⟩
theorem PrV.mono (i : Im H H') {v : V} {c : Pr} (h : PrV H v c) : PrV H' v c := let ⟨p, o, e, h, g⟩ := h; ⟨p, o, e, i _ _ h, g.mono i⟩
theorem BdV.mono (i : Im H H') : ∀ {b : Body} {xs : List V}, BdV H xs b → BdV H' xs b
  | .nil, _, h => h
  | .pr _ _, _, ⟨v, ys, e, h, g⟩ => ⟨v, ys, e, h.mono i, g.mono i⟩
  | .cl _ _ _, _, ⟨q, ys, e, h, g⟩ => ⟨q, ys, e, i _ _ h, g.mono i⟩
  | .ite _ _ _ _ _, _, ⟨q, ys, cv, dv, pa, xa, pb, xb, e, h, hc, hd, ha, hA, hb, hB, g⟩ => ⟨q, ys, cv, dv, pa, xa, pb, xb, e, i _ _ h, hc.mono i, hd.mono i, i _ _ ha, hA.mono i, i _ _ hb, hB.mono i, g.mono i⟩
  | .lp _ _ _ _ _, _, ⟨q, ys, cv, dv, pa, xa, pb, xb, e, h, hc, hd, ha, hA, hb, hB, g⟩ => ⟨q, ys, cv, dv, pa, xa, pb, xb, e, i _ _ h, hc.mono i, hd.mono i, i _ _ ha, hA.mono i, i _ _ hb, hB.mono i, g.mono i⟩
theorem BdT.mono (i : Im H H') {v : V} {b : Body} (h : BdT H v b) : BdT H' v b := let ⟨p, xs, e, h, g⟩ := h; ⟨p, xs, e, i _ _ h, g.mono i⟩
end

/-! ### what is known of a type by its value -/
def tyN (H : Hp) (x : V) (t : String) : Prop := match x with
  | .int _ => t = "int"
  | .str _ => t = "str"
  | .bl _ => t = "bool"
  | .non => t = "NoneType"
  | .ref a => (∃ xs, H a = some (.tup xs)) ∧ t = "tuple"
  | _ => False
/-- isinstance(x, T) -/
def rIs : List V → Hp → VK → Prop := fun xs H Q => ∃ (x : V) (T t : String) (b : Bool), xs = [x, .ty T] ∧ tyN H x t ∧ kitB t T = some b ∧ Q (.bl b) H
theorem call_is {X : Cx} : CallR X (.builtin "isinstance") rIs := by
  intro pins s σ H xs us Q I r h
  obtain ⟨x, T, t, b, rfl, ht, hk, q⟩ := h
  refine call_isi pins s σ H _ us Q I r ⟨x, .ty T, .type t, .type T, b, rfl, .ty T, .base ?_, kit_ty hk, q⟩
  cases x with
  | int i => cases ht; exact .int i
  | str i => cases ht; exact .str i
  | bl i => cases ht; exact .bl i
  | non => cases ht; exact .non
  | ref p => obtain ⟨⟨xs, e⟩, rfl⟩ := ht; exact .tup e
  | _ => exact False.elim ht
end Kt
end -- KBase
section -- KStep
set_option Elab.async false
set_option linter.all false
set_option maxRecDepth 100000
set_option maxHeartbeats 4000000
/-! KStep: readings, one lemma a word. -/
namespace Kt
open PySem L2
/-- a new object of these items -/
def Lay (c : List V → HO) (xs : List V) (H : Hp) (Q : VK) : Prop := xs.length ≤ sizeLine ∧ ∀ p, H p = none → Q (.ref p) (upd H p (c xs))
def rListOf (K : PySem.W.Frag) : List V → Hp → VK → Prop := fun xs H Q => ∃ p ys, xs = [.ref p] ∧ (SqL K H p ys ∨ SqT K H p ys) ∧ ∀ l, H l = none → Q (.ref l) (upd H l (.lst ys))
def rTupOf (K : PySem.W.Frag) : List V → Hp → VK → Prop := fun xs H Q => ∃ p ys, xs = [.ref p] ∧ ((SqL K H p ys ∧ ∀ l, H l = none → Q (.ref l) (upd H l (.tup ys))) ∨ (SqT K H p ys ∧ Q (.ref p) H))
def rLenO (K : PySem.W.Frag) : List V → Hp → VK → Prop := fun xs H Q => ∃ p ys, xs = [.ref p] ∧ (SqL K H p ys ∨ SqT K H p ys) ∧ Q (.int ys.length) H
def rLenD : List V → Hp → VK → Prop := fun xs H Q => ∃ (d : Addr) (kvs : List (Key × V)), xs = [.ref d] ∧ H d = some (.dK kvs) ∧ Q (.int kvs.length) H
def rLenS : List V → Hp → VK → Prop := fun xs H Q => ∃ z, xs = [.str z] ∧ z.length ≤ sizeLine ∧ Q (.int z.length) H
def rAbs : List V → Hp → VK → Prop := fun xs H Q => ∃ i, xs = [.int i] ∧ Q (.int (if i < 0 then -i else i)) H
def rInt1 : List V → Hp → VK → Prop := fun xs H Q => (∃ i, xs = [.int i] ∧ Q (.int i) H) ∨ ∃ k, xs = [.bl k] ∧ Q (.int (if k then 1 else 0)) H
section
variable {X : Cx}
theorem pe_fldB {K : PySem.W.Frag} {e : Expr} {f : Str} {pos : Pos} {ta : TE} (he : PE X e ta) (hb : attributeBase e f X.env (eval e X.env) = eval e X.env) (hK : X.K = K := by rfl) : PE X (.Attribute e f pos) (tFld K ta f) := by
  subst hK
  exact pe_fld he hb
theorem cl_list : CallR X (.type "list") (rListOf X.K) := call_list_of
theorem cl_tup : CallR X (.type "tuple") (rTupOf X.K) := call_tuple_of
theorem cl_len : CallR X (.builtin "len") (rLenO X.K) := call_len_seq
theorem cl_lenD : CallR X (.builtin "len") rLenD := call_lenD
theorem cl_lenS : CallR X (.builtin "len") rLenS := call_len_str
theorem cl_abs : CallR X (.builtin "abs") rAbs := call_abs
theorem cl_int : CallR X (.type "int") rInt1 := call_int1
end
section
variable {σ : St} {H : Hp} {Q : VK} {ta tb tc te : TE} {tA : TA} {D : Ends} {t u : TS} {c d : TT} {QB : Bool → Hp → Prop} {v x y : V} {i : Nat} {K : PySem.W.Frag}
theorem w_seq (h : t { D with nx := u D } σ H) : tSeq t u D σ H := h
theorem w_next (h : D.nx σ H) : tNext D σ H := h
theorem w_asg {g : TG} (h : te σ H fun x H1 => g x σ H1 D.nx) : tAsg te g D σ H := h
theorem w_name {QS : St → Hp → Prop} (h : QS (σ.set i (some v)) H) : gName i v σ H QS := h
theorem w_tup {QS : St → Hp → Prop} {n : Nat} {g : TGs} {a : Addr} {xs : List V} (h : H a = some (.tup xs)) (hl : xs.length = n) (k : g xs σ H QS) : gTup K n g (.ref a) σ H QS := ⟨a, xs, rfl, SqT.of h, hl, k⟩
theorem w_gcons {QS : St → Hp → Prop} {g : TG} {gs : TGs} {r : List V} (h : g v σ H fun σ' H' => gs r σ' H' QS) : gCons g gs (v :: r) σ H QS := ⟨v, r, rfl, h⟩
theorem w_gnil {QS : St → Hp → Prop} (h : QS σ H) : gNil [] σ H QS := ⟨rfl, h⟩
theorem w_var (e : σ[i]? = some (some v)) (h : Q v H) : tVar i σ H Q := ⟨v, e, h⟩
theorem w_c (h : Q v H) : tC v σ H Q := h
theorem w_op {r : R2} (h : ta σ H fun x H1 => tb σ H1 fun y H2 => r x y H2 Q) : tOp r ta tb σ H Q := h
theorem w_un {r : V → Hp → VK → Prop} (h : ta σ H fun x H1 => r x H1 Q) : tUn r ta σ H Q := h
theorem w_rU {g : Int → V} {a : Int} (h : Q (g a) H) : rU g (.int a) H Q := ⟨a, rfl, h⟩
theorem w_rI0 {g : Int → Int → V} {a b : Int} (h : Q (g a b) H) : rI0 g (.int a) (.int b) H Q := ⟨a, b, rfl, rfl, h⟩
theorem w_rI {C : Int → Int → Prop} {g : Int → Int → V} {a b : Int} (k : C a b) (h : Q (g a b) H) : rI C g (.int a) (.int b) H Q := ⟨a, b, rfl, rfl, k, h⟩
theorem w_eq (s : scal x y = true) (h : Q (.bl (decide (x = y))) H) : rEq x y H Q := ⟨s, h⟩
theorem w_ne (s : scal x y = true) (h : Q (.bl (!decide (x = y))) H) : rNe x y H Q := ⟨s, h⟩
theorem w_test {b : Bool} {P : Bool → Prop} (h : P b) : ∃ k, V.bl b = .bl k ∧ P k := ⟨b, rfl, h⟩
theorem w_tTest (h : te σ H fun x H' => ∃ k, x = .bl k ∧ QB k H') : tTest te σ H QB := h
theorem w_tB (h : te σ H fun x H' => ∃ k, x = .bl k ∧ QB k H') : tB te σ H QB := h
theorem w_if (h : c σ H fun b H1 => if b = true then t D σ H1 else u D σ H1) : tIfS c t u D σ H := h
theorem w_ifE (h : c σ H fun b H1 => if b = true then ta σ H1 Q else tb σ H1 Q) : tIf c ta tb σ H Q := h
theorem w_not (h : c σ H fun b H1 => QB (!b) H1) : tNot c σ H QB := h
theorem w_and (h : c σ H fun b H1 => if b = true then d σ H1 QB else QB false H1) : tAnd c d σ H QB := h
theorem w_or (h : c σ H fun b H1 => if b = true then QB true H1 else d σ H1 QB) : tOr c d σ H QB := h
theorem w_andV (h : ta σ H fun x H1 => ∃ c, x = .bl c ∧ if c = true then tb σ H1 Q else Q (.bl false) H1) : tAndV ta tb σ H Q := h
theorem w_orV (h : ta σ H fun x H1 => ∃ c, x = .bl c ∧ if c = true then Q (.bl true) H1 else tb σ H1 Q) : tOrV ta tb σ H Q := h
theorem w_notV (h : ta σ H fun x H1 => ∃ c, x = .bl c ∧ Q (.bl (!c)) H1) : tNotV ta σ H Q := h
theorem w_ret (h : te σ H D.rt) : tRet te D σ H := h
theorem w_drop (h : te σ H fun _ H1 => D.nx σ H1) : tDrop te D σ H := h
theorem w_nil {QA : List V → Hp → Prop} (h : QA [] H) : tNil σ H QA := h
theorem w_cons {QA : List V → Hp → Prop} {tr : TA} (h : te σ H fun x H1 => tr σ H1 fun xs H2 => QA (x :: xs) H2) : tCons te tr σ H QA := h
theorem w_cb {r : List V → Hp → VK → Prop} (h : tA σ H fun vs H1 => r vs H1 Q) : tCB r tA σ H Q := h
theorem w_call {sp : Sp} {dvs : List V} {E : XK} (h : tA σ H fun vs H1 => sp (vs ++ dvs) H1 Q E) : tCall sp dvs E tA σ H Q := h
theorem w_new {o : HO} (h : ∀ p H', Same H H' → H p = none → H' p = some o → Q (.ref p) H') : ∀ p, H p = none → Q (.ref p) (upd H p o) := fun p n => h p _ (Same.new n) n upd_same
theorem w_ttup (h : tA σ H fun xs H1 => Lay .tup xs H1 Q) : tTup tA σ H Q := h
theorem w_tlst (h : tA σ H fun xs H1 => Lay .lst xs H1 Q) : tLst tA σ H Q := h
theorem w_lay {xs : List V} {c : List V → HO} (z : xs.length ≤ 100000) (h : ∀ p H', Same H H' → H p = none → H' p = some (c xs) → Q (.ref p) H') : Lay c xs H Q := ⟨Nat.le_trans z (by decide), w_new h⟩
theorem w_fld {f : Str} (h : te σ H fun x H1 => ∃ a C dx fs v, x = .ref a ∧ H1 a = some (.ins C dx fs) ∧ Cls K C ∧ NoAttr K C f ∧ fs.lookup f = some v ∧ Q v H1) : tFld K te f σ H Q := h
theorem w_ixT {p : Addr} {xs : List V} {j : Int} (h : H p = some (.tup xs)) (e : atI xs j = some v) (q : Q v H) : rIxT K (.ref p) (.int j) H Q := ⟨p, xs, j, v, rfl, rfl, SqT.of h, e, q⟩
theorem w_ixL {p : Addr} {xs : List V} {j : Int} (h : H p = some (.lst xs)) (e : atI xs j = some v) (q : Q v H) : rIxL K (.ref p) (.int j) H Q := ⟨p, xs, j, v, rfl, rfl, SqL.of h, e, q⟩
theorem w_dget (h : ta σ H fun x H1 => tb σ H1 fun y H2 => ∃ a v, x = .ref a ∧ DGet H2 a y (some v) ∧ Q v H2) : tDGet ta tb σ H Q := h
theorem w_din (h : ta σ H fun y H1 => tb σ H1 fun x H2 => ∃ a o, x = .ref a ∧ DGet H2 a y o ∧ Q (.bl o.isSome) H2) : tDIn ta tb σ H Q := h
theorem w_dnin (h : ta σ H fun y H1 => tb σ H1 fun x H2 => ∃ a o, x = .ref a ∧ DGet H2 a y o ∧ Q (.bl (!o.isSome)) H2) : tDNotIn ta tb σ H Q := h
theorem w_dgS {p : Addr} {kvs : List (Key × V)} {k : Str} (h : H p = some (.dK kvs)) (e : valV kvs (.inr k) = some v) {PV : V → Prop} (q : PV v) : ∃ a v, V.ref p = .ref a ∧ DGet H a (.str k) (some v) ∧ PV v :=
  ⟨p, v, rfl, by have z := DGet.k (k := Sum.inr k) h; rw [e] at z; exact z, q⟩
theorem w_dgI {p : Addr} {kvs : List (Key × V)} {k : Int} (h : H p = some (.dK kvs)) (e : valV kvs (.inl k) = some v) {PV : V → Prop} (q : PV v) : ∃ a v, V.ref p = .ref a ∧ DGet H a (.int k) (some v) ∧ PV v :=
  ⟨p, v, rfl, by have z := DGet.k (k := Sum.inl k) h; rw [e] at z; exact z, q⟩
theorem w_diS {p : Addr} {kvs : List (Key × V)} {k : Str} {PO : Option V → Prop} (h : H p = some (.dK kvs)) (q : PO (valV kvs (.inr k))) : ∃ a o, V.ref p = .ref a ∧ DGet H a (.str k) o ∧ PO o := ⟨p, _, rfl, DGet.k (k := Sum.inr k) h, q⟩
theorem w_diI {p : Addr} {kvs : List (Key × V)} {k : Int} {PO : Option V → Prop} (h : H p = some (.dK kvs)) (q : PO (valV kvs (.inl k))) : ∃ a o, V.ref p = .ref a ∧ DGet H a (.int k) o ∧ PO o := ⟨p, _, rfl, DGet.k (k := Sum.inl k) h, q⟩
theorem w_listT {p : Addr} {ys : List V} (h : H p = some (.tup ys)) (q : ∀ l H', Same H H' → H l = none → H' l = some (.lst ys) → Q (.ref l) H') : rListOf K [V.ref p] H Q := ⟨p, ys, rfl, .inr (SqT.of h), w_new q⟩
theorem w_listL {p : Addr} {ys : List V} (h : H p = some (.lst ys)) (q : ∀ l H', Same H H' → H l = none → H' l = some (.lst ys) → Q (.ref l) H') : rListOf K [V.ref p] H Q := ⟨p, ys, rfl, .inl (SqL.of h), w_new q⟩
theorem w_tupL {p : Addr} {ys : List V} (h : H p = some (.lst ys)) (q : ∀ l H', Same H H' → H l = none → H' l = some (.tup ys) → Q (.ref l) H') : rTupOf K [V.ref p] H Q := ⟨p, ys, rfl, .inl ⟨SqL.of h, w_new q⟩⟩
theorem w_lenL {p : Addr} {ys : List V} (h : H p = some (.lst ys)) (q : Q (.int ys.length) H) : rLenO K [V.ref p] H Q := ⟨p, ys, rfl, .inl (SqL.of h), q⟩
theorem w_lenT {p : Addr} {ys : List V} (h : H p = some (.tup ys)) (q : Q (.int ys.length) H) : rLenO K [V.ref p] H Q := ⟨p, ys, rfl, .inr (SqT.of h), q⟩
theorem w_sub {QS : St → Hp → Prop} {st : TSet} (h : ta σ H fun o H1 => tb σ H1 fun i H2 => st o i v H2 fun H3 => QS σ H3) : gSub ta tb st v σ H QS := h
theorem ixN_nat {n k : Nat} (h : k < n) : ixN n (k : Int) = some k := by
  unfold ixN
  rw [if_pos (by omega), if_pos (by omega)]
  simp
theorem w_setL {p : Addr} {xs : List V} {k : Nat} {QH : Hp → Prop} (h : H p = some (.lst xs)) (hk : k < xs.length) (q : QH (upd H p (.lst (xs.set k v)))) : rSetL (.ref p) (.int k) v H QH := ⟨p, xs, k, k, rfl, rfl, h, ixN_nat hk, q⟩
theorem w_lenD {p : Addr} {kvs : List (Key × V)} (h : H p = some (.dK kvs)) (q : Q (.int kvs.length) H) : rLenD [V.ref p] H Q := ⟨p, kvs, rfl, h, q⟩
theorem w_lenS {z : Str} (h : z.length ≤ 100000) (q : Q (.int z.length) H) : rLenS [V.str z] H Q := ⟨z, rfl, Nat.le_trans h (by decide), q⟩
theorem w_abs {j : Int} (q : Q (.int (if j < 0 then -j else j)) H) : rAbs [V.int j] H Q := ⟨j, rfl, q⟩
theorem w_intI {j : Int} (q : Q (.int j) H) : rInt1 [V.int j] H Q := .inl ⟨j, rfl, q⟩
theorem w_intB {b : Bool} (q : Q (.int (if b then 1 else 0)) H) : rInt1 [V.bl b] H Q := .inr ⟨b, rfl, q⟩
theorem w_is {T t : String} {b : Bool} (ht : tyN H x t) (hk : kitB t T = some b) (q : Q (.bl b) H) : rIs [x, .ty T] H Q := ⟨x, T, t, b, rfl, ht, hk, q⟩
theorem w_sl {r : V → Option Int → Option Int → Hp → VK → Prop} {tl th : TO} (h : te σ H fun x H1 => tl σ H1 fun l H2 => th σ H2 fun u H3 => r x l u H3 Q) : tSl r te tl th σ H Q := h
theorem w_nopart {QO : Option Int → Hp → Prop} (h : QO none H) : tNoPart σ H QO := h
theorem w_part {QO : Option Int → Hp → Prop} (h : te σ H fun x H1 => ∃ i, x = .int i ∧ QO (some i) H1) : tPart te σ H QO := h
theorem w_int {j : Int} {PI : Int → Prop} (h : PI j) : ∃ i, V.int j = .int i ∧ PI i := ⟨j, rfl, h⟩
theorem w_slW {p : Addr} {xs : List V} {lo hi : Option Int} (h : H p = some (.tup xs)) (e : HT.sIx xs.length 0 lo = 0 ∧ HT.sIx xs.length xs.length hi = xs.length) (q : Q (.ref p) H) : rSlA K (.ref p) lo hi H Q := ⟨p, xs, rfl, SqT.of h, fun _ => q, fun z => absurd e z⟩
theorem w_slP {p : Addr} {xs : List V} {lo hi : Option Int} (h : H p = some (.tup xs)) (e : ¬ (HT.sIx xs.length 0 lo = 0 ∧ HT.sIx xs.length xs.length hi = xs.length)) (q : ∀ r H', Same H H' → H r = none → H' r = some (.tup (cutV xs lo hi)) → Q (.ref r) H') :
    rSlA K (.ref p) lo hi H Q := ⟨p, xs, rfl, SqT.of h, fun z => absurd z e, fun _ => w_new q⟩
theorem sIx_one {n : Nat} : HT.sIx (n + 1) 0 (some 1) = 1 := by
  have h := HT.sIx_nat (n + 1) 0 1
  have e : ((1 : Nat) : Int) = 1 := rfl
  rw [e] at h
  rw [h]
  omega
theorem cut_one {x : V} {ys : List V} : cutV (x :: ys) (some 1) none = ys := by
  unfold cutV
  have e2 : HT.sIx (x :: ys).length (x :: ys).length none = ys.length + 1 := rfl
  have e1 : HT.sIx (x :: ys).length 0 (some 1) = 1 := sIx_one
  rw [e1, e2]
  show List.take (ys.length + 1 - 1) ys = ys
  rw [Nat.add_sub_cancel, List.take_length]
theorem w_sl1 {p : Addr} {x : V} {ys : List V} (h : H p = some (.tup (x :: ys))) (q : ∀ r H', Same H H' → H r = none → H' r = some (.tup ys) → Q (.ref r) H') : rSlA K (.ref p) (some 1) none H Q := by
  refine w_slP h (fun z => ?_) fun r H' s n e => q r H' s n (by rw [cut_one] at e; exact e)
  have e1 : HT.sIx (x :: ys).length 0 (some 1) = 1 := sIx_one
  rw [e1] at z
  exact absurd z.1 (by decide)
theorem w_cat {p r : Addr} {xs ys : List V} (h1 : H p = some (.tup xs)) (h2 : H r = some (.tup ys)) (z : xs.length + ys.length ≤ 100000) (hy : ys ≠ [])
    (q : ∀ t H', Same H H' → H' t = some (.tup (xs ++ ys)) → Q (.ref t) H') : rCatA K (.ref p) (.ref r) H Q := by
  refine ⟨p, r, xs, ys, rfl, rfl, SqT.of h1, SqT.of h2, Nat.le_trans z (by decide), fun e => ?_, fun _ e => absurd e hy, fun _ _ => w_new fun t H' s _ h => q t H' s h⟩
  subst e
  exact q r H (Same.refl H) h2
theorem w_kd {w : World} {p : Addr} {x : Str} (h : KDct K w p x v) (q : Q v H) : rIxD K w (.ref p) (.str x) H Q := ⟨p, x, v, rfl, rfl, h, q⟩
theorem w_meth {C : Addr} {m : Str} {sp : Sp} {dvs : List V} {E : XK} (h : ta σ H fun x H1 => ∃ a dx fs, x = .ref a ∧ H1 a = some (.ins C dx fs) ∧ fs.lookup m = none ∧ tA σ H1 fun vs H2 => sp (x :: (vs ++ dvs)) H2 Q E) : tMeth C m sp dvs E ta tA σ H Q := h
theorem w_mobj {p C dx : Addr} {fs : List (Str × V)} {m : Str} {R : Prop} (h : H p = some (.ins C dx fs)) (hl : fs.lookup m = none) (q : R) : ∃ a dx fs, V.ref p = .ref a ∧ H a = some (.ins C dx fs) ∧ fs.lookup m = none ∧ R := ⟨p, dx, fs, rfl, h, hl, q⟩
theorem w_make {C : Addr} {sp : Sp} {dvs : List V} {E : XK} (h : tA σ H fun vs H1 => ∀ x dx, H1 x = none → H1 dx = none → dx ≠ x → sp (.ref x :: (vs ++ dvs)) (upd (upd H1 dx (.own x)) x (.ins C dx [])) (fun v H2 => v = .non ∧ Q (.ref x) H2) E) : tMake C sp dvs E tA σ H Q := h
theorem w_dput {td ty : TE} (h : te σ H fun v H1 => td σ H1 fun x H2 => ty σ H2 fun y H3 => ∃ a H4, x = .ref a ∧ DPut H3 a y v H4 ∧ D.nx σ H4) : sDPut td ty te D σ H := h
theorem w_dpS {p : Addr} {kvs : List (Key × V)} {k : Str} {PH : Hp → Prop} (h : H p = some (.dK kvs)) (z : kvs.length ≤ 100000) (q : PH (upd H p (.dK (putK kvs (.inr k) v)))) : ∃ a H4, V.ref p = .ref a ∧ DPut H a (.str k) v H4 ∧ PH H4 :=
  ⟨p, _, rfl, DPut.k (k := Sum.inr k) h (Nat.lt_of_le_of_lt z (by decide)), q⟩
theorem w_dpI {p : Addr} {kvs : List (Key × V)} {k : Int} {PH : Hp → Prop} (h : H p = some (.dK kvs)) (z : kvs.length ≤ 100000) (q : PH (upd H p (.dK (putK kvs (.inl k) v)))) : ∃ a H4, V.ref p = .ref a ∧ DPut H a (.int k) v H4 ∧ PH H4 :=
  ⟨p, _, rfl, DPut.k (k := Sum.inl k) h (Nat.lt_of_le_of_lt z (by decide)), q⟩
theorem w_sfld {f : Str} (h : te σ H fun y H1 => ta σ H1 fun x H2 => ∃ a C dx fs, x = .ref a ∧ H2 a = some (.ins C dx fs) ∧ Cls K C ∧ NoAttr K C f ∧ fs.length < 1000 ∧ D.nx σ (upd H2 a (.ins C dx (putF f y fs)))) : sFld K ta te f D σ H := h
theorem w_sobj {p C dx : Addr} {fs : List (Str × V)} {f : Str} {PH : Hp → Prop} (h : H p = some (.ins C dx fs)) (hc : Cls K C) (hn : NoAttr K C f) (hl : fs.length < 1000) (q : PH (upd H p (.ins C dx (putF f v fs)))) :
    ∃ a C dx fs, V.ref p = .ref a ∧ H a = some (.ins C dx fs) ∧ Cls K C ∧ NoAttr K C f ∧ fs.length < 1000 ∧ PH (upd H a (.ins C dx (putF f v fs))) := ⟨p, C, dx, fs, rfl, h, hc, hn, hl, q⟩
theorem w_par {j : Nat} (h : tA σ H fun vs H1 => ∃ v w, vs = [v, w] ∧ D.nx ((σ.set i (some v)).set j (some w)) H1) : tPar i j tA D σ H := h
theorem w_pair {PP : V → V → Prop} (q : PP x y) : ∃ v w, [x, y] = [v, w] ∧ PP v w := ⟨x, y, rfl, q⟩
theorem w_dnew (h : ∀ p H', Same H H' → H p = none → H' p = some (.dK []) → Q (.ref p) H') : tDNewK σ H Q := w_new h
theorem putF_nil {f : Str} : putF f v [] = [(f, v)] := rfl
theorem putF_ne {f k : Str} {r : List (Str × V)} (h : ¬ k = f) : putF f v ((k, x) :: r) = (k, x) :: putF f v r := by
  show (if k = f then _ else _) = _
  rw [if_neg h]
theorem w_chain {r r' : R2} (h : ta σ H fun x H1 => tb σ H1 fun y H2 => r x y H2 fun z H3 => ∃ k, z = .bl k ∧ (if k = true then tc σ H3 fun w' H4 => r' y w' H4 Q else Q (.bl false) H3)) : tChain r r' ta tb tc σ H Q := h
theorem w_all {p : Addr} {bs : List Bool} (h : H p = some (.lst (bs.map V.bl))) (q : Q (.bl (bs.all id)) H) : L2.rAll K [V.ref p] H Q := ⟨p, bs, rfl, SqL.of h, q⟩
theorem w_fldaug {f : Str} {rd : V → V → Hp → VK → Prop} (h : ta σ H fun x H1 => ∃ a C dx fs v, x = .ref a ∧ H1 a = some (.ins C dx fs) ∧ Cls K C ∧ NoAttr K C f ∧ fs.lookup f = some v ∧
    te σ H1 fun y H2 => rd v y H2 fun z H3 => ∃ dx' fs', H3 a = some (.ins C dx' fs') ∧ fs'.length < 1000 ∧ D.nx σ (upd H3 a (.ins C dx' (putF f z fs')))) : sFldAug K ta te rd f D σ H := h
theorem w_aug1 {p C dx : Addr} {fs : List (Str × V)} {f : Str} {R : Addr → Addr → V → Prop} (h : H p = some (.ins C dx fs)) (hc : Cls K C) (hn : NoAttr K C f) (hl : fs.lookup f = some v) (q : R p C v) :
    ∃ a C dx fs v, V.ref p = .ref a ∧ H a = some (.ins C dx fs) ∧ Cls K C ∧ NoAttr K C f ∧ fs.lookup f = some v ∧ R a C v := ⟨p, C, dx, fs, v, rfl, h, hc, hn, hl, q⟩
theorem w_radd {j k : Int} (q : Q (.int (j + k)) H) : L2.rAdd (.int j) (.int k) H Q := ⟨j, k, rfl, rfl, q⟩
theorem w_aug2 {p C dx : Addr} {fs : List (Str × V)} {f : Str} {PH : Hp → Prop} (h : H p = some (.ins C dx fs)) (hl : fs.length < 1000) (q : PH (upd H p (.ins C dx (putF f v fs)))) :
    ∃ dx' fs', H p = some (.ins C dx' fs') ∧ fs'.length < 1000 ∧ PH (upd H p (.ins C dx' (putF f v fs'))) := ⟨dx, fs, h, hl, q⟩
theorem w_bm {T : String} {r : V → List V → Hp → VK → Prop} (h : ta σ H fun x H1 => tyV K T x H1 ∧ tA σ H1 fun xs H2 => r x xs H2 Q) : tBM K T r ta tA σ H Q := h
theorem w_bm0 {T : String} {r : V → List V → Hp → VK → Prop} (h : ta σ H fun x H1 => tyV K T x H1 ∧ r x [] H1 Q) : tBM0 K T r ta σ H Q := h
theorem w_tyL {p : Addr} {xs : List V} {R : Prop} (h : H p = some (.lst xs)) (q : R) : tyV K "list" (.ref p) H ∧ R := ⟨.inl ⟨rfl, _, SqL.of h⟩, q⟩
theorem w_append {p : Addr} {xs : List V} (h : H p = some (.lst xs)) (z : xs.length ≤ 100000) (q : Q .non (upd H p (.lst (xs ++ [v])))) : rAppend (.ref p) [v] H Q := ⟨p, xs, v, rfl, rfl, h, Nat.lt_of_le_of_lt z (by decide), q⟩
theorem w_extend {p r : Addr} {xs zs : List V} (h : H p = some (.lst xs)) (h2 : H r = some (.lst zs)) (z : xs.length + zs.length ≤ 100000) (q : Q .non (upd H p (.lst (xs ++ zs)))) : rExtend (.ref p) [.ref r] H Q := ⟨p, r, xs, zs, rfl, rfl, h, h2, Nat.le_trans z (by decide), q⟩
theorem w_pop {p : Addr} {xs : List V} (h : H p = some (.lst (xs ++ [v]))) (q : Q v (upd H p (.lst xs))) : rPop (.ref p) [] H Q := by
  refine ⟨p, xs ++ [v], v, rfl, rfl, h, by simp, ?_⟩
  rw [List.dropLast_concat]
  exact q
theorem w_notT (h : ta σ H fun x H1 => ∃ k, TruV K x H1 k ∧ Q (.bl (!k)) H1) : tNotT K ta σ H Q := h
theorem w_isN (h : ta σ H fun x H1 => Q (.bl (decide (x = .non))) H1) : tIsN ta σ H Q := h
theorem w_truL {p : Addr} {xs : List V} {PB : Bool → Prop} (h : H p = some (.lst xs)) (q : PB (!xs.isEmpty)) : ∃ k, TruV K (.ref p) H k ∧ PB k := ⟨_, .inl ⟨xs, SqL.of h, rfl⟩, q⟩
theorem w_truT {p : Addr} {xs : List V} {PB : Bool → Prop} (h : H p = some (.tup xs)) (q : PB (!xs.isEmpty)) : ∃ k, TruV K (.ref p) H k ∧ PB k := ⟨_, .inr (.inl ⟨xs, SqT.of h, rfl⟩), q⟩
theorem w_truTn {p : Addr} {xs : List V} {PB : Bool → Prop} (h : H p = some (.tup xs)) (n : xs ≠ []) (q : PB true) : ∃ k, TruV K (.ref p) H k ∧ PB k := by
  refine ⟨true, .inr (.inl ⟨xs, SqT.of h, ?_⟩), q⟩
  cases xs with
  | nil => exact absurd rfl n
  | cons x r => rfl
theorem w_truT0 {p : Addr} {PB : Bool → Prop} (h : H p = some (.tup [])) (q : PB false) : ∃ k, TruV K (.ref p) H k ∧ PB k := ⟨_, .inr (.inl ⟨[], SqT.of h, rfl⟩), q⟩
theorem w_truLn {p : Addr} {xs : List V} {PB : Bool → Prop} (h : H p = some (.lst xs)) (n : xs ≠ []) (q : PB true) : ∃ k, TruV K (.ref p) H k ∧ PB k := by
  refine ⟨true, .inl ⟨xs, SqL.of h, ?_⟩, q⟩
  cases xs with
  | nil => exact absurd rfl n
  | cons x r => rfl
theorem w_truL0 {p : Addr} {PB : Bool → Prop} (h : H p = some (.lst [])) (q : PB false) : ∃ k, TruV K (.ref p) H k ∧ PB k := ⟨_, .inl ⟨[], SqL.of h, rfl⟩, q⟩
theorem w_inT {p : Addr} {xs : List V} (h : H p = some (.tup xs)) (hx : flatV x = true) (hy : xs.all flatV = true) (q : Q (.bl (inV x xs)) H) : rIn K false x (.ref p) H Q := ⟨p, xs, rfl, .inr (SqT.of h), hx, hy, q⟩
theorem w_ninT {p : Addr} {xs : List V} (h : H p = some (.tup xs)) (hx : flatV x = true) (hy : xs.all flatV = true) (q : Q (.bl (!inV x xs)) H) : rIn K true x (.ref p) H Q := ⟨p, xs, rfl, .inr (SqT.of h), hx, hy, q⟩
theorem w_T {A B : Prop} (h : A) : if true = true then A else B := by rw [if_pos rfl]; exact h
theorem w_F {A B : Prop} (h : B) : if false = true then A else B := by rw [if_neg Bool.false_ne_true]; exact h
theorem w_T0 {A B : Prop} (h : A) : if (!false) = true then A else B := by rw [if_pos (by decide)]; exact h
theorem w_F0 {A B : Prop} (h : B) : if (!true) = true then A else B := by rw [if_neg (by decide)]; exact h
theorem w_T' {A B : Prop} {b : Bool} (e : b = true) (h : A) : if b = true then A else B := by rw [if_pos e]; exact h
theorem w_F' {A B : Prop} {b : Bool} (e : b = false) (h : B) : if b = true then A else B := by rw [e]; exact w_F h
theorem w_b {A B : Prop} {b : Bool} (h1 : b = true → A) (h2 : b = false → B) : if b = true then A else B := by
  cases b with
  | true => exact w_T (h1 rfl)
  | false => exact w_F (h2 rfl)
/-- both ways of a choice give one value -/
theorem w_ifval {b : Bool} {σ : St} {H : Hp} {Q : VK} {ta tb : TE} {v : V} (h1 : b = true → ∀ Q' : VK, Q' v H → ta σ H Q') (h2 : b = false → ∀ Q' : VK, Q' v H → tb σ H Q') (q : Q v H) : if b = true then ta σ H Q else tb σ H Q := by
  cases b with
  | true => exact w_T (h1 rfl Q q)
  | false => exact w_F (h2 rfl Q q)
theorem w_dT {p : Prop} [Decidable p] {A B : Prop} (hp : p) (h : A) : if decide p = true then A else B := by rw [decide_eq_true hp]; exact w_T h
theorem w_dF {p : Prop} [Decidable p] {A B : Prop} (hp : ¬ p) (h : B) : if decide p = true then A else B := by rw [decide_eq_false hp]; exact w_F h
theorem w_d {p : Prop} [Decidable p] {A B : Prop} (h1 : p → A) (h2 : ¬ p → B) : if decide p = true then A else B := by
  by_cases h : p
  · exact w_dT h (h1 h)
  · exact w_dF h (h2 h)
theorem w_nT {p : Prop} [Decidable p] {A B : Prop} (hp : ¬ p) (h : A) : if (!decide p) = true then A else B := by rw [decide_eq_false hp]; exact w_T h
theorem w_nF {p : Prop} [Decidable p] {A B : Prop} (hp : p) (h : B) : if (!decide p) = true then A else B := by rw [decide_eq_true hp]; exact w_F h
/-- an int at a place of a text's tuple -/
theorem w_obj {p C dx : Addr} {fs : List (Str × V)} {f : Str} (h : H p = some (.ins C dx fs)) (hc : Cls K C) (hn : NoAttr K C f) (hl : fs.lookup f = some v) {PV : V → Prop} (q : PV v) :
    ∃ a C dx fs v, V.ref p = .ref a ∧ H a = some (.ins C dx fs) ∧ Cls K C ∧ NoAttr K C f ∧ fs.lookup f = some v ∧ PV v := ⟨p, C, dx, fs, v, rfl, h, hc, hn, hl, q⟩
/-! ### loops -/
def ForR (J : It) (g : TG) (tb : TS) (D : Ends) (σ : St) (H1 : Hp) : Prop := ∃ W : Nat → Nat → St → Hp → Prop, (∃ m, W 0 m σ H1) ∧ ∀ i m σ H, W i m σ H →
  (J.stop i H ∧ D.nx σ H) ∨ (J.go i H ∧ ∃ N : St → Hp → Prop, (∀ σ' H', N σ' H' → ∃ m', m' < m ∧ W (i + 1) m' σ' H') ∧ ∀ x H', J.yld i H x H' → g x σ H' fun σ2 H2 => tb { D with nx := N, ct := N, bk := D.nx } σ2 H2)
def RngR (g : TG) (tb : TS) (D : Ends) (σ : St) (vs : List V) (H1 : Hp) : Prop := ∃ j : Int, vs = [.int j] ∧ -(2 ^ 62) ≤ j ∧ j < 2 ^ 62 ∧ ForR (Itr 0 j.toNat) g tb D σ H1
def LstR (K : PySem.W.Frag) (g : TG) (tb : TS) (D : Ends) (σ : St) (x : V) (H1 : Hp) : Prop := ∃ a, x = .ref a ∧ (∃ xs, SqL K H1 a xs) ∧ ForR (Itl K a) g tb D σ H1
def TupR (K : PySem.W.Frag) (g : TG) (tb : TS) (D : Ends) (σ : St) (x : V) (H1 : Hp) : Prop := ∃ a, x = .ref a ∧ (∃ xs, SqT K H1 a xs) ∧ ForR (Itt K a) g tb D σ H1
section
variable {g : TG} {tb : TS} {D : Ends} {σ : St} {H : Hp} {tA : TA} {te : TE} {K : PySem.W.Frag}
theorem w_forR (h : tA σ H fun vs H1 => RngR g tb D σ vs H1) : tFor (iRng1 tA) g tb D σ H := h
theorem w_forL (h : te σ H fun x H1 => LstR K g tb D σ x H1) : tFor (iList K te) g tb D σ H := h
theorem w_forT (h : te σ H fun x H1 => TupR K g tb D σ x H1) : tFor (iTup K te) g tb D σ H := h
theorem w_rng {n : Nat} (Pv : Nat → St → Hp → Prop) (hn : n ≤ 1000000) (h0 : Pv 0 σ H)
    (hs : ∀ i σ H, i < n → Pv i σ H → g (.int (i : Nat)) σ H fun σ2 H2 => tb { D with nx := Pv (i + 1), ct := Pv (i + 1), bk := D.nx } σ2 H2) (hd : ∀ σ H, Pv n σ H → D.nx σ H) : RngR g tb D σ [.int (n : Nat)] H := by
  refine ⟨(n : Int), rfl, by omega, by omega, ?_⟩
  rw [Int.toNat_natCast]
  refine for_range (lo := 0) (n := n) Pv h0 (fun i σ H hi h => ?_) hd
  rw [Int.zero_add]
  exact hs i σ H hi h
theorem w_lst {a : Addr} {xs : List V} (Pv : Nat → St → Hp → Prop) (h0 : Pv 0 σ H) (hl : ∀ i σ H, i ≤ xs.length → Pv i σ H → H a = some (.lst xs))
    (hs : ∀ i x σ H, xs[i]? = some x → Pv i σ H → g x σ H fun σ2 H2 => tb { D with nx := Pv (i + 1), ct := Pv (i + 1), bk := D.nx } σ2 H2) (hd : ∀ σ H, Pv xs.length σ H → D.nx σ H) : LstR K g tb D σ (.ref a) H :=
  ⟨a, rfl, ⟨xs, SqL.of (hl 0 σ H (Nat.zero_le _) h0)⟩, for_list Pv h0 (fun i σ H z p => SqL.of (hl i σ H z p)) hs hd⟩
theorem w_tpl {a : Addr} {xs : List V} (Pv : Nat → St → Hp → Prop) (h0 : Pv 0 σ H) (hl : ∀ i σ H, i ≤ xs.length → Pv i σ H → H a = some (.tup xs))
    (hs : ∀ i x σ H, xs[i]? = some x → Pv i σ H → g x σ H fun σ2 H2 => tb { D with nx := Pv (i + 1), ct := Pv (i + 1), bk := D.nx } σ2 H2) (hd : ∀ σ H, Pv xs.length σ H → D.nx σ H) : TupR K g tb D σ (.ref a) H :=
  ⟨a, rfl, ⟨xs, SqT.of (hl 0 σ H (Nat.zero_le _) h0)⟩, for_tup Pv h0 (fun i σ H z p => SqT.of (hl i σ H z p)) hs hd⟩
end
end
section
variable {tb : TS} {D : Ends} {σ : St} {H : Hp} {c : TT}
theorem w_while (W : Nat → St → Hp → Prop) (m0 : Nat) (h0 : W m0 σ H) (hs : ∀ m σ H, W m σ H → c σ H fun b H1 => if b = true then tb { D with nx := fun σ' H' => ∃ m', m' < m ∧ W m' σ' H', ct := fun σ' H' => ∃ m', m' < m ∧ W m' σ' H', bk := D.nx } σ H1 else D.nx σ H1)
    (mono : ∀ σ H Q Q', (∀ b H1, Q b H1 → Q' b H1) → c σ H Q → c σ H Q') : tWhile c tb D σ H := by
  refine ⟨W, ⟨m0, h0⟩, fun m σ H w => mono σ H _ _ (fun b H1 q => ?_) (hs m σ H w)⟩
  cases b with
  | true =>
    rw [if_pos rfl] at q ⊢
    exact ⟨_, fun _ _ z => z, q⟩
  | false => exact q
end
/-! ### comprehensions -/
def LcR (J : It) (g : TG) (tt : TT) (te : TE) (vs : List Nat) (σ : St) (H1 : Hp) (Q : VK) : Prop := ∀ D, H1 D = none → ∃ W : Nat → Nat → Hp → Prop, (∃ m, W 0 m (upd H1 D (.lst []))) ∧ ∀ i m H, W i m H →
  (J.stop i H ∧ Q (.ref D) H) ∨ (J.go i H ∧ ∃ Nx : Hp → Prop, (∀ H', Nx H' → ∃ m', m' < m ∧ W (i + 1) m' H') ∧ ∀ x H', J.yld i H x H' → g x (wipe σ vs) H' fun σ2 H2 => wipe σ2 vs = wipe σ vs ∧ tt σ2 H2 fun b H3 =>
    if b = true then te σ2 H3 fun y H4 => ∃ acc, H4 D = some (.lst acc) ∧ acc.length < sizeLine ∧ Nx (upd H4 D (.lst (acc ++ [y]))) else Nx H3)
def DcR (J : It) (g : TG) (tt : TT) (tk tv : TE) (vs : List Nat) (σ : St) (H1 : Hp) (Q : VK) : Prop := ∀ D, H1 D = none → ∃ W : Nat → Nat → Hp → Prop, (∃ m, W 0 m (upd H1 D (.dK []))) ∧ ∀ i m H, W i m H →
  (J.stop i H ∧ Q (.ref D) H) ∨ (J.go i H ∧ ∃ Nx : Hp → Prop, (∀ H', Nx H' → ∃ m', m' < m ∧ W (i + 1) m' H') ∧ ∀ x H', J.yld i H x H' → g x (wipe σ vs) H' fun σ2 H2 => wipe σ2 vs = wipe σ vs ∧ tt σ2 H2 fun b H3 =>
    if b = true then tk σ2 H3 fun y H4 => tv σ2 H4 fun z H5 => ∃ kvs k, y = kV k ∧ H5 D = some (.dK kvs) ∧ kvs.length < sizeLine ∧ Nx (upd H5 D (.dK (putK kvs k z))) else Nx H3)
def LcRng (g : TG) (tt : TT) (te : TE) (vs : List Nat) (σ : St) (us : List V) (H1 : Hp) (Q : VK) : Prop := ∃ j : Int, us = [.int j] ∧ -(2 ^ 62) ≤ j ∧ j < 2 ^ 62 ∧ LcR (Itr 0 j.toNat) g tt te vs σ H1 Q
def DcRng (g : TG) (tt : TT) (tk tv : TE) (vs : List Nat) (σ : St) (us : List V) (H1 : Hp) (Q : VK) : Prop := ∃ j : Int, us = [.int j] ∧ -(2 ^ 62) ≤ j ∧ j < 2 ^ 62 ∧ DcR (Itr 0 j.toNat) g tt tk tv vs σ H1 Q
def LcLst (K : PySem.W.Frag) (g : TG) (tt : TT) (te : TE) (vs : List Nat) (σ : St) (x : V) (H1 : Hp) (Q : VK) : Prop := ∃ a, x = .ref a ∧ (∃ xs, SqL K H1 a xs) ∧ LcR (Itl K a) g tt te vs σ H1 Q
def LcTup (K : PySem.W.Frag) (g : TG) (tt : TT) (te : TE) (vs : List Nat) (σ : St) (x : V) (H1 : Hp) (Q : VK) : Prop := ∃ a, x = .ref a ∧ (∃ xs, SqT K H1 a xs) ∧ LcR (Itt K a) g tt te vs σ H1 Q
def DcTup (K : PySem.W.Frag) (g : TG) (tt : TT) (tk tv : TE) (vs : List Nat) (σ : St) (x : V) (H1 : Hp) (Q : VK) : Prop := ∃ a, x = .ref a ∧ (∃ xs, SqT K H1 a xs) ∧ DcR (Itt K a) g tt tk tv vs σ H1 Q
section
variable {g : TG} {tt : TT} {te tk tv tx : TE} {vs : List Nat} {σ : St} {H : Hp} {Q : VK} {tA : TA} {K : PySem.W.Frag}
theorem w_lcR (h : tA σ H fun us H1 => LcRng g tt te vs σ us H1 Q) : tLc (iRng1 tA) g tt te vs σ H Q := h
theorem w_dcR (h : tA σ H fun us H1 => DcRng g tt tk tv vs σ us H1 Q) : tDc (iRng1 tA) g tt tk tv vs σ H Q := h
theorem w_lcL (h : tx σ H fun x H1 => LcLst K g tt te vs σ x H1 Q) : tLc (iList K tx) g tt te vs σ H Q := h
theorem w_lcT (h : tx σ H fun x H1 => LcTup K g tt te vs σ x H1 Q) : tLc (iTup K tx) g tt te vs σ H Q := h
theorem w_dcT (h : tx σ H fun x H1 => DcTup K g tt tk tv vs σ x H1 Q) : tDc (iTup K tx) g tt tk tv vs σ H Q := h
theorem w_yes {QB : Bool → Hp → Prop} (h : QB true H) : tYes σ H QB := h
theorem w_lcrng {n : Nat} (hn : n ≤ 1000000) (h : ∀ D, H D = none → ∃ Pv : Nat → Hp → Prop, Pv 0 (upd H D (.lst [])) ∧ (∀ i H', i < n → Pv i H' → g (.int (i : Nat)) (wipe σ vs) H' fun σ2 H2 => wipe σ2 vs = wipe σ vs ∧ tt σ2 H2 fun b H3 =>
      if b = true then te σ2 H3 fun y H4 => ∃ acc, H4 D = some (.lst acc) ∧ acc.length < sizeLine ∧ Pv (i + 1) (upd H4 D (.lst (acc ++ [y]))) else Pv (i + 1) H3) ∧ ∀ H', Pv n H' → Q (.ref D) H') : LcRng g tt te vs σ [.int (n : Nat)] H Q := by
  refine ⟨(n : Int), rfl, by omega, by omega, fun D hD => ?_⟩
  obtain ⟨Pv, h0, hs, hd⟩ := h D hD
  rw [Int.toNat_natCast]
  refine lc_range (lo := 0) (n := n) Pv h0 (fun i H hi p => ?_) hd
  rw [Int.zero_add]
  exact hs i H hi p
theorem w_dcrng {n : Nat} (hn : n ≤ 1000000) (h : ∀ D, H D = none → ∃ Pv : Nat → Hp → Prop, Pv 0 (upd H D (.dK [])) ∧ (∀ i H', i < n → Pv i H' → g (.int (i : Nat)) (wipe σ vs) H' fun σ2 H2 => wipe σ2 vs = wipe σ vs ∧ tt σ2 H2 fun b H3 =>
      if b = true then tk σ2 H3 fun y H4 => tv σ2 H4 fun z H5 => ∃ kvs k, y = kV k ∧ H5 D = some (.dK kvs) ∧ kvs.length < sizeLine ∧ Pv (i + 1) (upd H5 D (.dK (putK kvs k z))) else Pv (i + 1) H3) ∧ ∀ H', Pv n H' → Q (.ref D) H') : DcRng g tt tk tv vs σ [.int (n : Nat)] H Q := by
  refine ⟨(n : Int), rfl, by omega, by omega, fun D hD => ?_⟩
  obtain ⟨Pv, h0, hs, hd⟩ := h D hD
  rw [Int.toNat_natCast]
  refine ⟨fun i m H => m = n - i ∧ i ≤ n ∧ Pv i H, ⟨n, by simp, Nat.zero_le _, h0⟩, ?_⟩
  rintro i m H ⟨rfl, hi, p⟩
  by_cases hlt : i < n
  · refine .inr ⟨hlt, Pv (i + 1), fun H' p' => ⟨n - (i + 1), by omega, rfl, hlt, p'⟩, fun x H' y => ?_⟩
    obtain ⟨e1, e2⟩ := y
    subst e1
    subst e2
    rw [Int.zero_add]
    exact hs i _ hlt p
  · have e : i = n := by omega
    subst e
    exact .inl ⟨Nat.le_refl _, hd H p⟩
theorem w_lclst {a : Addr} {xs : List V} (ha : H a = some (.lst xs)) (h : ∀ D, H D = none → ∃ Pv : Nat → Hp → Prop, Pv 0 (upd H D (.lst [])) ∧ (∀ i H', i ≤ xs.length → Pv i H' → H' a = some (.lst xs)) ∧ (∀ i x H', xs[i]? = some x → Pv i H' → g x (wipe σ vs) H' fun σ2 H2 => wipe σ2 vs = wipe σ vs ∧ tt σ2 H2 fun b H3 =>
      if b = true then te σ2 H3 fun y H4 => ∃ acc, H4 D = some (.lst acc) ∧ acc.length < sizeLine ∧ Pv (i + 1) (upd H4 D (.lst (acc ++ [y]))) else Pv (i + 1) H3) ∧ ∀ H', Pv xs.length H' → Q (.ref D) H') : LcLst K g tt te vs σ (.ref a) H Q := by
  refine ⟨a, rfl, ⟨xs, SqL.of ha⟩, fun D hD => ?_⟩
  obtain ⟨Pv, h0, hl, hs, hd⟩ := h D hD
  exact lc_list Pv h0 (fun i H z p => SqL.of (hl i H z p)) hs hd
theorem w_lctup {a : Addr} {xs : List V} (ha : H a = some (.tup xs)) (h : ∀ D, H D = none → ∃ Pv : Nat → Hp → Prop, Pv 0 (upd H D (.lst [])) ∧ (∀ i H', i ≤ xs.length → Pv i H' → H' a = some (.tup xs)) ∧ (∀ i x H', xs[i]? = some x → Pv i H' → g x (wipe σ vs) H' fun σ2 H2 => wipe σ2 vs = wipe σ vs ∧ tt σ2 H2 fun b H3 =>
      if b = true then te σ2 H3 fun y H4 => ∃ acc, H4 D = some (.lst acc) ∧ acc.length < sizeLine ∧ Pv (i + 1) (upd H4 D (.lst (acc ++ [y]))) else Pv (i + 1) H3) ∧ ∀ H', Pv xs.length H' → Q (.ref D) H') : LcTup K g tt te vs σ (.ref a) H Q := by
  refine ⟨a, rfl, ⟨xs, SqT.of ha⟩, fun D hD => ?_⟩
  obtain ⟨Pv, h0, hl, hs, hd⟩ := h D hD
  exact lc_tup Pv h0 (fun i H z p => SqT.of (hl i H z p)) hs hd
theorem w_dctup {a : Addr} {xs : List V} (ha : H a = some (.tup xs)) (h : ∀ D, H D = none → ∃ Pv : Nat → Hp → Prop, Pv 0 (upd H D (.dK [])) ∧ (∀ i H', i ≤ xs.length → Pv i H' → H' a = some (.tup xs)) ∧ (∀ i x H', xs[i]? = some x → Pv i H' → g x (wipe σ vs) H' fun σ2 H2 => wipe σ2 vs = wipe σ vs ∧ tt σ2 H2 fun b H3 =>
      if b = true then tk σ2 H3 fun y H4 => tv σ2 H4 fun z H5 => ∃ kvs k, y = kV k ∧ H5 D = some (.dK kvs) ∧ kvs.length < sizeLine ∧ Pv (i + 1) (upd H5 D (.dK (putK kvs k z))) else Pv (i + 1) H3) ∧ ∀ H', Pv xs.length H' → Q (.ref D) H') : DcTup K g tt tk tv vs σ (.ref a) H Q := by
  refine ⟨a, rfl, ⟨xs, SqT.of ha⟩, fun D hD => ?_⟩
  obtain ⟨Pv, h0, hl, hs, hd⟩ := h D hD
  exact dc_tup Pv h0 (fun i H z p => SqT.of (hl i H z p)) hs hd
theorem w_acc {D : Addr} {acc : List V} {PL : List V → Prop} (h : H D = some (.lst acc)) (z : acc.length ≤ 100000) (q : PL acc) : ∃ acc, H D = some (.lst acc) ∧ acc.length < sizeLine ∧ PL acc := ⟨acc, h, Nat.lt_of_le_of_lt z (by decide), q⟩
theorem w_dacS {D : Addr} {kvs : List (Key × V)} {k : Str} {PL : List (Key × V) → Key → Prop} (h : H D = some (.dK kvs)) (z : kvs.length ≤ 100000) (q : PL kvs (.inr k)) : ∃ kvs k', V.str k = kV k' ∧ H D = some (.dK kvs) ∧ kvs.length < sizeLine ∧ PL kvs k' :=
  ⟨kvs, .inr k, rfl, h, Nat.lt_of_le_of_lt z (by decide), q⟩
end
theorem w_ifvalH {b : Bool} {σ : St} {H : Hp} {Q : VK} {ta tb : TE} {v : V} {PH : Hp → Prop} (h1 : b = true → ∀ Q' : VK, (∀ H', PH H' → Q' v H') → ta σ H Q') (h2 : b = false → ∀ Q' : VK, (∀ H', PH H' → Q' v H') → tb σ H Q') (q : ∀ H', PH H' → Q v H') :
    if b = true then ta σ H Q else tb σ H Q := by
  cases b with
  | true => exact w_T (h1 rfl Q q)
  | false => exact w_F (h2 rfl Q q)
theorem k_int_int : kitB "int" "int" = some true := by decide +kernel
theorem k_int_str : kitB "int" "str" = some false := by decide +kernel
theorem k_int_bool : kitB "int" "bool" = some false := by decide +kernel
theorem k_int_tuple : kitB "int" "tuple" = some false := by decide +kernel
theorem k_str_int : kitB "str" "int" = some false := by decide +kernel
theorem k_str_str : kitB "str" "str" = some true := by decide +kernel
theorem k_str_bool : kitB "str" "bool" = some false := by decide +kernel
theorem k_str_tuple : kitB "str" "tuple" = some false := by decide +kernel
theorem k_bool_int : kitB "bool" "int" = some true := by decide +kernel
theorem k_bool_str : kitB "bool" "str" = some false := by decide +kernel
theorem k_bool_bool : kitB "bool" "bool" = some true := by decide +kernel
theorem k_bool_tuple : kitB "bool" "tuple" = some false := by decide +kernel
theorem k_tuple_int : kitB "tuple" "int" = some false := by decide +kernel
theorem k_tuple_str : kitB "tuple" "str" = some false := by decide +kernel
theorem k_tuple_bool : kitB "tuple" "bool" = some false := by decide +kernel
theorem k_tuple_tuple : kitB "tuple" "tuple" = some true := by decide +kernel
theorem k_NoneType_int : kitB "NoneType" "int" = some false := by decide +kernel
theorem k_NoneType_str : kitB "NoneType" "str" = some false := by decide +kernel
theorem k_NoneType_bool : kitB "NoneType" "bool" = some false := by decide +kernel
theorem k_NoneType_tuple : kitB "NoneType" "tuple" = some false := by decide +kernel
end Kt
end -- KStep
section -- KSem
set_option Elab.async false
set_option linter.all false
set_option maxRecDepth 100000
set_option maxHeartbeats 4000000
/-! KSem: what changes and conditions do; they can be taken back. -/
namespace Kt
open PySem L2

def binVal (g : Str) (a b : Int) : Int :=
  if g = "+" then a + b else if g = "-" then a - b else if g = "*" then a * b else if g = "&" then Builtin.bitAnd a b else if g = "|" then Builtin.bitOr a b else Builtin.bitXor a b
section
variable (vars : List Str) (w : Nat)
def At.val (s : List Int) : At → Int
  | .num i => i
  | .var x => s.getD (vars.idxOf x) 0
def Ex.val (s : List Int) : Ex → Int
  | .at_ a => a.val vars s
  | .bin g a b => binVal g (a.val vars s) (b.val vars s) % 2 ^ w
def Cd.val (s : List Int) (c : Cd) : Bool :=
  if c.rel = "==" then decide (c.a.val vars s = c.b.val vars s) else if c.rel = "!=" then !decide (c.a.val vars s = c.b.val vars s) else decide (c.a.val vars s < c.b.val vars s)
def Ex.other : Ex → Str
  | .at_ (.var y) => y
  | _ => ""
def Pr.act (p : Pr) (s : List Int) : List Int :=
  let i := vars.idxOf p.x
  let x := s.getD i 0
  if p.w = "swap" then
    let j := vars.idxOf p.o.other
    (s.set i (s.getD j 0)).set j x
  else if p.w = "+=" then s.set i ((x + p.o.val vars w s) % 2 ^ w)
  else if p.w = "-=" then s.set i ((x - p.o.val vars w s) % 2 ^ w)
  else s.set i (Builtin.bitXor x (p.o.val vars w s))
def undW (w : Str) : Str := if w = "+=" then "-=" else if w = "-=" then "+=" else w
def Pr.und (p : Pr) : Pr := { p with w := undW p.w }
end

def At.ok (vars : List Str) (n : Int) : At → Prop
  | .num i => 0 ≤ i ∧ i < n
  | .var x => x ∈ vars
def At.free (x : Str) : At → Prop
  | .num _ => True
  | .var y => x ≠ y
def opsL : List Str := ["+", "-", "*", "&", "|", "^"]
def relsL : List Str := ["==", "!=", "<"]
def chgL : List Str := ["+=", "-=", "^="]
def Ex.ok (vars : List Str) (n : Int) : Ex → Prop
  | .at_ a => a.ok vars n
  | .bin g a b => g ∈ opsL ∧ a.ok vars n ∧ b.ok vars n
def Ex.free (x : Str) : Ex → Prop
  | .at_ a => a.free x
  | .bin _ a b => a.free x ∧ b.free x
def Cd.ok (vars : List Str) (n : Int) (c : Cd) : Prop := c.rel ∈ relsL ∧ c.a.ok vars n ∧ c.b.ok vars n
def Pr.ok (vars : List Str) (n : Int) (p : Pr) : Prop :=
  p.x ∈ vars ∧ ((p.w ∈ chgL ∧ p.o.ok vars n ∧ p.o.free p.x) ∨ (p.w = "swap" ∧ ∃ y, y ∈ vars ∧ p.o = .at_ (.var y) ∧ p.x ≠ y))
structure StOk (vars : List Str) (n : Int) (s : List Int) : Prop where
  len : s.length = vars.length
  rng : ∀ v ∈ s, 0 ≤ v ∧ v < n

theorem undW2 (x : Str) : undW (undW x) = x := by
  unfold undW
  by_cases h1 : x = "+="
  · subst h1; decide +kernel
  · by_cases h2 : x = "-="
    · subst h2; decide +kernel
    · rw [if_neg h1, if_neg h2, if_neg h1, if_neg h2]
theorem Pr.und2 (p : Pr) : p.und.und = p := by
  show ({ p with w := undW (undW p.w) } : Pr) = p
  rw [undW2]
theorem undW_chg {x : Str} (h : x ∈ chgL) : undW x ∈ chgL := by
  unfold chgL at *
  rcases List.mem_cons.mp h with e | h
  · subst e; decide +kernel
  · rcases List.mem_cons.mp h with e | h
    · subst e; decide +kernel
    · rcases List.mem_cons.mp h with e | h
      · subst e; decide +kernel
      · cases h
theorem undW_swap : undW "swap" = "swap" := by decide +kernel
theorem Pr.ok_und {vars : List Str} {n : Int} (p : Pr) (h : p.ok vars n) : p.und.ok vars n := by
  obtain ⟨hx, h⟩ := h
  refine ⟨hx, ?_⟩
  rcases h with ⟨a, b⟩ | ⟨a, b⟩
  · exact .inl ⟨undW_chg a, b⟩
  · refine .inr ⟨?_, b⟩
    show undW p.w = "swap"
    rw [a, undW_swap]
section
variable {vars : List Str} {n : Int} {s : List Int} {w : Nat}
theorem getD_set_ne {α : Type} {l : List α} {i j : Nat} {a d : α} (h : i ≠ j) : (l.set i a).getD j d = l.getD j d := by
  rw [List.getD_eq_getElem?_getD, List.getD_eq_getElem?_getD, List.getElem?_set_ne h]
theorem getD_set_eq {α : Type} {l : List α} {i : Nat} {a d : α} (h : i < l.length) : (l.set i a).getD i d = a := by
  rw [List.getD_eq_getElem?_getD, List.getElem?_set_self h]
  rfl
theorem idx_lt {x : Str} (h : x ∈ vars) : vars.idxOf x < vars.length := List.idxOf_lt_length_iff.mpr h
theorem idx_inj {x y : Str} (hx : x ∈ vars) (h : vars.idxOf x = vars.idxOf y) (hy : y ∈ vars) : x = y := by
  have a := List.getElem_idxOf (idx_lt hx)
  have b := List.getElem_idxOf (idx_lt hy)
  rw [← a, ← b]
  congr 1
theorem StOk.get (h : StOk vars n s) {x : Str} (hx : x ∈ vars) : 0 ≤ s.getD (vars.idxOf x) 0 ∧ s.getD (vars.idxOf x) 0 < n := by
  have hl : vars.idxOf x < s.length := by rw [h.len]; exact idx_lt hx
  rw [List.getD_eq_getElem?_getD, List.getElem?_eq_getElem hl]
  exact h.rng _ (List.getElem_mem hl)
theorem At.val_ok (h : StOk vars n s) {a : At} (ha : a.ok vars n) : 0 ≤ a.val vars s ∧ a.val vars s < n := by
  cases a with
  | num i => exact ha
  | var x => exact h.get ha
theorem pow_pos (w : Nat) : (0 : Int) < 2 ^ w := by
  have h : (0 : Nat) < 2 ^ w := Nat.pos_of_ne_zero (by simp)
  exact_mod_cast h
theorem Ex.val_ok (h : StOk vars (2 ^ w) s) {e : Ex} (he : e.ok vars (2 ^ w)) : 0 ≤ e.val vars w s ∧ e.val vars w s < 2 ^ w := by
  cases e with
  | at_ a => exact At.val_ok h he
  | bin g a b => exact ⟨Int.emod_nonneg _ (Int.ne_of_gt (pow_pos w)), Int.emod_lt_of_pos _ (pow_pos w)⟩
theorem StOk.set (h : StOk vars n s) {i : Nat} {v : Int} (hv : 0 ≤ v ∧ v < n) : StOk vars n (s.set i v) :=
  ⟨by rw [List.length_set]; exact h.len, fun x hx => by
    rcases List.mem_or_eq_of_mem_set hx with e | e
    · exact h.rng x e
    · rw [e]; exact hv⟩
theorem xor_lt {a b : Int} (ha : 0 ≤ a ∧ a < 2 ^ w) (hb : 0 ≤ b ∧ b < 2 ^ w) : 0 ≤ Builtin.bitXor a b ∧ Builtin.bitXor a b < 2 ^ w := by
  refine ⟨Bits.bitXor_nonneg ha.1 hb.1, ?_⟩
  rw [Bits.bitXor_pp ha.1 hb.1]
  have e : ∀ {z : Int}, 0 ≤ z → z < 2 ^ w → z.toNat < 2 ^ w := fun {z} h1 h2 => by
    have : ((z.toNat : Nat) : Int) < ((2 ^ w : Nat) : Int) := by
      rw [Int.toNat_of_nonneg h1]
      simpa using h2
    exact_mod_cast this
  have : a.toNat ^^^ b.toNat < 2 ^ w := Nat.xor_lt_two_pow (e ha.1 ha.2) (e hb.1 hb.2)
  have z : ((a.toNat ^^^ b.toNat : Nat) : Int) < ((2 ^ w : Nat) : Int) := by exact_mod_cast this
  simpa using z
theorem xor_xor {a b : Int} (ha : 0 ≤ a) (hb : 0 ≤ b) : Builtin.bitXor (Builtin.bitXor a b) b = a := by
  have h := Bits.bitXor_nonneg ha hb
  rw [Bits.bitXor_pp h hb, Bits.bitXor_pp ha hb, Int.toNat_natCast, Nat.xor_assoc, Nat.xor_self, Nat.xor_zero, Int.toNat_of_nonneg ha]
theorem Pr.act_ok {p : Pr} (hp : p.ok vars (2 ^ w)) (h : StOk vars (2 ^ w) s) : StOk vars (2 ^ w) (p.act vars w s) := by
  obtain ⟨hx, hp⟩ := hp
  have m : ∀ z : Int, 0 ≤ z % 2 ^ w ∧ z % 2 ^ w < 2 ^ w := fun z => ⟨Int.emod_nonneg _ (Int.ne_of_gt (pow_pos w)), Int.emod_lt_of_pos _ (pow_pos w)⟩
  unfold Pr.act
  rcases hp with ⟨a, b, c⟩ | ⟨a, y, hy, e, ne⟩
  · have hs : p.w ≠ "swap" := fun z => by rw [z] at a; revert a; unfold chgL; decide +kernel
    simp only [if_neg hs]
    split
    · exact h.set (m _)
    · split
      · exact h.set (m _)
      · exact h.set (xor_lt (h.get hx) (Ex.val_ok h b))
  · simp only [if_pos a, e, Ex.other]
    exact (h.set (h.get hy)).set (h.get hx)
theorem At.val_set {x : Str} {v : Int} {a : At} (hx : x ∈ vars) (ha : a.ok vars n) (hf : a.free x) : a.val vars (s.set (vars.idxOf x) v) = a.val vars s := by
  cases a with
  | num i => rfl
  | var y =>
    have hne : vars.idxOf x ≠ vars.idxOf y := fun e => hf (idx_inj hx e ha)
    exact getD_set_ne hne
theorem Ex.val_set {x : Str} {v : Int} {e : Ex} (hx : x ∈ vars) (he : e.ok vars n) (hf : e.free x) : e.val vars w (s.set (vars.idxOf x) v) = e.val vars w s := by
  cases e with
  | at_ a => exact At.val_set hx he hf
  | bin g a b =>
    show binVal g _ _ % _ = binVal g _ _ % _
    rw [At.val_set hx he.2.1 hf.1, At.val_set hx he.2.2 hf.2]
theorem set_back {i : Nat} {v x : Int} (hi : s[i]? = some x) : (s.set i v).set i x = s := by
  rw [List.set_set]
  apply List.ext_getElem?
  intro j
  by_cases e : i = j
  · subst e
    have hl : i < s.length := (List.getElem?_eq_some_iff.mp hi).1
    rw [List.getElem?_set_self hl, hi]
  · rw [List.getElem?_set_ne e]
theorem Pr.act_rev {p : Pr} (hp : p.ok vars (2 ^ w)) (h : StOk vars (2 ^ w) s) : p.und.act vars w (p.act vars w s) = s := by
  obtain ⟨hx, hp⟩ := hp
  have hl : vars.idxOf p.x < s.length := by rw [h.len]; exact idx_lt hx
  have h0 := h.get hx
  have hg : s[vars.idxOf p.x]? = some (s.getD (vars.idxOf p.x) 0) := by rw [List.getD_eq_getElem?_getD, List.getElem?_eq_getElem hl]; rfl
  rcases hp with ⟨a, b, c⟩ | ⟨a, y, hy, e, ne⟩
  · have ev : ∀ v, p.o.val vars w (s.set (vars.idxOf p.x) v) = p.o.val vars w s := fun v => Ex.val_set hx b c
    have b0 := Ex.val_ok h b
    obtain ⟨pw, px, po⟩ := p
    dsimp only at *
    have cs : pw = "+=" ∨ pw = "-=" ∨ pw = "^=" := by
      unfold chgL at a
      simpa using a
    have n1 : ¬ (("+=" : Str) = "swap") := by decide +kernel
    have n2 : ¬ (("-=" : Str) = "swap") := by decide +kernel
    have n3 : ¬ (("^=" : Str) = "swap") := by decide +kernel
    have n4 : ¬ (("-=" : Str) = "+=") := by decide +kernel
    have n5 : ¬ (("^=" : Str) = "+=") := by decide +kernel
    have n6 : ¬ (("^=" : Str) = "-=") := by decide +kernel
    rcases cs with e | e | e <;> subst e
    · simp only [Pr.act, Pr.und, undW, if_pos, if_neg n1, if_neg n2, if_neg n4, ev, getD_set_eq hl]
      rw [Int.sub_emod, Int.emod_emod, ← Int.sub_emod, Int.add_sub_cancel, Int.emod_eq_of_lt h0.1 h0.2]
      exact set_back hg
    · simp only [Pr.act, Pr.und, undW, if_pos, if_neg n1, if_neg n2, if_neg n4, ev, getD_set_eq hl]
      rw [Int.add_emod, Int.emod_emod, ← Int.add_emod, Int.sub_add_cancel, Int.emod_eq_of_lt h0.1 h0.2]
      exact set_back hg
    · simp only [Pr.act, Pr.und, undW, if_neg n3, if_neg n5, if_neg n6, ev, getD_set_eq hl]
      rw [xor_xor h0.1 b0.1]
      exact set_back hg
  · obtain ⟨pw, px, po⟩ := p
    dsimp only at *
    subst a
    subst e
    have hne : vars.idxOf px ≠ vars.idxOf y := fun z => ne (idx_inj hx z hy)
    have hly : vars.idxOf y < s.length := by rw [h.len]; exact idx_lt hy
    have hgy : s[vars.idxOf y]? = some (s.getD (vars.idxOf y) 0) := by rw [List.getD_eq_getElem?_getD, List.getElem?_eq_getElem hly]; rfl
    have es : undW "swap" = "swap" := undW_swap
    simp only [Pr.act, Pr.und, es, if_pos, Ex.other]
    generalize hi : vars.idxOf px = i at *
    generalize hj : vars.idxOf y = j at *
    apply List.ext_getElem?
    intro k
    by_cases e1 : j = k
    · subst e1
      rw [List.getElem?_set_self (by simpa using hly), getD_set_ne (Ne.symm hne), getD_set_eq hl, hgy]
    · rw [List.getElem?_set_ne e1]
      by_cases e2 : i = k
      · subst e2
        rw [List.getElem?_set_self (by simpa using hl), getD_set_eq (by simpa using hly), hg]
      · rw [List.getElem?_set_ne e2, List.getElem?_set_ne e1, List.getElem?_set_ne e2]
end
/-- the programs' own meaning -/
def PM (vars : List Str) (w : Nat) : Bk.Sem Pr Cd (List Int) where
  act := fun p s => p.act vars w s
  und := Pr.und
  tst := fun c s => c.val vars s
  ok := StOk vars (2 ^ w)
  good := Pr.ok vars (2 ^ w)
  und_good := Pr.ok_und
  und2 := Pr.und2
  keep := fun _ _ => Pr.act_ok
  rev := fun _ _ => Pr.act_rev
end Kt
end -- KSem
section -- KVal
set_option Elab.async false
set_option linter.all false
set_option maxRecDepth 100000
set_option maxHeartbeats 4000000
/-! KVal: atom_value, expression_value, holds, changed. -/
namespace Kt
open PySem L2
/-- the places of the variables -/
def PlA (H : Hp) (d : Addr) (vars : List Str) : Prop := ∃ kvs, H d = some (.dK kvs) ∧ ∀ x ∈ vars, valV kvs (.inr x) = some (.int (vars.idxOf x))
def StA (H : Hp) (a : Addr) (s : List Int) : Prop := H a = some (.tup (s.map V.int))
theorem atI_map {s : List Int} {i : Nat} (h : i < s.length) : atI (s.map V.int) (i : Int) = some (.int (s.getD i 0)) := by
  refine atI_nat ?_
  rw [List.getElem?_map, List.getD_eq_getElem?_getD, List.getElem?_eq_getElem h]
  rfl
def spAtom : Sp := fun vs H Q _ => ∃ (d s : Addr) (vars : List Str) (n : Int) (st : List Int) (a : At), vs = [a.v, .ref d, .ref s] ∧ PlA H d vars ∧ StA H s st ∧ StOk vars n st ∧ a.ok vars n ∧ Q (.int (a.val vars st)) H
def spExpr : Sp := fun vs H Q _ => ∃ (d s : Addr) (vars : List Str) (w : Nat) (st : List Int) (e : Ex) (ev : V), vs = [ev, .ref d, .ref s, .int w] ∧ PlA H d vars ∧ StA H s st ∧ StOk vars (2 ^ w) st ∧ w ≤ 8 ∧ ExV H ev e ∧ e.ok vars (2 ^ w) ∧ Q (.int (e.val vars w st)) H
local macro_rules | `(tactic| tm_at "g") => `(tactic| repeat (first
  | with_reducible refine w_seq ?_ | with_reducible refine w_if ?_ | with_reducible refine w_tB ?_ | with_reducible refine w_tTest ?_ | with_reducible refine w_asg ?_ | with_reducible refine w_name ?_
  | with_reducible refine w_ret ?_ | with_reducible refine w_next ?_ | with_reducible refine w_op ?_ | with_reducible refine w_c ?_ | with_reducible refine w_cb ?_ | with_reducible refine w_call ?_ | with_reducible refine w_cons ?_ | with_reducible refine w_nil ?_
  | with_reducible refine w_var (by with_unfolding_all rfl) ?_
  | with_reducible refine w_rI0 ?_ | with_reducible refine w_eq (by with_unfolding_all rfl) ?_ | with_reducible refine w_ne (by with_unfolding_all rfl) ?_
  | with_reducible refine w_test ?_ | with_reducible refine w_T ?_ | with_reducible refine w_F ?_ | with_reducible refine w_T0 ?_ | with_reducible refine w_F0 ?_
  | with_reducible refine w_and ?_ | with_reducible refine w_or ?_ | with_reducible refine w_not ?_ | with_reducible refine w_ifE ?_ | with_reducible refine w_drop ?_
  | with_reducible refine w_andV ?_ | with_reducible refine w_orV ?_ | with_reducible refine w_notV ?_ | with_reducible refine w_dget ?_ | with_reducible refine w_din ?_ | with_reducible refine w_dnin ?_ | with_reducible refine w_fld ?_
  | with_reducible refine w_ttup ?_ | with_reducible refine w_tlst ?_ | with_reducible refine w_un ?_ | with_reducible refine w_rU ?_ | with_reducible refine w_gcons ?_ | with_reducible refine w_gnil ?_ | with_reducible refine w_sub ?_ | with_reducible refine w_sl ?_ | with_reducible refine w_nopart ?_ | with_reducible refine w_part ?_ | with_reducible refine w_int ?_ | with_reducible refine w_meth ?_
  | with_reducible refine w_make ?_ | with_reducible refine w_dput ?_ | with_reducible refine w_sfld ?_ | with_reducible refine w_bm ?_ | with_reducible refine w_bm0 ?_ | with_reducible refine w_isN ?_))

section
variable {P : Program} {w : World} {K : PySem.W.Frag} {mg : Str → Option Value} {base : Heap} {a : Ad}
theorem sc_atom_value : FnScope ["atom", "places", "store"] ["atom", "places", "store"] (defScope s_atom_value) := ⟨rfl, rfl, rfl, by decide +kernel, rfl, by decide +kernel, by decide +kernel⟩
theorem ok_atom_value (T : Tx w K mg a) : FnOk P w K mg base CX0 1 a.f_atom_value a.d_atom_value ["atom", "places", "store"] spAtom := by
  refine T.F_atom_value.ok sc_atom_value (fun vs H Q E h => ?_) (fun cdv A outer s H vs Q E hr h => ?_)
  · obtain ⟨d, s, vars, n, st, a, rfl, _⟩ := h
    rfl
  · obtain ⟨d, s, vars, n, st, at_, rfl, hd, hs, hk, ha, q⟩ := h
    have hu := hu_of hr
    refine ⟨_, (pss_cons (ps_if (pt_val (pe_callB call_is (by rfl) T.z_isinstance (by decide +kernel) (pa_cons (pv 0) (pa_cons (pe_bltn (v := .ty "str") rfl T.z_str (by decide +kernel) rfl) pa_nil)))) (pss_one (ps_ret (pe_ix ix_tup (pv 2) (pe_dget hu (pv 1) (pv 0) (fun _ _ => rfl)) (fun _ _ => rfl)))) pss_nil)
    (pss_one (ps_ret (pv 0)))), ?_⟩
    cases at_ with
    | num i =>
      tm_at "g"
      refine w_is rfl k_int_str ?_
      tm_at "g"
      exact q
    | var x =>
      obtain ⟨kvs, hkv, hv⟩ := hd
      have hx : x ∈ vars := ha
      tm_at "g"
      refine w_is rfl k_str_str ?_
      tm_at "g"
      refine w_dgS hkv (hv x hx) ?_
      refine w_ixT hs (atI_map (by rw [hk.len]; exact idx_lt hx)) ?_
      exact q
theorem sc_expression_value : FnScope ["expression", "places", "store", "width", "first", "second", "sign", "result"] ["expression", "places", "store", "width"] (defScope s_expression_value) := ⟨rfl, rfl, rfl, by decide +kernel, rfl, by decide +kernel, by decide +kernel⟩
theorem ok_expression_value (T : Tx w K mg a) : FnOk P w K mg base CX0 2 a.f_expression_value a.d_expression_value ["expression", "places", "store", "width"] spExpr := by
  have G_atom_value : FnOk P w K mg base CX0 1 _ _ _ spAtom := ok_atom_value T
  refine T.F_expression_value.ok sc_expression_value (fun vs H Q E h => ?_) (fun cdv A outer s H vs Q E hr h => ?_)
  · obtain ⟨d, s, vars, n, st, e, ev, rfl, _⟩ := h
    rfl
  · obtain ⟨d, s, vars, n, st, e, ev, rfl, hd, hs, hk, hn, he, ho, q⟩ := h
    have hu := hu_of hr
    refine ⟨_, (pss_cons (ps_if (pt_not (pt_val (pe_callB call_is (by rfl) T.z_isinstance (by decide +kernel) (pa_cons (pv 0) (pa_cons (pe_bltn (v := .ty "tuple") rfl T.z_tuple (by decide +kernel) rfl) pa_nil))))) (pss_one (ps_ret (pe_call G_atom_value (hr.mono (by decide)) rfl T.g_atom_value T.F_atom_value.kp T.b_atom_value .nil pass0 (pa_cons (pv 0) (pa_cons (pv 1) (pa_cons (pv 2) pa_nil)))))) pss_nil)
    (pss_cons (ps_set (i := 4) sc_expression_value.nd rfl (Or.inl rfl) (pe_call G_atom_value (hr.mono (by decide)) rfl T.g_atom_value T.F_atom_value.kp T.b_atom_value .nil pass0 (pa_cons (pe_ix ix_tup (pv 0) pe_int (fun _ _ => rfl)) (pa_cons (pv 1) (pa_cons (pv 2) pa_nil)))))
    (pss_cons (ps_set (i := 5) sc_expression_value.nd rfl (Or.inl rfl) (pe_call G_atom_value (hr.mono (by decide)) rfl T.g_atom_value T.F_atom_value.kp T.b_atom_value .nil pass0 (pa_cons (pe_ix ix_tup (pv 0) pe_int (fun _ _ => rfl)) (pa_cons (pv 1) (pa_cons (pv 2) pa_nil)))))
    (pss_cons (ps_set (i := 6) sc_expression_value.nd rfl (Or.inl rfl) (pe_ix ix_tup (pv 0) pe_int (fun _ _ => rfl)))
    (pss_cons (ps_if (pt_cmpR op_eq (pv 6) pe_str (nomark _)) (pss_one (ps_set (i := 7) sc_expression_value.nd rfl (Or.inl rfl) (pe_op op_add (pv 4) (pv 5)))) (pss_one (ps_if (pt_cmpR op_eq (pv 6) pe_str (nomark _)) (pss_one (ps_set (i := 7) sc_expression_value.nd rfl (Or.inl rfl) (pe_op op_sub (pv 4) (pv 5)))) (pss_one (ps_if (pt_cmpR op_eq (pv 6) pe_str (nomark _)) (pss_one (ps_set (i := 7) sc_expression_value.nd rfl (Or.inl rfl) (pe_op op_mul (pv 4) (pv 5)))) (pss_one (ps_if (pt_cmpR op_eq (pv 6) pe_str (nomark _)) (pss_one (ps_set (i := 7) sc_expression_value.nd rfl (Or.inl rfl) (pe_op op_and (pv 4) (pv 5)))) (pss_one (ps_if (pt_cmpR op_eq (pv 6) pe_str (nomark _)) (pss_one (ps_set (i := 7) sc_expression_value.nd rfl (Or.inl rfl) (pe_op op_or (pv 4) (pv 5)))) (pss_one (ps_set (i := 7) sc_expression_value.nd rfl (Or.inl rfl) (pe_op op_xor (pv 4) (pv 5)))))))))))))
    (pss_one (ps_ret (pe_op op_mod (pv 7) (pe_op op_shl pe_int (pv 3)))))))))), ?_⟩
    cases e with
    | at_ b =>
      have e1 : ev = b.v := he
      subst e1
      have ty : ∃ t, tyN H b.v t ∧ kitB t "tuple" = some false := by
        cases b with
        | num i => exact ⟨_, rfl, k_int_tuple⟩
        | var x => exact ⟨_, rfl, k_str_tuple⟩
      obtain ⟨t, h1, h2⟩ := ty
      tm_at "g"
      refine w_is h1 h2 ?_
      tm_at "g"
      exact ⟨d, s, vars, _, st, b, rfl, hd, hs, hk, ho, q⟩
    | bin g b c =>
      obtain ⟨p, rfl, hp⟩ := he
      obtain ⟨og, ob, oc⟩ := ho
      tm_at "g"
      refine w_is ⟨⟨_, hp⟩, rfl⟩ k_tuple_tuple ?_
      tm_at "g"
      refine w_ixT hp (atI_nat (j := 1) rfl) ?_
      tm_at "g"
      refine ⟨d, s, vars, _, st, b, rfl, hd, hs, hk, ob, ?_⟩
      tm_at "g"
      refine w_ixT hp (atI_nat (j := 2) rfl) ?_
      tm_at "g"
      refine ⟨d, s, vars, _, st, c, rfl, hd, hs, hk, oc, ?_⟩
      tm_at "g"
      refine w_ixT hp (atI_nat (j := 0) rfl) ?_
      tm_at "g"
      have fin : ∀ r : Int, r = binVal g (b.val vars st) (c.val vars st) → Q (.int (r % (1 * 2 ^ ((n : Nat) : Int).toNat))) H := by
        intro r e
        have e2 : (1 * 2 ^ ((n : Nat) : Int).toNat : Int) = 2 ^ n := by rw [Int.one_mul, Int.toNat_natCast]
        rw [e2, e]
        exact q
      have cp : CPow 1 ((n : Nat) : Int) := ⟨by omega, by omega, by decide⟩
      have pos : (0 : Int) < 1 * 2 ^ ((n : Nat) : Int).toNat := by rw [Int.one_mul]; exact pow_pos _
      have lt8 : (2 : Int) ^ n ≤ 256 := by
        have h1 : (2 : Nat) ^ n ≤ 2 ^ 8 := Nat.pow_le_pow_right (by decide) hn
        have h2 : ((2 ^ n : Nat) : Int) ≤ ((2 ^ 8 : Nat) : Int) := by exact_mod_cast h1
        simpa using h2
      have hb := At.val_ok hk ob
      refine w_d (fun h => ?_) (fun h => ?_)
      · cases h
        tm_at "g"
        refine w_rI cp ?_
        refine w_rI pos ?_
        exact fin _ rfl
      have n1 : ¬ g = "+" := fun z => h (by rw [z])
      tm_at "g"
      refine w_d (fun h => ?_) (fun h => ?_)
      · cases h
        tm_at "g"
        refine w_rI cp ?_
        refine w_rI pos ?_
        exact fin _ rfl
      have n2 : ¬ g = "-" := fun z => h (by rw [z])
      tm_at "g"
      refine w_d (fun h => ?_) (fun h => ?_)
      · cases h
        tm_at "g"
        refine w_rI (.inl ⟨by omega, by omega⟩) ?_
        tm_at "g"
        refine w_rI cp ?_
        refine w_rI pos ?_
        exact fin _ rfl
      have n3 : ¬ g = "*" := fun z => h (by rw [z])
      tm_at "g"
      refine w_d (fun h => ?_) (fun h => ?_)
      · cases h
        tm_at "g"
        refine w_rI cp ?_
        refine w_rI pos ?_
        exact fin _ rfl
      have n4 : ¬ g = "&" := fun z => h (by rw [z])
      tm_at "g"
      refine w_d (fun h => ?_) (fun h => ?_)
      · cases h
        tm_at "g"
        refine w_rI cp ?_
        refine w_rI pos ?_
        exact fin _ rfl
      have n5 : ¬ g = "|" := fun z => h (by rw [z])
      tm_at "g"
      refine w_rI cp ?_
      refine w_rI pos ?_
      refine fin _ ?_
      unfold binVal
      rw [if_neg n1, if_neg n2, if_neg n3, if_neg n4, if_neg n5]
def spHolds : Sp := fun vs H Q _ => ∃ (d s : Addr) (vars : List Str) (n : Int) (st : List Int) (c : Cd) (cv : V), vs = [cv, .ref d, .ref s] ∧ PlA H d vars ∧ StA H s st ∧ StOk vars n st ∧ CdV H cv c ∧ c.ok vars n ∧ Q (.bl (c.val vars st)) H
theorem sc_holds : FnScope ["condition", "places", "store", "first", "second"] ["condition", "places", "store"] (defScope s_holds) := ⟨rfl, rfl, rfl, by decide +kernel, rfl, by decide +kernel, by decide +kernel⟩
theorem ok_holds (T : Tx w K mg a) : FnOk P w K mg base CX0 2 a.f_holds a.d_holds ["condition", "places", "store"] spHolds := by
  have G_atom_value : FnOk P w K mg base CX0 1 _ _ _ spAtom := ok_atom_value T
  refine T.F_holds.ok sc_holds (fun vs H Q E h => ?_) (fun cdv A outer s H vs Q E hr h => ?_)
  · obtain ⟨d, s, vars, n, st, e, ev, rfl, _⟩ := h
    rfl
  · obtain ⟨d, s, vars, n, st, ⟨g, b, c⟩, ev, rfl, hd, hs, hk, he, ⟨og, ob, oc⟩, q⟩ := h
    have hu := hu_of hr
    obtain ⟨p, rfl, hp⟩ := he
    dsimp only at *
    refine ⟨_, (pss_cons (ps_set (i := 3) sc_holds.nd rfl (Or.inl rfl) (pe_call G_atom_value (hr.mono (by decide)) rfl T.g_atom_value T.F_atom_value.kp T.b_atom_value .nil pass0 (pa_cons (pe_ix ix_tup (pv 0) pe_int (fun _ _ => rfl)) (pa_cons (pv 1) (pa_cons (pv 2) pa_nil)))))
    (pss_cons (ps_set (i := 4) sc_holds.nd rfl (Or.inl rfl) (pe_call G_atom_value (hr.mono (by decide)) rfl T.g_atom_value T.F_atom_value.kp T.b_atom_value .nil pass0 (pa_cons (pe_ix ix_tup (pv 0) pe_int (fun _ _ => rfl)) (pa_cons (pv 1) (pa_cons (pv 2) pa_nil)))))
    (pss_cons (ps_if (pt_cmpR op_eq (pe_ix ix_tup (pv 0) pe_int (fun _ _ => rfl)) pe_str (nomark _)) (pss_one (ps_ret (pe_cmpR op_eq (pv 3) (pv 4) (nomark _)))) pss_nil)
    (pss_cons (ps_if (pt_cmpR op_eq (pe_ix ix_tup (pv 0) pe_int (fun _ _ => rfl)) pe_str (nomark _)) (pss_one (ps_ret (pe_cmpR op_ne (pv 3) (pv 4) (nomark _)))) pss_nil)
    (pss_one (ps_ret (pe_cmpR op_lt (pv 3) (pv 4) (nomark _)))))))), ?_⟩
    tm_at "g"
    refine w_ixT hp (atI_nat (j := 1) rfl) ?_
    tm_at "g"
    refine ⟨d, s, vars, _, st, b, rfl, hd, hs, hk, ob, ?_⟩
    tm_at "g"
    refine w_ixT hp (atI_nat (j := 2) rfl) ?_
    tm_at "g"
    refine ⟨d, s, vars, _, st, c, rfl, hd, hs, hk, oc, ?_⟩
    tm_at "g"
    refine w_ixT hp (atI_nat (j := 0) rfl) ?_
    have ei : ∀ x y : Int, decide (V.int x = V.int y) = decide (x = y) := fun x y => by
      by_cases h : x = y
      · subst h; simp
      · rw [decide_eq_false h, decide_eq_false (fun z => h (V.int.inj z))]
    tm_at "g"
    refine w_d (fun h => ?_) (fun h => ?_)
    · cases h
      tm_at "g"
      rw [ei]
      exact q
    have n1 : ¬ g = "==" := fun z => h (by rw [z])
    tm_at "g"
    refine w_ixT hp (atI_nat (j := 0) rfl) ?_
    tm_at "g"
    refine w_d (fun h => ?_) (fun h => ?_)
    · cases h
      tm_at "g"
      rw [ei]
      exact q
    have n2 : ¬ g = "!=" := fun z => h (by rw [z])
    tm_at "g"
    have e : (Cd.mk g b c).val vars st = decide (b.val vars st < c.val vars st) := by
      unfold Cd.val
      dsimp only
      rw [if_neg n1, if_neg n2]
    rw [e] at q
    exact q
def spChanged : Sp := fun vs H Q _ => ∃ (d s : Addr) (vars : List Str) (n : Nat) (st : List Int) (p : Pr) (pv : V), vs = [pv, .ref d, .ref s, .int n] ∧ PlA H d vars ∧ StA H s st ∧ StOk vars (2 ^ n) st ∧ n ≤ 8 ∧ vars.length ≤ 6 ∧ PrV H pv p ∧ p.ok vars (2 ^ n) ∧
  ∀ r H', Same H H' → StA H' r (p.act vars n st) → Q (.ref r) H'
theorem getD_map {s : List Int} {i : Nat} (h : i < s.length) : (s.map V.int)[i]? = some (.int (s.getD i 0)) := by
  rw [List.getElem?_map, List.getD_eq_getElem?_getD, List.getElem?_eq_getElem h]
  rfl
theorem PlA.mono {H H' : Hp} {d : Addr} {vars : List Str} (h : PlA H d vars) (e : Same H H') : PlA H' d vars := let ⟨k, h1, h2⟩ := h; ⟨k, e _ _ h1, h2⟩
theorem sc_changed : FnScope ["statement", "places", "store", "width", "values", "word", "name", "other", "at", "amount"] ["statement", "places", "store", "width"] (defScope s_changed) := ⟨rfl, rfl, rfl, by decide +kernel, rfl, by decide +kernel, by decide +kernel⟩
theorem ok_changed (T : Tx w K mg a) : FnOk P w K mg base CX0 3 a.f_changed a.d_changed ["statement", "places", "store", "width"] spChanged := by
  have G_expression_value : FnOk P w K mg base CX0 2 _ _ _ spExpr := ok_expression_value T
  refine T.F_changed.ok sc_changed (fun vs H Q E h => ?_) (fun cdv A outer s H vs Q E hr h => ?_)
  · obtain ⟨d, s, vars, n, st, e, ev, rfl, _⟩ := h
    rfl
  · obtain ⟨d, s, vars, n, st, ⟨pw, px, po⟩, ev, rfl, hd, hs, hk, hn, hn6, ⟨qa, ov, rfl, hq, ho⟩, ⟨hx, hp⟩, q⟩ := h
    have hu := hu_of hr
    dsimp only at *
    have hix : vars.idxOf px < st.length := by rw [hk.len]; exact idx_lt hx
    have cp : CPow 1 ((n : Nat) : Int) := ⟨by omega, by omega, by decide⟩
    have pos : (0 : Int) < 1 * 2 ^ ((n : Nat) : Int).toNat := by rw [Int.one_mul]; exact pow_pos _
    have e2 : (1 * 2 ^ ((n : Nat) : Int).toNat : Int) = 2 ^ n := by rw [Int.one_mul, Int.toNat_natCast]
    refine ⟨_, (pss_cons (ps_set (i := 4) sc_changed.nd rfl (Or.inl rfl) (pe_callTy cl_list (by rfl) T.z_list (by decide +kernel) (pa_cons (pv 2) pa_nil)))
    (pss_cons (ps_asg (pv 0) (pg_tup rfl (pgs_cons (pg_name (i := 5) sc_changed.nd rfl (Or.inl rfl)) (pgs_cons (pg_name (i := 6) sc_changed.nd rfl (Or.inl rfl)) (pgs_cons (pg_name (i := 7) sc_changed.nd rfl (Or.inl rfl)) pgs_nil)))))
    (pss_cons (ps_set (i := 8) sc_changed.nd rfl (Or.inl rfl) (pe_dget hu (pv 1) (pv 6) (fun _ _ => rfl)))
    (pss_cons (ps_if (pt_cmpR op_eq (pv 5) pe_str (nomark _)) (pss_cons (ps_asg (pe_tup (pa_cons (pe_ix ix_list (pv 4) (pe_dget hu (pv 1) (pv 7) (fun _ _ => rfl)) (fun _ _ => rfl)) (pa_cons (pe_ix ix_list (pv 4) (pv 8) (fun _ _ => rfl)) pa_nil))) (pg_tup rfl (pgs_cons (pg_sub (pv 4) (pv 8) set_list) (pgs_cons (pg_sub (pv 4) (pe_dget hu (pv 1) (pv 7) (fun _ _ => rfl)) set_list) pgs_nil))))
    (pss_one (ps_ret (pe_callTy cl_tup (by rfl) T.z_tuple (by decide +kernel) (pa_cons (pv 4) pa_nil))))) pss_nil)
    (pss_cons (ps_set (i := 9) sc_changed.nd rfl (Or.inl rfl) (pe_call G_expression_value (hr.mono (by decide)) rfl T.g_expression_value T.F_expression_value.kp T.b_expression_value .nil pass0 (pa_cons (pv 7) (pa_cons (pv 1) (pa_cons (pv 2) (pa_cons (pv 3) pa_nil))))))
    (pss_cons (ps_if (pt_cmpR op_eq (pv 5) pe_str (nomark _)) (pss_one (ps_asg (pe_op op_mod (pe_op op_add (pe_ix ix_list (pv 4) (pv 8) (fun _ _ => rfl)) (pv 9)) (pe_op op_shl pe_int (pv 3))) (pg_sub (pv 4) (pv 8) set_list))) (pss_one (ps_if (pt_cmpR op_eq (pv 5) pe_str (nomark _)) (pss_one (ps_asg (pe_op op_mod (pe_op op_sub (pe_ix ix_list (pv 4) (pv 8) (fun _ _ => rfl)) (pv 9)) (pe_op op_shl pe_int (pv 3))) (pg_sub (pv 4) (pv 8) set_list))) (pss_one (ps_asg (pe_op op_xor (pe_ix ix_list (pv 4) (pv 8) (fun _ _ => rfl)) (pv 9)) (pg_sub (pv 4) (pv 8) set_list))))))
    (pss_one (ps_ret (pe_callTy cl_tup (by rfl) T.z_tuple (by decide +kernel) (pa_cons (pv 4) pa_nil)))))))))), ?_⟩
    tm_at "g"
    refine w_listT hs fun l H1 s1 n1 h1 => ?_
    tm_at "g"
    refine w_tup (s1 _ _ hq) rfl ?_
    tm_at "g"
    obtain ⟨kvs, hkv, hv⟩ := hd
    refine w_dgS (s1 _ _ hkv) (hv px hx) ?_
    tm_at "g"
    refine w_d (fun h => ?_) (fun h => ?_)
    · cases h
      rcases hp with ⟨b, _⟩ | ⟨_, y, hy, rfl, ne⟩
      · exact absurd b (by unfold chgL; decide +kernel)
      have e0 : ov = .str y := ho
      subst e0
      have hiy : vars.idxOf y < st.length := by rw [hk.len]; exact idx_lt hy
      tm_at "g"
      refine w_dgS (s1 _ _ hkv) (hv y hy) ?_
      refine w_ixL h1 (atI_map hiy) ?_
      tm_at "g"
      refine w_ixL h1 (atI_map hix) ?_
      tm_at "g"
      refine w_lay (by show 2 ≤ 100000; decide) fun t H2 s2 n2 h2 => ?_
      refine w_tup h2 rfl ?_
      tm_at "g"
      refine w_setL (s2 _ _ h1) (by rw [List.length_map]; exact hix) ?_
      tm_at "g"
      have k3 : upd H2 l (.lst ((st.map V.int).set (vars.idxOf px) (.int (st.getD (vars.idxOf y) 0)))) d = some (.dK kvs) := by
        rw [upd_ne (ne_of_none hkv n1)]
        exact s2 _ _ (s1 _ _ hkv)
      refine w_dgS k3 (hv y hy) ?_
      refine w_setL upd_same (by rw [List.length_set, List.length_map]; exact hiy) ?_
      tm_at "g"
      refine w_tupL upd_same fun r H3 s3 n3 h3 => ?_
      refine q r H3 ((((s1.trans s2).mut n1).mut n1).trans s3) ?_
      show H3 r = some (.tup _)
      rw [h3]
      have es : ("swap" : Str) = "swap" := rfl
      simp only [Pr.act, if_pos, Ex.other, List.map_set]
    · have nw : ¬ pw = "swap" := fun z => h (by rw [z])
      obtain ⟨b, c, f⟩ : pw ∈ chgL ∧ po.ok vars (2 ^ n) ∧ po.free px := hp.resolve_right fun z => nw z.1
      tm_at "g"
      have fin : ∀ v : Int, (if pw = "+=" then st.set (vars.idxOf px) ((st.getD (vars.idxOf px) 0 + po.val vars n st) % 2 ^ n) else if pw = "-=" then st.set (vars.idxOf px) ((st.getD (vars.idxOf px) 0 - po.val vars n st) % 2 ^ n) else st.set (vars.idxOf px) (Builtin.bitXor (st.getD (vars.idxOf px) 0) (po.val vars n st))) = st.set (vars.idxOf px) v →
          ∀ r H3, Same (upd H1 l (.lst ((st.map V.int).set (vars.idxOf px) (.int v)))) H3 → H3 r = some (.tup ((st.map V.int).set (vars.idxOf px) (.int v))) → Q (.ref r) H3 := by
        intro v e r H3 s3 h3
        refine q r H3 ((s1.mut n1).trans s3) ?_
        show H3 r = some (.tup _)
        rw [h3]
        simp only [Pr.act, if_neg nw, e, List.map_set]
      refine ⟨d, s, vars, n, st, po, ov, rfl, ⟨kvs, s1 _ _ hkv, hv⟩, s1 _ _ hs, hk, hn, ho.mono (Im.of s1), c, ?_⟩
      tm_at "g"
      refine w_d (fun h => ?_) (fun h => ?_)
      · cases h
        tm_at "g"
        refine w_ixL h1 (atI_map hix) ?_
        tm_at "g"
        refine w_rI cp ?_
        refine w_rI pos ?_
        tm_at "g"
        refine w_setL h1 (by rw [List.length_map]; exact hix) ?_
        tm_at "g"
        refine w_tupL upd_same fun r H3 s3 n3 h3 => ?_
        rw [e2] at s3 h3
        exact fin _ (by rw [if_pos rfl]) r H3 s3 h3
      have n2 : ¬ pw = "+=" := fun z => h (by rw [z])
      tm_at "g"
      refine w_d (fun h => ?_) (fun h => ?_)
      · cases h
        tm_at "g"
        refine w_ixL h1 (atI_map hix) ?_
        tm_at "g"
        refine w_rI cp ?_
        refine w_rI pos ?_
        tm_at "g"
        refine w_setL h1 (by rw [List.length_map]; exact hix) ?_
        tm_at "g"
        refine w_tupL upd_same fun r H3 s3 n3 h3 => ?_
        rw [e2] at s3 h3
        exact fin _ (by rw [if_neg n2, if_pos rfl]) r H3 s3 h3
      have n3 : ¬ pw = "-=" := fun z => h (by rw [z])
      tm_at "g"
      refine w_ixL h1 (atI_map hix) ?_
      tm_at "g"
      refine w_setL h1 (by rw [List.length_map]; exact hix) ?_
      tm_at "g"
      refine w_tupL upd_same fun r H3 s3 n3' h3 => ?_
      exact fin _ (by rw [if_neg n2, if_neg n3]) r H3 s3 h3
end
end Kt
end -- KVal
section -- KMach
set_option Elab.async false
set_option linter.all false
set_option maxRecDepth 100000
set_option maxHeartbeats 4000000
/-! KMach: a machine's step, each method once. -/
namespace Kt
open PySem L2
/-! ### fields by name -/
theorem lk_hit {k : Str} {v : V} {r : List (Str × V)} : List.lookup k ((k, v) :: r) = some v := by simp [List.lookup]
theorem lk_skip {k k' : Str} {v : V} {r : List (Str × V)} (h : (k == k') = false) : List.lookup k ((k', v) :: r) = List.lookup k r := by simp [List.lookup, h]
local macro_rules | `(tactic| tm_at "lk") => `(tactic| (repeat (first | exact lk_hit | exact rfl | (refine Eq.trans (lk_skip (by decide +kernel)) ?_))))
abbrev PtsT := Bk.Pts Pr Cd Str
def flPts (c : Nat) (lp dl da de : Addr) : List (Str × V) := [("_count", .int c), ("pieces", .ref lp), ("leaving", .ref dl), ("arriving", .ref da), ("ends", .ref de)]
def flPg (w : Nat) (vt nt db : Addr) : List (Str × V) := [("width", .int w), ("variables", .ref vt), ("names", .ref nt), ("_bodies", .ref db)]
def flMac (pp pt pl : Addr) : List (Str × V) := [("_program", .ref pp), ("_points", .ref pt), ("_places", .ref pl)]
section
variable {c w : Nat} {lp dl da de vt nt db pp pt pl : Addr}
theorem flPts_count : (flPts c lp dl da de).lookup ("_count" : Str) = some (.int c) := by unfold flPts; tm_at "lk"
theorem flPts_pieces : (flPts c lp dl da de).lookup ("pieces" : Str) = some (.ref lp) := by unfold flPts; tm_at "lk"
theorem flPts_leaving : (flPts c lp dl da de).lookup ("leaving" : Str) = some (.ref dl) := by unfold flPts; tm_at "lk"
theorem flPts_arriving : (flPts c lp dl da de).lookup ("arriving" : Str) = some (.ref da) := by unfold flPts; tm_at "lk"
theorem flPts_ends : (flPts c lp dl da de).lookup ("ends" : Str) = some (.ref de) := by unfold flPts; tm_at "lk"
theorem flPg_width : (flPg w vt nt db).lookup ("width" : Str) = some (.int w) := by unfold flPg; tm_at "lk"
theorem flPg_variables : (flPg w vt nt db).lookup ("variables" : Str) = some (.ref vt) := by unfold flPg; tm_at "lk"
theorem flPg_names : (flPg w vt nt db).lookup ("names" : Str) = some (.ref nt) := by unfold flPg; tm_at "lk"
theorem flPg_bodies : (flPg w vt nt db).lookup ("_bodies" : Str) = some (.ref db) := by unfold flPg; tm_at "lk"
theorem flPg_body : (flPg w vt nt db).lookup ("body" : Str) = none := by unfold flPg; tm_at "lk"
theorem flMac_program : (flMac pp pt pl).lookup ("_program" : Str) = some (.ref pp) := by unfold flMac; tm_at "lk"
theorem flMac_points : (flMac pp pt pl).lookup ("_points" : Str) = some (.ref pt) := by unfold flMac; tm_at "lk"
theorem flMac_places : (flMac pp pt pl).lookup ("_places" : Str) = some (.ref pl) := by unfold flMac; tm_at "lk"
theorem flMac_step : (flMac pp pt pl).lookup ("step" : Str) = none := by unfold flMac; tm_at "lk"
theorem flMac_done : (flMac pp pt pl).lookup ("_done" : Str) = none := by unfold flMac; tm_at "lk"
theorem flMac_next : (flMac pp pt pl).lookup ("_next_point" : Str) = none := by unfold flMac; tm_at "lk"
theorem flMac_ret : (flMac pp pt pl).lookup ("_returned" : Str) = none := by unfold flMac; tm_at "lk"
theorem flMac_run : (flMac pp pt pl).lookup ("run" : Str) = none := by unfold flMac; tm_at "lk"
theorem flMac_begin : (flMac pp pt pl).lookup ("begin" : Str) = none := by unfold flMac; tm_at "lk"
theorem flMac_stopped : (flMac pp pt pl).lookup ("stopped" : Str) = none := by unfold flMac; tm_at "lk"
end
/-! ### the points and the machine in the heap -/
def sgI (s : Bool) : Int := if s then 1 else -1
def PcV (H : Hp) (v : V) : Bk.Pc Pr Cd Str → Prop
  | .call f m n s => ∃ q, v = .ref q ∧ H q = some (.tup [.str "call", .int (f : Nat), .int (m : Nat), .str n, .int (sgI s)])
  | .act f m p => ∃ q pv, v = .ref q ∧ H q = some (.tup [.str "do", .int (f : Nat), .int (m : Nat), pv]) ∧ PrV H pv p
  | .fork o c y n => ∃ q cv, v = .ref q ∧ H q = some (.tup [.str "fork", .int (o : Nat), cv, .int (y : Nat), .int (n : Nat)]) ∧ CdV H cv c
  | .join y n c o => ∃ q cv, v = .ref q ∧ H q = some (.tup [.str "join", .int (y : Nat), .int (n : Nat), cv, .int (o : Nat)]) ∧ CdV H cv c
theorem PcV.mono {H H' : Hp} (i : Im H H') {v : V} : ∀ {p : Bk.Pc Pr Cd Str}, PcV H v p → PcV H' v p
  | .call _ _ _ _, ⟨q, e, h⟩ => ⟨q, e, i _ _ h⟩
  | .act _ _ _, ⟨q, pv, e, h, g⟩ => ⟨q, pv, e, i _ _ h, g.mono i⟩
  | .fork _ _ _ _, ⟨q, cv, e, h, g⟩ => ⟨q, cv, e, i _ _ h, g.mono i⟩
  | .join _ _ _ _, ⟨q, cv, e, h, g⟩ => ⟨q, cv, e, i _ _ h, g.mono i⟩
def PcsV (H : Hp) (vs : List V) (ps : List (Bk.Pc Pr Cd Str)) : Prop := vs.length = ps.length ∧ ∀ (k : Nat) v p, vs[k]? = some v → ps[k]? = some p → PcV H v p
theorem PcsV.mono {H H' : Hp} (i : Im H H') {vs : List V} {ps : List (Bk.Pc Pr Cd Str)} (h : PcsV H vs ps) : PcsV H' vs ps := ⟨h.1, fun k v p a b => (h.2 k v p a b).mono i⟩
def MapV (kvs : List (Key × V)) (f : Nat → Option Nat) : Prop := ∀ x : Nat, valV kvs (.inl (x : Int)) = (f x).map fun k => V.int (k : Nat)
structure PtsX (a : Ad) (H : Hp) (p dx lp dl da de : Addr) (T : PtsT) : Prop where
  ob : H p = some (.ins a.c_Points dx (flPts T.cnt lp dl da de))
  pcs : ∃ vs, H lp = some (.lst vs) ∧ PcsV H vs T.pcs
  lv : ∃ kvs, H dl = some (.dK kvs) ∧ MapV kvs T.lv ∧ kvs.length ≤ 2 * T.pcs.length
  ar : ∃ kvs, H da = some (.dK kvs) ∧ MapV kvs T.ar ∧ kvs.length ≤ 2 * T.pcs.length
  dne : dl ≠ da
theorem PtsX.mono {a : Ad} {H H' : Hp} {p dx lp dl da de : Addr} {T : PtsT} (h : PtsX a H p dx lp dl da de T) (s : Same H H') : PtsX a H' p dx lp dl da de T :=
  ⟨s _ _ h.ob, let ⟨vs, h1, h2⟩ := h.pcs; ⟨vs, s _ _ h1, h2.mono (Im.of s)⟩, let ⟨k, h1, h2⟩ := h.lv; ⟨k, s _ _ h1, h2⟩, let ⟨k, h1, h2⟩ := h.ar; ⟨k, s _ _ h1, h2⟩, h.dne⟩
def EndsA (H : Hp) (de : Addr) (E : Str → Nat × Nat) (ns : List Str) : Prop := ∃ kvs, H de = some (.dK kvs) ∧ ∀ n ∈ ns, ∃ q, valV kvs (.inr n) = some (.ref q) ∧ H q = some (.tup [.int ((E n).1 : Nat), .int ((E n).2 : Nat)])
theorem EndsA.mono {H H' : Hp} {de : Addr} {E : Str → Nat × Nat} {ns : List Str} (h : EndsA H de E ns) (s : Same H H') : EndsA H' de E ns :=
  let ⟨k, h1, h2⟩ := h; ⟨k, s _ _ h1, fun n hn => let ⟨q, e, g⟩ := h2 n hn; ⟨q, e, s _ _ g⟩⟩
/-- a machine's data -/
structure MD where
  w : Nat
  vars : List Str
  T : PtsT
  E : Str → Nat × Nat
  ns : List Str
abbrev MD.M (d : MD) : Bk.Sem Pr Cd (List Int) := PM d.vars d.w
abbrev Cfg := Bk.Cf (List Int)
def MD.step (d : MD) (c : Cfg) : Option Cfg := Bk.stepC d.M d.T d.E c
structure MD.Ok (d : MD) : Prop where
  w8 : d.w ≤ 8
  v6 : d.vars.length ≤ 6
  lv : ∀ x k, d.T.lv x = some k → k < d.T.pcs.length
  ar : ∀ x k, d.T.ar x = some k → k < d.T.pcs.length
  act : ∀ (k : Nat) f m p, d.T.pcs[k]? = some (.act f m p) → p.ok d.vars (2 ^ d.w)
  fork : ∀ (k : Nat) o c y n, d.T.pcs[k]? = some (.fork o c y n) → c.ok d.vars (2 ^ d.w)
  join : ∀ (k : Nat) o c y n, d.T.pcs[k]? = some (.join y n c o) → c.ok d.vars (2 ^ d.w)
  call : ∀ (k : Nat) f m n s, d.T.pcs[k]? = some (.call f m n s) → n ∈ d.ns
def MacA (a : Ad) (H : Hp) (m : Addr) (d : MD) : Prop := ∃ dx pp pt pl dxp vt nt db dxt lp dl da de, H m = some (.ins a.c_Machine dx (flMac pp pt pl)) ∧ H pp = some (.ins a.c_Program dxp (flPg d.w vt nt db)) ∧
  PtsX a H pt dxt lp dl da de d.T ∧ EndsA H de d.E d.ns ∧ PlA H pl d.vars
theorem MacA.mono {a : Ad} {H H' : Hp} {m : Addr} {d : MD} (h : MacA a H m d) (s : Same H H') : MacA a H' m d :=
  let ⟨dx, pp, pt, pl, dxp, vt, nt, db, dxt, lp, dl, da, de, h1, h2, h3, h4, h5⟩ := h
  ⟨dx, pp, pt, pl, dxp, vt, nt, db, dxt, lp, dl, da, de, s _ _ h1, s _ _ h2, h3.mono s, h4.mono s, h5.mono s⟩
/-- a configuration -/
def CfV (H : Hp) (v : V) (c : Cfg) : Prop := ∃ q fr st, v = .ref q ∧ H q = some (.tup [.int (c.pt : Nat), .int (sgI c.hd), .ref fr, .ref st]) ∧ H fr = some (.tup (c.fr.map fun k => V.int (k : Nat))) ∧ StA H st c.st
theorem CfV.mono {H H' : Hp} (i : Im H H') {v : V} {c : Cfg} (h : CfV H v c) : CfV H' v c := let ⟨q, fr, st, e, h1, h2, h3⟩ := h; ⟨q, fr, st, e, i _ _ h1, i _ _ h2, i _ _ h3⟩
structure CfOk (d : MD) (c : Cfg) (n : Nat) : Prop where
  st : StOk d.vars (2 ^ d.w) c.st
  fr : ∀ k ∈ c.fr, ∃ f m p s, d.T.pcs[k]? = some (.call f m p s)
  len : c.fr.length ≤ n
theorem sgI_mul (x y : Bool) : sgI x * sgI y = sgI (x == y) := by cases x <;> cases y <;> rfl
theorem sgI_1 (x : Bool) : decide (V.int (sgI x) = V.int 1) = x := by cases x <;> decide
theorem sgI_m (x : Bool) : decide (V.int (sgI x) = V.int (-1)) = !x := by cases x <;> decide
theorem sgI_lo (x : Bool) : -(2 ^ 64) < sgI x ∧ sgI x < 2 ^ 64 := by cases x <;> decide
/-! ### promises -/
def Gives (H : Hp) (Q : VK) : Option Cfg → Prop
  | none => ∀ H', Same H H' → Q .non H'
  | some c => ∀ H' v, Same H H' → CfV H' v c → Q v H'
def spRet (a : Ad) : Sp := fun vs H Q _ => ∃ (d : MD) (m : Addr) (cv : V) (c : Cfg) (n : Nat), vs = [.ref m, cv] ∧ MacA a H m d ∧ d.Ok ∧ CfV H cv c ∧ CfOk d c n ∧ n ≤ 5000 ∧ Gives H Q (Bk.retn d.T c)
def spStep (a : Ad) : Sp := fun vs H Q _ => ∃ (d : MD) (m : Addr) (cv : V) (c : Cfg) (n : Nat), vs = [.ref m, cv] ∧ MacA a H m d ∧ d.Ok ∧ CfV H cv c ∧ CfOk d c n ∧ n ≤ 5000 ∧ Gives H Q (d.step c)
theorem cut_last {xs : List V} {v : V} : cutV (xs ++ [v]) none (some (-1)) = xs ∧ ¬ (HT.sIx (xs ++ [v]).length 0 none = 0 ∧ HT.sIx (xs ++ [v]).length (xs ++ [v]).length (some (-1)) = (xs ++ [v]).length) := by
  have e : HT.sIx (xs ++ [v]).length (xs ++ [v]).length (some (-1)) = xs.length := by
    unfold HT.sIx
    rw [List.length_append, List.length_singleton]
    simp
    omega
  have e0 : HT.sIx (xs ++ [v]).length 0 none = 0 := rfl
  refine ⟨?_, fun z => ?_⟩
  · unfold cutV
    rw [e, e0]
    simp
  · rw [e, List.length_append, List.length_singleton] at z
    omega
section
variable {P : Program} {w : World} {K : PySem.W.Frag} {mg : Str → Option Value} {base : Heap} {a : Ad}
local macro_rules | `(tactic| tm_at "g") => `(tactic| repeat (first
  | with_reducible refine w_seq ?_ | with_reducible refine w_if ?_ | with_reducible refine w_tB ?_ | with_reducible refine w_tTest ?_ | with_reducible refine w_asg ?_ | with_reducible refine w_name ?_
  | with_reducible refine w_ret ?_ | with_reducible refine w_next ?_ | with_reducible refine w_op ?_ | with_reducible refine w_c ?_ | with_reducible refine w_cb ?_ | with_reducible refine w_call ?_ | with_reducible refine w_cons ?_ | with_reducible refine w_nil ?_
  | with_reducible refine w_var (by with_unfolding_all rfl) ?_
  | with_reducible refine w_rI0 ?_ | with_reducible refine w_eq (by with_unfolding_all rfl) ?_ | with_reducible refine w_ne (by with_unfolding_all rfl) ?_
  | with_reducible refine w_test ?_ | with_reducible refine w_T ?_ | with_reducible refine w_F ?_ | with_reducible refine w_T0 ?_ | with_reducible refine w_F0 ?_
  | with_reducible refine w_and ?_ | with_reducible refine w_or ?_ | with_reducible refine w_not ?_ | with_reducible refine w_ifE ?_ | with_reducible refine w_drop ?_
  | with_reducible refine w_andV ?_ | with_reducible refine w_orV ?_ | with_reducible refine w_notV ?_ | with_reducible refine w_dget ?_ | with_reducible refine w_din ?_ | with_reducible refine w_dnin ?_ | with_reducible refine w_fld ?_
  | with_reducible refine w_ttup ?_ | with_reducible refine w_tlst ?_ | with_reducible refine w_un ?_ | with_reducible refine w_rU ?_ | with_reducible refine w_gcons ?_ | with_reducible refine w_gnil ?_ | with_reducible refine w_sub ?_ | with_reducible refine w_sl ?_ | with_reducible refine w_nopart ?_ | with_reducible refine w_part ?_ | with_reducible refine w_int ?_ | with_reducible refine w_meth ?_
  | with_reducible refine w_make ?_ | with_reducible refine w_dput ?_ | with_reducible refine w_sfld ?_ | with_reducible refine w_bm ?_ | with_reducible refine w_bm0 ?_ | with_reducible refine w_isN ?_ | with_reducible refine w_notT ?_ | with_reducible refine w_forR ?_ | with_reducible refine w_forL ?_ | with_reducible refine w_forT ?_))

theorem sc_Machine__returned : FnScope ["self", "configuration", "_point", "heading", "frames", "store", "_word", "here", "after", "_name", "sign", "outer"] ["self", "configuration"] (defScope s_Machine__returned) := ⟨rfl, rfl, rfl, by decide +kernel, rfl, by decide +kernel, by decide +kernel⟩
theorem ok_returned (T : Tx w K mg a) : FnOk P w K mg base CX0 1 a.f_Machine__returned a.d_Machine__returned ["self", "configuration"] (spRet a) := by
  refine T.F_Machine__returned.ok sc_Machine__returned (fun vs H Q E h => ?_) (fun cdv A outer s H vs Q E hr h => ?_)
  · obtain ⟨d, m, cv, c, n, rfl, _⟩ := h
    rfl
  · obtain ⟨d, m, cv, c, n, rfl, hm, hd, hc, ok, hn, q⟩ := h
    have hu := hu_of hr
    obtain ⟨dx, pp, pt, pl, dxp, vt, nt, db, dxt, lp, dl, da, de, m1, m2, m3, m4, m5⟩ := hm
    obtain ⟨qa, fr, st, rfl, c1, c2, c3⟩ := hc
    refine ⟨_, (pss_cons (ps_asg (pv 1) (pg_tup rfl (pgs_cons (pg_name (i := 2) sc_Machine__returned.nd rfl (Or.inl rfl)) (pgs_cons (pg_name (i := 3) sc_Machine__returned.nd rfl (Or.inl rfl)) (pgs_cons (pg_name (i := 4) sc_Machine__returned.nd rfl (Or.inl rfl)) (pgs_cons (pg_name (i := 5) sc_Machine__returned.nd rfl (Or.inl rfl)) pgs_nil))))))
    (pss_cons (ps_if (pt_not (pt_truth (pv 4) (by intro _; rfl))) (pss_one (ps_ret pe_non)) pss_nil)
    (pss_cons (ps_asg (pe_ix ix_list (pe_fld (pe_fld (pv 0) rfl) rfl) (pe_ix ix_tup (pv 4) (pe_un un_neg pe_int) (fun _ _ => rfl)) (fun _ _ => rfl)) (pg_tup rfl (pgs_cons (pg_name (i := 6) sc_Machine__returned.nd rfl (Or.inl rfl)) (pgs_cons (pg_name (i := 7) sc_Machine__returned.nd rfl (Or.inl rfl)) (pgs_cons (pg_name (i := 8) sc_Machine__returned.nd rfl (Or.inl rfl)) (pgs_cons (pg_name (i := 9) sc_Machine__returned.nd rfl (Or.inl rfl)) (pgs_cons (pg_name (i := 10) sc_Machine__returned.nd rfl (Or.inl rfl)) pgs_nil)))))))
    (pss_cons (ps_set (i := 11) sc_Machine__returned.nd rfl (Or.inl rfl) (pe_op op_mul (pv 3) (pv 10)))
    (pss_one (ps_ret (pe_tup (pa_cons (pe_ifExp (pt_cmpR op_eq (pv 11) pe_int (nomark _)) (pv 8) (pv 7)) (pa_cons (pv 11) (pa_cons (pe_slice sl_tupA (pv 4) po_none (po_some (pe_un un_neg pe_int))) (pa_cons (pv 5) pa_nil))))))))))), ?_⟩
    tm_at "g"
    refine w_tup c1 rfl ?_
    tm_at "g"
    rcases List.eq_nil_or_concat c.fr with e | ⟨fr', k, e⟩
    · rw [e] at c2
      have qn : Bk.retn d.T c = none := by simp only [Bk.retn, e, List.getLast?_nil]
      rw [qn] at q
      refine w_truT0 c2 ?_
      tm_at "g"
      exact q H (Same.refl H)
    · rw [List.concat_eq_append] at e
      rw [e, List.map_append] at c2
      obtain ⟨f, mm, p, s, hp⟩ := ok.fr k (by rw [e]; simp)
      have qn : Bk.retn d.T c = some ⟨if c.hd == s then mm else f, c.hd == s, fr', c.st⟩ := by
        simp only [Bk.retn, e, List.getLast?_append, List.getLast?_singleton, Option.some_or, hp, List.dropLast_concat]
      rw [qn] at q
      have hk : k < d.T.pcs.length := (List.getElem?_eq_some_iff.mp hp).1
      obtain ⟨vs, p1, p2, p3⟩ := m3.pcs
      obtain ⟨v, hv⟩ : ∃ v, vs[k]? = some v := ⟨vs[k]'(by omega), List.getElem?_eq_getElem _⟩
      obtain ⟨qq, rfl, hq⟩ := p3 k v _ hv hp
      refine w_truTn c2 (by simp) ?_
      tm_at "g"
      refine w_obj m1 T.cl_Machine T.na_Machine__points flMac_points ?_
      refine w_obj m3.ob T.cl_Points T.na_Points_pieces flPts_pieces ?_
      tm_at "g"
      refine w_ixT c2 (atI_last _ _) ?_
      refine w_ixL p1 (atI_nat hv) ?_
      refine w_tup hq rfl ?_
      tm_at "g"
      refine w_rI (.inl (sgI_lo _)) ?_
      tm_at "g"
      rw [sgI_mul, sgI_1]
      refine w_b (fun h => ?_) (fun h => ?_)
      all_goals
        tm_at "g"
        refine w_slP c2 cut_last.2 fun r H1 s1 n1 h1 => ?_
        have e1 := cut_last.1 ▸ h1
        tm_at "g"
        refine w_lay (by show 4 ≤ 100000; decide) fun r2 H2 s2 n2 h2 => ?_
        rw [h] at q h2
        exact q H2 _ (s1.trans s2) ⟨r2, r, st, rfl, h2, s2 _ _ e1, s2 _ _ (s1 _ _ c3)⟩
def nextPt (M : Bk.Sem Pr Cd (List Int)) (outw : Bool) (one : Nat) (cd : Cd) (yes no pt : Nat) (st : List Int) : Option Nat :=
  if outw then some (if M.tst cd st then yes else no) else if M.tst cd st = (pt == yes) then some one else none
theorem gate_next (M : Bk.Sem Pr Cd (List Int)) (outw : Bool) (one : Nat) (cd : Cd) (yes no : Nat) (c : Cfg) : Bk.gate M outw one cd yes no c = (nextPt M outw one cd yes no c.pt c.st).map fun x => ⟨x, c.hd, c.fr, c.st⟩ := by
  unfold Bk.gate nextPt
  cases outw with
  | true => rfl
  | false =>
    by_cases h : M.tst cd c.st = (c.pt == yes)
    · simp [h]
    · simp [h]
def PtV (H : Hp) (Q : VK) : Option Nat → Prop
  | none => ∀ H', Same H H' → Q .non H'
  | some x => ∀ H', Same H H' → Q (.int (x : Nat)) H'
/-- piece pc is a gate: where it leads -/
def gateOf (d : MD) (h : Bool) (pt : Nat) (st : List Int) : Bk.Pc Pr Cd Str → Option (Option Nat)
  | .fork one cd yes no => some (nextPt d.M h one cd yes no pt st)
  | .join yes no cd one => some (nextPt d.M (!h) one cd yes no pt st)
  | _ => none
def spNext (a : Ad) : Sp := fun vs H Q _ => ∃ (d : MD) (m sa : Addr) (pv : V) (pc : Bk.Pc Pr Cd Str) (pt : Nat) (h : Bool) (st : List Int) (k : Nat) (r : Option Nat), vs = [.ref m, pv, .int (pt : Nat), .int (sgI h), .ref sa] ∧ MacA a H m d ∧ d.Ok ∧
  PcV H pv pc ∧ d.T.pcs[k]? = some pc ∧ StA H sa st ∧ StOk d.vars (2 ^ d.w) st ∧ gateOf d h pt st pc = some r ∧ PtV H Q r
theorem dec_nat (x y : Nat) : decide (V.int (x : Nat) = V.int (y : Nat)) = (x == y) := by
  by_cases h : x = y
  · subst h; simp
  · have h2 : ¬ V.int (x : Nat) = V.int (y : Nat) := fun z => h (by injection z with z; omega)
    rw [decide_eq_false h2]
    simp [h]
theorem dec_b (x y : Bool) : decide (V.bl x = V.bl y) = decide (x = y) := by cases x <;> cases y <;> decide
theorem next_end {H H1 : Hp} {Q : VK} {M : Bk.Sem Pr Cd (List Int)} {outw : Bool} {one : Nat} {cd : Cd} {yes no pt : Nat} {st : List Int} (q : PtV H Q (nextPt M outw one cd yes no pt st)) (s : Same H H1) :
    (outw = true → (M.tst cd st = true → Q (.int (yes : Nat)) H1) ∧ (M.tst cd st = false → Q (.int (no : Nat)) H1)) ∧ (outw = false → (M.tst cd st = (pt == yes) → Q (.int (one : Nat)) H1) ∧ (¬ M.tst cd st = (pt == yes) → Q .non H1)) := by
  unfold nextPt at q
  refine ⟨fun h => ⟨fun e => ?_, fun e => ?_⟩, fun h => ⟨fun e => ?_, fun e => ?_⟩⟩
  · rw [h, if_pos rfl, e] at q; exact q H1 s
  · rw [h, if_pos rfl, e] at q; exact q H1 s
  · rw [h, if_neg (by decide), if_pos e] at q; exact q H1 s
  · rw [h, if_neg (by decide), if_neg e] at q; exact q H1 s
theorem sc_Machine__next_point : FnScope ["self", "piece", "point", "heading", "store", "one", "condition", "yes", "no", "outwards", "true"] ["self", "piece", "point", "heading", "store"] (defScope s_Machine__next_point) := ⟨rfl, rfl, rfl, by decide +kernel, rfl, by decide +kernel, by decide +kernel⟩
theorem ok_next_point (T : Tx w K mg a) : FnOk P w K mg base CX0 3 a.f_Machine__next_point a.d_Machine__next_point ["self", "piece", "point", "heading", "store"] (spNext a) := by
  have G_holds : FnOk P w K mg base CX0 2 _ _ _ spHolds := ok_holds T
  refine T.F_Machine__next_point.ok sc_Machine__next_point (fun vs H Q E h => ?_) (fun cdv A outer s H vs Q E hr h => ?_)
  · obtain ⟨d, m, sa, pcv, pc, pt, h, st, k, r, rfl, _⟩ := h
    rfl
  · obtain ⟨d, m, sa, pcv, pc, pt, h, st, k, r, rfl, hm, hd, hp, hk, hs, ho, hg, q⟩ := h
    have hu := hu_of hr
    have hm0 := hm
    obtain ⟨dx, pp, ptt, pl, dxp, vt, nt, db, dxt, lp, dl, da, de, m1, m2, m3, m4, m5⟩ := hm
    refine ⟨_, (pss_cons (ps_if (pt_cmpR op_eq (pe_ix ix_tup (pv 1) pe_int (fun _ _ => rfl)) pe_str (nomark _)) (pss_cons (ps_asg (pe_slice sl_tupA (pv 1) (po_some pe_int) po_none) (pg_tup rfl (pgs_cons (pg_name (i := 5) sc_Machine__next_point.nd rfl (Or.inl rfl)) (pgs_cons (pg_name (i := 6) sc_Machine__next_point.nd rfl (Or.inl rfl)) (pgs_cons (pg_name (i := 7) sc_Machine__next_point.nd rfl (Or.inl rfl)) (pgs_cons (pg_name (i := 8) sc_Machine__next_point.nd rfl (Or.inl rfl)) pgs_nil))))))
    (pss_one (ps_set (i := 9) sc_Machine__next_point.nd rfl (Or.inl rfl) (pe_cmpR op_eq (pv 3) pe_int (nomark _))))) (pss_cons (ps_asg (pe_slice sl_tupA (pv 1) (po_some pe_int) po_none) (pg_tup rfl (pgs_cons (pg_name (i := 7) sc_Machine__next_point.nd rfl (Or.inl rfl)) (pgs_cons (pg_name (i := 8) sc_Machine__next_point.nd rfl (Or.inl rfl)) (pgs_cons (pg_name (i := 6) sc_Machine__next_point.nd rfl (Or.inl rfl)) (pgs_cons (pg_name (i := 5) sc_Machine__next_point.nd rfl (Or.inl rfl)) pgs_nil))))))
    (pss_one (ps_set (i := 9) sc_Machine__next_point.nd rfl (Or.inl rfl) (pe_cmpR op_eq (pv 3) (pe_un un_neg pe_int) (nomark _))))))
    (pss_cons (ps_set (i := 10) sc_Machine__next_point.nd rfl (Or.inl rfl) (pe_call G_holds (hr.mono (by decide)) rfl T.g_holds T.F_holds.kp T.b_holds .nil pass0 (pa_cons (pv 6) (pa_cons (pe_fld (pv 0) rfl) (pa_cons (pv 4) pa_nil)))))
    (pss_cons (ps_if (pt_val (pv 9)) (pss_one (ps_ret (pe_ifExp (pt_val (pv 10)) (pv 7) (pv 8)))) pss_nil)
    (pss_one (ps_ret (pe_ifExp (pt_cmpR op_eq (pv 10) (pe_cmpR op_eq (pv 2) (pv 7) (nomark _)) (nomark _)) (pv 5) pe_non)))))), ?_⟩
    cases pc with
    | call _ _ _ _ => cases hg
    | act _ _ _ => cases hg
    | fork one cd yes no =>
      obtain ⟨qa, cv, rfl, h1, h2⟩ := hp
      have hg' : nextPt d.M h one cd yes no pt st = r := Option.some.inj hg
      subst hg'
      tm_at "g"
      refine w_ixT h1 (atI_nat (j := 0) rfl) ?_
      tm_at "g"
      refine w_dT rfl ?_
      tm_at "g"
      refine w_sl1 h1 fun r H1 s1 n1 hr1 => ?_
      refine w_tup hr1 rfl ?_
      tm_at "g"
      refine w_obj (s1 _ _ m1) T.cl_Machine T.na_Machine__places flMac_places ?_
      tm_at "g"
      refine ⟨pl, sa, d.vars, _, st, cd, cv, rfl, m5.mono s1, s1 _ _ hs, ho, h2.mono (Im.of s1), hd.fork k _ _ _ _ hk, ?_⟩
      have q2 := next_end q s1
      tm_at "g"
      rw [sgI_1]
      refine w_b (fun e => ?_) (fun e => ?_)
      · tm_at "g"
        refine w_b (fun e2 => ?_) (fun e2 => ?_)
        · tm_at "g"
          exact (q2.1 e).1 e2
        · tm_at "g"
          exact (q2.1 e).2 e2
      · tm_at "g"
        rw [dec_nat, dec_b]
        refine w_d (fun e2 => ?_) (fun e2 => ?_)
        · tm_at "g"
          exact (q2.2 e).1 e2
        · tm_at "g"
          exact (q2.2 e).2 e2
    | join yes no cd one =>
      obtain ⟨qa, cv, rfl, h1, h2⟩ := hp
      have hg' : nextPt d.M (!h) one cd yes no pt st = r := Option.some.inj hg
      subst hg'
      tm_at "g"
      refine w_ixT h1 (atI_nat (j := 0) rfl) ?_
      tm_at "g"
      refine w_dF (by decide +kernel) ?_
      tm_at "g"
      refine w_sl1 h1 fun r H1 s1 n1 hr1 => ?_
      refine w_tup hr1 rfl ?_
      tm_at "g"
      refine w_obj (s1 _ _ m1) T.cl_Machine T.na_Machine__places flMac_places ?_
      tm_at "g"
      refine ⟨pl, sa, d.vars, _, st, cd, cv, rfl, m5.mono s1, s1 _ _ hs, ho, h2.mono (Im.of s1), hd.join k _ _ _ _ hk, ?_⟩
      have q2 := next_end q s1
      tm_at "g"
      rw [sgI_m]
      refine w_b (fun e => ?_) (fun e => ?_)
      · tm_at "g"
        refine w_b (fun e2 => ?_) (fun e2 => ?_)
        · tm_at "g"
          exact (q2.1 e).1 e2
        · tm_at "g"
          exact (q2.1 e).2 e2
      · tm_at "g"
        rw [dec_nat, dec_b]
        refine w_d (fun e2 => ?_) (fun e2 => ?_)
        · tm_at "g"
          exact (q2.2 e).1 e2
        · tm_at "g"
          exact (q2.2 e).2 e2
/-- a change's words -/
theorem undone_of {T : Tx w K mg a} {vars : List Str} {n : Int} {p : Pr} (h : p.ok vars n) : KDct K w a.k_UNDONE p.w (.str (undW p.w)) := by
  obtain ⟨_, h⟩ := h
  obtain ⟨pw, px, po⟩ := p
  dsimp only at *
  rcases h with ⟨h, _⟩ | ⟨h, _⟩
  · have cs : pw = "+=" ∨ pw = "-=" ∨ pw = "^=" := by
      unfold chgL at h
      simpa using h
    rcases cs with e | e | e <;> subst e
    · exact T.v_UNDONE_add
    · exact T.v_UNDONE_sub
    · exact T.v_UNDONE_xor
  · subst h
    exact T.v_UNDONE_swap
def spDone (a : Ad) : Sp := fun vs H Q _ => ∃ (d : MD) (m : Addr) (pv cv : V) (c : Cfg) (f mm : Nat) (p : Pr) (k : Nat), vs = [.ref m, pv, cv] ∧ MacA a H m d ∧ d.Ok ∧ PcV H pv (.act f mm p) ∧ d.T.pcs[k]? = some (.act f mm p) ∧ CfV H cv c ∧ StOk d.vars (2 ^ d.w) c.st ∧
  Gives H Q (some ⟨if c.hd then mm else f, c.hd, c.fr, d.M.act (if c.hd then p else p.und) c.st⟩)
theorem sc_Machine__done : FnScope ["self", "piece", "configuration", "_point", "heading", "frames", "store", "statement", "after"] ["self", "piece", "configuration"] (defScope s_Machine__done) := ⟨rfl, rfl, rfl, by decide +kernel, rfl, by decide +kernel, by decide +kernel⟩
theorem ok_done (T : Tx w K mg a) : FnOk P w K mg base CX0 4 a.f_Machine__done a.d_Machine__done ["self", "piece", "configuration"] (spDone a) := by
  have G_changed : FnOk P w K mg base CX0 3 _ _ _ spChanged := ok_changed T
  refine T.F_Machine__done.ok sc_Machine__done (fun vs H Q E h => ?_) (fun cdv A outer s H vs Q E hr h => ?_)
  · obtain ⟨d, m, pcv, cv, c, f, mm, p, k, rfl, _⟩ := h
    rfl
  · obtain ⟨d, m, pcv, cv, c, f, mm, p, k, rfl, hm, hd, ⟨qa, ov, rfl, h1, hp⟩, hk, hc, ho, q⟩ := h
    have hu := hu_of hr
    have hm0 := hm
    have pok := hd.act k _ _ _ hk
    have pok0 := pok
    obtain ⟨dx, pp, ptt, pl, dxp, vt, nt, db, dxt, lp, dl, da, de, m1, m2, m3, m4, m5⟩ := hm
    obtain ⟨qc, fr, st, rfl, c1, c2, c3⟩ := hc
    refine ⟨_, (pss_cons (ps_asg (pv 2) (pg_tup rfl (pgs_cons (pg_name (i := 3) sc_Machine__done.nd rfl (Or.inl rfl)) (pgs_cons (pg_name (i := 4) sc_Machine__done.nd rfl (Or.inl rfl)) (pgs_cons (pg_name (i := 5) sc_Machine__done.nd rfl (Or.inl rfl)) (pgs_cons (pg_name (i := 6) sc_Machine__done.nd rfl (Or.inl rfl)) pgs_nil))))))
    (pss_cons (ps_set (i := 7) sc_Machine__done.nd rfl (Or.inl rfl) (pe_ix ix_tup (pv 1) pe_int (fun _ _ => rfl)))
    (pss_cons (ps_if (pt_cmpR op_eq (pv 4) (pe_un un_neg pe_int) (nomark _)) (pss_one (ps_set (i := 7) sc_Machine__done.nd rfl (Or.inl rfl) (pe_op op_catA (pe_tup (pa_cons (pe_ix ix_kdict (pe_glob (v := .ref a.k_UNDONE) rfl T.g_UNDONE rfl) (pe_ix ix_tup (pv 7) pe_int (fun _ _ => rfl)) (fun _ _ => rfl)) pa_nil)) (pe_slice sl_tupA (pv 7) (po_some pe_int) po_none)))) pss_nil)
    (pss_cons (ps_set (i := 8) sc_Machine__done.nd rfl (Or.inl rfl) (pe_call G_changed (hr.mono (by decide)) rfl T.g_changed T.F_changed.kp T.b_changed .nil pass0 (pa_cons (pv 7) (pa_cons (pe_fld (pv 0) rfl) (pa_cons (pv 6) (pa_cons (pe_fld (pe_fld (pv 0) rfl) rfl) pa_nil))))))
    (pss_one (ps_ret (pe_tup (pa_cons (pe_ifExp (pt_cmpR op_eq (pv 4) pe_int (nomark _)) (pe_ix ix_tup (pv 1) pe_int (fun _ _ => rfl)) (pe_ix ix_tup (pv 1) pe_int (fun _ _ => rfl))) (pa_cons (pv 4) (pa_cons (pv 5) (pa_cons (pv 8) pa_nil))))))))))), ?_⟩
    tm_at "g"
    refine w_tup c1 rfl ?_
    tm_at "g"
    refine w_ixT h1 (atI_nat (j := 3) rfl) ?_
    tm_at "g"
    rw [sgI_m]
    refine w_b (fun e => ?_) (fun e => ?_)
    · rw [Bool.not_eq_true'] at e
      rw [e] at q
      obtain ⟨qp, pov, rfl, hp1, hp2⟩ := hp
      tm_at "g"
      refine w_ixT hp1 (atI_nat (j := 0) rfl) ?_
      refine w_kd (undone_of (T := T) pok) ?_
      tm_at "g"
      refine w_lay (by show 1 ≤ 100000; decide) fun r1 H1 s1 n1 h1' => ?_
      tm_at "g"
      refine w_sl1 (s1 _ _ hp1) fun r2 H2 s2 n2 h2 => ?_
      refine w_cat (s2 _ _ h1') h2 (by show 3 ≤ 100000; decide) (by simp) fun r3 H3 s3 h3 => ?_
      have s03 : Same H H3 := (s1.trans s2).trans s3
      tm_at "g"
      refine w_obj (s03 _ _ m1) T.cl_Machine T.na_Machine__places flMac_places ?_
      tm_at "g"
      refine w_obj (s03 _ _ m1) T.cl_Machine T.na_Machine__program flMac_program ?_
      refine w_obj (s03 _ _ m2) T.cl_Program T.na_Program_width flPg_width ?_
      tm_at "g"
      refine ⟨pl, st, d.vars, d.w, c.st, p.und, _, rfl, m5.mono s03, s03 _ _ c3, ho, hd.w8, hd.v6, ⟨r3, pov, rfl, h3, hp2.mono (Im.of s03)⟩, Pr.ok_und p pok, fun rr H4 s4 h4 => ?_⟩
      tm_at "g"
      rw [sgI_1, e]
      tm_at "g"
      refine w_ixT (s4 _ _ (s03 _ _ h1)) (atI_nat (j := 1) rfl) ?_
      tm_at "g"
      refine w_lay (by show 4 ≤ 100000; decide) fun r5 H5 s5 n5 h5 => ?_
      have s05 := (s03.trans s4).trans s5
      exact q H5 _ s05 ⟨r5, fr, rr, rfl, h5, s05 _ _ c2, s5 _ _ h4⟩
    · have e : c.hd = true := by simpa using e
      rw [e] at q
      tm_at "g"
      refine w_obj m1 T.cl_Machine T.na_Machine__places flMac_places ?_
      tm_at "g"
      refine w_obj m1 T.cl_Machine T.na_Machine__program flMac_program ?_
      refine w_obj m2 T.cl_Program T.na_Program_width flPg_width ?_
      tm_at "g"
      refine ⟨pl, st, d.vars, d.w, c.st, p, _, rfl, m5, c3, ho, hd.w8, hd.v6, hp, pok, fun rr H4 s4 h4 => ?_⟩
      tm_at "g"
      rw [sgI_1, e]
      tm_at "g"
      refine w_ixT (s4 _ _ h1) (atI_nat (j := 2) rfl) ?_
      tm_at "g"
      refine w_lay (by show 4 ≤ 100000; decide) fun r5 H5 s5 n5 h5 => ?_
      have s05 := s4.trans s5
      exact q H5 _ s05 ⟨r5, fr, rr, rfl, h5, s05 _ _ c2, s5 _ _ h4⟩
theorem gate_of (d : MD) (c : Cfg) (k : Nat) (pc : Bk.Pc Pr Cd Str) (r : Option Nat) (h : gateOf d c.hd c.pt c.st pc = some r) : Bk.turn d.M d.E k c pc = r.map fun x => ⟨x, c.hd, c.fr, c.st⟩ := by
  cases pc with
  | call _ _ _ _ => cases h
  | act _ _ _ => cases h
  | fork one cd yes no =>
    have h' := Option.some.inj h
    subst h'
    exact gate_next _ _ _ _ _ _ _
  | join yes no cd one =>
    have h' := Option.some.inj h
    subst h'
    exact gate_next _ _ _ _ _ _ _
theorem sc_Machine_step : FnScope ["self", "configuration", "point", "heading", "frames", "store", "pieces", "number", "piece", "inner", "first", "last", "after"] ["self", "configuration"] (defScope s_Machine_step) := ⟨rfl, rfl, rfl, by decide +kernel, rfl, by decide +kernel, by decide +kernel⟩
theorem ok_step (T : Tx w K mg a) : FnOk P w K mg base CX0 5 a.f_Machine_step a.d_Machine_step ["self", "configuration"] (spStep a) := by
  have G_Machine__returned : FnOk P w K mg base CX0 1 _ _ _ (spRet a) := ok_returned T
  have G_Machine__done : FnOk P w K mg base CX0 4 _ _ _ (spDone a) := ok_done T
  have G_Machine__next_point : FnOk P w K mg base CX0 3 _ _ _ (spNext a) := ok_next_point T
  refine T.F_Machine_step.ok sc_Machine_step (fun vs H Q E h => ?_) (fun cdv A outer s H vs Q E hr h => ?_)
  · obtain ⟨d, m, cv, c, n, rfl, _⟩ := h
    rfl
  · obtain ⟨d, m, cv, c, n, rfl, hm, hd, hc, ok, hn, q⟩ := h
    have hu := hu_of hr
    have hm0 := hm
    have hc0 := hc
    obtain ⟨dx, pp, ptt, pl, dxp, vt, nt, db, dxt, lp, dl, da, de, m1, m2, m3, m4, m5⟩ := hm
    obtain ⟨qc, fr, st, rfl, c1, c2, c3⟩ := hc
    obtain ⟨kl, l1, l2, _⟩ := m3.lv
    obtain ⟨ka, a1, a2, _⟩ := m3.ar
    obtain ⟨ps, p1, p2, p3⟩ := m3.pcs
    have kb : ∀ k, d.T.out c.hd c.pt = some k → k < d.T.pcs.length := fun k e => by
      cases eh : c.hd with
      | true => rw [eh] at e; exact hd.lv _ _ e
      | false => rw [eh] at e; exact hd.ar _ _ e
    obtain ⟨dq, kq, hq, hmap, g1, g2⟩ : ∃ dq kq, H dq = some (.dK kq) ∧ MapV kq (d.T.out c.hd) ∧ (c.hd = true → dq = dl) ∧ (c.hd = false → dq = da) := by
      cases eh : c.hd with
      | true => exact ⟨dl, kl, l1, l2, fun _ => rfl, fun z => Bool.noConfusion z⟩
      | false => exact ⟨da, ka, a1, a2, fun z => Bool.noConfusion z, fun _ => rfl⟩
    refine ⟨_, (pss_cons (ps_asg (pv 1) (pg_tup rfl (pgs_cons (pg_name (i := 2) sc_Machine_step.nd rfl (Or.inl rfl)) (pgs_cons (pg_name (i := 3) sc_Machine_step.nd rfl (Or.inl rfl)) (pgs_cons (pg_name (i := 4) sc_Machine_step.nd rfl (Or.inl rfl)) (pgs_cons (pg_name (i := 5) sc_Machine_step.nd rfl (Or.inl rfl)) pgs_nil))))))
    (pss_cons (ps_set (i := 6) sc_Machine_step.nd rfl (Or.inl rfl) (pe_ifExp (pt_cmpR op_eq (pv 3) pe_int (nomark _)) (pe_fld (pe_fld (pv 0) rfl) rfl) (pe_fld (pe_fld (pv 0) rfl) rfl)))
    (pss_cons (ps_if (pt_cmp (pc_dnotin hu (pv 2) (pv 6))) (pss_one (ps_ret (pe_meth (pv 0) T.cl_Machine T.m_Machine__returned G_Machine__returned (hr.mono (by decide)) T.b_Machine__returned .nil pass0 (pa_cons (pv 1) pa_nil)))) pss_nil)
    (pss_cons (ps_set (i := 7) sc_Machine_step.nd rfl (Or.inl rfl) (pe_dget hu (pv 6) (pv 2) (fun _ _ => rfl)))
    (pss_cons (ps_set (i := 8) sc_Machine_step.nd rfl (Or.inl rfl) (pe_ix ix_list (pe_fld (pe_fld (pv 0) rfl) rfl) (pv 7) (fun _ _ => rfl)))
    (pss_cons (ps_if (pt_cmpR op_eq (pe_ix ix_tup (pv 8) pe_int (fun _ _ => rfl)) pe_str (nomark _)) (pss_cons (ps_set (i := 9) sc_Machine_step.nd rfl (Or.inl rfl) (pe_op op_mul (pv 3) (pe_ix ix_tup (pv 8) pe_int (fun _ _ => rfl))))
    (pss_cons (ps_asg (pe_dget hu (pe_fld (pe_fld (pv 0) rfl) rfl) (pe_ix ix_tup (pv 8) pe_int (fun _ _ => rfl)) (fun _ _ => rfl)) (pg_tup rfl (pgs_cons (pg_name (i := 10) sc_Machine_step.nd rfl (Or.inl rfl)) (pgs_cons (pg_name (i := 11) sc_Machine_step.nd rfl (Or.inl rfl)) pgs_nil))))
    (pss_one (ps_ret (pe_tup (pa_cons (pe_ifExp (pt_cmpR op_eq (pv 9) pe_int (nomark _)) (pv 10) (pv 11)) (pa_cons (pv 9) (pa_cons (pe_op op_catA (pv 4) (pe_tup (pa_cons (pv 7) pa_nil))) (pa_cons (pv 5) pa_nil))))))))) pss_nil)
    (pss_cons (ps_if (pt_cmpR op_eq (pe_ix ix_tup (pv 8) pe_int (fun _ _ => rfl)) pe_str (nomark _)) (pss_one (ps_ret (pe_meth (pv 0) T.cl_Machine T.m_Machine__done G_Machine__done (hr.mono (by decide)) T.b_Machine__done .nil pass0 (pa_cons (pv 8) (pa_cons (pv 1) pa_nil))))) pss_nil)
    (pss_cons (ps_set (i := 12) sc_Machine_step.nd rfl (Or.inl rfl) (pe_meth (pv 0) T.cl_Machine T.m_Machine__next_point G_Machine__next_point (hr.mono (by decide)) T.b_Machine__next_point .nil pass0 (pa_cons (pv 8) (pa_cons (pv 2) (pa_cons (pv 3) (pa_cons (pv 5) pa_nil))))))
    (pss_one (ps_ret (pe_ifExp (pt_cmp (pc_isN (pv 12))) pe_non (pe_tup (pa_cons (pv 12) (pa_cons (pv 3) (pa_cons (pv 4) (pa_cons (pv 5) pa_nil)))))))))))))))), ?_⟩
    tm_at "g"
    refine w_tup c1 rfl ?_
    tm_at "g"
    rw [sgI_1]
    refine w_ifval (v := .ref dq) (fun e Q' q' => ?_) (fun e Q' q' => ?_) ?_
    · tm_at "g"
      refine w_obj m1 T.cl_Machine T.na_Machine__points flMac_points ?_
      refine w_obj m3.ob T.cl_Points T.na_Points_leaving flPts_leaving ?_
      rw [← g1 e]
      exact q'
    · tm_at "g"
      refine w_obj m1 T.cl_Machine T.na_Machine__points flMac_points ?_
      refine w_obj m3.ob T.cl_Points T.na_Points_arriving flPts_arriving ?_
      rw [← g2 e]
      exact q'
    · tm_at "g"
      refine w_diI hq ?_
      rw [hmap c.pt]
      cases eo : d.T.out c.hd c.pt with
      | none =>
        have es : d.step c = Bk.retn d.T c := by simp only [MD.step, Bk.stepC, eo]
        rw [es] at q
        tm_at "g"
        refine w_T' rfl ?_
        tm_at "g"
        refine w_mobj m1 flMac_ret ?_
        tm_at "g"
        exact ⟨d, m, _, c, n, rfl, hm0, hd, hc0, ok, hn, q⟩
      | some k =>
        have hk := kb k eo
        obtain ⟨pc, hpc⟩ : ∃ pc, d.T.pcs[k]? = some pc := ⟨_, List.getElem?_eq_getElem hk⟩
        have es : d.step c = Bk.turn d.M d.E k c pc := by simp only [MD.step, Bk.stepC, eo, hpc]
        rw [es] at q
        obtain ⟨pcv, hv⟩ : ∃ v, ps[k]? = some v := ⟨ps[k]'(by omega), List.getElem?_eq_getElem _⟩
        have hpv := p3 k pcv _ hv hpc
        tm_at "g"
        refine w_F' rfl ?_
        tm_at "g"
        refine w_dgI hq (by rw [hmap c.pt, eo]; rfl) ?_
        tm_at "g"
        refine w_obj m1 T.cl_Machine T.na_Machine__points flMac_points ?_
        refine w_obj m3.ob T.cl_Points T.na_Points_pieces flPts_pieces ?_
        tm_at "g"
        refine w_ixL p1 (atI_nat hv) ?_
        tm_at "g"
        cases pc with
        | call f mm p s =>
          obtain ⟨qp, rfl, h1⟩ := hpv
          have hp := hd.call k _ _ _ _ hpc
          obtain ⟨ke, e1, e2⟩ := m4
          obtain ⟨qe, e3, e4⟩ := e2 p hp
          refine w_ixT h1 (atI_nat (j := 0) rfl) ?_
          tm_at "g"
          refine w_dT rfl ?_
          tm_at "g"
          refine w_ixT h1 (atI_nat (j := 4) rfl) ?_
          refine w_rI (.inl (sgI_lo _)) ?_
          rw [sgI_mul]
          tm_at "g"
          refine w_obj m1 T.cl_Machine T.na_Machine__points flMac_points ?_
          refine w_obj m3.ob T.cl_Points T.na_Points_ends flPts_ends ?_
          tm_at "g"
          refine w_ixT h1 (atI_nat (j := 3) rfl) ?_
          refine w_dgS e1 e3 ?_
          refine w_tup e4 rfl ?_
          tm_at "g"
          rw [sgI_1]
          have fin : ∀ x : Nat, x = (if c.hd == s then (d.E p).1 else (d.E p).2) → ∀ H4 r, Same H H4 → ∀ f2, H4 r = some (.tup [.int (x : Nat), .int (sgI (c.hd == s)), .ref f2, .ref st]) → H4 f2 = some (.tup (c.fr.map (fun k => V.int (k : Nat)) ++ [.int (k : Nat)])) → Q (.ref r) H4 := by
            intro x ex H4 r s4 f2 h4 h5
            subst ex
            exact q H4 _ s4 ⟨r, f2, st, rfl, h4, by rw [h5]; simp, s4 _ _ c3⟩
          have hl : c.fr.length ≤ 5000 := Nat.le_trans ok.len hn
          refine w_b (fun e => ?_) (fun e => ?_)
          all_goals
            rw [e] at fin
            tm_at "g"
            refine w_lay (by show 1 ≤ 100000; decide) fun r1 H1 s1 n1 h1' => ?_
            refine w_cat (s1 _ _ c2) h1' (by rw [List.length_map]; show _ + 1 ≤ 100000; omega) (by simp) fun r2 H2 s2 h2 => ?_
            tm_at "g"
            refine w_lay (by show 4 ≤ 100000; decide) fun r3 H3 s3 n3 h3 => ?_
            rw [e] at h3
            exact fin _ rfl H3 r3 ((s1.trans s2).trans s3) r2 h3 (s3 _ _ h2)
        | act f mm p =>
          have hpv0 := hpv
          obtain ⟨qp, ov, rfl, h1, h2⟩ := hpv
          refine w_ixT h1 (atI_nat (j := 0) rfl) ?_
          tm_at "g"
          refine w_dF (by decide +kernel) ?_
          tm_at "g"
          refine w_ixT h1 (atI_nat (j := 0) rfl) ?_
          tm_at "g"
          refine w_dT rfl ?_
          tm_at "g"
          refine w_mobj m1 flMac_done ?_
          tm_at "g"
          exact ⟨d, m, _, _, c, f, mm, p, k, rfl, hm0, hd, hpv0, hpc, hc0, ok.st, q⟩
        | fork one cd yes no =>
          have hpv0 := hpv
          obtain ⟨qp, ov, rfl, h1, h2⟩ := hpv
          refine w_ixT h1 (atI_nat (j := 0) rfl) ?_
          tm_at "g"
          refine w_dF (by decide +kernel) ?_
          tm_at "g"
          refine w_ixT h1 (atI_nat (j := 0) rfl) ?_
          tm_at "g"
          refine w_dF (by decide +kernel) ?_
          tm_at "g"
          refine w_mobj m1 flMac_next ?_
          tm_at "g"
          have hg : gateOf d c.hd c.pt c.st (.fork one cd yes no) = some (nextPt d.M c.hd one cd yes no c.pt c.st) := rfl
          rw [gate_of d c k _ _ hg] at q
          refine ⟨d, m, st, _, _, c.pt, c.hd, c.st, k, _, rfl, hm0, hd, hpv0, hpc, c3, ok.st, hg, ?_⟩
          cases er : nextPt d.M c.hd one cd yes no c.pt c.st with
          | none =>
            rw [er] at q
            intro H1 s1
            tm_at "g"
            refine w_T' rfl ?_
            tm_at "g"
            exact q H1 s1
          | some x =>
            rw [er] at q
            intro H1 s1
            tm_at "g"
            refine w_F' rfl ?_
            tm_at "g"
            refine w_lay (by show 4 ≤ 100000; decide) fun r3 H3 s3 n3 h3 => ?_
            exact q H3 _ (s1.trans s3) ⟨r3, fr, st, rfl, h3, s3 _ _ (s1 _ _ c2), s3 _ _ (s1 _ _ c3)⟩
        | join yes no cd one =>
          have hpv0 := hpv
          obtain ⟨qp, ov, rfl, h1, h2⟩ := hpv
          refine w_ixT h1 (atI_nat (j := 0) rfl) ?_
          tm_at "g"
          refine w_dF (by decide +kernel) ?_
          tm_at "g"
          refine w_ixT h1 (atI_nat (j := 0) rfl) ?_
          tm_at "g"
          refine w_dF (by decide +kernel) ?_
          tm_at "g"
          refine w_mobj m1 flMac_next ?_
          tm_at "g"
          have hg : gateOf d c.hd c.pt c.st (.join yes no cd one) = some (nextPt d.M (!c.hd) one cd yes no c.pt c.st) := rfl
          rw [gate_of d c k _ _ hg] at q
          refine ⟨d, m, st, _, _, c.pt, c.hd, c.st, k, _, rfl, hm0, hd, hpv0, hpc, c3, ok.st, hg, ?_⟩
          cases er : nextPt d.M (!c.hd) one cd yes no c.pt c.st with
          | none =>
            rw [er] at q
            intro H1 s1
            tm_at "g"
            refine w_T' rfl ?_
            tm_at "g"
            exact q H1 s1
          | some x =>
            rw [er] at q
            intro H1 s1
            tm_at "g"
            refine w_F' rfl ?_
            tm_at "g"
            refine w_lay (by show 4 ≤ 100000; decide) fun r3 H3 s3 n3 h3 => ?_
            exact q H3 _ (s1.trans s3) ⟨r3, fr, st, rfl, h3, s3 _ _ (s1 _ _ c2), s3 _ _ (s1 _ _ c3)⟩
end
end Kt
end -- KMach
section -- KPl
set_option Elab.async false
set_option linter.all false
set_option maxRecDepth 100000
set_option maxHeartbeats 4000000
/-! KPl: laying, the plain part: weights, what a statement lays, points that are right. -/
namespace Kt
open PySem L2
def wt : Body → Nat
  | .nil => 1
  | .pr _ r => 1 + wt r
  | .cl _ _ r => 1 + wt r
  | .ite _ _ A B r => 1 + wt A + wt B + wt r
  | .lp _ _ A B r => 1 + wt A + wt B + wt r
theorem wt_pos (b : Body) : 1 ≤ wt b := by cases b <;> (simp only [wt]; omega)
def BOk (vars : List Str) (n : Int) (ns : List Str) : Body → Prop
  | .nil => True
  | .pr p r => p.ok vars n ∧ BOk vars n ns r
  | .cl _ q r => q ∈ ns ∧ BOk vars n ns r
  | .ite c d A B r => c.ok vars n ∧ d.ok vars n ∧ BOk vars n ns A ∧ BOk vars n ns B ∧ BOk vars n ns r
  | .lp c d A B r => c.ok vars n ∧ d.ok vars n ∧ BOk vars n ns A ∧ BOk vars n ns B ∧ BOk vars n ns r
theorem BOk.all {vars : List Str} {n : Int} {ns : List Str} : ∀ {b : Body}, BOk vars n ns b → b.all (Pr.ok vars n) (· ∈ ns)
  | .nil, _ => trivial
  | .pr _ _, h => ⟨h.1, h.2.all⟩
  | .cl _ _ _, h => ⟨h.1, h.2.all⟩
  | .ite _ _ _ _ _, h => ⟨h.2.2.1.all, h.2.2.2.1.all, h.2.2.2.2.all⟩
  | .lp _ _ _ _ _, h => ⟨h.2.2.1.all, h.2.2.2.1.all, h.2.2.2.2.all⟩
def PcOk (vars : List Str) (n : Int) (ns : List Str) : Bk.Pc Pr Cd Str → Prop
  | .act _ _ p => p.ok vars n
  | .call _ _ q _ => q ∈ ns
  | .fork _ c _ _ => c.ok vars n
  | .join _ _ c _ => c.ok vars n
structure PtOk (vars : List Str) (n : Int) (ns : List Str) (T : PtsT) : Prop where
  lv : ∀ x k, T.lv x = some k → k < T.pcs.length
  ar : ∀ x k, T.ar x = some k → k < T.pcs.length
  pcs : ∀ (k : Nat) p, T.pcs[k]? = some p → PcOk vars n ns p
theorem MD.ok_of {d : MD} (h8 : d.w ≤ 8) (h6 : d.vars.length ≤ 6) (h : PtOk d.vars (2 ^ d.w) d.ns d.T) : d.Ok :=
  ⟨h8, h6, h.lv, h.ar, fun k _ _ _ e => h.pcs k _ e, fun k _ _ _ _ e => h.pcs k _ e, fun k _ _ _ _ e => h.pcs k _ e, fun k _ _ _ _ e => h.pcs k _ e⟩
section
variable {vars : List Str} {n : Int} {ns : List Str} {T : PtsT}
theorem PtOk.bump (h : PtOk vars n ns T) (j : Nat) : PtOk vars n ns (T.bump j) := ⟨h.lv, h.ar, h.pcs⟩
theorem PtOk.add (h : PtOk vars n ns T) {p : Bk.Pc Pr Cd Str} (hp : PcOk vars n ns p) (S D : List Nat) : PtOk vars n ns (T.add p S D) := by
  have hl : (T.add p S D).pcs.length = T.pcs.length + 1 := by
    show (T.pcs ++ [p]).length = _
    simp
  refine ⟨fun x k e => ?_, fun x k e => ?_, fun k q e => ?_⟩
  · rw [hl]
    have e' : Bk.put T.lv S T.pcs.length x = some k := e
    unfold Bk.put at e'
    split at e'
    · cases e'; omega
    · have := h.lv x k e'; omega
  · rw [hl]
    have e' : Bk.put T.ar D T.pcs.length x = some k := e
    unfold Bk.put at e'
    split at e'
    · cases e'; omega
    · have := h.ar x k e'; omega
  · have e' : (T.pcs ++ [p])[k]? = some q := e
    by_cases hk : k < T.pcs.length
    · rw [List.getElem?_append_left hk] at e'
      exact h.pcs k q e'
    · rw [List.getElem?_append_right (by omega)] at e'
      have z : k - T.pcs.length = 0 := by
        have := (List.getElem?_eq_some_iff.mp e').1
        simp at this
        omega
      rw [z] at e'
      cases e'
      exact hp
end
open Bk in
/-- what the first statement of a body lays between f and m -/
def plc (T : PtsT) (f m : Nat) : Body → PtsT × List (Todo Pr Cd Str)
  | .nil => (T, [])
  | .pr p _ => (T.add (.act f m p) [f] [m], [])
  | .cl s n _ => (T.add (.call f m n s) [f] [m], [])
  | .ite c d A B _ => (((T.bump (endN A + endN B)).add (.fork f c T.cnt (T.cnt + endN A)) [f] [T.cnt, T.cnt + endN A]).add (.join (endOf A T.cnt) (endOf B (T.cnt + endN A)) d m) [endOf A T.cnt, endOf B (T.cnt + endN A)] [m],
      [(A, T.cnt, endOf A T.cnt), (B, T.cnt + endN A, endOf B (T.cnt + endN A))])
  | .lp c d A B _ => (((T.bump (endN A + endN B)).add (.join f (endOf B (T.cnt + endN A)) c T.cnt) [f, endOf B (T.cnt + endN A)] [T.cnt]).add (.fork (endOf A T.cnt) d m (T.cnt + endN A)) [endOf A T.cnt] [m, T.cnt + endN A],
      [(A, T.cnt, endOf A T.cnt), (B, T.cnt + endN A, endOf B (T.cnt + endN A))])
def rest : Body → Body
  | .nil => .nil
  | .pr _ r => r
  | .cl _ _ r => r
  | .ite _ _ _ _ r => r
  | .lp _ _ _ _ r => r
open Bk in
theorem bump_bump (T : PtsT) (i j : Nat) : (T.bump i).bump j = T.bump (i + j) := by
  show ({ T with cnt := T.cnt + i + j } : PtsT) = { T with cnt := T.cnt + (i + j) }
  rw [Nat.add_assoc]
open Bk in
/-- a statement is laid -/
theorem LI.plc {T0 T : PtsT} {b0 b : Body} {f0 l0 f l : Nat} {todo : List (Todo Pr Cd Str)} (I : LI Pr.und T0 b0 f0 l0 T ((b, f, l) :: todo)) (hb : b ≠ .nil) :
    LI Pr.und T0 b0 f0 l0 (plc (T.bump (nextN (rest b))) f (nextOf (rest b) l T.cnt) b).1 ((rest b, nextOf (rest b) l T.cnt, l) :: (todo ++ (plc (T.bump (nextN (rest b))) f (nextOf (rest b) l T.cnt) b).2)) := by
  cases b with
  | nil => exact absurd rfl hb
  | pr p r => show LI _ _ _ _ _ _ (_ :: (todo ++ [])); rw [List.append_nil]; exact I.pr
  | cl s q r => show LI _ _ _ _ _ _ (_ :: (todo ++ [])); rw [List.append_nil]; exact I.cl
  | ite c d A B r =>
    have h := I.ite (n := nextN r + endN A + endN B) rfl rfl rfl rfl rfl rfl
    have e : (T.bump (nextN r)).bump (endN A + endN B) = T.bump (nextN r + endN A + endN B) := by rw [bump_bump, Nat.add_assoc]
    show LI _ _ _ _ _ ((((T.bump (nextN r)).bump (endN A + endN B)).add _ _ _).add _ _ _) _
    rw [e]
    exact h
  | lp c d A B r =>
    have h := I.lp (n := nextN r + endN A + endN B) rfl rfl rfl rfl rfl rfl
    have e : (T.bump (nextN r)).bump (endN A + endN B) = T.bump (nextN r + endN A + endN B) := by rw [bump_bump, Nat.add_assoc]
    show LI _ _ _ _ _ ((((T.bump (nextN r)).bump (endN A + endN B)).add _ _ _).add _ _ _) _
    rw [e]
    exact h
def wts (l : List (Bk.Todo Pr Cd Str)) : Nat := (l.map fun e => wt e.1).sum
theorem wts_app (l r : List (Bk.Todo Pr Cd Str)) : wts (l ++ r) = wts l + wts r := by simp [wts]
theorem wts_cons (e : Bk.Todo Pr Cd Str) (r : List (Bk.Todo Pr Cd Str)) : wts (e :: r) = wt e.1 + wts r := by simp [wts]
theorem wts_len (l : List (Bk.Todo Pr Cd Str)) : l.length ≤ wts l := by
  induction l with
  | nil => exact Nat.zero_le _
  | cons e r ih => rw [wts_cons, List.length_cons]; have := wt_pos e.1; omega
theorem plc_wt {T : PtsT} {f m : Nat} {b : Body} (hb : b ≠ .nil) : wts (plc T f m b).2 + wt (rest b) + 1 = wt b ∧ (plc T f m b).1.pcs.length ≤ T.pcs.length + 2 := by
  cases b with
  | nil => exact absurd rfl hb
  | pr p r => refine ⟨by simp [plc, rest, wt, wts]; omega, ?_⟩; show (T.pcs ++ [_]).length ≤ _; simp
  | cl s q r => refine ⟨by simp [plc, rest, wt, wts]; omega, ?_⟩; show (T.pcs ++ [_]).length ≤ _; simp
  | ite c d A B r => refine ⟨by simp [plc, rest, wt, wts]; omega, ?_⟩; show ((T.pcs ++ [_]) ++ [_]).length ≤ _; simp
  | lp c d A B r => refine ⟨by simp [plc, rest, wt, wts]; omega, ?_⟩; show ((T.pcs ++ [_]) ++ [_]).length ≤ _; simp
theorem plc_ok {vars : List Str} {n : Int} {ns : List Str} {T : PtsT} {f m : Nat} {b : Body} (h : PtOk vars n ns T) (hb : BOk vars n ns b) : PtOk vars n ns (plc T f m b).1 ∧ BOk vars n ns (rest b) ∧ ∀ e ∈ (plc T f m b).2, BOk vars n ns e.1 := by
  cases b with
  | nil => exact ⟨h, trivial, fun e he => by cases he⟩
  | pr p r => exact ⟨h.add (p := .act f m p) hb.1 _ _, hb.2, fun e he => by cases he⟩
  | cl s q r => exact ⟨h.add (p := .call f m q s) hb.1 _ _, hb.2, fun e he => by cases he⟩
  | ite c d A B r =>
    refine ⟨((h.bump _).add (p := .fork f c _ _) hb.1 _ _).add (p := .join _ _ d m) hb.2.1 _ _, hb.2.2.2.2, fun e he => ?_⟩
    rcases List.mem_cons.mp he with z | z
    · subst z; exact hb.2.2.1
    · rw [List.mem_singleton] at z; subst z; exact hb.2.2.2.1
  | lp c d A B r =>
    refine ⟨((h.bump _).add (p := .join f _ c _) hb.1 _ _).add (p := .fork _ d m _) hb.2.1 _ _, hb.2.2.2.2, fun e he => ?_⟩
    rcases List.mem_cons.mp he with z | z
    · subst z; exact hb.2.2.1
    · rw [List.mem_singleton] at z; subst z; exact hb.2.2.2.1
end Kt
end -- KPl
section -- KPts
set_option Elab.async false
set_option linter.all false
set_option maxRecDepth 100000
set_option maxHeartbeats 4000000
/-! KPts: Points: point, ends, add, place, lay. -/
namespace Kt
open PySem L2
theorem upd_id {H : Hp} {p : Addr} {o : HO} (h : H p = some o) : upd H p o = H := by
  funext b
  unfold upd
  split
  · rename_i e; rw [e, h]
  · rfl
theorem put_count {c c' : Nat} {lp dl da de : Addr} : putF "_count" (.int (c' : Nat)) (flPts c lp dl da de) = flPts c' lp dl da de := by
  unfold flPts putF
  rw [if_pos rfl]
theorem putK_len' {κ : Type} [DecidableEq κ] (c : List (κ × V)) (k : κ) (x : V) : (putK c k x).length ≤ c.length + 1 := by
  unfold putK
  split
  · rw [List.length_map]; omega
  · rw [List.length_append, List.length_singleton]; omega
structure PtsX.Ne (p lp dl da : Addr) : Prop where
  pl : p ≠ lp
  pd : p ≠ dl
  pa : p ≠ da
  ld : lp ≠ dl
  la : lp ≠ da
  da_ : dl ≠ da
section
variable {a : Ad} {H H' : Hp} {p dx lp dl da de : Addr} {T : PtsT}
theorem PtsX.nes (h : PtsX a H p dx lp dl da de T) : PtsX.Ne p lp dl da := by
  obtain ⟨vs, p1, _⟩ := h.pcs
  obtain ⟨kl, l1, _⟩ := h.lv
  obtain ⟨ka, a1, _⟩ := h.ar
  exact ⟨ne_of h.ob p1 (by intro z; cases z), ne_of h.ob l1 (by intro z; cases z), ne_of h.ob a1 (by intro z; cases z), ne_of p1 l1 (by intro z; cases z), ne_of p1 a1 (by intro z; cases z), h.dne⟩
/-- the objects that a Points may change -/
abbrev PM4 (p lp dl da : Addr) : List Addr := [p, lp, dl, da]
theorem PtsX.im (h : PtsX a H p dx lp dl da de T) (k : Kp (PM4 p lp dl da) H H') : Im H H' := fun b xs e => by
  obtain ⟨vs, p1, _⟩ := h.pcs
  obtain ⟨kl, l1, _⟩ := h.lv
  obtain ⟨ka, a1, _⟩ := h.ar
  refine k b _ e fun z => ?_
  simp only [List.mem_cons, List.not_mem_nil, or_false] at z
  rcases z with z | z | z | z <;> subst z
  · rw [h.ob] at e; cases e
  · rw [p1] at e; cases e
  · rw [l1] at e; cases e
  · rw [a1] at e; cases e
/-- it stands while its four objects stand -/
theorem PtsX.keep (h : PtsX a H p dx lp dl da de T) (i : Im H H') (k : ∀ b ∈ PM4 p lp dl da, H' b = H b) : PtsX a H' p dx lp dl da de T := by
  obtain ⟨vs, p1, p2⟩ := h.pcs
  obtain ⟨kl, l1, l2⟩ := h.lv
  obtain ⟨ka, a1, a2⟩ := h.ar
  exact ⟨(k _ (by simp)).trans h.ob, ⟨vs, (k _ (by simp)).trans p1, p2.mono i⟩, ⟨kl, (k _ (by simp)).trans l1, l2⟩, ⟨ka, (k _ (by simp)).trans a1, a2⟩, h.dne⟩
theorem PtsX.upd (h : PtsX a H p dx lp dl da de T) {x : Addr} {o : HO} (n : x ∉ PM4 p lp dl da) (t : ∀ xs, H x ≠ some (.tup xs)) : PtsX a (upd H x o) p dx lp dl da de T :=
  h.keep (Im.upd t) fun b hb => upd_ne fun z => n (by rw [← z]; exact hb)
theorem PtsX.bump (h : PtsX a H p dx lp dl da de T) (j : Nat) : PtsX a (L2.upd H p (.ins a.c_Points dx (flPts (T.cnt + j) lp dl da de))) p dx lp dl da de (T.bump j) := by
  have n := h.nes
  obtain ⟨vs, p1, p2⟩ := h.pcs
  obtain ⟨kl, l1, l2⟩ := h.lv
  obtain ⟨ka, a1, a2⟩ := h.ar
  have i : Im H (L2.upd H p (.ins a.c_Points dx (flPts (T.cnt + j) lp dl da de))) := Im.upd fun xs e => by rw [h.ob] at e; cases e
  exact ⟨upd_same, ⟨vs, by rw [upd_ne n.pl.symm]; exact p1, p2.mono i⟩, ⟨kl, by rw [upd_ne n.pd.symm]; exact l1, l2⟩, ⟨ka, by rw [upd_ne n.pa.symm]; exact a1, a2⟩, h.dne⟩
theorem MapV.put {kvs : List (Key × V)} {f : Nat → Option Nat} (x k : Nat) (xs : List Nat) (he : MapV kvs (Bk.put f xs k)) : MapV (putK kvs (.inl (x : Int)) (.int (k : Nat))) (Bk.put f (xs ++ [x]) k) := by
  intro y
  rw [valV_put]
  by_cases e : y = x
  · subst e
    rw [if_pos rfl]
    have z : Bk.put f (xs ++ [y]) k y = some k := Bk.put_in (by simp)
    rw [z]
    rfl
  · rw [if_neg (fun z => e (by injection z with z; omega)), he y]
    congr 1
    unfold Bk.put
    by_cases m : y ∈ xs
    · rw [if_pos m, if_pos (by simp [m])]
    · rw [if_neg m, if_neg (by simp [m, e])]
end
def spPoint (a : Ad) : Sp := fun vs H Q _ => ∃ (p dx lp dl da de : Addr) (T : PtsT), vs = [.ref p] ∧ PtsX a H p dx lp dl da de T ∧ ∀ H', Kp (PM4 p lp dl da) H H' → PtsX a H' p dx lp dl da de (T.bump 1) → Q (.int (T.cnt : Nat)) H'
def spEnds (a : Ad) : Sp := fun vs H Q _ => ∃ (p dx lp dl da de bt : Addr) (T : PtsT) (xs : List V) (b : Body), vs = [.ref p, .ref bt] ∧ PtsX a H p dx lp dl da de T ∧ H bt = some (.tup xs) ∧ BdV H xs b ∧
  ∀ H' r, Kp (PM4 p lp dl da) H H' → PtsX a H' p dx lp dl da de (T.bump (Bk.endN b)) → H' r = some (.tup [.int (T.cnt : Nat), .int (Bk.endOf b T.cnt : Nat)]) → Q (.ref r) H'
theorem BdV.nil_iff {H : Hp} {xs : List V} {b : Body} (h : BdV H xs b) : xs = [] ↔ b = .nil := by
  cases b with
  | nil => exact ⟨fun _ => rfl, fun _ => h⟩
  | pr p r => obtain ⟨_, _, rfl, _⟩ := h; exact ⟨(fun z => by cases z), (fun z => by cases z)⟩
  | cl s n r => obtain ⟨_, _, rfl, _⟩ := h; exact ⟨(fun z => by cases z), (fun z => by cases z)⟩
  | ite c d A B r => obtain ⟨_, _, _, _, _, _, _, _, rfl, _⟩ := h; exact ⟨(fun z => by cases z), (fun z => by cases z)⟩
  | lp c d A B r => obtain ⟨_, _, _, _, _, _, _, _, rfl, _⟩ := h; exact ⟨(fun z => by cases z), (fun z => by cases z)⟩
section
variable {P : Program} {w : World} {K : PySem.W.Frag} {mg : Str → Option Value} {base : Heap} {a : Ad}
local macro_rules | `(tactic| tm_at "g") => `(tactic| repeat (first
  | with_reducible refine w_seq ?_ | with_reducible refine w_if ?_ | with_reducible refine w_tB ?_ | with_reducible refine w_tTest ?_ | with_reducible refine w_asg ?_ | with_reducible refine w_name ?_
  | with_reducible refine w_ret ?_ | with_reducible refine w_next ?_ | with_reducible refine w_op ?_ | with_reducible refine w_c ?_ | with_reducible refine w_cb ?_ | with_reducible refine w_call ?_ | with_reducible refine w_cons ?_ | with_reducible refine w_nil ?_
  | with_reducible refine w_var (by with_unfolding_all rfl) ?_
  | with_reducible refine w_rI0 ?_ | with_reducible refine w_eq (by with_unfolding_all rfl) ?_ | with_reducible refine w_ne (by with_unfolding_all rfl) ?_
  | with_reducible refine w_test ?_ | with_reducible refine w_T ?_ | with_reducible refine w_F ?_ | with_reducible refine w_T0 ?_ | with_reducible refine w_F0 ?_
  | with_reducible refine w_and ?_ | with_reducible refine w_or ?_ | with_reducible refine w_not ?_ | with_reducible refine w_ifE ?_ | with_reducible refine w_drop ?_
  | with_reducible refine w_andV ?_ | with_reducible refine w_orV ?_ | with_reducible refine w_notV ?_ | with_reducible refine w_dget ?_ | with_reducible refine w_din ?_ | with_reducible refine w_dnin ?_ | with_reducible refine w_fld ?_
  | with_reducible refine w_ttup ?_ | with_reducible refine w_tlst ?_ | with_reducible refine w_un ?_ | with_reducible refine w_rU ?_ | with_reducible refine w_gcons ?_ | with_reducible refine w_gnil ?_ | with_reducible refine w_sub ?_ | with_reducible refine w_sl ?_ | with_reducible refine w_nopart ?_ | with_reducible refine w_part ?_ | with_reducible refine w_int ?_ | with_reducible refine w_meth ?_
  | with_reducible refine w_make ?_ | with_reducible refine w_dput ?_ | with_reducible refine w_sfld ?_ | with_reducible refine w_bm ?_ | with_reducible refine w_bm0 ?_ | with_reducible refine w_isN ?_ | with_reducible refine w_notT ?_ | with_reducible refine w_forR ?_ | with_reducible refine w_forL ?_ | with_reducible refine w_forT ?_ | with_reducible refine w_fldaug ?_ | with_reducible refine w_radd ?_ | with_reducible refine w_par ?_ | with_reducible refine w_pair ?_))

theorem flPts_point {c : Nat} {lp dl da de : Addr} : (flPts c lp dl da de).lookup ("_point" : Str) = none := by
  unfold flPts
  repeat (first | exact rfl | (refine Eq.trans (lk_skip (by decide +kernel)) ?_))
theorem sc_Points__point : FnScope ["self"] ["self"] (defScope s_Points__point) := ⟨rfl, rfl, rfl, by decide +kernel, rfl, by decide +kernel, by decide +kernel⟩
theorem ok_point (T : Tx w K mg a) : FnOk P w K mg base CX0 1 a.f_Points__point a.d_Points__point ["self"] (spPoint a) := by
  refine T.F_Points__point.ok sc_Points__point (fun vs H Q E h => ?_) (fun cdv A outer s H vs Q E hr h => ?_)
  · obtain ⟨p, dx, lp, dl, da, de, t, rfl, _⟩ := h
    rfl
  · obtain ⟨p, dx, lp, dl, da, de, t, rfl, hp, q⟩ := h
    have hu := hu_of hr
    refine ⟨_, (pss_cons (ps_fldaug (pv 0) pe_int in_add)
    (pss_one (ps_ret (pe_op op_sub (pe_fld (pv 0) rfl) pe_int)))), ?_⟩
    tm_at "g"
    refine w_aug1 hp.ob T.cl_Points T.na_Points__count flPts_count ?_
    tm_at "g"
    refine w_aug2 hp.ob (by show 5 < 1000; decide) ?_
    have e : ((t.cnt : Nat) : Int) + 1 = ((t.cnt + 1 : Nat) : Int) := by omega
    rw [e, put_count]
    have hb := hp.bump 1
    tm_at "g"
    refine w_obj hb.ob T.cl_Points T.na_Points__count flPts_count ?_
    tm_at "g"
    have e2 : (((t.bump 1).cnt : Nat) : Int) - 1 = (t.cnt : Nat) := by show ((t.cnt + 1 : Nat) : Int) - 1 = _; omega
    rw [e2]
    exact q _ (Kp.upd (by simp)) hb
theorem sc_Points__ends : FnScope ["self", "body", "first"] ["self", "body"] (defScope s_Points__ends) := ⟨rfl, rfl, rfl, by decide +kernel, rfl, by decide +kernel, by decide +kernel⟩
theorem ok_ends (T : Tx w K mg a) : FnOk P w K mg base CX0 2 a.f_Points__ends a.d_Points__ends ["self", "body"] (spEnds a) := by
  have G_Points__point : FnOk P w K mg base CX0 1 _ _ _ (spPoint a) := ok_point T
  refine T.F_Points__ends.ok sc_Points__ends (fun vs H Q E h => ?_) (fun cdv A outer s H vs Q E hr h => ?_)
  · obtain ⟨p, dx, lp, dl, da, de, bt, t, xs, b, rfl, _⟩ := h
    rfl
  · obtain ⟨p, dx, lp, dl, da, de, bt, t, xs, b, rfl, hp, hb, hv, q⟩ := h
    have hu := hu_of hr
    refine ⟨_, (pss_cons (ps_set (i := 2) sc_Points__ends.nd rfl (Or.inl rfl) (pe_meth0 (pv 0) T.cl_Points T.m_Points__point G_Points__point (hr.mono (by decide)) T.b_Points__point .nil pass0))
    (pss_one (ps_ret (pe_tup (pa_cons (pv 2) (pa_cons (pe_ifExp (pt_truth (pv 1) (by intro _; rfl)) (pe_meth0 (pv 0) T.cl_Points T.m_Points__point G_Points__point (hr.mono (by decide)) T.b_Points__point .nil pass0) (pv 2)) pa_nil)))))), ?_⟩
    tm_at "g"
    refine w_mobj hp.ob flPts_point ?_
    tm_at "g"
    refine ⟨p, dx, lp, dl, da, de, t, rfl, hp, fun H1 k1 hp1 => ?_⟩
    have hb1 := hp.im k1 _ _ hb
    tm_at "g"
    cases en : b.isNil with
    | true =>
      have ex : xs = [] := hv.nil_iff.mpr (Bk.Bd.isNil_iff.mp en)
      subst ex
      refine w_truT0 hb1 ?_
      tm_at "g"
      refine w_lay (by show 2 ≤ 100000; decide) fun r H2 s2 n2 h2 => ?_
      have e1 : Bk.endN b = 1 := by unfold Bk.endN; rw [en]; rfl
      have e2 : Bk.endOf b t.cnt = t.cnt := by unfold Bk.endOf; rw [en]; rfl
      refine q H2 r (k1.trans (Kp.of s2)) (by rw [e1]; exact hp1.mono s2) (by rw [e2]; exact h2)
    | false =>
      have ex : xs ≠ [] := fun z => by rw [Bk.Bd.isNil_iff.mpr (hv.nil_iff.mp z)] at en; cases en
      refine w_truTn hb1 ex ?_
      tm_at "g"
      refine w_mobj hp1.ob flPts_point ?_
      tm_at "g"
      refine ⟨p, dx, lp, dl, da, de, t.bump 1, rfl, hp1, fun H3 k3 hp3 => ?_⟩
      tm_at "g"
      refine w_lay (by show 2 ≤ 100000; decide) fun r H2 s2 n2 h2 => ?_
      have e1 : Bk.endN b = 2 := by unfold Bk.endN; rw [en]; rfl
      have e2 : Bk.endOf b t.cnt = t.cnt + 1 := by unfold Bk.endOf; rw [en]; rfl
      refine q H2 r ((k1.trans k3).trans (Kp.of s2)) ?_ (by rw [e2]; exact h2)
      rw [e1]
      exact hp3.mono s2
theorem take_snoc {α : Type} {l : List α} {i : Nat} {x : α} (h : l[i]? = some x) : l.take (i + 1) = l.take i ++ [x] := by
  rw [List.take_add_one, h]
  rfl
theorem flPts_add {c : Nat} {lp dl da de : Addr} : (flPts c lp dl da de).lookup ("_add" : Str) = none := by
  unfold flPts
  repeat (first | exact rfl | (refine Eq.trans (lk_skip (by decide +kernel)) ?_))
def spAdd (a : Ad) : Sp := fun vs H Q _ => ∃ (p dx lp dl da de sl tl : Addr) (T : PtsT) (pcv : V) (pc : Bk.Pc Pr Cd Str) (S D : List Nat), vs = [.ref p, pcv, .ref sl, .ref tl] ∧ PtsX a H p dx lp dl da de T ∧ T.pcs.length ≤ 10000 ∧ PcV H pcv pc ∧
  H sl = some (.lst (S.map fun x => V.int (x : Nat))) ∧ H tl = some (.lst (D.map fun x => V.int (x : Nat))) ∧ S.length ≤ 2 ∧ D.length ≤ 2 ∧ sl ≠ lp ∧ tl ≠ lp ∧
  ∀ H', Kp (PM4 p lp dl da) H H' → PtsX a H' p dx lp dl da de (T.add pc S D) → Q .non H'
theorem map_at {S : List Nat} {i : Nat} {x : V} (h : (S.map fun x => V.int (x : Nat))[i]? = some x) : ∃ y, S[i]? = some y ∧ x = V.int (y : Nat) := by
  rw [List.getElem?_map] at h
  cases e : S[i]? with
  | none => rw [e] at h; cases h
  | some y => rw [e] at h; exact ⟨y, rfl, (Option.some.inj h).symm⟩
theorem sc_Points__add : FnScope ["self", "piece", "sources", "targets", "point"] ["self", "piece", "sources", "targets"] (defScope s_Points__add) := ⟨rfl, rfl, rfl, by decide +kernel, rfl, by decide +kernel, by decide +kernel⟩
theorem ok_add (T : Tx w K mg a) : FnOk P w K mg base CX0 1 a.f_Points__add a.d_Points__add ["self", "piece", "sources", "targets"] (spAdd a) := by
  refine T.F_Points__add.ok sc_Points__add (fun vs H Q E h => ?_) (fun cdv A outer s H vs Q E hr h => ?_)
  · obtain ⟨p, dx, lp, dl, da, de, sl, tl, t, pcv, pc, S, D, rfl, _⟩ := h
    rfl
  · obtain ⟨p, dx, lp, dl, da, de, sl, tl, t, pcv, pc, S, D, rfl, hp, ht, hpc, hs, hd, zs, zd, n1, n2, q⟩ := h
    have hu := hu_of hr
    have n := hp.nes
    obtain ⟨vs, p1, p2⟩ := hp.pcs
    obtain ⟨kl, l1, l2, l3⟩ := hp.lv
    obtain ⟨ka, a1, a2, a3⟩ := hp.ar
    have nsd : sl ≠ dl := ne_of hs l1 (by intro z; cases z)
    have nsa : sl ≠ da := ne_of hs a1 (by intro z; cases z)
    have ntd : tl ≠ dl := ne_of hd l1 (by intro z; cases z)
    have nta : tl ≠ da := ne_of hd a1 (by intro z; cases z)
    refine ⟨_, (pss_cons (ps_for PassesOwn.never rfl (pi_list (pv 2)) (pg_name (i := 4) sc_Points__add.nd rfl (Or.inl rfl))
      (pss_one (ps_dput hu (pe_fld (pv 0) rfl) (pv 4) (pe_callB cl_len (by rfl) T.z_len PySem.boot_len (pa_cons (pe_fld (pv 0) rfl) pa_nil)) rfl)))
    (pss_cons (ps_for PassesOwn.never rfl (pi_list (pv 3)) (pg_name (i := 4) sc_Points__add.nd rfl (Or.inl rfl))
      (pss_one (ps_dput hu (pe_fld (pv 0) rfl) (pv 4) (pe_callB cl_len (by rfl) T.z_len PySem.boot_len (pa_cons (pe_fld (pv 0) rfl) pa_nil)) rfl)))
    (pss_one (ps_expr (pe_bm PySem.F.plainAttrs_list PySem.F.slot_list_append PySem.F.type_list_append mt_append (pe_fld (pv 0) rfl) (pa_cons (pv 1) pa_nil)))))), ?_⟩
    tm_at "g"
    refine w_lst (xs := S.map fun x => V.int (x : Nat)) (fun i σ H' => ∃ o kvs', σ = [some (.ref p), some pcv, some (.ref sl), some (.ref tl), o] ∧ H' = upd H dl (.dK kvs') ∧ MapV kvs' (Bk.put t.lv (S.take i) t.pcs.length) ∧ kvs'.length ≤ kl.length + i)
      ⟨none, kl, rfl, (upd_id l1).symm, ?_, Nat.le_refl _⟩ (fun i σ H' hi h => ?_) (fun i x σ H' hx h => ?_) (fun σ H' h => ?_)
    · rw [List.take_zero]
      intro y
      rw [l2 y, Bk.put_out (by simp)]
    · obtain ⟨o, kvs', _, rfl, _⟩ := h
      rw [upd_ne nsd]
      exact hs
    · obtain ⟨o, kvs', rfl, rfl, m1, m2⟩ := h
      obtain ⟨y, hy, rfl⟩ := map_at hx
      have hi : i < S.length := (List.getElem?_eq_some_iff.mp hy).1
      tm_at "g"
      refine w_obj (by rw [upd_ne n.pd]; exact hp.ob) T.cl_Points T.na_Points_pieces flPts_pieces ?_
      tm_at "g"
      refine w_lenL (by rw [upd_ne n.ld]; exact p1) ?_
      tm_at "g"
      refine w_obj (by rw [upd_ne n.pd]; exact hp.ob) T.cl_Points T.na_Points_leaving flPts_leaving ?_
      tm_at "g"
      refine w_dpI upd_same (by omega) ?_
      rw [upd_upd, p2.1]
      refine ⟨_, _, rfl, rfl, ?_, ?_⟩
      · rw [take_snoc hy]
        exact MapV.put y _ _ m1
      · have := putK_len' kvs' (Sum.inl (y : Int)) (V.int (t.pcs.length : Nat))
        omega
    · obtain ⟨o, kl', rfl, rfl, m1, m2⟩ := h
      rw [List.length_map, List.take_length] at m1
      rw [List.length_map] at m2
      tm_at "g"
      refine w_lst (xs := D.map fun x => V.int (x : Nat)) (fun i σ H' => ∃ o kvs', σ = [some (.ref p), some pcv, some (.ref sl), some (.ref tl), o] ∧ H' = upd (upd H dl (.dK kl')) da (.dK kvs') ∧ MapV kvs' (Bk.put t.ar (D.take i) t.pcs.length) ∧ kvs'.length ≤ ka.length + i)
        ⟨o, ka, rfl, (upd_id (by rw [upd_ne n.da_.symm]; exact a1)).symm, ?_, Nat.le_refl _⟩ (fun i σ H' hi h => ?_) (fun i x σ H' hx h => ?_) (fun σ H' h => ?_)
      · rw [List.take_zero]
        intro y
        rw [a2 y, Bk.put_out (by simp)]
      · obtain ⟨o, kvs', _, rfl, _⟩ := h
        rw [upd_ne nta, upd_ne ntd]
        exact hd
      · obtain ⟨o, kvs', rfl, rfl, m3, m4⟩ := h
        obtain ⟨y, hy, rfl⟩ := map_at hx
        have hi : i < D.length := (List.getElem?_eq_some_iff.mp hy).1
        tm_at "g"
        refine w_obj (by rw [upd_ne n.pa, upd_ne n.pd]; exact hp.ob) T.cl_Points T.na_Points_pieces flPts_pieces ?_
        tm_at "g"
        refine w_lenL (by rw [upd_ne n.la, upd_ne n.ld]; exact p1) ?_
        tm_at "g"
        refine w_obj (by rw [upd_ne n.pa, upd_ne n.pd]; exact hp.ob) T.cl_Points T.na_Points_arriving flPts_arriving ?_
        tm_at "g"
        refine w_dpI upd_same (by omega) ?_
        rw [upd_upd, p2.1]
        refine ⟨_, _, rfl, rfl, ?_, ?_⟩
        · rw [take_snoc hy]
          exact MapV.put y _ _ m3
        · have := putK_len' kvs' (Sum.inl (y : Int)) (V.int (t.pcs.length : Nat))
          omega
      · obtain ⟨o2, ka', rfl, rfl, m3, m4⟩ := h
        rw [List.length_map, List.take_length] at m3
        rw [List.length_map] at m4
        have hlp : (upd (upd H dl (.dK kl')) da (.dK ka')) lp = some (.lst vs) := by rw [upd_ne n.la, upd_ne n.ld]; exact p1
        tm_at "g"
        refine w_obj (by rw [upd_ne n.pa, upd_ne n.pd]; exact hp.ob) T.cl_Points T.na_Points_pieces flPts_pieces ?_
        refine w_tyL hlp ?_
        tm_at "g"
        refine w_append hlp (by rw [p2.1]; omega) ?_
        tm_at "g"
        have kp : Kp (PM4 p lp dl da) H (upd (upd (upd H dl (.dK kl')) da (.dK ka')) lp (.lst (vs ++ [pcv]))) :=
          ((Kp.upd (by simp)).trans (Kp.upd (by simp))).trans (Kp.upd (by simp))
        have im := hp.im kp
        refine q _ kp ⟨?_, ⟨_, upd_same, ?_⟩, ⟨kl', ?_, m1, ?_⟩, ⟨ka', ?_, m3, ?_⟩, hp.dne⟩
        · rw [upd_ne n.pl, upd_ne n.pa, upd_ne n.pd]
          exact hp.ob
        · have p3 := p2.mono im
          refine ⟨by rw [List.length_append, p2.1]; show _ = (t.pcs ++ [pc]).length; rw [List.length_append]; rfl, fun k v c hv hc => ?_⟩
          have hc' : (t.pcs ++ [pc])[k]? = some c := hc
          by_cases hk : k < vs.length
          · rw [List.getElem?_append_left hk] at hv
            rw [List.getElem?_append_left (by rw [← p2.1]; exact hk)] at hc'
            exact p3.2 k v c hv hc'
          · rw [List.getElem?_append_right (by omega)] at hv
            rw [List.getElem?_append_right (by rw [← p2.1]; omega)] at hc'
            have z : k - vs.length = 0 := by
              have := (List.getElem?_eq_some_iff.mp hv).1
              simp at this
              omega
            rw [z] at hv
            rw [← p2.1, z] at hc'
            cases hv
            cases hc'
            exact hpc.mono im
        · rw [upd_ne n.ld.symm, upd_ne n.da_, upd_same]
        · show kl'.length ≤ 2 * (t.pcs ++ [pc]).length
          rw [List.length_append, List.length_singleton]
          omega
        · rw [upd_ne n.la.symm, upd_same]
        · show ka'.length ≤ 2 * (t.pcs ++ [pc]).length
          rw [List.length_append, List.length_singleton]
          omega
def TodoV (H : Hp) (v : V) (e : Bk.Todo Pr Cd Str) : Prop := ∃ q bt xs et, v = .ref q ∧ H q = some (.tup [.ref bt, .ref et]) ∧ H bt = some (.tup xs) ∧ BdV H xs e.1 ∧ H et = some (.tup [.int (e.2.1 : Nat), .int (e.2.2 : Nat)])
theorem TodoV.mono {H H' : Hp} (i : Im H H') {v : V} {e : Bk.Todo Pr Cd Str} (h : TodoV H v e) : TodoV H' v e := let ⟨q, bt, xs, et, e1, h1, h2, h3, h4⟩ := h; ⟨q, bt, xs, et, e1, i _ _ h1, i _ _ h2, h3.mono i, i _ _ h4⟩
def TodosV (H : Hp) : List V → List (Bk.Todo Pr Cd Str) → Prop := Paired (TodoV H)
theorem TodosV.mono {H H' : Hp} (i : Im H H') {vs : List V} {es : List (Bk.Todo Pr Cd Str)} (h : TodosV H vs es) : TodosV H' vs es := Paired.mapP h fun _ _ x => x.mono i
theorem TodosV.app {H : Hp} : ∀ {vs ws : List V} {es fs : List (Bk.Todo Pr Cd Str)}, TodosV H vs es → TodosV H ws fs → TodosV H (vs ++ ws) (es ++ fs)
  | _, _, _, _, .nil, g => g
  | _, _, _, _, .cons x r, g => .cons x (TodosV.app r g)
theorem Kp.free {M : List Addr} {H H' : Hp} {r : Addr} (k : Kp M H H') (hm : ∀ b ∈ M, H' b ≠ none) (h : H' r = none) : H r = none := by
  cases e : H r with
  | none => rfl
  | some o =>
    by_cases m : r ∈ M
    · exact absurd h (hm r m)
    · rw [k r o e m] at h; cases h
theorem PtsX.some_ {a : Ad} {H : Hp} {p dx lp dl da de : Addr} {T : PtsT} (h : PtsX a H p dx lp dl da de T) : ∀ b ∈ PM4 p lp dl da, H b ≠ none := by
  obtain ⟨vs, p1, _⟩ := h.pcs
  obtain ⟨kl, l1, _⟩ := h.lv
  obtain ⟨ka, a1, _⟩ := h.ar
  intro b hb
  simp only [List.mem_cons, List.not_mem_nil, or_false] at hb
  rcases hb with z | z | z | z <;> subst z
  · rw [h.ob]; exact fun z => by cases z
  · rw [p1]; exact fun z => by cases z
  · rw [l1]; exact fun z => by cases z
  · rw [a1]; exact fun z => by cases z
theorem PtsX.lst_ne {a : Ad} {H : Hp} {p dx lp dl da de : Addr} {T : PtsT} (h : PtsX a H p dx lp dl da de T) {r : Addr} (n : H r = none) : r ≠ lp := by
  obtain ⟨vs, p1, _⟩ := h.pcs
  exact (ne_of_none p1 n).symm
theorem chg_cases {vars : List Str} {n : Int} {p : Pr} (h : p.ok vars n) : p.w = "+=" ∨ p.w = "-=" ∨ p.w = "^=" ∨ p.w = "swap" := by
  obtain ⟨_, h⟩ := h
  rcases h with ⟨h, _⟩ | ⟨h, _⟩
  · unfold chgL at h
    have z : p.w = "+=" ∨ p.w = "-=" ∨ p.w = "^=" := by simpa using h
    rcases z with z | z | z
    · exact .inl z
    · exact .inr (.inl z)
    · exact .inr (.inr (.inl z))
  · exact .inr (.inr (.inr h))
theorem chg_words {vars : List Str} {n : Int} {p : Pr} (h : p.ok vars n) : inV (.str p.w) [.str "call", .str "uncall"] = false ∧ inV (.str p.w) [.str "if", .str "from"] = false := by
  rcases chg_cases h with e | e | e | e <;> rw [e] <;> decide +kernel
theorem flPts_ends_ {c : Nat} {lp dl da de : Addr} : (flPts c lp dl da de).lookup ("_ends" : Str) = none := by
  unfold flPts
  repeat (first | exact rfl | (refine Eq.trans (lk_skip (by decide +kernel)) ?_))
theorem flPts_place {c : Nat} {lp dl da de : Addr} : (flPts c lp dl da de).lookup ("_place" : Str) = none := by
  unfold flPts
  repeat (first | exact rfl | (refine Eq.trans (lk_skip (by decide +kernel)) ?_))
theorem flPts_lay {c : Nat} {lp dl da de : Addr} : (flPts c lp dl da de).lookup ("_lay" : Str) = none := by
  unfold flPts
  repeat (first | exact rfl | (refine Eq.trans (lk_skip (by decide +kernel)) ?_))
def spPlace (a : Ad) : Sp := fun vs H Q _ => ∃ (p dx lp dl da de : Addr) (T : PtsT) (sv : V) (ys : List V) (b : Body) (f m : Nat) (vars : List Str) (n : Int) (ns : List Str), vs = [.ref p, sv, .int (f : Nat), .int (m : Nat)] ∧ PtsX a H p dx lp dl da de T ∧ T.pcs.length ≤ 9000 ∧
  BdV H (sv :: ys) b ∧ BOk vars n ns b ∧
  ∀ H' r tvs, Kp (PM4 p lp dl da) H H' → PtsX a H' p dx lp dl da de (plc T f m b).1 → H r = none → H' r = some (.lst tvs) → TodosV H' tvs (plc T f m b).2 → Q (.ref r) H'
theorem sc_Points__place : FnScope ["self", "statement", "here", "after", "word", "first", "second"] ["self", "statement", "here", "after"] (defScope s_Points__place) := ⟨rfl, rfl, rfl, by decide +kernel, rfl, by decide +kernel, by decide +kernel⟩
theorem ok_place (T : Tx w K mg a) : FnOk P w K mg base CX0 3 a.f_Points__place a.d_Points__place ["self", "statement", "here", "after"] (spPlace a) := by
  have G_Points__add : FnOk P w K mg base CX0 1 _ _ _ (spAdd a) := ok_add T
  have G_Points__ends : FnOk P w K mg base CX0 2 _ _ _ (spEnds a) := ok_ends T
  refine T.F_Points__place.ok sc_Points__place (fun vs H Q E h => ?_) (fun cdv A outer s H vs Q E hr h => ?_)
  · obtain ⟨p, dx, lp, dl, da, de, t, sv, ys, b, f, m, vars, n, ns, rfl, _⟩ := h
    rfl
  · obtain ⟨p, dx, lp, dl, da, de, t, sv, ys, b, f, m, vars, n, ns, rfl, hp, hl, hb, bok, q⟩ := h
    have hu := hu_of hr
    refine ⟨_, (pss_cons (ps_set (i := 4) sc_Points__place.nd rfl (Or.inl rfl) (pe_ix ix_tup (pv 1) pe_int (fun _ _ => rfl)))
    (pss_cons (ps_if (pt_cmpR op_in_seq (pv 4) (pe_tup (pa_cons pe_str (pa_cons pe_str pa_nil))) rfl) (pss_cons (ps_expr (pe_meth (pv 0) T.cl_Points T.m_Points__add G_Points__add (hr.mono (by decide)) T.b_Points__add .nil pass0 (pa_cons (pe_tup (pa_cons pe_str (pa_cons (pv 2) (pa_cons (pv 3) (pa_cons (pe_ix ix_tup (pv 1) pe_int (fun _ _ => rfl)) (pa_cons (pe_ifExp (pt_cmpR op_eq (pv 4) pe_str (nomark _)) pe_int (pe_un un_neg pe_int)) pa_nil)))))) (pa_cons (pe_lst (pa_cons (pv 2) pa_nil)) (pa_cons (pe_lst (pa_cons (pv 3) pa_nil)) pa_nil)))))
    (pss_one (ps_ret (pe_lst pa_nil)))) pss_nil)
    (pss_cons (ps_if (pt_cmpR op_notIn_seq (pv 4) (pe_tup (pa_cons pe_str (pa_cons pe_str pa_nil))) rfl) (pss_cons (ps_expr (pe_meth (pv 0) T.cl_Points T.m_Points__add G_Points__add (hr.mono (by decide)) T.b_Points__add .nil pass0 (pa_cons (pe_tup (pa_cons pe_str (pa_cons (pv 2) (pa_cons (pv 3) (pa_cons (pv 1) pa_nil))))) (pa_cons (pe_lst (pa_cons (pv 2) pa_nil)) (pa_cons (pe_lst (pa_cons (pv 3) pa_nil)) pa_nil)))))
    (pss_one (ps_ret (pe_lst pa_nil)))) pss_nil)
    (pss_cons (ps_par (i := 5) (j := 6) rfl sc_Points__place.nd rfl rfl (by decide) rfl rfl (pa_cons (pe_meth (pv 0) T.cl_Points T.m_Points__ends G_Points__ends (hr.mono (by decide)) T.b_Points__ends .nil pass0 (pa_cons (pe_ix ix_tup (pv 1) pe_int (fun _ _ => rfl)) pa_nil)) (pa_cons (pe_meth (pv 0) T.cl_Points T.m_Points__ends G_Points__ends (hr.mono (by decide)) T.b_Points__ends .nil pass0 (pa_cons (pe_ix ix_tup (pv 1) pe_int (fun _ _ => rfl)) pa_nil)) pa_nil)) (by rfl))
    (pss_cons (ps_if (pt_cmpR op_eq (pv 4) pe_str (nomark _)) (pss_cons (ps_expr (pe_meth (pv 0) T.cl_Points T.m_Points__add G_Points__add (hr.mono (by decide)) T.b_Points__add .nil pass0 (pa_cons (pe_tup (pa_cons pe_str (pa_cons (pv 2) (pa_cons (pe_ix ix_tup (pv 1) pe_int (fun _ _ => rfl)) (pa_cons (pe_ix ix_tup (pv 5) pe_int (fun _ _ => rfl)) (pa_cons (pe_ix ix_tup (pv 6) pe_int (fun _ _ => rfl)) pa_nil)))))) (pa_cons (pe_lst (pa_cons (pv 2) pa_nil)) (pa_cons (pe_lst (pa_cons (pe_ix ix_tup (pv 5) pe_int (fun _ _ => rfl)) (pa_cons (pe_ix ix_tup (pv 6) pe_int (fun _ _ => rfl)) pa_nil))) pa_nil)))))
    (pss_one (ps_expr (pe_meth (pv 0) T.cl_Points T.m_Points__add G_Points__add (hr.mono (by decide)) T.b_Points__add .nil pass0 (pa_cons (pe_tup (pa_cons pe_str (pa_cons (pe_ix ix_tup (pv 5) pe_int (fun _ _ => rfl)) (pa_cons (pe_ix ix_tup (pv 6) pe_int (fun _ _ => rfl)) (pa_cons (pe_ix ix_tup (pv 1) pe_int (fun _ _ => rfl)) (pa_cons (pv 3) pa_nil)))))) (pa_cons (pe_lst (pa_cons (pe_ix ix_tup (pv 5) pe_int (fun _ _ => rfl)) (pa_cons (pe_ix ix_tup (pv 6) pe_int (fun _ _ => rfl)) pa_nil))) (pa_cons (pe_lst (pa_cons (pv 3) pa_nil)) pa_nil))))))) (pss_cons (ps_expr (pe_meth (pv 0) T.cl_Points T.m_Points__add G_Points__add (hr.mono (by decide)) T.b_Points__add .nil pass0 (pa_cons (pe_tup (pa_cons pe_str (pa_cons (pv 2) (pa_cons (pe_ix ix_tup (pv 6) pe_int (fun _ _ => rfl)) (pa_cons (pe_ix ix_tup (pv 1) pe_int (fun _ _ => rfl)) (pa_cons (pe_ix ix_tup (pv 5) pe_int (fun _ _ => rfl)) pa_nil)))))) (pa_cons (pe_lst (pa_cons (pv 2) (pa_cons (pe_ix ix_tup (pv 6) pe_int (fun _ _ => rfl)) pa_nil))) (pa_cons (pe_lst (pa_cons (pe_ix ix_tup (pv 5) pe_int (fun _ _ => rfl)) pa_nil)) pa_nil)))))
    (pss_one (ps_expr (pe_meth (pv 0) T.cl_Points T.m_Points__add G_Points__add (hr.mono (by decide)) T.b_Points__add .nil pass0 (pa_cons (pe_tup (pa_cons pe_str (pa_cons (pe_ix ix_tup (pv 5) pe_int (fun _ _ => rfl)) (pa_cons (pe_ix ix_tup (pv 1) pe_int (fun _ _ => rfl)) (pa_cons (pv 3) (pa_cons (pe_ix ix_tup (pv 6) pe_int (fun _ _ => rfl)) pa_nil)))))) (pa_cons (pe_lst (pa_cons (pe_ix ix_tup (pv 5) pe_int (fun _ _ => rfl)) pa_nil)) (pa_cons (pe_lst (pa_cons (pv 3) (pa_cons (pe_ix ix_tup (pv 6) pe_int (fun _ _ => rfl)) pa_nil))) pa_nil))))))))
    (pss_one (ps_ret (pe_lst (pa_cons (pe_tup (pa_cons (pe_ix ix_tup (pv 1) pe_int (fun _ _ => rfl)) (pa_cons (pv 5) pa_nil))) (pa_cons (pe_tup (pa_cons (pe_ix ix_tup (pv 1) pe_int (fun _ _ => rfl)) (pa_cons (pv 6) pa_nil))) pa_nil)))))))))), ?_⟩
    cases b with
    | nil => exact absurd hb (by intro z; cases z)
    | pr c r =>
      obtain ⟨v, ys', e, ⟨qa, ov, rfl, h1, h2⟩, _⟩ := hb
      cases e
      have wd := chg_words bok.1
      tm_at "g"
      refine w_ixT h1 (atI_nat (j := 0) rfl) ?_
      tm_at "g"
      refine w_lay (by show 2 ≤ 100000; decide) fun r1 H1 s1 n1 g1 => ?_
      refine w_inT g1 rfl rfl ?_
      rw [wd.1]
      tm_at "g"
      refine w_lay (by show 2 ≤ 100000; decide) fun r2 H2 s2 n2 g2 => ?_
      refine w_ninT g2 rfl rfl ?_
      rw [wd.2]
      tm_at "g"
      have s02 := s1.trans s2
      refine w_mobj (s02 _ _ hp.ob) flPts_add ?_
      tm_at "g"
      refine w_lay (by show 4 ≤ 100000; decide) fun r3 H3 s3 n3 g3 => ?_
      tm_at "g"
      refine w_lay (by show 1 ≤ 100000; decide) fun r4 H4 s4 n4 g4 => ?_
      tm_at "g"
      refine w_lay (by show 1 ≤ 100000; decide) fun r5 H5 s5 n5 g5 => ?_
      tm_at "g"
      have s05 := ((s02.trans s3).trans s4).trans s5
      have hp5 := hp.mono s05
      refine ⟨p, dx, lp, dl, da, de, r4, r5, t, _, .act f m c, [f], [m], rfl, hp5, by omega, ?_, s5 _ _ g4, g5, (by show 1 ≤ 2; decide), (by show 1 ≤ 2; decide), (hp.mono (s02.trans s3)).lst_ne n4, (hp.mono ((s02.trans s3).trans s4)).lst_ne n5, fun H6 k6 hp6 => ?_⟩
      · refine ⟨r3, _, rfl, s5 _ _ (s4 _ _ g3), ⟨qa, ov, rfl, s05 _ _ h1, h2.mono (Im.of s05)⟩⟩
      · tm_at "g"
        refine w_lay (by show 0 ≤ 100000; decide) fun r7 H7 s7 n7 g7 => ?_
        have k : Kp (PM4 p lp dl da) H H6 := (Kp.of s05).trans k6
        exact q H7 r7 [] (k.trans (Kp.of s7)) (hp6.mono s7) (k.free hp6.some_ n7) g7 .nil
    | cl sg c r =>
      obtain ⟨qa, ys', e, h1, _⟩ := hb
      cases e
      tm_at "g"
      refine w_ixT h1 (atI_nat (j := 0) rfl) ?_
      tm_at "g"
      refine w_lay (by show 2 ≤ 100000; decide) fun r1 H1 s1 n1 g1 => ?_
      refine w_inT g1 rfl rfl ?_
      have wd : inV (.str (if sg then ("call" : Str) else "uncall")) [.str "call", .str "uncall"] = true := by cases sg <;> decide +kernel
      rw [wd]
      tm_at "g"
      refine w_mobj (s1 _ _ hp.ob) flPts_add ?_
      tm_at "g"
      refine w_ixT (s1 _ _ h1) (atI_nat (j := 1) rfl) ?_
      tm_at "g"
      have es : decide (V.str (if sg then ("call" : Str) else "uncall") = V.str "call") = sg := by cases sg <;> decide +kernel
      rw [es]
      refine w_ifval (v := .int (sgI sg)) (fun e Q' q' => ?_) (fun e Q' q' => ?_) ?_
      · tm_at "g"
        rw [e] at q'
        exact q'
      · tm_at "g"
        rw [e] at q'
        exact q'
      tm_at "g"
      refine w_lay (by show 5 ≤ 100000; decide) fun r3 H3 s3 n3 g3 => ?_
      tm_at "g"
      refine w_lay (by show 1 ≤ 100000; decide) fun r4 H4 s4 n4 g4 => ?_
      tm_at "g"
      refine w_lay (by show 1 ≤ 100000; decide) fun r5 H5 s5 n5 g5 => ?_
      tm_at "g"
      have s05 := ((s1.trans s3).trans s4).trans s5
      have hp5 := hp.mono s05
      refine ⟨p, dx, lp, dl, da, de, r4, r5, t, _, .call f m c sg, [f], [m], rfl, hp5, by omega, ?_, s5 _ _ g4, g5, (by show 1 ≤ 2; decide), (by show 1 ≤ 2; decide), (hp.mono (s1.trans s3)).lst_ne n4, (hp.mono ((s1.trans s3).trans s4)).lst_ne n5, fun H6 k6 hp6 => ?_⟩
      · exact ⟨r3, rfl, s5 _ _ (s4 _ _ g3)⟩
      · tm_at "g"
        refine w_lay (by show 0 ≤ 100000; decide) fun r7 H7 s7 n7 g7 => ?_
        have k : Kp (PM4 p lp dl da) H H6 := (Kp.of s05).trans k6
        exact q H7 r7 [] (k.trans (Kp.of s7)) (hp6.mono s7) (k.free hp6.some_ n7) g7 .nil
    | ite c d A B r =>
      obtain ⟨qa, ys', cv, dv, pa, xa, pb, xb, e, h1, hc, hd, ha, hA, hb, hB, _⟩ := hb
      cases e
      tm_at "g"
      refine w_ixT h1 (atI_nat (j := 0) rfl) ?_
      tm_at "g"
      refine w_lay (by show 2 ≤ 100000; decide) fun r1 H1 s1 n1 g1 => ?_
      refine w_inT g1 rfl rfl ?_
      have wd1 : inV (.str "if") [.str "call", .str "uncall"] = false := by decide +kernel
      have wd2 : inV (.str "if") [.str "if", .str "from"] = true := by decide +kernel
      rw [wd1]
      tm_at "g"
      refine w_lay (by show 2 ≤ 100000; decide) fun r2 H2 s2 n2 g2 => ?_
      refine w_ninT g2 rfl rfl ?_
      rw [wd2]
      tm_at "g"
      have s02 := s1.trans s2
      have hp2 := hp.mono s02
      have i2 := Im.of s02
      refine w_mobj hp2.ob flPts_ends_ ?_
      tm_at "g"
      refine w_ixT (s02 _ _ h1) (atI_nat (j := 2) rfl) ?_
      tm_at "g"
      refine ⟨p, dx, lp, dl, da, de, pa, t, xa, A, rfl, hp2, s02 _ _ ha, hA.mono i2, fun H3 r3 k3 hp3 g3 => ?_⟩
      have i3 := i2.trans (hp2.im k3)
      tm_at "g"
      refine w_mobj hp3.ob flPts_ends_ ?_
      tm_at "g"
      refine w_ixT (i3 _ _ h1) (atI_nat (j := 3) rfl) ?_
      tm_at "g"
      refine ⟨p, dx, lp, dl, da, de, pb, _, xb, B, rfl, hp3, i3 _ _ hb, hB.mono i3, fun H4 r4 k4 hp4 g4 => ?_⟩
      have i34 := hp3.im k4
      have i4 := i3.trans i34
      have g3' := i34 _ _ g3
      have k04 : Kp (PM4 p lp dl da) H H4 := ((Kp.of s02).trans k3).trans k4
      rw [bump_bump] at hp4
      tm_at "g"
      refine w_dT rfl ?_
      tm_at "g"
      refine w_mobj hp4.ob flPts_add ?_
      tm_at "g"
      refine w_ixT (i4 _ _ h1) (atI_nat (j := 1) rfl) ?_
      tm_at "g"
      refine w_ixT g3' (atI_nat (j := 0) rfl) ?_
      tm_at "g"
      refine w_ixT g4 (atI_nat (j := 0) rfl) ?_
      tm_at "g"
      refine w_lay (by show 5 ≤ 100000; decide) fun r5 H5 s5 n5 g5 => ?_
      tm_at "g"
      refine w_lay (by show 1 ≤ 100000; decide) fun r6 H6 s6 n6 g6 => ?_
      have s46 := s5.trans s6
      tm_at "g"
      refine w_ixT (s46 _ _ g3') (atI_nat (j := 0) rfl) ?_
      tm_at "g"
      refine w_ixT (s46 _ _ g4) (atI_nat (j := 0) rfl) ?_
      tm_at "g"
      refine w_lay (by show 2 ≤ 100000; decide) fun r7 H7 s7 n7 g7 => ?_
      tm_at "g"
      have s47 := s46.trans s7
      have hp7 := hp4.mono s47
      have i7 := i4.trans (Im.of s47)
      refine ⟨p, dx, lp, dl, da, de, r6, r7, _, _, .fork f c t.cnt (t.cnt + Bk.endN A), [f], [t.cnt, t.cnt + Bk.endN A], rfl, hp7, (by show t.pcs.length ≤ 10000; omega), ⟨r5, _, rfl, s7 _ _ (s6 _ _ g5), hc.mono i7⟩, s7 _ _ g6, g7,
        (by show 1 ≤ 2; decide), (by show 2 ≤ 2; decide), (hp4.mono s5).lst_ne n6, (hp4.mono s46).lst_ne n7, fun H8 k8 hp8 => ?_⟩
      have k08 := (k04.trans (Kp.of s47)).trans k8
      have i8 := i7.trans (hp7.im k8)
      have g38 := hp7.im k8 _ _ (s47 _ _ g3')
      have g48 := hp7.im k8 _ _ (s47 _ _ g4)
      tm_at "g"
      refine w_mobj hp8.ob flPts_add ?_
      tm_at "g"
      refine w_ixT g38 (atI_nat (j := 1) rfl) ?_
      tm_at "g"
      refine w_ixT g48 (atI_nat (j := 1) rfl) ?_
      tm_at "g"
      refine w_ixT (i8 _ _ h1) (atI_nat (j := 4) rfl) ?_
      tm_at "g"
      refine w_lay (by show 5 ≤ 100000; decide) fun r9 H9 s9 n9 g9 => ?_
      tm_at "g"
      refine w_ixT (s9 _ _ g38) (atI_nat (j := 1) rfl) ?_
      tm_at "g"
      refine w_ixT (s9 _ _ g48) (atI_nat (j := 1) rfl) ?_
      tm_at "g"
      refine w_lay (by show 2 ≤ 100000; decide) fun r10 H10 s10 n10 g10 => ?_
      tm_at "g"
      refine w_lay (by show 1 ≤ 100000; decide) fun r11 H11 s11 n11 g11 => ?_
      tm_at "g"
      have s811 := (s9.trans s10).trans s11
      have hp11 := hp8.mono s811
      have i11 := i8.trans (Im.of s811)
      refine ⟨p, dx, lp, dl, da, de, r10, r11, _, _, .join (Bk.endOf A t.cnt) (Bk.endOf B (t.cnt + Bk.endN A)) d m, [Bk.endOf A t.cnt, Bk.endOf B (t.cnt + Bk.endN A)], [m], rfl, hp11, ?_, ⟨r9, _, rfl, s11 _ _ (s10 _ _ g9), hd.mono i11⟩, s11 _ _ g10, g11,
        (by show 2 ≤ 2; decide), (by show 1 ≤ 2; decide), (hp8.mono s9).lst_ne n10, (hp8.mono (s9.trans s10)).lst_ne n11, fun H12 k12 hp12 => ?_⟩
      · show (t.pcs ++ [_]).length ≤ 10000
        rw [List.length_append, List.length_singleton]
        omega
      have k012 := (k08.trans (Kp.of s811)).trans k12
      have i812 := (Im.of s811).trans (hp11.im k12)
      have i12 := i8.trans i812
      have g312 := i812 _ _ g38
      have g412 := i812 _ _ g48
      tm_at "g"
      refine w_ixT (i12 _ _ h1) (atI_nat (j := 2) rfl) ?_
      tm_at "g"
      refine w_lay (by show 2 ≤ 100000; decide) fun r13 H13 s13 n13 g13 => ?_
      tm_at "g"
      refine w_ixT (s13 _ _ (i12 _ _ h1)) (atI_nat (j := 3) rfl) ?_
      tm_at "g"
      refine w_lay (by show 2 ≤ 100000; decide) fun r14 H14 s14 n14 g14 => ?_
      tm_at "g"
      refine w_lay (by show 2 ≤ 100000; decide) fun r15 H15 s15 n15 g15 => ?_
      have sE := (s13.trans s14).trans s15
      have iE := i12.trans (Im.of sE)
      refine q H15 r15 _ (k012.trans (Kp.of sE)) (hp12.mono sE) ((k012.trans (Kp.of (s13.trans s14))).free (hp12.mono (s13.trans s14)).some_ n15) g15 (.cons ?_ (.cons ?_ .nil))
      · exact ⟨r13, pa, xa, r3, rfl, s15 _ _ (s14 _ _ g13), iE _ _ ha, hA.mono iE, sE _ _ g312⟩
      · exact ⟨r14, pb, xb, r4, rfl, s15 _ _ g14, iE _ _ hb, hB.mono iE, sE _ _ g412⟩
    | lp c d A B r =>
      obtain ⟨qa, ys', cv, dv, pa, xa, pb, xb, e, h1, hc, hd, ha, hA, hb, hB, _⟩ := hb
      cases e
      tm_at "g"
      refine w_ixT h1 (atI_nat (j := 0) rfl) ?_
      tm_at "g"
      refine w_lay (by show 2 ≤ 100000; decide) fun r1 H1 s1 n1 g1 => ?_
      refine w_inT g1 rfl rfl ?_
      have wd1 : inV (.str "from") [.str "call", .str "uncall"] = false := by decide +kernel
      have wd2 : inV (.str "from") [.str "if", .str "from"] = true := by decide +kernel
      rw [wd1]
      tm_at "g"
      refine w_lay (by show 2 ≤ 100000; decide) fun r2 H2 s2 n2 g2 => ?_
      refine w_ninT g2 rfl rfl ?_
      rw [wd2]
      tm_at "g"
      have s02 := s1.trans s2
      have hp2 := hp.mono s02
      have i2 := Im.of s02
      refine w_mobj hp2.ob flPts_ends_ ?_
      tm_at "g"
      refine w_ixT (s02 _ _ h1) (atI_nat (j := 2) rfl) ?_
      tm_at "g"
      refine ⟨p, dx, lp, dl, da, de, pa, t, xa, A, rfl, hp2, s02 _ _ ha, hA.mono i2, fun H3 r3 k3 hp3 g3 => ?_⟩
      have i3 := i2.trans (hp2.im k3)
      tm_at "g"
      refine w_mobj hp3.ob flPts_ends_ ?_
      tm_at "g"
      refine w_ixT (i3 _ _ h1) (atI_nat (j := 3) rfl) ?_
      tm_at "g"
      refine ⟨p, dx, lp, dl, da, de, pb, _, xb, B, rfl, hp3, i3 _ _ hb, hB.mono i3, fun H4 r4 k4 hp4 g4 => ?_⟩
      have i34 := hp3.im k4
      have i4 := i3.trans i34
      have g3' := i34 _ _ g3
      have k04 : Kp (PM4 p lp dl da) H H4 := ((Kp.of s02).trans k3).trans k4
      rw [bump_bump] at hp4
      tm_at "g"
      refine w_dF (by decide +kernel) ?_
      tm_at "g"
      refine w_mobj hp4.ob flPts_add ?_
      tm_at "g"
      refine w_ixT g4 (atI_nat (j := 1) rfl) ?_
      tm_at "g"
      refine w_ixT (i4 _ _ h1) (atI_nat (j := 1) rfl) ?_
      tm_at "g"
      refine w_ixT g3' (atI_nat (j := 0) rfl) ?_
      tm_at "g"
      refine w_lay (by show 5 ≤ 100000; decide) fun r5 H5 s5 n5 g5 => ?_
      tm_at "g"
      refine w_ixT (s5 _ _ g4) (atI_nat (j := 1) rfl) ?_
      tm_at "g"
      refine w_lay (by show 2 ≤ 100000; decide) fun r6 H6 s6 n6 g6 => ?_
      have s46 := s5.trans s6
      tm_at "g"
      refine w_ixT (s46 _ _ g3') (atI_nat (j := 0) rfl) ?_
      tm_at "g"
      refine w_lay (by show 1 ≤ 100000; decide) fun r7 H7 s7 n7 g7 => ?_
      tm_at "g"
      have s47 := s46.trans s7
      have hp7 := hp4.mono s47
      have i7 := i4.trans (Im.of s47)
      refine ⟨p, dx, lp, dl, da, de, r6, r7, _, _, .join f (Bk.endOf B (t.cnt + Bk.endN A)) c t.cnt, [f, Bk.endOf B (t.cnt + Bk.endN A)], [t.cnt], rfl, hp7, (by show t.pcs.length ≤ 10000; omega), ⟨r5, _, rfl, s7 _ _ (s6 _ _ g5), hc.mono i7⟩, s7 _ _ g6, g7,
        (by show 2 ≤ 2; decide), (by show 1 ≤ 2; decide), (hp4.mono s5).lst_ne n6, (hp4.mono s46).lst_ne n7, fun H8 k8 hp8 => ?_⟩
      have k08 := (k04.trans (Kp.of s47)).trans k8
      have i8 := i7.trans (hp7.im k8)
      have g38 := hp7.im k8 _ _ (s47 _ _ g3')
      have g48 := hp7.im k8 _ _ (s47 _ _ g4)
      tm_at "g"
      refine w_mobj hp8.ob flPts_add ?_
      tm_at "g"
      refine w_ixT g38 (atI_nat (j := 1) rfl) ?_
      tm_at "g"
      refine w_ixT (i8 _ _ h1) (atI_nat (j := 4) rfl) ?_
      tm_at "g"
      refine w_ixT g48 (atI_nat (j := 0) rfl) ?_
      tm_at "g"
      refine w_lay (by show 5 ≤ 100000; decide) fun r9 H9 s9 n9 g9 => ?_
      tm_at "g"
      refine w_ixT (s9 _ _ g38) (atI_nat (j := 1) rfl) ?_
      tm_at "g"
      refine w_lay (by show 1 ≤ 100000; decide) fun r10 H10 s10 n10 g10 => ?_
      tm_at "g"
      refine w_ixT (s10 _ _ (s9 _ _ g48)) (atI_nat (j := 0) rfl) ?_
      tm_at "g"
      refine w_lay (by show 2 ≤ 100000; decide) fun r11 H11 s11 n11 g11 => ?_
      tm_at "g"
      have s811 := (s9.trans s10).trans s11
      have hp11 := hp8.mono s811
      have i11 := i8.trans (Im.of s811)
      refine ⟨p, dx, lp, dl, da, de, r10, r11, _, _, .fork (Bk.endOf A t.cnt) d m (t.cnt + Bk.endN A), [Bk.endOf A t.cnt], [m, t.cnt + Bk.endN A], rfl, hp11, ?_, ⟨r9, _, rfl, s11 _ _ (s10 _ _ g9), hd.mono i11⟩, s11 _ _ g10, g11,
        (by show 1 ≤ 2; decide), (by show 2 ≤ 2; decide), (hp8.mono s9).lst_ne n10, (hp8.mono (s9.trans s10)).lst_ne n11, fun H12 k12 hp12 => ?_⟩
      · show (t.pcs ++ [_]).length ≤ 10000
        rw [List.length_append, List.length_singleton]
        omega
      have k012 := (k08.trans (Kp.of s811)).trans k12
      have i812 := (Im.of s811).trans (hp11.im k12)
      have i12 := i8.trans i812
      have g312 := i812 _ _ g38
      have g412 := i812 _ _ g48
      tm_at "g"
      refine w_ixT (i12 _ _ h1) (atI_nat (j := 2) rfl) ?_
      tm_at "g"
      refine w_lay (by show 2 ≤ 100000; decide) fun r13 H13 s13 n13 g13 => ?_
      tm_at "g"
      refine w_ixT (s13 _ _ (i12 _ _ h1)) (atI_nat (j := 3) rfl) ?_
      tm_at "g"
      refine w_lay (by show 2 ≤ 100000; decide) fun r14 H14 s14 n14 g14 => ?_
      tm_at "g"
      refine w_lay (by show 2 ≤ 100000; decide) fun r15 H15 s15 n15 g15 => ?_
      have sE := (s13.trans s14).trans s15
      have iE := i12.trans (Im.of sE)
      refine q H15 r15 _ (k012.trans (Kp.of sE)) (hp12.mono sE) ((k012.trans (Kp.of (s13.trans s14))).free (hp12.mono (s13.trans s14)).some_ n15) g15 (.cons ?_ (.cons ?_ .nil))
      · exact ⟨r13, pa, xa, r3, rfl, s15 _ _ (s14 _ _ g13), iE _ _ ha, hA.mono iE, sE _ _ g312⟩
      · exact ⟨r14, pb, xb, r4, rfl, s15 _ _ g14, iE _ _ hb, hB.mono iE, sE _ _ g412⟩
end
end Kt
end -- KPts
section -- KLay
set_option Elab.async false
set_option linter.all false
set_option maxRecDepth 100000
set_option maxHeartbeats 4000000
/-! KLay: Points._lay. -/
namespace Kt
open PySem L2
theorem TodosV.snoc_inv {H : Hp} {e : Bk.Todo Pr Cd Str} : ∀ {es : List (Bk.Todo Pr Cd Str)} {vs : List V}, TodosV H vs (es ++ [e]) → ∃ ws v, vs = ws ++ [v] ∧ TodosV H ws es ∧ TodoV H v e
  | [], _, h => by
    cases h with
    | cons x r => cases r; exact ⟨[], _, rfl, .nil, x⟩
  | f :: es, _, h => by
    cases h with
    | cons x r =>
      obtain ⟨ws, v, rfl, h1, h2⟩ := TodosV.snoc_inv r
      exact ⟨_ :: ws, v, rfl, .cons x h1, h2⟩
theorem Kp.mutn {M : List Addr} {H H' : Hp} {x : Addr} {o : HO} (k : Kp M H H') (n : H x = none) : Kp M H (L2.upd H' x o) := fun b u e m => by
  rw [upd_ne (ne_of_none e n)]
  exact k b u e m
theorem BdV.head {H : Hp} {v : V} {ys : List V} {b : Body} (h : BdV H (v :: ys) b) : BdV H ys (rest b) ∧ b ≠ .nil := by
  cases b with
  | nil => cases h
  | pr p r => obtain ⟨_, _, e, _, g⟩ := h; cases e; exact ⟨g, fun z => by cases z⟩
  | cl s n r => obtain ⟨_, _, e, _, g⟩ := h; cases e; exact ⟨g, fun z => by cases z⟩
  | ite c d A B r => obtain ⟨_, _, _, _, _, _, _, _, e, _, _, _, _, _, _, _, g⟩ := h; cases e; exact ⟨g, fun z => by cases z⟩
  | lp c d A B r => obtain ⟨_, _, _, _, _, _, _, _, e, _, _, _, _, _, _, _, g⟩ := h; cases e; exact ⟨g, fun z => by cases z⟩
theorem BdV.len_le {H : Hp} : ∀ {b : Body} {xs : List V}, BdV H xs b → xs.length ≤ wt b
  | .nil, _, h => by cases h; exact Nat.zero_le _
  | .pr _ r, _, ⟨_, _, e, _, g⟩ => by subst e; have := BdV.len_le g; simp only [wt, List.length_cons]; omega
  | .cl _ _ r, _, ⟨_, _, e, _, g⟩ => by subst e; have := BdV.len_le g; simp only [wt, List.length_cons]; omega
  | .ite _ _ _ _ r, _, ⟨_, _, _, _, _, _, _, _, e, _, _, _, _, _, _, _, g⟩ => by subst e; have := BdV.len_le g; simp only [wt, List.length_cons]; omega
  | .lp _ _ _ _ r, _, ⟨_, _, _, _, _, _, _, _, e, _, _, _, _, _, _, _, g⟩ => by subst e; have := BdV.len_le g; simp only [wt, List.length_cons]; omega
def spLay (a : Ad) : Sp := fun vs H Q _ => ∃ (p dx lp dl da de bt : Addr) (T0 : PtsT) (xs : List V) (b : Body) (vars : List Str) (n : Int) (ns : List Str), vs = [.ref p, .ref bt] ∧ PtsX a H p dx lp dl da de T0 ∧ Bk.Below T0 ∧ H bt = some (.tup xs) ∧ BdV H xs b ∧ BOk vars n ns b ∧ PtOk vars n ns T0 ∧
  T0.pcs.length + 2 * wt b ≤ 9000 ∧
  ∀ H' et T' f l, Kp (PM4 p lp dl da) H H' → PtsX a H' p dx lp dl da de T' → H' et = some (.tup [.int (f : Nat), .int (l : Nat)]) → Bk.LB T0 f l T' → Bk.Laid Pr.und T' true b f l → PtOk vars n ns T' → T'.pcs.length ≤ T0.pcs.length + 2 * wt b → Q (.ref et) H'
/-- the state of the laying -/
structure LayS (a : Ad) (H H' : Hp) (p dx lp dl da de tl et : Addr) (T0 T : PtsT) (vars : List Str) (n : Int) (ns : List Str) (tvs : List V) (todo : List (Bk.Todo Pr Cd Str)) (f0 l0 : Nat) : Prop where
  pts : PtsX a H' p dx lp dl da de T
  lst : H' tl = some (.lst tvs)
  vals : TodosV H' tvs todo
  ok : PtOk vars n ns T
  oks : ∀ e ∈ todo, BOk vars n ns e.1
  kp : Kp (PM4 p lp dl da) H H'
  en : H' et = some (.tup [.int (f0 : Nat), .int (l0 : Nat)])
section
variable {P : Program} {w : World} {K : PySem.W.Frag} {mg : Str → Option Value} {base : Heap} {a : Ad}
local macro_rules | `(tactic| tm_at "g") => `(tactic| repeat (first
  | with_reducible refine w_seq ?_ | with_reducible refine w_if ?_ | with_reducible refine w_tB ?_ | with_reducible refine w_tTest ?_ | with_reducible refine w_asg ?_ | with_reducible refine w_name ?_
  | with_reducible refine w_ret ?_ | with_reducible refine w_next ?_ | with_reducible refine w_op ?_ | with_reducible refine w_c ?_ | with_reducible refine w_cb ?_ | with_reducible refine w_call ?_ | with_reducible refine w_cons ?_ | with_reducible refine w_nil ?_
  | with_reducible refine w_var (by with_unfolding_all rfl) ?_
  | with_reducible refine w_rI0 ?_ | with_reducible refine w_eq (by with_unfolding_all rfl) ?_ | with_reducible refine w_ne (by with_unfolding_all rfl) ?_
  | with_reducible refine w_test ?_ | with_reducible refine w_T ?_ | with_reducible refine w_F ?_ | with_reducible refine w_T0 ?_ | with_reducible refine w_F0 ?_
  | with_reducible refine w_and ?_ | with_reducible refine w_or ?_ | with_reducible refine w_not ?_ | with_reducible refine w_ifE ?_ | with_reducible refine w_drop ?_
  | with_reducible refine w_andV ?_ | with_reducible refine w_orV ?_ | with_reducible refine w_notV ?_ | with_reducible refine w_dget ?_ | with_reducible refine w_din ?_ | with_reducible refine w_dnin ?_ | with_reducible refine w_fld ?_
  | with_reducible refine w_ttup ?_ | with_reducible refine w_tlst ?_ | with_reducible refine w_un ?_ | with_reducible refine w_rU ?_ | with_reducible refine w_gcons ?_ | with_reducible refine w_gnil ?_ | with_reducible refine w_sub ?_ | with_reducible refine w_sl ?_ | with_reducible refine w_nopart ?_ | with_reducible refine w_part ?_ | with_reducible refine w_int ?_ | with_reducible refine w_meth ?_
  | with_reducible refine w_make ?_ | with_reducible refine w_dput ?_ | with_reducible refine w_sfld ?_ | with_reducible refine w_bm ?_ | with_reducible refine w_bm0 ?_ | with_reducible refine w_isN ?_ | with_reducible refine w_notT ?_ | with_reducible refine w_forR ?_ | with_reducible refine w_forL ?_ | with_reducible refine w_forT ?_ | with_reducible refine w_fldaug ?_ | with_reducible refine w_radd ?_ | with_reducible refine w_par ?_ | with_reducible refine w_pair ?_))

theorem sc_Points__lay : FnScope ["self", "body", "ends", "todo", "inner", "here", "last", "k", "after"] ["self", "body"] (defScope s_Points__lay) := ⟨rfl, rfl, rfl, by decide +kernel, rfl, by decide +kernel, by decide +kernel⟩
theorem ok_lay (T : Tx w K mg a) : FnOk P w K mg base CX0 4 a.f_Points__lay a.d_Points__lay ["self", "body"] (spLay a) := by
  have G_Points__point : FnOk P w K mg base CX0 1 _ _ _ (spPoint a) := ok_point T
  have G_Points__ends : FnOk P w K mg base CX0 2 _ _ _ (spEnds a) := ok_ends T
  have G_Points__place : FnOk P w K mg base CX0 3 _ _ _ (spPlace a) := ok_place T
  refine T.F_Points__lay.ok sc_Points__lay (fun vs H Q E h => ?_) (fun cdv A outer s H vs Q E hr h => ?_)
  · obtain ⟨p, dx, lp, dl, da, de, bt, T0, xs, b, vars, n, ns, rfl, _⟩ := h
    rfl
  · obtain ⟨p, dx, lp, dl, da, de, bt, T0, xs, b, vars, n, ns, rfl, hp, hbel, hb, hbv, bok, pok, hz, q⟩ := h
    have hu := hu_of hr
    refine ⟨_, (pss_cons (ps_set (i := 2) sc_Points__lay.nd rfl (Or.inl rfl) (pe_meth (pv 0) T.cl_Points T.m_Points__ends G_Points__ends (hr.mono (by decide)) T.b_Points__ends .nil pass0 (pa_cons (pv 1) pa_nil)))
    (pss_cons (ps_set (i := 3) sc_Points__lay.nd rfl (Or.inl rfl) (pe_lst (pa_cons (pe_tup (pa_cons (pv 1) (pa_cons (pv 2) pa_nil))) pa_nil)))
    (pss_cons (ps_while PassesOwn.never (pt_truth (pv 3) (by intro _; rfl))
      (pss_cons (ps_asg (pe_bm0 PySem.F.plainAttrs_list PySem.F.slot_list_pop PySem.F.type_list_pop mt_pop (pv 3) ) (pg_tup rfl (pgs_cons (pg_name (i := 4) sc_Points__lay.nd rfl (Or.inl rfl)) (pgs_cons (pg_tup rfl (pgs_cons (pg_name (i := 5) sc_Points__lay.nd rfl (Or.inl rfl)) (pgs_cons (pg_name (i := 6) sc_Points__lay.nd rfl (Or.inl rfl)) pgs_nil))) pgs_nil))))
    (pss_one (ps_for PassesOwn.never rfl (pi_range1 rfl T.z_range (pa_cons (pe_callB cl_len (by rfl) T.z_len PySem.boot_len (pa_cons (pv 4) pa_nil)) pa_nil)) (pg_name (i := 7) sc_Points__lay.nd rfl (Or.inl rfl))
      (pss_cons (ps_set (i := 8) sc_Points__lay.nd rfl (Or.inl rfl) (pe_ifExp (pt_cmpR op_eq (pv 7) (pe_op op_sub (pe_callB cl_len (by rfl) T.z_len PySem.boot_len (pa_cons (pv 4) pa_nil)) pe_int) (nomark _)) (pv 6) (pe_meth0 (pv 0) T.cl_Points T.m_Points__point G_Points__point (hr.mono (by decide)) T.b_Points__point .nil pass0)))
    (pss_cons (ps_expr (pe_bm PySem.F.plainAttrs_list PySem.F.slot_list_extend PySem.F.type_list_extend mt_extend (pv 3) (pa_cons (pe_meth (pv 0) T.cl_Points T.m_Points__place G_Points__place (hr.mono (by decide)) T.b_Points__place .nil pass0 (pa_cons (pe_ix ix_tup (pv 4) (pv 7) (fun _ _ => rfl)) (pa_cons (pv 5) (pa_cons (pv 8) pa_nil)))) pa_nil)))
    (pss_one (ps_set (i := 5) sc_Points__lay.nd rfl (Or.inl rfl) (pv 8)))))))))
    (pss_one (ps_ret (pv 2)))))), ?_⟩
    tm_at "g"
    refine w_mobj hp.ob flPts_ends_ ?_
    tm_at "g"
    refine ⟨p, dx, lp, dl, da, de, bt, T0, xs, b, rfl, hp, hb, hbv, fun H1 et k1 hp1 g1 => ?_⟩
    have i1 := hp.im k1
    tm_at "g"
    refine w_lay (by show 2 ≤ 100000; decide) fun r2 H2 s2 n2 g2 => ?_
    tm_at "g"
    refine w_lay (by show 1 ≤ 100000; decide) fun tl H3 s3 n3 g3 => ?_
    tm_at "g"
    have s13 := s2.trans s3
    have ntl0 : H tl = none := (k1.trans (Kp.of s2)).free (hp1.mono s2).some_ n3
    have ntl : tl ∉ PM4 p lp dl da := fun z => (hp1.mono s2).some_ tl z n3
    have I0 : Bk.LI Pr.und T0 b T0.cnt (Bk.endOf b T0.cnt) (T0.bump (Bk.endN b)) [(b, T0.cnt, Bk.endOf b T0.cnt)] := Bk.LI.start hbel b
    refine w_while (fun m σ H' => ∃ o4 o5 o6 o7 o8 t tvs todo, σ = [some (.ref p), some (.ref bt), some (.ref et), some (.ref tl), o4, o5, o6, o7, o8] ∧ LayS a H H' p dx lp dl da de tl et T0 t vars n ns tvs todo T0.cnt (Bk.endOf b T0.cnt) ∧
        Bk.LI Pr.und T0 b T0.cnt (Bk.endOf b T0.cnt) t todo ∧ m = wts todo ∧ t.pcs.length + 2 * wts todo ≤ T0.pcs.length + 2 * wt b) (wts [(b, T0.cnt, Bk.endOf b T0.cnt)])
      ⟨none, none, none, none, none, _, _, _, rfl, ⟨hp1.mono s13, g3, .cons ⟨r2, bt, xs, et, rfl, s3 _ _ g2, s13 _ _ (i1 _ _ hb), hbv.mono (i1.trans (Im.of s13)), s13 _ _ g1⟩ .nil, pok.bump _, fun e he => by rw [List.mem_singleton] at he; subst he; exact bok, k1.trans (Kp.of s13), s13 _ _ g1⟩, I0, rfl, ?_⟩
      (fun m σ H' h => ?_) (fun σ H Q Q' hQ h => ?_)
    · rw [wts_cons]; show T0.pcs.length + 2 * (wt b + 0) ≤ _; omega
    · obtain ⟨o4, o5, o6, o7, o8, t, tvs, todo, rfl, S, I, rfl, hbud⟩ := h
      tm_at "g"
      rcases List.eq_nil_or_concat todo with e | ⟨td, x, e⟩
      · subst e
        have et0 : tvs = [] := by have z := S.vals; cases z; rfl
        subst et0
        refine w_truL0 S.lst ?_
        tm_at "g"
        exact q H' et t _ _ S.kp S.pts S.en I.toLB I.fin S.ok (by simp [wts] at hbud; omega)
      · rw [List.concat_eq_append] at e
        subst e
        obtain ⟨ws, v, rfl, S1, qq, bt', xs', et', rfl, hq, hbt, hbv', het⟩ := S.vals.snoc_inv
        refine w_truLn S.lst (by simp) ?_
        tm_at "g"
        refine w_tyL S.lst ?_
        refine w_pop S.lst ?_
        have im0 : Im H' (upd H' tl (.lst ws)) := Im.upd fun zs z => by rw [S.lst] at z; cases z
        refine w_tup (im0 _ _ hq) rfl ?_
        tm_at "g"
        refine w_tup (im0 _ _ het) rfl ?_
        tm_at "g"
        refine w_lenT (im0 _ _ hbt) ?_
        obtain ⟨b1, f1, l1⟩ := x
        dsimp only at hbv' het
        have I1 := I.pop
        have bok1 : BOk vars n ns b1 := S.oks _ (List.mem_append.mpr (.inr (List.mem_singleton_self _)))
        have oks1 : ∀ e ∈ td, BOk vars n ns e.1 := fun e he => S.oks e (List.mem_append.mpr (.inl he))
        rw [wts_app, wts_cons] at hbud
        have ew : wts (td ++ [(b1, f1, l1)]) = wts td + wt b1 := by rw [wts_app, wts_cons]; show wts td + (wt b1 + 0) = _; omega
        have hbud : t.pcs.length + 2 * (wts td + wt b1) ≤ T0.pcs.length + 2 * wt b := by
          have z : wts ([] : List (Bk.Todo Pr Cd Str)) = 0 := rfl
          rw [z] at hbud
          exact hbud
        have hxs : xs'.length ≤ 9000 := by
          have z := BdV.len_le hbv'
          omega
        refine w_rng (n := xs'.length) (fun k σ H2 => ∃ o7 o8 t2 tvs2 td2 b2 f2, σ = [some (.ref p), some (.ref bt), some (.ref et), some (.ref tl), some (.ref bt'), some (.int (f2 : Nat)), some (.int (l1 : Nat)), o7, o8] ∧
            LayS a H H2 p dx lp dl da de tl et T0 t2 vars n ns tvs2 td2 T0.cnt (Bk.endOf b T0.cnt) ∧ Bk.LI Pr.und T0 b T0.cnt (Bk.endOf b T0.cnt) t2 ((b2, f2, l1) :: td2) ∧ BdV H2 (xs'.drop k) b2 ∧ BOk vars n ns b2 ∧ H2 bt' = some (.tup xs') ∧
            wts td2 + wt b2 ≤ wts td + wt b1 ∧ t2.pcs.length + 2 * (wts td2 + wt b2) ≤ T0.pcs.length + 2 * wt b)
          (by omega) ⟨o7, o8, t, ws, td, b1, f1, rfl, ⟨S.pts.upd ntl (fun zs z => by rw [S.lst] at z; cases z), upd_same, S1.mono im0, S.ok, oks1, S.kp.mutn ntl0, im0 _ _ S.en⟩, I1, hbv'.mono im0, bok1, im0 _ _ hbt, Nat.le_refl _, hbud⟩
          (fun k σ H2 hk h => ?_) (fun σ H2 h => ?_)
        · obtain ⟨o7, o8, t2, tvs2, td2, b2, f2, rfl, S2, I2, hv2, bok2, hbt2, hm2, hb2⟩ := h
          have exd : xs'.drop k = xs'[k] :: xs'.drop (k + 1) := List.drop_eq_getElem_cons hk
          rw [exd] at hv2
          obtain ⟨hv3, bne⟩ := hv2.head
          have hget : xs'[k]? = some xs'[k] := List.getElem?_eq_getElem hk
          tm_at "g"
          refine w_lenT hbt2 ?_
          tm_at "g"
          refine w_ifvalH (v := .int (Bk.nextOf (rest b2) l1 t2.cnt : Nat)) (PH := fun H3 => Kp (PM4 p lp dl da) H2 H3 ∧ PtsX a H3 p dx lp dl da de (t2.bump (Bk.nextN (rest b2)))) (fun e Q' q' => ?_) (fun e Q' q' => ?_) fun H3 h3 => ?_
          · have e' := of_decide_eq_true e
            have ek : k + 1 = xs'.length := by injection e' with e'; omega
            have hn : rest b2 = .nil := hv3.nil_iff.mp (by rw [ek, List.drop_length])
            have h1 : Bk.nextOf (rest b2) l1 t2.cnt = l1 := by rw [hn]; rfl
            have h2 : Bk.nextN (rest b2) = 0 := by rw [hn]; rfl
            rw [h1, h2] at q'
            tm_at "g"
            exact q' H2 ⟨Kp.refl _ _, S2.pts⟩
          · have e' := of_decide_eq_false e
            have hn : (rest b2).isNil = false := by
              cases z : (rest b2).isNil with
              | false => rfl
              | true =>
                have z2 := hv3.nil_iff.mpr (Bk.Bd.isNil_iff.mp z)
                rw [List.drop_eq_nil_iff] at z2
                exact absurd (by rw [show ((k : Nat) : Int) = ((xs'.length : Nat) : Int) - 1 by omega]) e'
            have h1 : Bk.nextOf (rest b2) l1 t2.cnt = t2.cnt := by unfold Bk.nextOf; rw [hn]; rfl
            have h2 : Bk.nextN (rest b2) = 1 := by unfold Bk.nextN; rw [hn]; rfl
            rw [h1, h2] at q'
            tm_at "g"
            refine w_mobj S2.pts.ob flPts_point ?_
            tm_at "g"
            exact ⟨p, dx, lp, dl, da, de, t2, rfl, S2.pts, fun H3 k3 hp3 => q' H3 ⟨k3, hp3⟩⟩
          · obtain ⟨k3, hp3⟩ := h3
            have i3 := S2.pts.im k3
            have tl3 := k3 _ _ S2.lst ntl
            tm_at "g"
            refine w_tyL tl3 ?_
            tm_at "g"
            refine w_mobj hp3.ob flPts_place ?_
            tm_at "g"
            refine w_ixT (i3 _ _ hbt2) (atI_nat hget) ?_
            tm_at "g"
            refine ⟨p, dx, lp, dl, da, de, _, xs'[k], _, b2, f2, _, vars, n, ns, rfl, hp3, ?_, hv2.mono i3, bok2, fun H4 r new k4 hp4 nr4 g4 tv4 => ?_⟩
            · show t2.pcs.length ≤ 9000
              have := wt_pos b2
              omega
            · have i4 := hp3.im k4
              have tl4 := k4 _ _ tl3 ntl
              obtain ⟨pw1, pw2⟩ := plc_wt (T := t2.bump (Bk.nextN (rest b2))) (f := f2) (m := Bk.nextOf (rest b2) l1 t2.cnt) bne
              obtain ⟨pk1, pk2, pk3⟩ := plc_ok (f := f2) (m := Bk.nextOf (rest b2) l1 t2.cnt) (S2.ok.bump (Bk.nextN (rest b2))) bok2
              have l4 : tvs2.length = td2.length := Paired.length S2.vals
              have l5 : new.length = _ := Paired.length tv4
              have l6 := wts_len td2
              have l7 := wts_len (plc (t2.bump (Bk.nextN (rest b2))) f2 (Bk.nextOf (rest b2) l1 t2.cnt) b2).2
              tm_at "g"
              refine w_extend tl4 g4 (by omega) ?_
              tm_at "g"
              have im5 : Im H4 (upd H4 tl (.lst (tvs2 ++ new))) := Im.upd fun zs z => by rw [tl4] at z; cases z
              have i5 := (i3.trans i4).trans im5
              refine ⟨_, _, _, _, _, rest b2, _, rfl, ⟨hp4.upd ntl (fun zs z => by rw [tl4] at z; cases z), upd_same, ((S2.vals.mono (i3.trans i4)).app tv4).mono im5, pk1, ?_, ((S2.kp.trans k3).trans k4).mutn ntl0, i5 _ _ S2.en⟩, LI.plc I2 bne, hv3.mono i5, pk2, i5 _ _ hbt2, ?_, ?_⟩
              · intro e he
                rcases List.mem_append.mp he with z | z
                · exact S2.oks e z
                · exact pk3 e z
              · rw [wts_app]
                omega
              · rw [wts_app]
                have z : (t2.bump (Bk.nextN (rest b2))).pcs.length = t2.pcs.length := rfl
                omega
        · obtain ⟨o7, o8, t2, tvs2, td2, b2, f2, rfl, S2, I2, hv2, bok2, hbt2, hm2, hb2⟩ := h
          rw [List.drop_length] at hv2
          have hn : b2 = .nil := hv2.nil_iff.mp rfl
          subst hn
          have z1 : wt (.nil : Body) = 1 := rfl
          rw [z1] at hm2 hb2
          exact ⟨wts td2, by rw [ew]; omega, _, _, _, _, _, t2, tvs2, td2, rfl, S2, I2.drop, rfl, by omega⟩
    · obtain ⟨v, hv, k, hk, h⟩ := h
      exact ⟨v, hv, k, hk, hQ _ _ h⟩
end
end Kt
end -- KLay
section -- KPg
set_option Elab.async false
set_option linter.all false
set_option maxRecDepth 100000
set_option maxHeartbeats 4000000
/-! KPg: Program.body, Points.__init__. -/
namespace Kt
open PySem L2
/-- a program's data -/
structure PD where
  w : Nat
  vars : List Str
  ns : List Str
  R : Str → Body
def PgA (a : Ad) (H : Hp) (p : Addr) (d : PD) : Prop := ∃ dxp vt nt db kvs, H p = some (.ins a.c_Program dxp (flPg d.w vt nt db)) ∧ H vt = some (.tup (d.vars.map V.str)) ∧ H nt = some (.tup (d.ns.map V.str)) ∧ H db = some (.dK kvs) ∧
  ∀ n ∈ d.ns, ∃ v, valV kvs (.inr n) = some v ∧ BdT H v (d.R n)
theorem PgA.mono {a : Ad} {H H' : Hp} {p : Addr} {d : PD} (h : PgA a H p d) (s : Same H H') : PgA a H' p d :=
  let ⟨dxp, vt, nt, db, kvs, h1, h2, h3, h4, h5⟩ := h
  ⟨dxp, vt, nt, db, kvs, s _ _ h1, s _ _ h2, s _ _ h3, s _ _ h4, fun n hn => let ⟨v, e, g⟩ := h5 n hn; ⟨v, e, g.mono (Im.of s)⟩⟩
structure PD.Ok (d : PD) : Prop where
  w8 : d.w ≤ 8
  v6 : d.vars.length ≤ 6
  nd : d.ns.Nodup
  main : ("main" : Str) ∈ d.ns
  bok : ∀ n ∈ d.ns, BOk d.vars (2 ^ d.w) d.ns (d.R n)
  sz : (d.ns.map fun n => wt (d.R n)).sum ≤ 4000
def spBody (a : Ad) : Sp := fun vs H Q _ => ∃ (p : Addr) (d : PD) (n : Str), vs = [.ref p, .str n] ∧ PgA a H p d ∧ n ∈ d.ns ∧ ∀ bt xs, H bt = some (.tup xs) → BdV H xs (d.R n) → Q (.ref bt) H
theorem NdLen (d : PD) (ok : d.Ok) : d.ns.length ≤ 4000 := by
  refine Nat.le_trans ?_ ok.sz
  have h : ∀ l : List Str, l.length ≤ (l.map fun n => wt (d.R n)).sum := fun l => by
    induction l with
    | nil => exact Nat.zero_le _
    | cons x r ih => rw [List.map_cons, List.sum_cons, List.length_cons]; have := wt_pos (d.R x); omega
  exact h d.ns
theorem PgA.ne {a : Ad} {H : Hp} {p pp C dx : Addr} {d : PD} (h : PgA a H pp d) (hp : H p = some (.ins C dx [])) : pp ≠ p := by
  obtain ⟨_, _, _, _, _, h1, _⟩ := h
  intro z
  rw [z, hp] at h1
  injection h1 with h1
  injection h1 with _ _ h1
  cases h1
/-- a program stands while a new object is filled -/
theorem PgA.kp {a : Ad} {H H' : Hp} {p pp C dx : Addr} {d : PD} (h : PgA a H pp d) (hp : H p = some (.ins C dx [])) (k : Kp [p] H H') : PgA a H' pp d := by
  have n := h.ne hp
  obtain ⟨dxp, vt, nt, db, kvs, h1, h2, h3, h4, h5⟩ := h
  have i : Im H H' := fun b xs e => k b _ e (by simpa using fun z => by rw [z, hp] at e; cases e)
  exact ⟨dxp, vt, nt, db, kvs, k _ _ h1 (by simpa using n), i _ _ h2, i _ _ h3, k _ _ h4 (by simpa using fun z => by rw [z, hp] at h4; cases h4), fun m hm => let ⟨v, e, g⟩ := h5 m hm; ⟨v, e, g.mono i⟩⟩
theorem ptok0 {vars : List Str} {n : Int} {ns : List Str} : PtOk vars n ns ⟨0, [], fun _ => none, fun _ => none⟩ := by
  refine ⟨fun x k e => ?_, fun x k e => ?_, fun k q e => ?_⟩
  · cases e
  · cases e
  · simp at e
/-- what a Points has made of a program -/
structure PtsOf (d : PD) (T : PtsT) (E : Str → Nat × Nat) (ns : List Str) : Prop where
  laid : ∀ n ∈ ns, Bk.Laid Pr.und T true (d.R n) (E n).1 (E n).2
  first : ∀ n ∈ ns, T.ar (E n).1 = none
  last : ∀ n ∈ ns, T.lv (E n).2 = none
  lt : ∀ n ∈ ns, (E n).1 < T.cnt ∧ (E n).2 < T.cnt
def spPInit (a : Ad) : Sp := fun vs H Q _ => ∃ (p pp dx : Addr) (d : PD), vs = [.ref p, .ref pp] ∧ H p = some (.ins a.c_Points dx []) ∧ PgA a H pp d ∧ d.Ok ∧
  ∀ H' lp dl da de T E, Kp [p] H H' → PtsX a H' p dx lp dl da de T → EndsA H' de E d.ns → PtOk d.vars (2 ^ d.w) d.ns T → PtsOf d T E d.ns → Q .non H'
section
variable {P : Program} {w : World} {K : PySem.W.Frag} {mg : Str → Option Value} {base : Heap} {a : Ad}
local macro_rules | `(tactic| tm_at "g") => `(tactic| repeat (first
  | with_reducible refine w_seq ?_ | with_reducible refine w_if ?_ | with_reducible refine w_tB ?_ | with_reducible refine w_tTest ?_ | with_reducible refine w_asg ?_ | with_reducible refine w_name ?_
  | with_reducible refine w_ret ?_ | with_reducible refine w_next ?_ | with_reducible refine w_op ?_ | with_reducible refine w_c ?_ | with_reducible refine w_cb ?_ | with_reducible refine w_call ?_ | with_reducible refine w_cons ?_ | with_reducible refine w_nil ?_
  | with_reducible refine w_var (by with_unfolding_all rfl) ?_
  | with_reducible refine w_rI0 ?_ | with_reducible refine w_eq (by with_unfolding_all rfl) ?_ | with_reducible refine w_ne (by with_unfolding_all rfl) ?_
  | with_reducible refine w_test ?_ | with_reducible refine w_T ?_ | with_reducible refine w_F ?_ | with_reducible refine w_T0 ?_ | with_reducible refine w_F0 ?_
  | with_reducible refine w_and ?_ | with_reducible refine w_or ?_ | with_reducible refine w_not ?_ | with_reducible refine w_ifE ?_ | with_reducible refine w_drop ?_
  | with_reducible refine w_andV ?_ | with_reducible refine w_orV ?_ | with_reducible refine w_notV ?_ | with_reducible refine w_dget ?_ | with_reducible refine w_din ?_ | with_reducible refine w_dnin ?_ | with_reducible refine w_fld ?_
  | with_reducible refine w_ttup ?_ | with_reducible refine w_tlst ?_ | with_reducible refine w_un ?_ | with_reducible refine w_rU ?_ | with_reducible refine w_gcons ?_ | with_reducible refine w_gnil ?_ | with_reducible refine w_sub ?_ | with_reducible refine w_sl ?_ | with_reducible refine w_nopart ?_ | with_reducible refine w_part ?_ | with_reducible refine w_int ?_ | with_reducible refine w_meth ?_
  | with_reducible refine w_make ?_ | with_reducible refine w_dput ?_ | with_reducible refine w_sfld ?_ | with_reducible refine w_bm ?_ | with_reducible refine w_bm0 ?_ | with_reducible refine w_isN ?_ | with_reducible refine w_notT ?_ | with_reducible refine w_forR ?_ | with_reducible refine w_forL ?_ | with_reducible refine w_forT ?_ | with_reducible refine w_fldaug ?_ | with_reducible refine w_radd ?_ | with_reducible refine w_par ?_ | with_reducible refine w_pair ?_))

theorem sc_Program_body : FnScope ["self", "name"] ["self", "name"] (defScope s_Program_body) := ⟨rfl, rfl, rfl, by decide +kernel, rfl, by decide +kernel, by decide +kernel⟩
theorem ok_body (T : Tx w K mg a) : FnOk P w K mg base CX0 1 a.f_Program_body a.d_Program_body ["self", "name"] (spBody a) := by
  refine T.F_Program_body.ok sc_Program_body (fun vs H Q E h => ?_) (fun cdv A outer s H vs Q E hr h => ?_)
  · obtain ⟨p, d, n, rfl, _⟩ := h
    rfl
  · obtain ⟨p, d, n, rfl, hp, hn, q⟩ := h
    have hu := hu_of hr
    obtain ⟨dxp, vt, nt, db, kvs, h1, h2, h3, h4, h5⟩ := hp
    obtain ⟨v, hv, bt, xs, rfl, g1, g2⟩ := h5 n hn
    refine ⟨_, (pss_cons (ps_if (PW.pt (pw_or (pt_not (pt_val (pe_callB call_is (by rfl) T.z_isinstance (by decide +kernel) (pa_cons (pv 1) (pa_cons (pe_bltn (v := .ty "str") rfl T.z_str (by decide +kernel) rfl) pa_nil))))) (pw_or1 (pt_cmp (pc_dnotin hu (pv 1) (pe_fld (pv 0) rfl)))))) (pss_one ps_never) pss_nil)
    (pss_one (ps_ret (pe_dget hu (pe_fld (pv 0) rfl) (pv 1) (fun _ _ => rfl))))), ?_⟩
    tm_at "g"
    refine w_is rfl k_str_str ?_
    tm_at "g"
    refine w_obj h1 T.cl_Program T.na_Program__bodies flPg_bodies ?_
    refine w_diS h4 ?_
    rw [hv]
    tm_at "g"
    refine w_F' rfl ?_
    tm_at "g"
    refine w_obj h1 T.cl_Program T.na_Program__bodies flPg_bodies ?_
    tm_at "g"
    refine w_dgS h4 hv ?_
    exact q bt xs g1 g2
theorem flPts_new {lp dl da de : Addr} : putF "ends" (.ref de) (putF "arriving" (.ref da) (putF "leaving" (.ref dl) (putF "pieces" (.ref lp) (putF "_count" (.int 0) [])))) = flPts 0 lp dl da de := by
  repeat (first | rw [putF_nil] | rw [putF_ne (by decide +kernel)])
  rfl
theorem sc_Points_init : FnScope ["self", "program", "name"] ["self", "program"] (defScope s_Points_init) := ⟨rfl, rfl, rfl, by decide +kernel, rfl, by decide +kernel, by decide +kernel⟩
theorem ok_pinit (T : Tx w K mg a) : FnOk P w K mg base CX0 5 a.f_Points_init a.d_Points_init ["self", "program"] (spPInit a) := by
  have G_Program_body : FnOk P w K mg base CX0 1 _ _ _ (spBody a) := ok_body T
  have G_Points__lay : FnOk P w K mg base CX0 4 _ _ _ (spLay a) := ok_lay T
  refine T.F_Points_init.ok sc_Points_init (fun vs H Q E h => ?_) (fun cdv A outer s H vs Q E hr h => ?_)
  · obtain ⟨p, pp, dx, d, rfl, _⟩ := h
    rfl
  · obtain ⟨p, pp, dx, d, rfl, hp, hd, ok, q⟩ := h
    have hu := hu_of hr
    refine ⟨_, (pss_cons (ps_fld (pv 0) pe_int rfl)
    (pss_cons (ps_fld (pv 0) (pe_lst pa_nil) rfl)
    (pss_cons (ps_fld (pv 0) pe_dnewK rfl)
    (pss_cons (ps_fld (pv 0) pe_dnewK rfl)
    (pss_cons (ps_fld (pv 0) pe_dnewK rfl)
    (pss_one (ps_for PassesOwn.never rfl (pi_tup (pe_fld (pv 1) rfl)) (pg_name (i := 2) sc_Points_init.nd rfl (Or.inl rfl))
      (pss_one (ps_dput hu (pe_fld (pv 0) rfl) (pv 2) (pe_meth (pv 0) T.cl_Points T.m_Points__lay G_Points__lay (hr.mono (by decide)) T.b_Points__lay .nil pass0 (pa_cons (pe_meth (pv 1) T.cl_Program T.m_Program_body G_Program_body (hr.mono (by decide)) T.b_Program_body .nil pass0 (pa_cons (pv 2) pa_nil)) pa_nil)) rfl))))))))), ?_⟩
    tm_at "g"
    refine w_sobj hp T.cl_Points T.na_Points__count (by show 0 < 1000; decide) ?_
    tm_at "g"
    refine w_lay (by show 0 ≤ 100000; decide) fun lp H1 s1 n1 g1 => ?_
    tm_at "g"
    refine w_sobj (s1 _ _ upd_same) T.cl_Points T.na_Points_pieces (by show 1 < 1000; decide) ?_
    tm_at "g"
    refine w_dnew fun dl H2 s2 n2 g2 => ?_
    tm_at "g"
    refine w_sobj (s2 _ _ upd_same) T.cl_Points T.na_Points_leaving (by show 2 < 1000; decide) ?_
    tm_at "g"
    refine w_dnew fun da H3 s3 n3 g3 => ?_
    tm_at "g"
    refine w_sobj (s3 _ _ upd_same) T.cl_Points T.na_Points_arriving (by show 3 < 1000; decide) ?_
    tm_at "g"
    refine w_dnew fun de H4 s4 n4 g4 => ?_
    tm_at "g"
    refine w_sobj (s4 _ _ upd_same) T.cl_Points T.na_Points_ends (by show 4 < 1000; decide) ?_
    rw [flPts_new]
    -- what stands now
    obtain ⟨Z, hZ⟩ : ∃ Z, Z = upd H4 p (.ins a.c_Points dx (flPts 0 lp dl da de)) := ⟨_, rfl⟩
    rw [← hZ]
    have npl : p ≠ lp := fun z => by rw [← z, upd_same] at n1; cases n1
    have npd : p ≠ dl := fun z => by rw [← z, upd_same] at n2; cases n2
    have npa : p ≠ da := fun z => by rw [← z, upd_same] at n3; cases n3
    have npe : p ≠ de := fun z => by rw [← z, upd_same] at n4; cases n4
    have hl2 : (upd H1 p (.ins a.c_Points dx (putF "pieces" (.ref lp) (putF "_count" (.int 0) [])))) lp = some (.lst []) := by rw [upd_ne npl.symm]; exact g1
    have hl3 : (upd H2 p (.ins a.c_Points dx (putF "leaving" (.ref dl) (putF "pieces" (.ref lp) (putF "_count" (.int 0) []))))) lp = some (.lst []) := by rw [upd_ne npl.symm]; exact s2 _ _ hl2
    have hd3 : (upd H2 p (.ins a.c_Points dx (putF "leaving" (.ref dl) (putF "pieces" (.ref lp) (putF "_count" (.int 0) []))))) dl = some (.dK []) := by rw [upd_ne npd.symm]; exact g2
    have hl4 : (upd H3 p (.ins a.c_Points dx (putF "arriving" (.ref da) (putF "leaving" (.ref dl) (putF "pieces" (.ref lp) (putF "_count" (.int 0) [])))))) lp = some (.lst []) := by rw [upd_ne npl.symm]; exact s3 _ _ hl3
    have hd4 : (upd H3 p (.ins a.c_Points dx (putF "arriving" (.ref da) (putF "leaving" (.ref dl) (putF "pieces" (.ref lp) (putF "_count" (.int 0) [])))))) dl = some (.dK []) := by rw [upd_ne npd.symm]; exact s3 _ _ hd3
    have ha4 : (upd H3 p (.ins a.c_Points dx (putF "arriving" (.ref da) (putF "leaving" (.ref dl) (putF "pieces" (.ref lp) (putF "_count" (.int 0) [])))))) da = some (.dK []) := by rw [upd_ne npa.symm]; exact g3
    have zp : Z p = some (.ins a.c_Points dx (flPts 0 lp dl da de)) := by rw [hZ]; exact upd_same
    have zl : Z lp = some (.lst []) := by rw [hZ, upd_ne npl.symm]; exact s4 _ _ hl4
    have zd : Z dl = some (.dK []) := by rw [hZ, upd_ne npd.symm]; exact s4 _ _ hd4
    have za : Z da = some (.dK []) := by rw [hZ, upd_ne npa.symm]; exact s4 _ _ ha4
    have ze : Z de = some (.dK []) := by rw [hZ, upd_ne npe.symm]; exact g4
    have nda : dl ≠ da := fun z => by rw [← z, hd3] at n3; cases n3
    have nde : dl ≠ de := fun z => by rw [← z, hd4] at n4; cases n4
    have nae : da ≠ de := fun z => by rw [← z, ha4] at n4; cases n4
    have nle : lp ≠ de := fun z => by rw [← z, hl4] at n4; cases n4
    have kz : Kp [p] H Z := by
      rw [hZ]
      exact ((((((((Kp.upd (by simp)).trans (Kp.of s1)).trans (Kp.upd (by simp))).trans (Kp.of s2)).trans (Kp.upd (by simp))).trans (Kp.of s3)).trans (Kp.upd (by simp))).trans (Kp.of s4)).trans (Kp.upd (by simp))
    have fr : ∀ {x : Addr}, x ≠ p → ∀ {H' : Hp}, Kp [p] H H' → H' x = none → H x = none := fun {x} nx {H'} k e => by
      cases e2 : H x with
      | none => rfl
      | some o => rw [k x o e2 (by simpa using nx)] at e; cases e
    have f1 : H lp = none := fr npl.symm (Kp.upd (by simp)) n1
    have f2 : H dl = none := fr npd.symm (((Kp.upd (by simp)).trans (Kp.of s1)).trans (Kp.upd (by simp))) n2
    have f3 : H da = none := fr npa.symm (((((Kp.upd (by simp)).trans (Kp.of s1)).trans (Kp.upd (by simp))).trans (Kp.of s2)).trans (Kp.upd (by simp))) n3
    have f4 : H de = none := fr npe.symm (((((((Kp.upd (by simp)).trans (Kp.of s1)).trans (Kp.upd (by simp))).trans (Kp.of s2)).trans (Kp.upd (by simp))).trans (Kp.of s3)).trans (Kp.upd (by simp))) n4
    have hde : de ∉ PM4 p lp dl da := by
      simp only [List.mem_cons, List.not_mem_nil, or_false]
      rintro (z | z | z | z)
      · exact npe z.symm
      · exact nle z.symm
      · exact nde z.symm
      · exact nae z.symm
    have kstep : ∀ {H1 H2 : Hp}, Kp [p] H H1 → Kp (PM4 p lp dl da) H1 H2 → Kp [p] H H2 := fun {H1 H2} k1 k2 b o e n => by
      refine k2 b o (k1 b o e n) ?_
      simp only [List.mem_cons, List.not_mem_nil, or_false] at n ⊢
      rintro (z | z | z | z) <;> subst z
      · exact n rfl
      · rw [f1] at e; cases e
      · rw [f2] at e; cases e
      · rw [f3] at e; cases e
    have kde : ∀ {H1 : Hp} {o : HO}, Kp [p] H H1 → Kp [p] H (upd H1 de o) := fun {H1 o} k b u e n => by
      rw [upd_ne (ne_of_none e f4)]
      exact k b u e n
    have hdz := hd.kp hp kz
    obtain ⟨dxp, vt, nt, db, kvs0, h1, h2, h3, h4, h5⟩ := id hdz
    tm_at "g"
    refine w_obj h1 T.cl_Program T.na_Program_names flPg_names ?_
    refine w_tpl (xs := d.ns.map V.str) (fun i σ H' => ∃ o t E kvs, σ = [some (.ref p), some (.ref pp), o] ∧ PtsX a H' p dx lp dl da de t ∧ H' de = some (.dK kvs) ∧ kvs.length ≤ i ∧
        (∀ n ∈ d.ns.take i, ∃ q, valV kvs (.inr n) = some (.ref q) ∧ H' q = some (.tup [.int ((E n).1 : Nat), .int ((E n).2 : Nat)])) ∧ Bk.Below t ∧ PtOk d.vars (2 ^ d.w) d.ns t ∧ PtsOf d t E (d.ns.take i) ∧ Kp [p] H H' ∧ t.pcs.length ≤ 2 * ((d.ns.take i).map fun n => wt (d.R n)).sum)
      ⟨none, ⟨0, [], fun _ => none, fun _ => none⟩, fun _ => (0, 0), [], rfl, ⟨zp, ⟨[], zl, rfl, fun k v q e _ => by simp at e⟩, ⟨[], zd, fun x => rfl, Nat.le_refl _⟩, ⟨[], za, fun x => rfl, Nat.le_refl _⟩, nda⟩, ze, Nat.le_refl _, fun n hn => by simp at hn,
        ⟨fun _ _ => rfl, fun _ _ => rfl⟩, ptok0, ⟨fun n hn => by simp at hn, fun n hn => by simp at hn, fun n hn => by simp at hn, fun n hn => by simp at hn⟩, kz, Nat.zero_le _⟩
      (fun i σ H' hi h => ?_) (fun i x σ H' hx h => ?_) (fun σ H' h => ?_)
    · obtain ⟨o, t, E, kvs, _, _, _, _, _, _, _, _, k, _⟩ := h
      obtain ⟨dxp', vt', nt', db', kvs', h1', h2', h3', _⟩ := hd.kp hp k
      obtain ⟨dxq, vq, nq, dq, kq, e1, e2, e3, _⟩ := id hd
      have z1 := kz _ _ e1 (by simpa using hd.ne hp)
      have z2 := k _ _ e1 (by simpa using hd.ne hp)
      have z3 : nt = nq := by
        rw [z1] at h1
        injection h1 with h1
        injection h1 with _ _ h1
        unfold flPg at h1
        injection h1 with _ h1
        injection h1 with _ h1
        injection h1 with h1 _
        injection h1 with _ h1
        injection h1 with h1
        exact h1.symm
      rw [z3]
      exact k _ _ e3 (by simpa using fun z => by rw [z, hp] at e3; cases e3)
    · obtain ⟨o, t, E, kvs, rfl, hpt, hk, hkl, hent, hbel, hok, hof, k, hbud⟩ := h
      obtain ⟨n, hn, rfl⟩ : ∃ n, d.ns[i]? = some n ∧ x = V.str n := by
        rw [List.getElem?_map] at hx
        cases e : d.ns[i]? with
        | none => rw [e] at hx; cases hx
        | some n => rw [e] at hx; exact ⟨n, rfl, (Option.some.inj hx).symm⟩
      have hil : i < d.ns.length := (List.getElem?_eq_some_iff.mp hn).1
      have hmem : n ∈ d.ns := List.mem_of_getElem? hn
      have htk : d.ns.take (i + 1) = d.ns.take i ++ [n] := take_snoc hn
      have hd' := hd.kp hp k
      have hnew : n ∉ d.ns.take i := fun z => by
        have nd := ok.nd
        rw [← List.take_append_drop (i + 1) d.ns, htk, List.append_assoc] at nd
        have := (List.nodup_append.mp nd).2.2 n z n (by simp)
        exact this rfl
      have hsum : ((d.ns.take (i + 1)).map fun n => wt (d.R n)).sum ≤ 4000 := by
        refine Nat.le_trans ?_ ok.sz
        have e : (d.ns.map fun n => wt (d.R n)).sum = ((d.ns.take (i + 1)).map fun n => wt (d.R n)).sum + ((d.ns.drop (i + 1)).map fun n => wt (d.R n)).sum := by
          rw [← List.sum_append, ← List.map_append, List.take_append_drop]
        omega
      have hsum2 : ((d.ns.take (i + 1)).map fun n => wt (d.R n)).sum = ((d.ns.take i).map fun n => wt (d.R n)).sum + wt (d.R n) := by
        rw [htk, List.map_append, List.sum_append]
        simp
      tm_at "g"
      refine w_mobj hpt.ob flPts_lay ?_
      tm_at "g"
      obtain ⟨dxp', vt', nt', db', kvs', h1', _⟩ := id hd'
      refine w_mobj h1' flPg_body ?_
      tm_at "g"
      refine ⟨pp, d, n, rfl, hd', hmem, fun bt xs hbt hbv => ?_⟩
      tm_at "g"
      refine ⟨p, dx, lp, dl, da, de, bt, t, xs, d.R n, d.vars, 2 ^ d.w, d.ns, rfl, hpt, hbel, hbt, hbv, ok.bok n hmem, hok, by omega, fun H2 et t2 f l k2 hpt2 het hLB hLaid hok2 hlen2 => ?_⟩
      have i2 := hpt.im k2
      have hk2 := k2 _ _ hk hde
      tm_at "g"
      refine w_obj hpt2.ob T.cl_Points T.na_Points_ends flPts_ends ?_
      tm_at "g"
      refine w_dpS hk2 (by have := ok.sz; have := NdLen d ok; omega) ?_
      have i3 : Im H2 (upd H2 de (.dK (putK kvs (.inr n) (.ref et)))) := Im.upd fun zs z => by rw [hk2] at z; cases z
      refine ⟨_, t2, fun x => if x = n then (f, l) else E x, _, rfl, hpt2.upd hde (fun zs z => by rw [hk2] at z; cases z), upd_same, ?_, ?_, ⟨hLB.lvb, hLB.arb⟩, hok2, ?_, kde (kstep k k2), by omega⟩
      · have := putK_len' kvs (Sum.inr n) (V.ref et)
        omega
      · intro m hm
        rw [htk] at hm
        by_cases e : m = n
        · subst e
          refine ⟨et, by rw [valV_put, if_pos rfl], ?_⟩
          dsimp only
          rw [if_pos rfl]
          exact i3 _ _ het
        · have hm' : m ∈ d.ns.take i := by
            rcases List.mem_append.mp hm with z | z
            · exact z
            · rw [List.mem_singleton] at z; exact absurd z e
          obtain ⟨q1, q2, q3⟩ := hent m hm'
          refine ⟨q1, by rw [valV_put, if_neg (fun z => e (Sum.inr.inj z))]; exact q2, ?_⟩
          dsimp only
          rw [if_neg e]
          exact i3 _ _ (i2 _ _ q3)
      · have old : ∀ m, m ∈ d.ns.take (i + 1) → m ≠ n → m ∈ d.ns.take i := fun m hm e => by
          rw [htk] at hm
          rcases List.mem_append.mp hm with z | z
          · exact z
          · rw [List.mem_singleton] at z; exact absurd z e
        refine ⟨fun m hm => ?_, fun m hm => ?_, fun m hm => ?_, fun m hm => ?_⟩
        all_goals by_cases e : m = n
        · subst e; simp only [if_pos]; exact hLaid
        · simp only [if_neg e]; exact Bk.laid_ext hLB.ext (hof.laid m (old m hm e))
        · subst e; simp only [if_pos]; exact hLB.f0r.1
        · simp only [if_neg e]
          rw [hLB.aro _ (hof.lt m (old m hm e)).1]
          exact hof.first m (old m hm e)
        · subst e; simp only [if_pos]; exact hLB.l0r.1
        · simp only [if_neg e]
          rw [hLB.lvo _ (hof.lt m (old m hm e)).2]
          exact hof.last m (old m hm e)
        · subst e; simp only [if_pos]; exact ⟨hLB.f0r.2.2, hLB.l0r.2.2⟩
        · simp only [if_neg e]
          have z := hof.lt m (old m hm e)
          have := hLB.cnt
          exact ⟨by omega, by omega⟩
    · obtain ⟨o, t, E, kvs, rfl, hpt, hk, hkl, hent, hbel, hok, hof, k, hbud⟩ := h
      rw [List.length_map, List.take_length] at hent hof
      tm_at "g"
      exact q H' lp dl da de t E k hpt ⟨kvs, hk, hent⟩ hok hof
end
end Kt
end -- KPg
section -- KRun
set_option Elab.async false
set_option linter.all false
set_option maxRecDepth 100000
set_option maxHeartbeats 4000000
/-! KRun: begin, stopped, run. -/
namespace Kt
open PySem L2
theorem step_ok {d : MD} (hd : d.Ok) {c c' : Cfg} {n : Nat} (ok : CfOk d c n) (h : d.step c = some c') : CfOk d c' (n + 1) := by
  obtain ⟨pt, hh, fr, st⟩ := c
  obtain ⟨o1, o2, o3⟩ := ok
  dsimp only at o1 o2 o3
  unfold MD.step Bk.stepC at h
  split at h
  · -- a return
    unfold Bk.retn at h
    dsimp only at h
    split at h
    · cases h
    · split at h
      · cases h
        exact ⟨o1, fun k hk => o2 k (List.dropLast_subset _ hk), by dsimp only; rw [List.length_dropLast]; omega⟩
      · cases h
  · rename_i k hk
    split at h
    · rename_i p hp
      cases p with
      | call f m q s =>
        cases h
        refine ⟨o1, fun j hj => ?_, by dsimp only; rw [List.length_append, List.length_singleton]; omega⟩
        dsimp only at hj
        rcases List.mem_append.mp hj with e | e
        · exact o2 j e
        · rw [List.mem_singleton] at e
          subst e
          exact ⟨_, _, _, _, hp⟩
      | act f m p =>
        cases h
        have pok := hd.act k _ _ _ hp
        refine ⟨?_, o2, by dsimp only; omega⟩
        dsimp only
        refine Pr.act_ok ?_ o1
        cases hh
        · exact Pr.ok_und p pok
        · exact pok
      | fork one cd yes no =>
        simp only [Bk.turn, Bk.gate] at h
        split at h
        · cases h; exact ⟨o1, o2, by dsimp only; omega⟩
        · split at h
          · cases h; exact ⟨o1, o2, by dsimp only; omega⟩
          · cases h
      | join yes no cd one =>
        simp only [Bk.turn, Bk.gate] at h
        split at h
        · cases h; exact ⟨o1, o2, by dsimp only; omega⟩
        · split at h
          · cases h; exact ⟨o1, o2, by dsimp only; omega⟩
          · cases h
    · cases h
def MD.run (d : MD) (k : Nat) (c : Cfg) : Cfg × Nat := Bk.runC d.M d.T d.E k c
def spBegin (a : Ad) : Sp := fun vs H Q _ => ∃ (d : MD) (m sa : Addr) (st : List Int), vs = [.ref m, .ref sa] ∧ MacA a H m d ∧ ("main" : Str) ∈ d.ns ∧ StA H sa st ∧
  ∀ H' v, Same H H' → CfV H' v ⟨(d.E ("main" : Str)).1, true, [], st⟩ → Q v H'
def spStopped (a : Ad) : Sp := fun vs H Q _ => ∃ (d : MD) (m : Addr) (cv : V) (c : Cfg), vs = [.ref m, cv] ∧ MacA a H m d ∧ ("main" : Str) ∈ d.ns ∧ CfV H cv c ∧ Q (.bl (Bk.stopC d.E "main" c)) H
def spRun (a : Ad) : Sp := fun vs H Q _ => ∃ (d : MD) (m : Addr) (cv : V) (c : Cfg) (k : Nat), vs = [.ref m, cv, .int (k : Nat)] ∧ MacA a H m d ∧ d.Ok ∧ CfV H cv c ∧ CfOk d c 0 ∧ k ≤ 1000 ∧
  ∀ H' r v, Same H H' → H' r = some (.tup [v, .int ((d.run k c).2 : Nat)]) → CfV H' v (d.run k c).1 → CfOk d (d.run k c).1 1000 → Q (.ref r) H'
section
variable {P : Program} {w : World} {K : PySem.W.Frag} {mg : Str → Option Value} {base : Heap} {a : Ad}
local macro_rules | `(tactic| tm_at "g") => `(tactic| repeat (first
  | with_reducible refine w_seq ?_ | with_reducible refine w_if ?_ | with_reducible refine w_tB ?_ | with_reducible refine w_tTest ?_ | with_reducible refine w_asg ?_ | with_reducible refine w_name ?_
  | with_reducible refine w_ret ?_ | with_reducible refine w_next ?_ | with_reducible refine w_op ?_ | with_reducible refine w_c ?_ | with_reducible refine w_cb ?_ | with_reducible refine w_call ?_ | with_reducible refine w_cons ?_ | with_reducible refine w_nil ?_
  | with_reducible refine w_var (by with_unfolding_all rfl) ?_
  | with_reducible refine w_rI0 ?_ | with_reducible refine w_eq (by with_unfolding_all rfl) ?_ | with_reducible refine w_ne (by with_unfolding_all rfl) ?_
  | with_reducible refine w_test ?_ | with_reducible refine w_T ?_ | with_reducible refine w_F ?_ | with_reducible refine w_T0 ?_ | with_reducible refine w_F0 ?_
  | with_reducible refine w_and ?_ | with_reducible refine w_or ?_ | with_reducible refine w_not ?_ | with_reducible refine w_ifE ?_ | with_reducible refine w_drop ?_
  | with_reducible refine w_andV ?_ | with_reducible refine w_orV ?_ | with_reducible refine w_notV ?_ | with_reducible refine w_dget ?_ | with_reducible refine w_din ?_ | with_reducible refine w_dnin ?_ | with_reducible refine w_fld ?_
  | with_reducible refine w_ttup ?_ | with_reducible refine w_tlst ?_ | with_reducible refine w_un ?_ | with_reducible refine w_rU ?_ | with_reducible refine w_gcons ?_ | with_reducible refine w_gnil ?_ | with_reducible refine w_sub ?_ | with_reducible refine w_sl ?_ | with_reducible refine w_nopart ?_ | with_reducible refine w_part ?_ | with_reducible refine w_int ?_ | with_reducible refine w_meth ?_
  | with_reducible refine w_make ?_ | with_reducible refine w_dput ?_ | with_reducible refine w_sfld ?_ | with_reducible refine w_bm ?_ | with_reducible refine w_bm0 ?_ | with_reducible refine w_isN ?_ | with_reducible refine w_notT ?_ | with_reducible refine w_forR ?_ | with_reducible refine w_forL ?_ | with_reducible refine w_forT ?_))

theorem sc_Machine_begin : FnScope ["self", "store"] ["self", "store"] (defScope s_Machine_begin) := ⟨rfl, rfl, rfl, by decide +kernel, rfl, by decide +kernel, by decide +kernel⟩
theorem ok_begin (T : Tx w K mg a) : FnOk P w K mg base CX0 1 a.f_Machine_begin a.d_Machine_begin ["self", "store"] (spBegin a) := by
  refine T.F_Machine_begin.ok sc_Machine_begin (fun vs H Q E h => ?_) (fun cdv A outer s H vs Q E hr h => ?_)
  · obtain ⟨d, m, sa, st, rfl, _⟩ := h
    rfl
  · obtain ⟨d, m, sa, st, rfl, hm, hn, hs, q⟩ := h
    have hu := hu_of hr
    obtain ⟨dx, pp, ptt, pl, dxp, vt, nt, db, dxt, lp, dl, da, de, m1, m2, m3, m4, m5⟩ := hm
    obtain ⟨ke, e1, e2⟩ := m4
    obtain ⟨qe, e3, e4⟩ := e2 _ hn
    refine ⟨_, (pss_one (ps_ret (pe_tup (pa_cons (pe_ix ix_tup (pe_dget hu (pe_fld (pe_fld (pv 0) rfl) rfl) pe_str (fun _ _ => rfl)) pe_int (fun _ _ => rfl)) (pa_cons pe_int (pa_cons (pe_tup pa_nil) (pa_cons (pv 1) pa_nil))))))), ?_⟩
    tm_at "g"
    refine w_obj m1 T.cl_Machine T.na_Machine__points flMac_points ?_
    refine w_obj m3.ob T.cl_Points T.na_Points_ends flPts_ends ?_
    tm_at "g"
    refine w_dgS e1 e3 ?_
    tm_at "g"
    refine w_ixT e4 (atI_nat (j := 0) rfl) ?_
    tm_at "g"
    refine w_lay (by show 0 ≤ 100000; decide) fun r1 H1 s1 n1 h1 => ?_
    tm_at "g"
    refine w_lay (by show 4 ≤ 100000; decide) fun r2 H2 s2 n2 h2 => ?_
    exact q H2 _ (s1.trans s2) ⟨r2, r1, sa, rfl, h2, s2 _ _ h1, s2 _ _ (s1 _ _ hs)⟩
theorem sc_Machine_stopped : FnScope ["self", "configuration", "point", "heading", "frames", "_store", "first", "last"] ["self", "configuration"] (defScope s_Machine_stopped) := ⟨rfl, rfl, rfl, by decide +kernel, rfl, by decide +kernel, by decide +kernel⟩
theorem ok_stopped (T : Tx w K mg a) : FnOk P w K mg base CX0 1 a.f_Machine_stopped a.d_Machine_stopped ["self", "configuration"] (spStopped a) := by
  refine T.F_Machine_stopped.ok sc_Machine_stopped (fun vs H Q E h => ?_) (fun cdv A outer s H vs Q E hr h => ?_)
  · obtain ⟨d, m, cv, c, rfl, _⟩ := h
    rfl
  · obtain ⟨d, m, cv, c, rfl, hm, hn, hc, q⟩ := h
    have hu := hu_of hr
    obtain ⟨dx, pp, ptt, pl, dxp, vt, nt, db, dxt, lp, dl, da, de, m1, m2, m3, m4, m5⟩ := hm
    obtain ⟨ke, e1, e2⟩ := m4
    obtain ⟨qe, e3, e4⟩ := e2 _ hn
    obtain ⟨qc, fr, st, rfl, c1, c2, c3⟩ := hc
    refine ⟨_, (pss_cons (ps_asg (pv 1) (pg_tup rfl (pgs_cons (pg_name (i := 2) sc_Machine_stopped.nd rfl (Or.inl rfl)) (pgs_cons (pg_name (i := 3) sc_Machine_stopped.nd rfl (Or.inl rfl)) (pgs_cons (pg_name (i := 4) sc_Machine_stopped.nd rfl (Or.inl rfl)) (pgs_cons (pg_name (i := 5) sc_Machine_stopped.nd rfl (Or.inl rfl)) pgs_nil))))))
    (pss_cons (ps_asg (pe_dget hu (pe_fld (pe_fld (pv 0) rfl) rfl) pe_str (fun _ _ => rfl)) (pg_tup rfl (pgs_cons (pg_name (i := 6) sc_Machine_stopped.nd rfl (Or.inl rfl)) (pgs_cons (pg_name (i := 7) sc_Machine_stopped.nd rfl (Or.inl rfl)) pgs_nil))))
    (pss_one (ps_ret (pe_and (pe_notT (pv 4)) (pe_one (pe_cmpR op_eq (pv 2) (pe_ifExp (pt_cmpR op_eq (pv 3) pe_int (nomark _)) (pv 7) (pv 6)) (nomark _)))))))), ?_⟩
    tm_at "g"
    refine w_tup c1 rfl ?_
    tm_at "g"
    refine w_obj m1 T.cl_Machine T.na_Machine__points flMac_points ?_
    refine w_obj m3.ob T.cl_Points T.na_Points_ends flPts_ends ?_
    tm_at "g"
    refine w_dgS e1 e3 ?_
    refine w_tup e4 rfl ?_
    tm_at "g"
    have fin : ∀ b1 b2 : Bool, b1 = c.fr.isEmpty → b2 = (c.pt == (if c.hd then (d.E "main").2 else (d.E "main").1)) → Q (.bl (b1 && b2)) H := fun b1 b2 h1 h2 => by
      rw [h1, h2]
      exact q
    cases ec : c.fr with
    | nil =>
      rw [ec] at c2
      rw [ec] at fin
      refine w_truT0 c2 ?_
      tm_at "g"
      rw [sgI_1]
      refine w_b (fun e => ?_) (fun e => ?_)
      all_goals
        rw [e] at fin
        tm_at "g"
        rw [dec_nat]
        exact fin true _ rfl rfl
    | cons x r =>
      rw [ec] at fin
      refine w_truTn c2 (by rw [ec]; simp) ?_
      tm_at "g"
      exact fin false _ rfl rfl
theorem sc_Machine_run : FnScope ["self", "configuration", "steps", "taken", "after"] ["self", "configuration", "steps"] (defScope s_Machine_run) := ⟨rfl, rfl, rfl, by decide +kernel, rfl, by decide +kernel, by decide +kernel⟩
theorem ok_run (T : Tx w K mg a) : FnOk P w K mg base CX0 6 a.f_Machine_run a.d_Machine_run ["self", "configuration", "steps"] (spRun a) := by
  have G_Machine_step : FnOk P w K mg base CX0 5 _ _ _ (spStep a) := ok_step T
  refine T.F_Machine_run.ok sc_Machine_run (fun vs H Q E h => ?_) (fun cdv A outer s H vs Q E hr h => ?_)
  · obtain ⟨d, m, cv, c, k, rfl, _⟩ := h
    rfl
  · obtain ⟨d, m, cv, c, k, rfl, hm, hd, hc, ok, hk, q⟩ := h
    have hu := hu_of hr
    refine ⟨_, (pss_cons (ps_for PassesOwn.never rfl (pi_range1 rfl T.z_range (pa_cons (pv 2) pa_nil)) (pg_name (i := 3) sc_Machine_run.nd rfl (Or.inl rfl))
      (pss_cons (ps_set (i := 4) sc_Machine_run.nd rfl (Or.inl rfl) (pe_meth (pv 0) T.cl_Machine T.m_Machine_step G_Machine_step (hr.mono (by decide)) T.b_Machine_step .nil pass0 (pa_cons (pv 1) pa_nil)))
    (pss_cons (ps_if (pt_cmp (pc_isN (pv 4))) (pss_one (ps_ret (pe_tup (pa_cons (pv 1) (pa_cons (pv 3) pa_nil))))) pss_nil)
    (pss_one (ps_set (i := 1) sc_Machine_run.nd rfl (Or.inl rfl) (pv 4))))))
    (pss_one (ps_ret (pe_tup (pa_cons (pv 1) (pa_cons (pv 2) pa_nil)))))), ?_⟩
    tm_at "g"
    refine w_rng (n := k) (fun i σ H' => ∃ v c1 o1 o2, σ = [some (.ref m), some v, some (.int (k : Nat)), o1, o2] ∧ Same H H' ∧ CfV H' v c1 ∧ CfOk d c1 i ∧ i ≤ k ∧ d.run k c = ((d.run (k - i) c1).1, (d.run (k - i) c1).2 + i))
      (by omega) ⟨_, c, none, none, rfl, Same.refl H, hc, ok, Nat.zero_le _, by simp⟩ (fun i σ H' hi h => ?_) (fun σ H' h => ?_)
    · obtain ⟨v, c1, o1, o2, rfl, s1, hc1, ok1, hik, hrun⟩ := h
      tm_at "g"
      obtain ⟨dx, pp, ptt, pl, dxp, vt, nt, db, dxt, lp, dl, da, de, m1, _⟩ := id hm
      refine w_mobj (s1 _ _ m1) flMac_step ?_
      tm_at "g"
      refine ⟨d, m, v, c1, i, rfl, hm.mono s1, hd, hc1, ok1, by omega, ?_⟩
      have ek : k - i = (k - (i + 1)) + 1 := by omega
      cases es : d.step c1 with
      | none =>
        intro H2 s2
        tm_at "g"
        refine w_T' rfl ?_
        tm_at "g"
        refine w_lay (by show 2 ≤ 100000; decide) fun r3 H3 s3 n3 h3 => ?_
        have er : d.run k c = (c1, i) := by
          rw [hrun, ek]
          unfold MD.step at es
          simp only [MD.run, Bk.runC, es, Nat.zero_add]
        rw [er] at q
        have s13 := (s1.trans s2).trans s3
        refine q H3 r3 v s13 ?_ (hc1.mono (Im.of (s2.trans s3))) ⟨ok1.st, ok1.fr, by have := ok1.len; dsimp only; omega⟩
        rw [h3]
      | some c2 =>
        intro H2 v2 s2 hc2
        have hne : decide (v2 = V.non) = false := by
          obtain ⟨q2, _, _, rfl, _⟩ := hc2
          rfl
        tm_at "g"
        refine w_F' hne ?_
        tm_at "g"
        refine ⟨v2, c2, _, _, rfl, s1.trans s2, hc2, step_ok hd ok1 es, by omega, ?_⟩
        rw [hrun, ek]
        unfold MD.step at es
        have e2 : Bk.runC d.M d.T d.E (k - (i + 1) + 1) c1 = ((Bk.runC d.M d.T d.E (k - (i + 1)) c2).1, (Bk.runC d.M d.T d.E (k - (i + 1)) c2).2 + 1) := by simp only [Bk.runC, es]
        show ((Bk.runC d.M d.T d.E (k - (i + 1) + 1) c1).1, (Bk.runC d.M d.T d.E (k - (i + 1) + 1) c1).2 + i) = ((Bk.runC d.M d.T d.E (k - (i + 1)) c2).1, (Bk.runC d.M d.T d.E (k - (i + 1)) c2).2 + (i + 1))
        rw [e2]
        dsimp only
        congr 1
        omega
    · obtain ⟨v, c1, o1, o2, rfl, s1, hc1, ok1, hik, hrun⟩ := h
      tm_at "g"
      refine w_lay (by show 2 ≤ 100000; decide) fun r3 H3 s3 n3 h3 => ?_
      have er : d.run k c = (c1, k) := by
        rw [hrun, Nat.sub_self]
        simp only [MD.run, Bk.runC, Nat.zero_add]
      rw [er] at q
      exact q H3 r3 v (s1.trans s3) h3 (hc1.mono (Im.of s3)) ⟨ok1.st, ok1.fr, by have := ok1.len; dsimp only; omega⟩
end
end Kt
end -- KRun
section -- KMI
set_option Elab.async false
set_option linter.all false
set_option maxRecDepth 100000
set_option maxHeartbeats 4000000
/-! KMI: Machine.__init__, is_number, check_store. -/
namespace Kt
open PySem L2
def isNum (b : Int) : V → Bool
  | .int i => decide (0 ≤ i) && decide (i < b)
  | _ => false
def spIsNum : Sp := fun vs H Q _ => ∃ (x : V) (b : Int) (t : String), vs = [x, .int b] ∧ tyN H x t ∧ Q (.bl (isNum b x)) H
/-- the machine that is made of a program: the points are those of its text -/
def mdOf (d : PD) (T : PtsT) (E : Str → Nat × Nat) : MD := ⟨d.w, d.vars, T, E, d.ns⟩
theorem nd_inj {l : List Str} (nd : l.Nodup) {i j : Nat} (hi : i < l.length) (hj : j < l.length) (h : l[i] = l[j]) : i = j := by
  have p : ∀ {i j : Nat} (hi : i < l.length) (hj : j < l.length), i < j → l[i] ≠ l[j] := fun hi hj hij => List.pairwise_iff_getElem.mp nd _ _ hi hj hij
  rcases Nat.lt_trichotomy i j with e | e | e
  · exact absurd h (p hi hj e)
  · exact e
  · exact absurd h.symm (p hj hi e)
theorem idx_get {l : List Str} (nd : l.Nodup) {i : Nat} (hi : i < l.length) : l.idxOf l[i] = i := by
  have hm : l[i] ∈ l := List.getElem_mem hi
  have h1 := idx_lt hm
  have h2 : l[l.idxOf l[i]] = l[i] := List.getElem_idxOf h1
  exact (nd_inj nd h1 hi h2)
def spMInit (a : Ad) : Sp := fun vs H Q _ => ∃ (m pp dx : Addr) (d : PD), vs = [.ref m, .ref pp] ∧ H m = some (.ins a.c_Machine dx []) ∧ PgA a H pp d ∧ d.Ok ∧ d.vars.Nodup ∧
  ∀ H' T E, Kp [m] H H' → MacA a H' m (mdOf d T E) → (mdOf d T E).Ok → PtsOf d T E d.ns → Q .non H'
def spCheck (a : Ad) : Sp := fun vs H Q _ => ∃ (pp sa : Addr) (d : PD) (st : List Int), vs = [.ref pp, .ref sa] ∧ PgA a H pp d ∧ d.w ≤ 8 ∧ d.vars.length ≤ 6 ∧ StA H sa st ∧ StOk d.vars (2 ^ d.w) st ∧ ∀ H', Same H H' → Q .non H'
section
variable {P : Program} {w : World} {K : PySem.W.Frag} {mg : Str → Option Value} {base : Heap} {a : Ad}
local macro_rules | `(tactic| tm_at "g") => `(tactic| repeat (first
  | with_reducible refine w_seq ?_ | with_reducible refine w_if ?_ | with_reducible refine w_tB ?_ | with_reducible refine w_tTest ?_ | with_reducible refine w_asg ?_ | with_reducible refine w_name ?_
  | with_reducible refine w_ret ?_ | with_reducible refine w_next ?_ | with_reducible refine w_op ?_ | with_reducible refine w_c ?_ | with_reducible refine w_cb ?_ | with_reducible refine w_call ?_ | with_reducible refine w_cons ?_ | with_reducible refine w_nil ?_
  | with_reducible refine w_var (by with_unfolding_all rfl) ?_
  | with_reducible refine w_rI0 ?_ | with_reducible refine w_eq (by with_unfolding_all rfl) ?_ | with_reducible refine w_ne (by with_unfolding_all rfl) ?_
  | with_reducible refine w_test ?_ | with_reducible refine w_T ?_ | with_reducible refine w_F ?_ | with_reducible refine w_T0 ?_ | with_reducible refine w_F0 ?_
  | with_reducible refine w_and ?_ | with_reducible refine w_or ?_ | with_reducible refine w_not ?_ | with_reducible refine w_ifE ?_ | with_reducible refine w_drop ?_
  | with_reducible refine w_andV ?_ | with_reducible refine w_orV ?_ | with_reducible refine w_notV ?_ | with_reducible refine w_dget ?_ | with_reducible refine w_din ?_ | with_reducible refine w_dnin ?_ | with_reducible refine w_fld ?_
  | with_reducible refine w_ttup ?_ | with_reducible refine w_tlst ?_ | with_reducible refine w_un ?_ | with_reducible refine w_rU ?_ | with_reducible refine w_gcons ?_ | with_reducible refine w_gnil ?_ | with_reducible refine w_sub ?_ | with_reducible refine w_sl ?_ | with_reducible refine w_nopart ?_ | with_reducible refine w_part ?_ | with_reducible refine w_int ?_ | with_reducible refine w_meth ?_
  | with_reducible refine w_make ?_ | with_reducible refine w_dput ?_ | with_reducible refine w_sfld ?_ | with_reducible refine w_bm ?_ | with_reducible refine w_bm0 ?_ | with_reducible refine w_isN ?_ | with_reducible refine w_notT ?_ | with_reducible refine w_forR ?_ | with_reducible refine w_forL ?_ | with_reducible refine w_forT ?_ | with_reducible refine w_fldaug ?_ | with_reducible refine w_radd ?_ | with_reducible refine w_par ?_ | with_reducible refine w_pair ?_
  | with_reducible refine w_lcR ?_ | with_reducible refine w_dcR ?_ | with_reducible refine w_lcL ?_ | with_reducible refine w_lcT ?_ | with_reducible refine w_dcT ?_ | with_reducible refine w_yes ?_ | with_reducible refine w_chain ?_))

theorem sc_is_number : FnScope ["value", "bound"] ["value", "bound"] (defScope s_is_number) := ⟨rfl, rfl, rfl, by decide +kernel, rfl, by decide +kernel, by decide +kernel⟩
theorem ok_is_number (T : Tx w K mg a) : FnOk P w K mg base CX0 1 a.f_is_number a.d_is_number ["value", "bound"] spIsNum := by
  refine T.F_is_number.ok sc_is_number (fun vs H Q E h => ?_) (fun cdv A outer s H vs Q E hr h => ?_)
  · obtain ⟨x, b, t, rfl, _⟩ := h
    rfl
  · obtain ⟨x, b, t, rfl, ht, q⟩ := h
    have hu := hu_of hr
    refine ⟨_, (pss_one (ps_ret (pe_and (pe_callB call_is (by rfl) T.z_isinstance (by decide +kernel) (pa_cons (pv 0) (pa_cons (pe_bltn (v := .ty "int") rfl T.z_int (by decide +kernel) rfl) pa_nil))) (pe_and (pe_not (pe_callB call_is (by rfl) T.z_isinstance (by decide +kernel) (pa_cons (pv 0) (pa_cons (pe_bltn (v := .ty "bool") rfl T.z_bool (by decide +kernel) rfl) pa_nil)))) (pe_one (pe_chain op_le op_lt pe_int (pv 0) (pv 1))))))), ?_⟩
    cases x with
    | int i =>
      tm_at "g"
      refine w_is rfl k_int_int ?_
      tm_at "g"
      refine w_is rfl k_int_bool ?_
      tm_at "g"
      refine w_b (fun e => ?_) (fun e => ?_)
      · tm_at "g"
        simp only [isNum, e, Bool.true_and] at q
        exact q
      · tm_at "g"
        simp only [isNum, e, Bool.false_and] at q
        exact q
    | str i =>
      tm_at "g"
      refine w_is rfl k_str_int ?_
      tm_at "g"
      exact q
    | bl i =>
      tm_at "g"
      refine w_is rfl k_bool_int ?_
      tm_at "g"
      refine w_is rfl k_bool_bool ?_
      tm_at "g"
      exact q
    | non =>
      tm_at "g"
      refine w_is rfl k_NoneType_int ?_
      tm_at "g"
      exact q
    | ref p =>
      obtain ⟨h1, rfl⟩ := ht
      tm_at "g"
      refine w_is ⟨h1, rfl⟩ k_tuple_int ?_
      tm_at "g"
      exact q
    | _ => exact False.elim ht
theorem sc_check_store : FnScope ["program", "store", "value"] ["program", "store"] (defScope s_check_store) := ⟨rfl, rfl, rfl, by decide +kernel, rfl, by decide +kernel, by decide +kernel⟩
theorem ok_check_store (T : Tx w K mg a) : FnOk P w K mg base CX0 2 a.f_check_store a.d_check_store ["program", "store"] (spCheck a) := by
  have G_is_number : FnOk P w K mg base CX0 1 _ _ _ spIsNum := ok_is_number T
  refine T.F_check_store.ok sc_check_store (fun vs H Q E h => ?_) (fun cdv A outer s H vs Q E hr h => ?_)
  · obtain ⟨pp, sa, d, st, rfl, _⟩ := h
    rfl
  · obtain ⟨pp, sa, d, st, rfl, hp, h8, h6, hs, hok, q⟩ := h
    have hu := hu_of hr
    obtain ⟨dxp, vt, nt, db, kvs, h1, h2, h3, h4, h5⟩ := hp
    refine ⟨_, (pss_cons (ps_if (PW.pt (pw_or (pt_not (pt_val (pe_callB call_is (by rfl) T.z_isinstance (by decide +kernel) (pa_cons (pv 1) (pa_cons (pe_bltn (v := .ty "tuple") rfl T.z_tuple (by decide +kernel) rfl) pa_nil))))) (pw_or1 (pt_cmpR op_ne (pe_callB cl_len (by rfl) T.z_len PySem.boot_len (pa_cons (pv 1) pa_nil)) (pe_callB cl_len (by rfl) T.z_len PySem.boot_len (pa_cons (pe_fld (pv 0) rfl) pa_nil)) (nomark _))))) (pss_one ps_never) pss_nil)
    (pss_one (ps_if (pt_not (pt_val (pe_callB (cr_all rfl) (by rfl) T.z_all (by decide +kernel) (pa_cons (pe_lc (own := [("value", 2)]) (g := gName 2) (tt := tYes) rfl sc_check_store.nd (pi_tup (pv 1)) (blkOk_by (own := [("value", 2)]) (N := ["program", "store", "value"]) (sc := defScope s_check_store) (by decide +kernel)) (fun _ _ _ _ _ => pg_name (i := 2) sc_check_store.nd rfl (Or.inl rfl)) (fun _ _ _ _ _ => pts_nil) (fun _ _ _ _ _ => by exact (by exact (pe_call G_is_number (hr.mono (by decide)) rfl T.g_is_number T.F_is_number.kp T.b_is_number .nil pass0 (by exact (pa_cons (by exact (pv 2)) (pa_cons (by exact (pe_op op_shl pe_int (by exact (pe_fldB (K := K) (by exact (pv 0)) rfl)))) pa_nil))))))) pa_nil)))) (pss_one ps_never) pss_nil))), ?_⟩
    have cp : CPow 1 ((d.w : Nat) : Int) := ⟨by omega, by omega, by decide⟩
    have e2 : (1 * 2 ^ ((d.w : Nat) : Int).toNat : Int) = 2 ^ d.w := by rw [Int.one_mul, Int.toNat_natCast]
    tm_at "g"
    refine w_is ⟨⟨_, hs⟩, rfl⟩ k_tuple_tuple ?_
    tm_at "g"
    refine w_lenT hs ?_
    tm_at "g"
    refine w_obj h1 T.cl_Program T.na_Program_variables flPg_variables ?_
    tm_at "g"
    refine w_lenT h2 ?_
    tm_at "g"
    rw [List.length_map, List.length_map, hok.len]
    refine w_nF rfl ?_
    tm_at "g"
    refine w_lctup hs fun D hD => ⟨fun i H' => H' = upd H D (.lst ((List.replicate i true).map V.bl)) ∧ i ≤ st.length, ⟨rfl, Nat.zero_le _⟩, fun i H' hi h => ?_, fun i x H' hx h => ?_, fun H' h => ?_⟩
    · obtain ⟨rfl, _⟩ := h
      rw [upd_ne (ne_of_none hs hD)]
      exact hs
    · obtain ⟨rfl, hi⟩ := h
      rw [List.getElem?_map] at hx
      obtain ⟨y, hy, rfl⟩ : ∃ y, st[i]? = some y ∧ x = V.int y := by
        cases e : st[i]? with
        | none => rw [e] at hx; cases hx
        | some y => rw [e] at hx; exact ⟨y, rfl, (Option.some.inj hx).symm⟩
      have hlt : i < st.length := (List.getElem?_eq_some_iff.mp hy).1
      have hy2 := hok.rng y (List.mem_of_getElem? hy)
      have hh1 : (upd H D (.lst ((List.replicate i true).map V.bl))) pp = some (.ins a.c_Program dxp (flPg d.w vt nt db)) := by rw [upd_ne (ne_of_none h1 hD)]; exact h1
      tm_at "g"
      refine ⟨rfl, ?_⟩
      tm_at "g"
      refine w_obj hh1 T.cl_Program T.na_Program_width flPg_width ?_
      refine w_rI cp ?_
      tm_at "g"
      rw [e2]
      refine ⟨_, _, _, rfl, rfl, ?_⟩
      refine w_acc upd_same (by rw [List.length_map, List.length_replicate]; have := hok.len; omega) ?_
      rw [upd_upd]
      refine ⟨?_, hlt⟩
      have en : isNum (2 ^ d.w) (.int y) = true := by simp [isNum, hy2.1, hy2.2]
      rw [en, List.replicate_succ', List.map_append]
      rfl
    · obtain ⟨rfl, _⟩ := h
      tm_at "g"
      refine w_all upd_same ?_
      tm_at "g"
      refine w_F' ?_ ?_
      · simp
      · tm_at "g"
        exact q _ (Same.new hD)
theorem flMac_new {pp pt pl : Addr} : putF "_places" (.ref pl) (putF "_points" (.ref pt) (putF "_program" (.ref pp) [])) = flMac pp pt pl := by
  repeat (first | rw [putF_nil] | rw [putF_ne (by decide +kernel)])
  rfl
theorem sc_Machine_init : FnScope ["self", "program", "k"] ["self", "program"] (defScope s_Machine_init) := ⟨rfl, rfl, rfl, by decide +kernel, rfl, by decide +kernel, by decide +kernel⟩
theorem ok_minit (T : Tx w K mg a) : FnOk P w K mg base CX0 7 a.f_Machine_init a.d_Machine_init ["self", "program"] (spMInit a) := by
  have G_Points_init : FnOk P w K mg base CX0 5 _ _ _ (spPInit a) := ok_pinit T
  refine T.F_Machine_init.ok sc_Machine_init (fun vs H Q E h => ?_) (fun cdv A outer s H vs Q E hr h => ?_)
  · obtain ⟨m, pp, dx, d, rfl, _⟩ := h
    rfl
  · obtain ⟨m, pp, dx, d, rfl, hm, hd, ok, nd, q⟩ := h
    have hu := hu_of hr
    refine ⟨_, (pss_cons (ps_fld (pv 0) (pv 1) rfl)
    (pss_cons (ps_fld (pv 0) (pe_make T.mk_Points G_Points_init (hr.mono (by decide)) rfl T.g_Points T.b_Points_init .nil pass0 (pa_cons (pv 1) pa_nil)) rfl)
    (pss_one (ps_fld (pv 0) (pe_dc (own := [("k", 2)]) (g := gName 2) (tt := tYes) rfl sc_Machine_init.nd (pi_range1 rfl T.z_range (pa_cons (pe_callB cl_len (by rfl) T.z_len PySem.boot_len (pa_cons (pe_fld (pv 1) rfl) pa_nil)) pa_nil)) (blkOk_by (own := [("k", 2)]) (N := ["self", "program", "k"]) (sc := defScope s_Machine_init) (by decide +kernel)) (fun _ _ _ _ _ => pg_name (i := 2) sc_Machine_init.nd rfl (Or.inl rfl)) (fun _ _ _ _ _ => pts_nil) (fun _ _ _ _ _ => by exact (by exact (pe_ix (r := rIxT K) ix_tup (by exact (pe_fldB (K := K) (by exact (pv 1)) rfl)) (by exact (pv 2)) (fun _ _ => rfl)))) (fun _ _ _ _ _ => by exact (by exact (pv 2)))) rfl)))), ?_⟩
    tm_at "g"
    refine w_sobj hm T.cl_Machine T.na_Machine__program (by show 0 < 1000; decide) ?_
    tm_at "g"
    intro pt dxt npt ndx nex
    obtain ⟨Z, hZ⟩ : ∃ Z, Z = upd H m (.ins a.c_Machine dx (putF "_program" (.ref pp) [])) := ⟨_, rfl⟩
    rw [← hZ] at npt ndx ⊢
    have zm : Z m = some (.ins a.c_Machine dx (putF "_program" (.ref pp) [])) := by rw [hZ]; exact upd_same
    have kz : Kp [m] H Z := by rw [hZ]; exact Kp.upd (by simp)
    have hdz := hd.kp hm kz
    have sz : Same Z (upd (upd Z dxt (.own pt)) pt (.ins a.c_Points dxt [])) := fun b o e => by
      rw [upd_ne (ne_of_none e npt), upd_ne (ne_of_none e ndx)]
      exact e
    have hd2 := hdz.mono sz
    refine ⟨pt, pp, dxt, d, rfl, upd_same, hd2, ok, fun H3 lp dl da de t E k3 hpt hen hpok hof => ⟨rfl, ?_⟩⟩
    have nmpt : m ≠ pt := ne_of_none zm npt
    have k03 : Kp [m] H H3 := kz.trans (fun b o e n => k3 b o (sz b o e) (by simpa using ne_of_none e npt))
    have h3m := k3 _ _ (sz _ _ zm) (by simpa using nmpt)
    have hd3 := hd.kp hm k03
    tm_at "g"
    refine w_sobj h3m T.cl_Machine T.na_Machine__points (by show 1 < 1000; decide) ?_
    obtain ⟨H4, hH4⟩ : ∃ H4, H4 = upd H3 m (.ins a.c_Machine dx (putF "_points" (.ref pt) (putF "_program" (.ref pp) []))) := ⟨_, rfl⟩
    rw [← hH4]
    have h4m : H4 m = some (.ins a.c_Machine dx (putF "_points" (.ref pt) (putF "_program" (.ref pp) []))) := by rw [hH4]; exact upd_same
    have k34 : Kp [m] H3 H4 := by rw [hH4]; exact Kp.upd (by simp)
    have nm4 : m ∉ PM4 pt lp dl da := by
      obtain ⟨vs, p1, _⟩ := hpt.pcs
      obtain ⟨kl, l1, _⟩ := hpt.lv
      obtain ⟨ka, a1, _⟩ := hpt.ar
      simp only [List.mem_cons, List.not_mem_nil, or_false]
      rintro (z | z | z | z)
      · exact nmpt z
      · rw [z, p1] at h3m; cases h3m
      · rw [z, l1] at h3m; cases h3m
      · rw [z, a1] at h3m; cases h3m
    have hp4 : PtsX a H4 pt dxt lp dl da de t := by rw [hH4]; exact hpt.upd nm4 (fun zs z => by rw [h3m] at z; cases z)
    have hd4 := hd.kp hm (k03.trans k34)
    obtain ⟨dxp, vt, nt, db, kvs0, h1, h2, _, _, _⟩ := id hd4
    have e34 : ∀ {b o}, H3 b = some o → b ≠ m → H4 b = some o := fun {b o} e n => k34 b o e (by simpa using n)
    have hen4 : EndsA H4 de E d.ns := by
      obtain ⟨ke, e1, e2⟩ := hen
      exact ⟨ke, e34 e1 (fun z => by rw [z, h3m] at e1; cases e1), fun n hn => let ⟨q1, q2, q3⟩ := e2 n hn; ⟨q1, q2, e34 q3 (fun z => by rw [z, h3m] at q3; cases q3)⟩⟩
    tm_at "g"
    refine w_obj h1 T.cl_Program T.na_Program_variables flPg_variables ?_
    tm_at "g"
    refine w_lenT h2 ?_
    have hv6 := ok.v6
    refine w_dcrng (n := (d.vars.map V.str).length) (by rw [List.length_map]; omega) fun D hD => ⟨fun i H' => ∃ kvs, H' = upd H4 D (.dK kvs) ∧ kvs.length ≤ i ∧ ∀ x ∈ d.vars.take i, valV kvs (.inr x) = some (.int (d.vars.idxOf x : Nat)), ⟨[], rfl, Nat.le_refl _, fun x hx => by simp at hx⟩, fun i H' hi h => ?_, fun H' h => ?_⟩
    · obtain ⟨kvs, rfl, hk1, hk2⟩ := h
      rw [List.length_map] at hi
      have hx : d.vars[i]? = some d.vars[i] := List.getElem?_eq_getElem hi
      have htk : d.vars.take (i + 1) = d.vars.take i ++ [d.vars[i]] := take_snoc hx
      have hidx : d.vars.idxOf d.vars[i] = i := idx_get nd hi
      tm_at "g"
      refine ⟨rfl, ?_⟩
      tm_at "g"
      refine w_obj (by rw [upd_ne (ne_of_none h1 hD)]; exact h1) T.cl_Program T.na_Program_variables flPg_variables ?_
      tm_at "g"
      refine w_ixT (by rw [upd_ne (ne_of_none h2 hD)]; exact h2) (atI_nat (j := i) (by rw [List.getElem?_map, hx]; rfl)) ?_
      tm_at "g"
      refine w_dacS upd_same (by omega) ?_
      rw [upd_upd]
      refine ⟨_, rfl, by have := putK_len' kvs (Sum.inr d.vars[i]) (V.int (i : Nat)); omega, fun x hx => ?_⟩
      rw [valV_put]
      by_cases e : x = d.vars[i]
      · subst e
        rw [if_pos rfl, hidx]
      · rw [if_neg (fun z => e (Sum.inr.inj z))]
        rw [htk] at hx
        rcases List.mem_append.mp hx with z | z
        · exact hk2 x z
        · rw [List.mem_singleton] at z; exact absurd z e
    · obtain ⟨kvs, rfl, hk1, hk2⟩ := h
      rw [List.length_map, List.take_length] at hk2
      have nmD : m ≠ D := ne_of_none h4m hD
      have s45 : Same H4 (upd H4 D (.dK kvs)) := Same.new hD
      tm_at "g"
      refine w_sobj (s45 _ _ h4m) T.cl_Machine T.na_Machine__places (by show 2 < 1000; decide) ?_
      rw [flMac_new]
      tm_at "g"
      have e56 : ∀ {b o}, (upd H4 D (.dK kvs)) b = some o → b ≠ m → (upd (upd H4 D (.dK kvs)) m (.ins a.c_Machine dx (flMac pp pt D))) b = some o := fun {b o} e n => by rw [upd_ne n]; exact e
      refine q _ t E ?_ ?_ ?_ hof
      · exact ((k03.trans k34).trans (Kp.of s45)).trans (Kp.upd (by simp))
      · refine ⟨dx, pp, pt, D, dxp, vt, nt, db, dxt, lp, dl, da, de, upd_same, e56 (s45 _ _ h1) (hd.ne hm), (hp4.mono s45).upd nm4 (fun zs z => by rw [s45 _ _ h4m] at z; cases z), ?_, kvs, e56 upd_same nmD.symm, hk2⟩
        obtain ⟨ke, e1, e2⟩ := hen4.mono s45
        exact ⟨ke, e56 e1 (fun z => by rw [z, s45 _ _ h4m] at e1; cases e1), fun n hn => let ⟨q1, q2, q3⟩ := e2 n hn; ⟨q1, q2, e56 q3 (fun z => by rw [z, s45 _ _ h4m] at q3; cases q3)⟩⟩
      · exact MD.ok_of ok.w8 ok.v6 hpok
end
end Kt
end -- KMI
section -- KExc
set_option Elab.async false
set_option linter.all false
set_option maxRecDepth 100000
set_option maxHeartbeats 4000000
/-! KExc: Refused, whose __init__ says super().__init__(..); a try with two clauses, the first one's exception named. -/
namespace Kt
open PySem L2 PyProof.Rows
abbrev s_Refused_init : Stmt := inClass (top 6) 0
abbrev rfEnv (L f : Addr) (cd : Value) (cc : Addr) : Env := PySem.W.envX "Refused.__init__" (defScope s_Refused_init) L f cd [("__class__", cc)]
/-- what the written part says of Refused, at C, and of its __init__, at f -/
structure RfTxt (K : PySem.W.Frag) (mg : Str → Option Value) (P : Program) (C f : Addr) (fd : FuncData) : Prop where
  ox : OexC K C
  gC : mg "Refused" = some (.ref C)
  iC : PySem.W.findIn K (.ref C) "__init__" = some (some (.ref f))
  tI : PySem.W.typeIn K (.ref f) = some (.type "function")
  no_steps : PySem.W.findIn K (.ref C) "steps" = some none
  no_store : PySem.W.findIn K (.ref C) "store" = some none
  fn : ∃ (oc dV kV doc pm ct : Value) (od an : Option Addr) (osl : Array (Option Value)) (cda cc : Addr) (vs : Array Value) (file : Str) (tf : Tok) (ccl cl : Value) (cdd cld : Option Addr) (ccs csl : Array (Option Value)),
    fd = PySem.W.ksFn "__init__" "Refused.__init__" (defArgs s_Refused_init) (defBody s_Refused_init) (defScope s_Refused_init) dV kV doc pm an (.ref cda) ct cc ∧
    K.lookup f = some ⟨oc, od, .func fd, osl⟩ ∧ PySem.W.codeIn K (.ref cda) "Refused.__init__" = true ∧
    K.lookup cda = some ⟨ccl, cdd, .fields vs, ccs⟩ ∧ vs[2]? = some (.str file tf) ∧ ((P.main.file : Str) == file) = true ∧
    K.lookup cc = some ⟨cl, cld, .cell (some (.ref C)), csl⟩
  sub : PySem.W.mroIn K C (.ref C) = some true
  stat : PySem.W.nsIn K PySem.cStatics "thirdparty.any" = some none
  sup : PySem.W.ks_superIn K C C "__init__" = some (some (.builtin "ValueError.__init__"))
  subVE : PySem.W.subIn K (.ref C) (.type "ValueError") = some true
  z_super : mg "super" = none
  z_str : mg "str" = none
  top : (P.main.scope.names.lookup ("super" : Str)).isSome = false
/-- Refused(steps, store): the fields of the exception -/
def spRfI (C : Addr) : Sp := fun vs H Q _ => ∃ (x : Addr) (n : Nat) (v : V), vs = [.ref x, .int (n : Nat), v] ∧ H x = some (exo x C none) ∧ n ≤ 1000 ∧
  ∀ dx, H dx = none → dx ≠ x → Q .non (upd (upd (upd H dx (exd dx [(("steps" : Str), V.int (n : Nat))])) x (exo x C (some dx))) dx (exd dx [(("store" : Str), v), (("steps" : Str), V.int (n : Nat))]))
section
variable {prog : Program} {w : World} {A : Around} {E : Value → Shared → Prop} {h : Heap} {g : Array GenState} {d : Drawn} {t : Nat} {os : OsState}
variable {nm q : Str} {C N : Addr} {bs bm : List Value} {hdct : Bool} {sn : List Str} {sub : List Value} {ab : Bool} {col : Option Bool} {dd : Option Addr} {k0 k1 k2 k3 k5 : Option Value}
/-- the bound ValueError.__init__ called -/
theorem call_mwVE {u e t0 : Addr} {rest : List Value} {Q : Value → Shared → Prop}
    (hC : h.get? C = some (excClassObj nm q C N bs bm hdct sn sub ab col dd k0 k1 k2 k3 k5 "ValueError.__new__")) (he : h.get? e = some (HandSPX.excO C t0)) (hu : h.get? u = some (PySem.W.kxs_mw "ValueError.__init__" e)) (hrest : rest.length ≤ sizeLine)
    (hq : ∀ h' t1, (∀ b o, b ≠ e → h.get? b = some o → h'.get? b = some o) → h'.get? e = some (HandSPX.excO C t1) → Q .none ⟨h', g, d, t, os⟩) :
    wpAny (model prog w) A (call (.ref u) rest) Q E ⟨h, g, d, t, os⟩ := by
  refine wpAny_call (codeAny_of_tree ?_)
  show wpAny _ A.in1 (callAny (.ref u) ⟨rest, []⟩) _ _ _
  simp only [callAny]
  refine wpAny_bind (wpAny_load hu ?_)
  simp only [PySem.W.kxs_mw, show (Value.type "method-wrapper" == Value.type "method" || Value.type "method-wrapper" == Value.type "builtin_function_or_method" || Value.type "method-wrapper" == Value.type "method-wrapper") = true by decide, if_true]
  refine PySem.W.KFB.if_so (by decide) ?_
  refine wpAny_bind (PySem.ESX.check_bound F.excBase_ValueError hC he rfl ?_)
  refine wpAny_bind (wpAny_pure (wpAny_pure ?_))
  refine ⟨Code.quiet_builtin _ (by decide +kernel), codeAny_builtin F.excBase_ValueError.initEntry ?_⟩
  rw [Around.under_plainId F.excBase_ValueError.init.plain _]
  wp_walk
  refine hq _ h.objs.size (fun b o hb ho => ?_) ?_
  · rw [Heap.get?_update_other _ _ (Ne.symm hb)]
    exact Heap.get?_push_of_some _ ho
  · rw [Heap.get?_update_self _ (Heap.get?_push_of_some _ he) rfl]
    rfl
end
section
variable {P : Program} {w : World} {K : PySem.W.Frag} {mg : Str → Option Value} {base : Heap} {C f : Addr} {fd : FuncData}
local macro_rules | `(tactic| tm_at "g") => `(tactic| repeat (first
  | with_reducible refine w_seq ?_ | with_reducible refine w_if ?_ | with_reducible refine w_tB ?_ | with_reducible refine w_tTest ?_ | with_reducible refine w_asg ?_ | with_reducible refine w_name ?_
  | with_reducible refine w_ret ?_ | with_reducible refine w_next ?_ | with_reducible refine w_op ?_ | with_reducible refine w_c ?_ | with_reducible refine w_cb ?_ | with_reducible refine w_call ?_ | with_reducible refine w_cons ?_ | with_reducible refine w_nil ?_
  | with_reducible refine w_var (by with_unfolding_all rfl) ?_
  | with_reducible refine w_rI0 ?_ | with_reducible refine w_eq (by with_unfolding_all rfl) ?_ | with_reducible refine w_ne (by with_unfolding_all rfl) ?_
  | with_reducible refine w_test ?_ | with_reducible refine w_T ?_ | with_reducible refine w_F ?_ | with_reducible refine w_T0 ?_ | with_reducible refine w_F0 ?_
  | with_reducible refine w_and ?_ | with_reducible refine w_or ?_ | with_reducible refine w_not ?_ | with_reducible refine w_ifE ?_ | with_reducible refine w_drop ?_
  | with_reducible refine w_andV ?_ | with_reducible refine w_orV ?_ | with_reducible refine w_notV ?_ | with_reducible refine w_dget ?_ | with_reducible refine w_din ?_ | with_reducible refine w_dnin ?_ | with_reducible refine w_fld ?_
  | with_reducible refine w_ttup ?_ | with_reducible refine w_tlst ?_ | with_reducible refine w_un ?_ | with_reducible refine w_rU ?_ | with_reducible refine w_gcons ?_ | with_reducible refine w_gnil ?_ | with_reducible refine w_sub ?_ | with_reducible refine w_sl ?_ | with_reducible refine w_nopart ?_ | with_reducible refine w_part ?_ | with_reducible refine w_int ?_ | with_reducible refine w_meth ?_
  | with_reducible refine w_make ?_ | with_reducible refine w_dput ?_ | with_reducible refine w_sfld ?_ | with_reducible refine w_bm ?_ | with_reducible refine w_bm0 ?_ | with_reducible refine w_isN ?_ | with_reducible refine w_notT ?_ | with_reducible refine w_forR ?_ | with_reducible refine w_forL ?_ | with_reducible refine w_forT ?_ | with_reducible refine w_fldaug ?_ | with_reducible refine w_radd ?_ | with_reducible refine w_par ?_ | with_reducible refine w_pair ?_
  | with_reducible refine w_lcR ?_ | with_reducible refine w_dcR ?_ | with_reducible refine w_lcL ?_ | with_reducible refine w_lcT ?_ | with_reducible refine w_dcT ?_ | with_reducible refine w_yes ?_ | with_reducible refine w_chain ?_))

def rfCx (P : Program) (w : World) (K : PySem.W.Frag) (mg : Str → Option Value) (base : Heap) (f : Addr) (cd : Value) (cc : Addr) (A : Around) (outer : List Env) (s : Shared) (H : Hp) : Cx where
  prog := P
  w := w
  K := K
  mg := mg
  base := base
  A := A.deeper (rfEnv s.heap.objs.size f cd cc)
  N := ["self", "steps", "store"]
  s_0 := s
  H_0 := H
  env := rfEnv s.heap.objs.size f cd cc
  outer := outer
  stack := rfEnv s.heap.objs.size f cd cc :: outer
  ex := []
  calm := true
  fn := fun _ => false
  pn := []
  xe := fun _ _ => False
theorem rf_cells {L f : Addr} {cd : Value} {cc : Addr} {y : Str} {c : Addr} (h : (rfEnv L f cd cc).cells.lookup y = some c) : y = "__class__" ∧ c = cc := by
  have h : List.lookup y [(("__class__" : Str), cc)] = some c := h
  rw [List.lookup_cons] at h
  split at h
  · rename_i e
    exact ⟨beq_iff_eq.mp e, (Option.some.inj h).symm⟩
  · cases h
theorem rf_free : ∀ y : Str, ((defScope s_Refused_init).names.lookup y = some .cell ∨ (defScope s_Refused_init).names.lookup y = some .free) → y = "__class__" := by
  have key : ∀ l : List (Str × NameKind), (∀ p ∈ l, (p.2 = .cell ∨ p.2 = .free) → p.1 = "__class__") → ∀ y, (l.lookup y = some .cell ∨ l.lookup y = some .free) → y = "__class__" := fun l hl y hy => by
    rcases hy with hy | hy
    · exact hl _ (PySem.mem_of_lookup hy) (.inl rfl)
    · exact hl _ (PySem.mem_of_lookup hy) (.inr rfl)
  exact key _ (by decide +kernel)
def rfArgs : List Expr := match defBody s_Refused_init with
  | .Expr (.Call _ es _ _) _ :: _ => es
  | _ => []
def rfRest : List Stmt := (defBody s_Refused_init).drop 1
theorem rf_super : (defScope s_Refused_init).names.lookup ("super" : Str) = some .globalImplicit := by decide +kernel
theorem rf_class : (defScope s_Refused_init).names.lookup ("__class__" : Str) = some .free := by decide +kernel
theorem rf_loc : ∀ y ∈ (["self", "steps", "store"] : List Str), (defScope s_Refused_init).names.lookup y = some .local := by decide +kernel
theorem rf_look (u0 u1 u2 : Value) : ([(("self" : Str), u0), (("steps" : Str), u1), (("store" : Str), u2)]).reverse.lookup ("self" : Str) = some u0 ∧ ([(("self" : Str), u0), (("steps" : Str), u1), (("store" : Str), u2)]).reverse.lookup ("steps" : Str) = some u1 ∧ ([(("self" : Str), u0), (("steps" : Str), u1), (("store" : Str), u2)]).reverse.lookup ("store" : Str) = some u2 := by
  have n1 : (("self" : Str) == ("store" : Str)) = false := by decide +kernel
  have n2 : (("self" : Str) == ("steps" : Str)) = false := by decide +kernel
  have n3 : (("steps" : Str) == ("store" : Str)) = false := by decide +kernel
  refine ⟨?_, ?_, ?_⟩ <;> simp [List.lookup, n1, n2, n3]
theorem rf_inv {cd : Value} {cc : Addr} {A : Around} {outer : List Env} {s : Shared} {H : Hp} {h₀ : Heap} {t : Nat} {u0 u1 u2 : Value} {v0 v1 v2 : V} {cl : Value} {cld : Option Addr} {csl : Array (Option Value)} {D : Value} (hd : A.handled = none) (e0 : Env0 P w K mg base A outer s H)
    (lcc : K.lookup cc = some ⟨cl, cld, .cell (some D), csl⟩) (hns : h₀.Ns s.heap.objs.size (fun x => ([(("self" : Str), u0), (("steps" : Str), u1), (("store" : Str), u2)]).reverse.lookup x)) (hk : ∀ b o, s.heap.get? b = some o → h₀.get? b = some o)
    (r0 : RelV v0 u0) (r1 : RelV v1 u1) (r2 : RelV v2 u2) :
    Inv (rfCx P w K mg base f cd cc A outer s H) [] [some v0, some v1, some v2] H { s with heap := h₀, toks := t } := by
  have bcc := e0.mod.kin _ _ lcc
  have hcc : h₀.get? cc = some ⟨cl, cld, .cell (some D), csl⟩ := hk _ _ (e0.bs _ _ bcc).1
  have noA : ∀ b : Addr, b ∉ (rfCx P w K mg base f cd cc A outer s H).ex := fun b z => absurd (show b ∈ ([] : List Addr) from z) (by simp)
  refine ⟨⟨e0.mod, rfl, rfl, rfl, Nat.le_refl _, fun y z c h1 h2 => ?_, fun y hy => ?_, fun y c hf _ => ?_, fun _ => hd, Around.frames_deeper e0.frames, .inr ⟨rfl, rfl⟩, fun b z => absurd z (noA b), e0.bs, e0.bsz, fun b _ _ => noA b, fun b z => absurd z (noA b), e0.funs, e0.frf⟩,
    rfl, e0.bare, Un.kept hk, ⟨_, hns, fun i y v h1 h2 h3 => ?_⟩, fun y c h => ⟨some D, ?_⟩, e0.hok.fresh (Nat.le_refl _), fun y c h => ?_, fun p hp => absurd (show p ∈ ([] : List (Addr × Obj)) from hp) (by simp), e0.hok.kept hk, rfl⟩
  · exact (rf_cells h1).1.trans (rf_cells h2).1.symm
  · obtain rfl := rf_free y hy
    exact ⟨cc, by show List.lookup ("__class__" : Str) [(("__class__" : Str), cc)] = some cc; simp [List.lookup]⟩
  · exact absurd (show false = true from hf) (by simp)
  · match i with
    | 0 =>
      cases h1; cases h2
      exact ⟨u0, r0, .inl ⟨rf_loc _ (by simp), (rf_look u0 u1 u2).1⟩⟩
    | 1 =>
      cases h1; cases h2
      exact ⟨u1, r1, .inl ⟨rf_loc _ (by simp), (rf_look u0 u1 u2).2.1⟩⟩
    | 2 =>
      cases h1; cases h2
      exact ⟨u2, r2, .inl ⟨rf_loc _ (by simp), (rf_look u0 u1 u2).2.2⟩⟩
    | i + 3 => cases h2
  · obtain ⟨_, rfl⟩ := rf_cells h
    exact ⟨_, hcc, rfl⟩
  · obtain ⟨_, rfl⟩ := rf_cells h
    exact (e0.bs _ _ bcc).2
theorem rf_ok (T : RfTxt K mg P C f fd) : FnOk P w K mg base CX0 5 f fd ["self", "steps", "store"] (spRfI C) := by
  refine ⟨fun vs H Q E h => by obtain ⟨x, n, v, rfl, _⟩ := h; rfl, fun A outer s H args us vs Q E hr e0 hb r hsp => ?_⟩
  obtain ⟨oc, dV, kV, doc, pm, ct, od, an, osl, cda, cc, fvs, file, tf, ccl, cl, cdd, cld, ccs, csl, rfl, lk, hcd, lcd, hvs, hfile, lcc⟩ := T.fn
  obtain ⟨x, n, v, rfl, hx, hn, q⟩ := hsp
  have KX : K.In s.heap := e0.mod.kin.keeps fun b o e => (e0.bs b o e).1
  have lim : s.heap.NoLimit := e0.mod.nolimit.keeps fun b o e => (e0.bs b o e).1
  cases r with
  | @cons _ u0 _ us1 r0 r =>
  cases r with
  | @cons _ u1 _ us2 r1 r =>
  cases r with
  | @cons _ u2 _ us3 r2 r =>
  cases r
  obtain rfl : u0 = Value.ref x := r0
  obtain ⟨tn, rfl⟩ := r1
  have hcell : ∀ y ∈ (defScope s_Refused_init).names, y.2 ≠ NameKind.cell := by decide +kernel
  refine PySem.ks_codeAny_call_defAt hr.depth (KX _ _ lk) rfl lim (PySem.W.codeRec_of KX hcd) rfl hb hcell (fun y hy => rf_loc _ (List.of_mem_zip (by exact hy)).1) (fun h₀ hns hk => ?_)
  refine PySem.ks_wpAt_mono (E := fun _ _ => False) ?_ (fun a s' h => h) (fun _ _ z => z.elim)
  have I := rf_inv (P := P) (w := w) (f := f) (cd := Value.ref cda) (t := s.toks + 3) (v0 := .ref x) (v1 := .int (n : Nat)) (v2 := v) hr.hd e0 lcc hns hk rfl ⟨tn, rfl⟩ r2
  obtain ⟨X, hX⟩ : ∃ X, X = rfCx P w K mg base f (Value.ref cda) cc A outer s H := ⟨_, rfl⟩
  have k1 : ∀ b o, s.heap.get? b = some o → h₀.get? b = some o := hk
  obtain ⟨nm, q0, N0, bs, bm, sn, sub, ab, col, dd, k0, k1', k2, k3, k5, hC, hbm⟩ := T.ox.cls
  have hcl : PySem.W.clsIn K C = some { name := nm, bases := bs, mro := .ref C :: bm, ns := N0, qualname := q0, hasDict := true, slotNames := sn, subclasses := sub, abstract := ab, collection := col, hasDel := false } := by unfold PySem.W.clsIn; rw [hC] <;> rfl
  obtain ⟨t1, hx0⟩ := exo_at I.hok hx
  have KX1 : K.In h₀ := KX.keeps hk
  have hxC : x ≠ C := fun z => by
    have e1 : h₀.get? x = _ := hx0
    rw [z, KX1 _ _ hC] at e1
    have e2 := congrArg Obj.data (Option.some.inj e1)
    cases e2
  have hsup := T.sup
  unfold PySem.W.ks_superIn at hsup
  rw [hcl] at hsup
  obtain ⟨mb, hb1, hb2⟩ := e0.mod.blt
  have baseK : ∀ b o, base.get? b = some o → h₀.get? b = some o := fun b o e => hk _ _ (e0.bs b o e).1
  have Iat : PySem.W.InstAt h₀ x (HandSPX.excO C t1) C none := ⟨hx0, rfl, rfl, trivial⟩
  refine PySem.ks_wpAt_execs_cons (PySem.ks_wpAt_Expr_any (PySem.ks_wpAt_MethodCall ?_))
  refine PySem.ks_wpAt_super_base (cc := cda) (f := f) (vs := fvs) (file := file) (tf := tf) rf_super rf_class (by decide +kernel) rfl (KX1 _ _ lk) rfl rfl rfl (KX1 _ _ lcd) rfl hvs hfile T.top ?_
  refine PySem.W.ks_loadName_global rfl rf_super (Calls.loadGlobal_builtin (e0.mod.glob.keeps baseK) T.z_super (hb1.keeps baseK) ((hb2 _ (by decide)).trans PyProof.Rows.Boot.«super») ⟨rfl, ?_⟩)
  refine wpAny_loadName_free (c := cc) (v := .ref C) rfl rf_class (by show List.lookup ("__class__" : Str) [(("__class__" : Str), cc)] = some cc; simp [List.lookup]) ⟨_, KX1 _ _ lcc, rfl⟩ ?_
  refine wpAny_loadName_local rfl (rf_loc _ (by simp)) hns (rf_look _ _ _).1 ?_
  refine PySem.ks_wpAny_isType_cls (KX1 _ _ hC) rfl ⟨rfl, ?_⟩
  refine PySem.ks_wpAny_call_super (C := C) (KX1 _ _ hC) rfl hx0 rfl (fun c e => by cases e) (PySem.W.looks_mroIn KX1 T.sub) (fun h1 e1 kk1 => ?_)
  have KX2 : K.In h1 := KX1.keeps kk1
  have I1 : Inv (rfCx P w K mg base f (Value.ref cda) cc A outer s H) [] [some (.ref x), some (.int (n : Nat)), some v] H ⟨h1, s.gens, s.drawn, s.toks + 3, s.os⟩ := I.kept (t' := s.toks + 3) kk1
  have hI : PySem.W.Looks (model P w) h₀ (isInstance (.ref x) (.type "ValueError")) true := Iat.type.andThen (PySem.W.looks_subIn KX1 T.subVE)
  refine PySem.W.kxs_getMethod PySem.W.kxs_ValueError e1 (PySem.W.looks_opaque KX2 T.stat) (l₀ := .ref C :: bm) (fun A Q E s k q => wpAny_bind ((PySem.W.looks_clsIn KX2 hcl) A _ E s k (wpAny_pure q))) rfl KX2 hsup (hI.keeps kk1) hxC (by decide +kernel) ?_
  have I2 : Inv (rfCx P w K mg base f (Value.ref cda) cc A outer s H) [] [some (.ref x), some (.int (n : Nat)), some v] H ⟨h1.push (PySem.W.kxs_mw "ValueError.__init__" x), s.gens, s.drawn, s.toks + 3 + 1, s.os⟩ := I1.kept (t' := s.toks + 3 + 1) fun b o e => Heap.get?_push_of_some _ e
  have I3 := I2.pins_of (pins' := [(h1.objs.size, PySem.W.kxs_mw "ValueError.__init__" x)]) (fun p hp => by
    have hp : p ∈ [(h1.objs.size, PySem.W.kxs_mw "ValueError.__init__" x)] := hp
    rw [List.mem_singleton] at hp
    subst hp
    exact ⟨Heap.get?_push_at rfl rfl, I1.hok.fresh (Nat.le_refl _), Nat.ne_of_gt I1.lt, I1.nofs (Nat.le_refl _), fun v z => by cases z⟩)
  refine PySem.W.kxs_callWith (i := "ValueError.__init__") (x := x) (by rfl) (Calls.evalArgs_plain ?_)
  obtain ⟨ta, ha, hta⟩ : ∃ ta, PA (rfCx P w K mg base f (Value.ref cda) cc A outer s H) rfArgs ta ∧ ta [some (.ref x), some (.int (n : Nat)), some v] H (fun vs H1 => H1 = H ∧ ∃ z : Str, vs = [.str z]) := by
    refine ⟨_, pa_cons (pe_op op_add_str (pe_op op_add_str (pe_str (x := "refused after ")) (pe_callTy call_str_int (by rfl) T.z_str (by decide +kernel) (pa_cons (pv 1) pa_nil))) (pe_str (x := " steps"))) pa_nil, ?_⟩
    tm_at "g"
    have l1 : (Str.ofString (toString ((n : Nat) : Int))).length ≤ 4 := PyProof.Rows.toString_length_le (by omega) (by decide) (by show ((n : Nat) : Int) < 10000; omega)
    refine ⟨_, rfl, ?_, ?_⟩
    · show Nat.log2 ((n : Nat) : Int).natAbs < 1920
      rw [Int.natAbs_natCast]
      by_cases z : n = 0
      · subst z; decide
      · have : Nat.log2 n < 10 := (Nat.log2_lt z).mpr (Nat.lt_of_le_of_lt hn (by decide))
        omega
    · have l0 : ("refused after " : Str).length = 14 := by decide +kernel
      have l2 : (" steps" : Str).length = 6 := by decide +kernel
      refine ⟨_, _, rfl, rfl, by rw [l0, sizeLine_eq]; omega, ?_⟩
      refine ⟨_, _, rfl, rfl, ?_, rfl, _, rfl⟩
      rw [l2, sizeLine_eq, Str.length_append, l0]
      omega
  refine thn (ha.run _ _ _ _ _ _ I3 hta) (fun us s2 hh => ?_)
  obtain ⟨vs, H2, I4, rr, rfl, z, rfl⟩ := hh
  cases rr with
  | @cons _ u _ us' ru rr =>
  cases rr
  obtain ⟨p1, p2, p3, p4, p5⟩ := I4.pin (h1.objs.size, PySem.W.kxs_mw "ValueError.__init__" x) (by show _ ∈ [] ++ [_]; simp)
  refine ⟨p1, ?_⟩
  obtain ⟨t2, hx2⟩ := exo_at I4.hok hx
  obtain ⟨hp2, g2, dr2, tk2, os2⟩ := s2
  refine call_mwVE (I4.kIn _ _ hC) hx2 p1 (by show 1 ≤ sizeLine; rw [sizeLine_eq]; omega) (fun h' t3 kk hx3 => ?_)
  have J := I4.write (t' := tk2) (x := x) (e := x) (o := exo x C none) (by rw [hx]; exact True.intro) (.inl rfl) kk ⟨_, hx3⟩ (exo_ok hx3)
  have eu : upd H2 x (exo x C none) = H2 := by
    funext b
    by_cases hb : b = x
    · rw [hb, upd_same, hx]
    · rw [upd_ne hb]
  rw [eu] at J
  have J0 := J.pins_of (pins' := []) (fun p hp => by cases hp)
  obtain ⟨ts, hs, hts⟩ : ∃ ts, PSs (rfCx P w K mg base f (Value.ref cda) cc A outer s H2) rfRest ts ∧ ts { nx := fun _ H' => Q .non H', rt := Q } [some (.ref x), some (.int (n : Nat)), some v] H2 := by
    refine ⟨_, pss_cons (ps_ost (pv 0) (pv 1)) (pss_one (ps_ost (pv 0) (pv 2))), ?_⟩
    refine w_seq ?_
    unfold tOst
    tm_at "g"
    refine ⟨x, C, rfl, T.ox, T.no_steps, .inl ⟨hx, fun dx ndx nex => ?_⟩⟩
    tm_at "g"
    refine ⟨x, C, rfl, T.ox, T.no_store, .inr ⟨dx, _, upd_same, by rw [upd_ne nex]; exact upd_same, by show 1 ≤ 900; decide, ?_⟩⟩
    exact q dx ndx nex
  refine PySem.wpAt_of_wpAny (wpAny_mono (hs.run [] _ _ _ _ J0 hts) (fun fl s' hsp => ?_) (fun _ _ z => z.elim))
  have fin : ∀ {σ' : L2.St} {H' : Hp} {v' : V} {u' : Value}, Inv (rfCx P w K mg base f (Value.ref cda) cc A outer s H2) [] σ' H' s' → RelV v' u' → Q v' H' → CE outer P w H2 s Q u' s' :=
    fun {σ' H' v' u'} J rv q => ⟨v', H', J.os, J.bare, J.base, J.hok, rv, q⟩
  cases fl with
  | ret u =>
    obtain ⟨v', σ', H', J, rv, q⟩ := hsp
    exact fin J rv q
  | next =>
    obtain ⟨σ', H', J, q⟩ := hsp
    exact fin (v' := V.non) (u' := Value.none) J rfl q
  | brk =>
    obtain ⟨_, _, _, q⟩ := hsp
    exact False.elim q
  | cont =>
    obtain ⟨_, _, _, q⟩ := hsp
    exact False.elim q
end
/-- try: .. except A as n: .. except B: .., whose body lets out nothing but these: the wish -/
def wTwo (K : PySem.W.Frag) (c1 c2 : Value) (i : Nat) (t1 t2 : Addr → Value → Option Addr → TS) (D : Ends) : WX := fun cls d σ H =>
  (PySem.W.exmOne K cls c1 = some true ∧ ∀ a, H a = none → t1 a cls d { nx := fun σ' H' => D.nx (σ'.set i none) H', rt := D.rt, bk := fun σ' H' => D.bk (σ'.set i none) H', ct := fun σ' H' => D.ct (σ'.set i none) H' } (σ.set i (some (.ref a))) H) ∨
  (PySem.W.exmOne K cls c1 = some false ∧ PySem.W.exmOne K cls c2 = some true ∧ ∀ a, H a = none → t2 a cls d D σ H)
section
variable {X : Cx} {x1 x2 n : Str} {c1 c2 : Value} {i : Nat} {body u1 u2 : List Stmt} {b1 b2 : Stmt} {np1 np2 pos pos1 pos2 : Pos} {tb : WX → TS} {t1 t2 : Addr → Value → Option Addr → TS}
/-- the name of a class in an except clause is read -/
theorem names_read {pins : List (Addr × Obj)} {s : Shared} {σ : L2.St} {H : Hp} {a : Addr} {oe : Obj} {x : Str} {c : Value} {np : Pos} {Q : Value → Shared → Prop} {E : Value → Shared → Prop} (hc : Names X x c) (S : Inv (X.suite a ((a, oe) :: (X.pn ++ pins))) [] σ H s) (q : Q c s) :
    wpAny (model X.prog X.w) (X.A.mark (some (.ref a))) (eval (.Name x np) X.env) Q E s := by
  obtain ⟨hg, hdbg, hm | ⟨hm, hv, hnn⟩⟩ := hc
  · exact ld_glob (X := X.suite a ((a, oe) :: (X.pn ++ pins))) S hg hm q hdbg
  · exact ld_blt (X := X.suite a ((a, oe) :: (X.pn ++ pins))) S hg hm hv q hnn hdbg
theorem ps_try_two (hs : X.stack = X.env :: X.outer) (hf : X.env.frame = some X.env.locals) (hN : X.N.Nodup) (hi : X.N[i]? = some n) (hln : X.env.kindOf n = some .local) (hc1 : Names X x1 c1) (hc2 : Names X x2 c2)
    (hb : ∀ (W : WX) (pn : List (Addr × Obj)) (xe : Value → Shared → Prop), Takes (X.tr pn xe) W → PassesOwn (model X.prog X.w) X.A X.env xe → PSs (X.tr pn xe) body (tb W))
    (h1 : ∀ (a : Addr) (oe : Obj) (cls : Value) (d : Option Addr) (pn : List (Addr × Obj)), Zc cls d oe → (∃ vs, oe.data = .fields vs) → PSs (X.suite a ((a, oe) :: pn)) (b1 :: u1) (t1 a cls d))
    (h2 : ∀ (a : Addr) (oe : Obj) (cls : Value) (d : Option Addr) (pn : List (Addr × Obj)), Zc cls d oe → (∃ vs, oe.data = .fields vs) → PSs (X.suite a ((a, oe) :: pn)) (b2 :: u2) (t2 a cls d)) :
    PS X (.Try body [.ExceptHandler (some (.Name x1 np1)) (some n) (b1 :: u1) pos1, .ExceptHandler (some (.Name x2 np2)) none (b2 :: u2) pos2] [] [] pos) (fun D σ H => tb (wTwo X.K c1 c2 i t1 t2 D) D σ H) := by
  refine ⟨fun pins s σ H D I h => ?_⟩
  have ok := I.ok
  have hfr : X.A.frames = some (X.env :: X.outer) := by rw [ok.frames, hs]
  obtain ⟨hds, hhds⟩ : ∃ hds, hds = [ExceptHandler.ExceptHandler (some (.Name x1 np1)) (some n) (b1 :: u1) pos1, .ExceptHandler (some (.Name x2 np2)) none (b2 :: u2) pos2] := ⟨_, rfl⟩
  obtain ⟨xe, hxe⟩ : ∃ xe : Value → Shared → Prop, xe = fun e s₁ => wpAny (model X.prog X.w) X.A (noteFrame e X.env) (fun _ s₂ => wpAny (model X.prog X.w) X.A (setFlight e none) (fun _ s₃ => wpAny (model X.prog X.w) X.A (handleBy e X.env hds) (SP X pins D) X.xe s₃) X.xe s₂) X.xe s₁ := ⟨_, rfl⟩
  have tk : Takes (X.tr (X.pn ++ pins) xe) (wTwo X.K c1 c2 i t1 t2 D) := fun u s' xx => by
    obtain ⟨a, B, sI, pins', σ', H', cls, d, rfl, J', nb, up, sky, na, os, ag, w⟩ := xx
    have J : Inv X pins σ' H' sI := J'.ofTry ok
    have sky' : Sky B (X.env :: X.outer) a (Zc cls d) X.env.locals s'.heap := by rw [← hs]; exact sky
    rw [hxe]
    refine Sky.land Zc.steady hfr hf sky' fun h3 fl3 up3 => ?_
    have J3 : Inv X pins σ' H' { s' with heap := h3 } := J.landed nb fl3.1 (up.trans up3) os ag
    obtain ⟨oe3, vs3, he3, hz3, hd3⟩ := fl3.there
    have nfr : a ∉ frs (X.env :: X.outer) := fun hm => by
      obtain ⟨_, o', e', hnf⟩ := fl3.2.2.1.mem hm
      rw [he3] at e'
      cases e'
      exact hnf _ hd3
    have nL : a ≠ X.env.locals := fun z => nfr (List.mem_filterMap.mpr ⟨X.env, List.mem_cons_self, by rw [hf, z]⟩)
    have nF : a ∉ X.fs := fun hm => nfr (by
      obtain ⟨e, he, q⟩ := List.mem_filterMap.mp hm
      exact List.mem_filterMap.mpr ⟨e, List.mem_cons_of_mem _ he, q⟩)
    have S3 := J3.suite he3 hd3 na nL nF
    have LT : PySem.W.Looks (model X.prog X.w) h3 (typeOf (.ref a)) cls := fun A Q E s k q => wpAny_typeOf_ref (k _ _ he3) (by rw [hz3.1]; exact q)
    subst hhds
    refine wpAny_handleBy_cons (codeAny_handlers_test ?_) (by intro q; cases q)
    refine names_read hc1 S3 ?_
    rcases w with ⟨m1, w⟩ | ⟨m1, m2, w⟩
    · refine (PySem.W.exm_one (M := model X.prog X.w) J3.kIn LT m1).here ?_
      refine codeAny_handlers_suite_as ?_
      refine HandSPX.lands_againZ fl3 fun h4 fl4 up4 => ?_
      have J4 : Inv X pins σ' H' { s' with heap := h4 } := J.landed nb fl4.1 ((up.trans up3).trans up4) os ag
      obtain ⟨oe4, vs4, he4, hz4, hd4⟩ := fl4.there
      refine store_ok (X := X.suite a ((a, oe4) :: (X.pn ++ pins))) (v := .ref a) (J4.suite he4 hd4 na nL nF) hN hi (.inl hln) rfl (fun s5 S5 => ?_) (.inr hln)
      refine wpAny_mono ((h1 a oe4 cls d (X.pn ++ pins) hz4 ⟨_, hd4⟩).run [] s5 _ H' _ S5 (w a na)) (fun f s6 hsp => ?_) (fun _ _ z => False.elim z)
      cases f with
      | ret u =>
        obtain ⟨v6, σ6, H6, S6, r6, q6⟩ := hsp
        exact gone_ok (S6.unsuite ok) hN hi hln fun s7 J7 => ⟨_, _, _, J7, r6, q6⟩
      | _ =>
        obtain ⟨σ6, H6, S6, q6⟩ := hsp
        exact gone_ok (S6.unsuite ok) hN hi hln fun s7 J7 => ⟨_, _, J7, q6⟩
    · refine (PySem.W.exm_one (M := model X.prog X.w) J3.kIn LT m1).here ?_
      show wpAny _ X.A (handleBy (.ref a) X.env _) _ _ _
      refine wpAny_handleBy_cons (codeAny_handlers_test ?_) (by intro q; cases q)
      refine names_read hc2 S3 ?_
      refine (PySem.W.exm_one (M := model X.prog X.w) J3.kIn LT m2).here ?_
      refine codeAny_handlers_suite ?_
      refine HandSPX.lands_againZ fl3 fun h4 fl4 up4 => ?_
      have J4 : Inv X pins σ' H' { s' with heap := h4 } := J.landed nb fl4.1 ((up.trans up3).trans up4) os ag
      obtain ⟨oe4, vs4, he4, hz4, hd4⟩ := fl4.there
      refine wpAny_mono ((h2 a oe4 cls d (X.pn ++ pins) hz4 ⟨_, hd4⟩).run [] _ _ H' _ (J4.suite he4 hd4 na nL nF) (w a na)) (fun f s6 hsp => ?_) (fun _ _ z => False.elim z)
      cases f with
      | ret u =>
        obtain ⟨v6, σ6, H6, S6, r6, q6⟩ := hsp
        exact ⟨_, _, _, S6.unsuite ok, r6, q6⟩
      | _ =>
        obtain ⟨σ6, H6, S6, q6⟩ := hsp
        exact ⟨_, _, S6.unsuite ok, q6⟩
  refine wpAny_Try_except ?_
  rw [← hhds]
  refine wpAny_mono ((hb (wTwo X.K c1 c2 i t1 t2 D) (X.pn ++ pins) xe tk (by rw [hxe]; exact PassesOwn.looking)).run [] s σ H D (I.toTry _) h) (fun f s1 hsp => ?_) (fun e s1 he => by rw [hxe] at he; exact he)
  cases f with
  | next =>
    obtain ⟨σ', H', J', q⟩ := hsp
    exact wpAny_execs_nil ⟨σ', H', J'.ofTry ok, q⟩
  | ret u =>
    obtain ⟨v, σ', H', J', r, q⟩ := hsp
    exact ⟨v, σ', H', J'.ofTry ok, r, q⟩
  | _ =>
    obtain ⟨σ', H', J', q⟩ := hsp
    exact ⟨σ', H', J'.ofTry ok, q⟩
end
end Kt
end -- KExc
section -- KAns
set_option Elab.async false
set_option linter.all false
set_option maxRecDepth 100000
set_option maxHeartbeats 4000000
/-! KAns: answer and the law's own try around it. -/
namespace Kt
open PySem L2
/-- what the text says of its exceptions -/
structure Xx (K : PySem.W.Frag) (mg : Str → Option Value) (P : Program) (a : Ad) (fdR : FuncData) : Prop where
  RF : RfTxt K mg P a.c_Refused a.f_Refused_init fdR
  bR : Binds K fdR ["self", "steps", "store"] []
  ex_TooLong : PySem.W.excIn K a.c_TooLong [.type "ValueError", .type "Exception", .type "BaseException", .type "object"] "ValueError.__new__" = true
  g_TooLong : mg "TooLong" = some (.ref a.c_TooLong)
  k_TooLong : PySem.W.keepIn K (.ref a.c_TooLong) = true
  sx_TooLong : PySem.W.subIn K (.ref a.c_TooLong) (.type "BaseException") = some true
  tx_TooLong : PySem.W.typeIn K (.ref a.c_TooLong) = some (.type "type")
  mR : PySem.W.exmOne K (.ref a.c_Refused) (.ref a.c_Refused) = some true
  mTR : PySem.W.exmOne K (.ref a.c_TooLong) (.ref a.c_Refused) = some false
  mT : PySem.W.exmOne K (.ref a.c_TooLong) (.ref a.c_TooLong) = some true
  xf : XfC K a.c_Refused
abbrev Rs := Bk.Res (List Int)
/-- what answer gives or raises -/
def AnsTo (a : Ad) (H : Hp) (Q : VK) (E : XK) : Rs → Prop
  | .done s n => ∀ H' r sa, Same H H' → H' r = some (.tup [.ref sa, .int (n : Nat)]) → StA H' sa s → n ≤ 1000 → Q (.ref r) H'
  | .refused n s => ∀ H' dd sa, Same H H' → H' dd = some (.xd [(("store" : Str), V.ref sa), (("steps" : Str), V.int (n : Nat))]) → StA H' sa s → n ≤ 1000 → E (.ref a.c_Refused) (some dd) H'
  | .long => ∀ H', Same H H' → E (.ref a.c_TooLong) none H'
/-- the program of d, begun at st, answers r -/
def Answers (d : PD) (st : List Int) (most : Nat) (r : Rs) : Prop := ∀ (T : PtsT) (E : Str → Nat × Nat), Bk.Right (PM d.vars d.w) T E d.R (· ∈ d.ns) → Bk.ansC (PM d.vars d.w) T E "main" most st = r
def spAnswer (a : Ad) : Sp := fun vs H Q E => ∃ (pp sa : Addr) (d : PD) (st : List Int) (most : Nat) (r : Rs), vs = [.ref pp, .ref sa, .int (most : Nat)] ∧ PgA a H pp d ∧ d.Ok ∧ d.vars.Nodup ∧ StA H sa st ∧ StOk d.vars (2 ^ d.w) st ∧ most ≤ 1000 ∧
  Answers d st most r ∧ AnsTo a H Q E r
theorem runC_le {M : Bk.Sem Pr Cd (List Int)} {T : PtsT} {E : Str → Nat × Nat} : ∀ (k : Nat) (c : Cfg), (Bk.runC M T E k c).2 ≤ k
  | 0, c => Nat.le_refl _
  | k + 1, c => by
    unfold Bk.runC
    split
    · exact Nat.zero_le _
    · have := runC_le (M := M) (T := T) (E := E) k
      rename_i c' _
      have := this c'
      dsimp only
      omega
section
variable {P : Program} {w : World} {K : PySem.W.Frag} {mg : Str → Option Value} {base : Heap} {a : Ad} {fdR : FuncData}
local macro_rules | `(tactic| tm_at "g") => `(tactic| repeat (first
  | with_reducible refine w_seq ?_ | with_reducible refine w_if ?_ | with_reducible refine w_tB ?_ | with_reducible refine w_tTest ?_ | with_reducible refine w_asg ?_ | with_reducible refine w_name ?_
  | with_reducible refine w_ret ?_ | with_reducible refine w_next ?_ | with_reducible refine w_op ?_ | with_reducible refine w_c ?_ | with_reducible refine w_cb ?_ | with_reducible refine w_call ?_ | with_reducible refine w_cons ?_ | with_reducible refine w_nil ?_
  | with_reducible refine w_var (by with_unfolding_all rfl) ?_
  | with_reducible refine w_rI0 ?_ | with_reducible refine w_eq (by with_unfolding_all rfl) ?_ | with_reducible refine w_ne (by with_unfolding_all rfl) ?_
  | with_reducible refine w_test ?_ | with_reducible refine w_T ?_ | with_reducible refine w_F ?_ | with_reducible refine w_T0 ?_ | with_reducible refine w_F0 ?_
  | with_reducible refine w_and ?_ | with_reducible refine w_or ?_ | with_reducible refine w_not ?_ | with_reducible refine w_ifE ?_ | with_reducible refine w_drop ?_
  | with_reducible refine w_andV ?_ | with_reducible refine w_orV ?_ | with_reducible refine w_notV ?_ | with_reducible refine w_dget ?_ | with_reducible refine w_din ?_ | with_reducible refine w_dnin ?_ | with_reducible refine w_fld ?_
  | with_reducible refine w_ttup ?_ | with_reducible refine w_tlst ?_ | with_reducible refine w_un ?_ | with_reducible refine w_rU ?_ | with_reducible refine w_gcons ?_ | with_reducible refine w_gnil ?_ | with_reducible refine w_sub ?_ | with_reducible refine w_sl ?_ | with_reducible refine w_nopart ?_ | with_reducible refine w_part ?_ | with_reducible refine w_int ?_ | with_reducible refine w_meth ?_
  | with_reducible refine w_make ?_ | with_reducible refine w_dput ?_ | with_reducible refine w_sfld ?_ | with_reducible refine w_bm ?_ | with_reducible refine w_bm0 ?_ | with_reducible refine w_isN ?_ | with_reducible refine w_notT ?_ | with_reducible refine w_forR ?_ | with_reducible refine w_forL ?_ | with_reducible refine w_forT ?_ | with_reducible refine w_fldaug ?_ | with_reducible refine w_radd ?_ | with_reducible refine w_par ?_ | with_reducible refine w_pair ?_
  | with_reducible refine w_lcR ?_ | with_reducible refine w_dcR ?_ | with_reducible refine w_lcL ?_ | with_reducible refine w_lcT ?_ | with_reducible refine w_dcT ?_ | with_reducible refine w_yes ?_ | with_reducible refine w_chain ?_))

theorem w_mko {C : Addr} {sp : Sp} {dvs : List V} {ta : TA} {σ : L2.St} {H : Hp} {Q : XK} (h : ta σ H fun vs H1 => vs.length ≤ 1000 ∧ ∀ a, H1 a = none → sp (.ref a :: (vs ++ dvs)) (upd H1 a (exo a C none))
  (fun v H2 => v = .non ∧ ∃ (d : Addr) (fs : List (Str × V)), H2 a = some (exo a C (some d)) ∧ H2 d = some (exd d fs) ∧ H1 d = none ∧ Q (.ref C) (some d) (upd (del H2 a) d (.xd fs))) (fun _ _ _ => False)) : tMkO C sp dvs ta σ H Q := h
theorem sc_answer : FnScope ["program", "store", "most", "machine", "configuration", "steps"] ["program", "store", "most"] (defScope s_answer) := ⟨rfl, rfl, rfl, by decide +kernel, rfl, by decide +kernel, by decide +kernel⟩
theorem ok_answer (T : Tx w K mg a) (Y : Xx K mg P a fdR) : FnOk P w K mg base (L2.CX P w) 10 a.f_answer a.d_answer ["program", "store", "most"] (spAnswer a) := by
  have RF := Y.RF
  have G_check_store : FnOk P w K mg base CX0 2 _ _ _ (spCheck a) := ok_check_store T
  have G_Machine_init : FnOk P w K mg base CX0 7 _ _ _ (spMInit a) := ok_minit T
  have G_Machine_run : FnOk P w K mg base CX0 6 _ _ _ (spRun a) := ok_run T
  have G_Machine_begin : FnOk P w K mg base CX0 1 _ _ _ (spBegin a) := ok_begin T
  have G_Machine_stopped : FnOk P w K mg base CX0 1 _ _ _ (spStopped a) := ok_stopped T
  have G_Machine_step : FnOk P w K mg base CX0 5 _ _ _ (spStep a) := ok_step T
  refine T.F_answer.okX sc_answer (fun vs H Q E h => ?_) (fun cdv A outer s H vs Q E hr h => ?_)
  · obtain ⟨pp, sa, d, st, most, r, rfl, _⟩ := h
    rfl
  · obtain ⟨pp, sa, d, st, most, r, rfl, hp, dok, nd, hs, sok, hmost, han, q⟩ := h
    have hu := hu_of hr
    refine ⟨_, (pss_cons (ps_expr (pe_call G_check_store (hr.mono (by decide)) rfl T.g_check_store T.F_check_store.kp T.b_check_store .nil pass0 (pa_cons (pv 0) (pa_cons (pv 1) pa_nil))))
    (pss_cons (ps_set (i := 3) sc_answer.nd rfl (Or.inl rfl) (pe_make T.mk_Machine G_Machine_init (hr.mono (by decide)) rfl T.g_Machine T.b_Machine_init .nil pass0 (pa_cons (pv 0) pa_nil)))
    (pss_cons (ps_asg (pe_meth (pv 3) T.cl_Machine T.m_Machine_run G_Machine_run (hr.mono (by decide)) T.b_Machine_run .nil pass0 (pa_cons (pe_meth (pv 3) T.cl_Machine T.m_Machine_begin G_Machine_begin (hr.mono (by decide)) T.b_Machine_begin .nil pass0 (pa_cons (pv 1) pa_nil)) (pa_cons (pv 2) pa_nil))) (pg_tup rfl (pgs_cons (pg_name (i := 4) sc_answer.nd rfl (Or.inl rfl)) (pgs_cons (pg_name (i := 5) sc_answer.nd rfl (Or.inl rfl)) pgs_nil))))
    (pss_cons (ps_if (pt_val (pe_meth (pv 3) T.cl_Machine T.m_Machine_stopped G_Machine_stopped (hr.mono (by decide)) T.b_Machine_stopped .nil pass0 (pa_cons (pv 4) pa_nil))) (pss_one (ps_ret (pe_tup (pa_cons (pe_ix ix_tup (pv 4) pe_int (fun _ _ => rfl)) (pa_cons (pv 5) pa_nil))))) pss_nil)
    (pss_cons (ps_if (pt_cmp (pc_isN (pe_meth (pv 3) T.cl_Machine T.m_Machine_step G_Machine_step (hr.mono (by decide)) T.b_Machine_step .nil pass0 (pa_cons (pv 4) pa_nil)))) (pss_one (ps_raise rfl (takes_of rfl rfl rfl rfl) (pmk_oex RF.ox RF.iC RF.tI (rf_ok RF) (hr.mono (by decide)) Y.bR .nil pass0 rfl RF.gC (pa_cons (pv 5) (pa_cons (pe_ix ix_tup (pv 4) pe_int (fun _ _ => rfl)) pa_nil))))) pss_nil)
    (pss_one (ps_raise rfl (takes_of rfl rfl rfl rfl) (pmk_own F.excBase_ValueError Y.ex_TooLong Y.g_TooLong Y.k_TooLong (raises_own Y.sx_TooLong Y.tx_TooLong) rfl)))))))), ?_⟩
    tm_at "g"
    refine ⟨pp, sa, d, st, rfl, hp, dok.w8, dok.v6, hs, sok, fun H1 s1 => ?_⟩
    tm_at "g"
    intro m dx nm ndx nex
    have z1 : Same H1 (upd (upd H1 dx (.own m)) m (.ins a.c_Machine dx [])) := fun b o e => by
      rw [upd_ne (ne_of_none e nm), upd_ne (ne_of_none e ndx)]
      exact e
    refine ⟨m, pp, dx, d, rfl, upd_same, (hp.mono s1).mono z1, dok, nd, fun H2 TT EE k2 hM mok hof => ⟨rfl, ?_⟩⟩
    have s2 : Same H1 H2 := fun b o e => k2 b o (z1 b o e) (by simpa using ne_of_none e nm)
    have sH2 := s1.trans s2
    have hR : Bk.Right (PM d.vars d.w) TT EE d.R (· ∈ d.ns) := ⟨hof.laid, hof.first, hof.last, fun n hn => (dok.bok n hn).all⟩
    have hr := han TT EE hR
    obtain ⟨dxm, pp', ptt, pl, _, _, _, _, _, _, _, _, _, m1, _⟩ := id hM
    tm_at "g"
    refine w_mobj m1 flMac_run ?_
    tm_at "g"
    refine w_mobj m1 flMac_begin ?_
    tm_at "g"
    refine ⟨mdOf d TT EE, m, sa, st, rfl, hM, dok.main, sH2 _ _ hs, fun H3 cv s3 hcv => ?_⟩
    tm_at "g"
    refine ⟨mdOf d TT EE, m, cv, _, most, rfl, hM.mono s3, mok, hcv, ⟨sok, (fun k hk => by cases hk), Nat.le_refl _⟩, hmost, fun H4 rr v4 s4 h4 hv4 ok4 => ?_⟩
    refine w_tup h4 rfl ?_
    tm_at "g"
    have s24 := s3.trans s4
    refine w_mobj (s24 _ _ m1) flMac_stopped ?_
    tm_at "g"
    refine ⟨mdOf d TT EE, m, v4, _, rfl, hM.mono s24, dok.main, hv4, ?_⟩
    tm_at "g"
    obtain ⟨c4, hc4⟩ : ∃ c4, c4 = ((mdOf d TT EE).run most ⟨(EE ("main" : Str)).1, true, [], st⟩).1 := ⟨_, rfl⟩
    obtain ⟨n4, hn4⟩ : ∃ n4, n4 = ((mdOf d TT EE).run most ⟨(EE ("main" : Str)).1, true, [], st⟩).2 := ⟨_, rfl⟩
    have hn : n4 ≤ 1000 := by
      rw [hn4]
      exact Nat.le_trans (runC_le (M := (mdOf d TT EE).M) (T := (mdOf d TT EE).T) (E := (mdOf d TT EE).E) most _) hmost
    have hr' : (if Bk.stopC EE "main" c4 then Bk.Res.done c4.st n4 else if (Bk.stepC (PM d.vars d.w) TT EE c4).isNone then .refused n4 c4.st else .long) = r := by
      rw [hc4, hn4]
      exact hr
    change CfV H4 v4 ((mdOf d TT EE).run most ⟨(EE ("main" : Str)).1, true, [], st⟩).1 at hv4
    change CfOk _ ((mdOf d TT EE).run most ⟨(EE ("main" : Str)).1, true, [], st⟩).1 1000 at ok4
    rw [← hc4] at hv4 ok4
    have hs4 : Bk.stopC (mdOf d TT EE).E "main" ((mdOf d TT EE).run most ⟨((mdOf d TT EE).E ("main" : Str)).1, true, [], st⟩).1 = Bk.stopC EE "main" c4 := by rw [hc4]; rfl
    rw [hs4]
    have hn4' : ((mdOf d TT EE).run most ⟨((mdOf d TT EE).E ("main" : Str)).1, true, [], st⟩).2 = n4 := by rw [hn4]; rfl
    rw [hn4']
    obtain ⟨q4, fr4, st4, rfl, k1, k2', k3⟩ := id hv4
    have sH4 := sH2.trans s24
    refine w_b (fun e => ?_) (fun e => ?_)
    · tm_at "g"
      refine w_ixT k1 (atI_nat (j := 3) rfl) ?_
      tm_at "g"
      refine w_lay (by show 2 ≤ 100000; decide) fun r5 H5 s5 n5 h5 => ?_
      rw [e, if_pos rfl] at hr'
      subst hr'
      exact q H5 r5 st4 (sH4.trans s5) h5 (s5 _ _ k3) hn
    · tm_at "g"
      rw [e, if_neg (by simp)] at hr'
      refine w_mobj (s24 _ _ m1) flMac_step ?_
      tm_at "g"
      refine ⟨mdOf d TT EE, m, .ref q4, c4, 1000, rfl, hM.mono s24, mok, hv4, ok4, by omega, ?_⟩
      cases es : (mdOf d TT EE).step c4 with
      | none =>
        intro H5 s5
        have es' : Bk.stepC (PM d.vars d.w) TT EE c4 = none := es
        rw [es', if_pos (show (none : Option Cfg).isNone = true from rfl)] at hr'
        subst hr'
        tm_at "g"
        refine w_T' rfl ?_
        refine w_mko ?_
        tm_at "g"
        refine w_ixT (s5 _ _ k1) (atI_nat (j := 3) rfl) ?_
        tm_at "g"
        refine ⟨by show 2 ≤ 1000; decide, fun x nx => ⟨x, n4, .ref st4, rfl, upd_same, hn, fun dd ndd nexx => ⟨rfl, dd, _, ?_, upd_same, ?_, ?_⟩⟩⟩
        · rw [upd_ne nexx.symm]
          exact upd_same
        · rw [upd_ne nexx] at ndd
          exact ndd
        · rw [upd_ne nexx] at ndd
          have sE : Same H5 (upd (del (upd (upd (upd (upd H5 x (exo x a.c_Refused none)) dd (exd dd [(("steps" : Str), V.int (n4 : Nat))])) x (exo x a.c_Refused (some dd))) dd (exd dd [(("store" : Str), V.ref st4), (("steps" : Str), V.int (n4 : Nat))])) x) dd (.xd [(("store" : Str), V.ref st4), (("steps" : Str), V.int (n4 : Nat))])) := fun b o e => by
            have n1 := ne_of_none e ndd
            have n2 := ne_of_none e nx
            rw [upd_ne n1, del_ne n2, upd_ne n1, upd_ne n2, upd_ne n1, upd_ne n2]
            exact e
          exact q _ dd st4 ((sH4.trans s5).trans sE) upd_same (sE _ _ (s5 _ _ k3)) hn
      | some c5 =>
        intro H5 v5 s5 hc5
        have es' : Bk.stepC (PM d.vars d.w) TT EE c4 = some c5 := es
        rw [es', if_neg (by simp)] at hr'
        subst hr'
        have hne : decide (v5 = V.non) = false := by
          obtain ⟨q2, _, _, rfl, _⟩ := hc5
          rfl
        tm_at "g"
        refine w_F' hne ?_
        tm_at "g"
        exact q H5 (sH4.trans s5)
/-- what the law's own answer gives back -/
def AnsV (H : Hp) (v : V) : Rs → Prop
  | .done s n => ∃ r sa, v = .ref r ∧ H r = some (.tup [.ref sa, .int (n : Nat)]) ∧ StA H sa s ∧ n ≤ 1000
  | .refused n s => ∃ r sa, v = .ref r ∧ H r = some (.tup [.str "refused", .int (n : Nat), .ref sa]) ∧ StA H sa s ∧ n ≤ 1000
  | .long => ∃ r, v = .ref r ∧ H r = some (.tup [.str "long"])
theorem AnsV.mono {H H' : Hp} (i : Im H H') {v : V} {r : Rs} (h : AnsV H v r) : AnsV H' v r := by
  cases r with
  | done s n => obtain ⟨r, sa, e, h1, h2, h3⟩ := h; exact ⟨r, sa, e, i _ _ h1, i _ _ h2, h3⟩
  | refused n s => obtain ⟨r, sa, e, h1, h2, h3⟩ := h; exact ⟨r, sa, e, i _ _ h1, i _ _ h2, h3⟩
  | long => obtain ⟨r, e, h1⟩ := h; exact ⟨r, e, i _ _ h1⟩
def spLAns (a : Ad) : Sp := fun vs H Q _ => ∃ (pp sa : Addr) (d : PD) (st : List Int) (most : Nat) (r : Rs), vs = [.ref pp, .ref sa, .int (most : Nat)] ∧ PgA a H pp d ∧ d.Ok ∧ d.vars.Nodup ∧ StA H sa st ∧ StOk d.vars (2 ^ d.w) st ∧ most ≤ 1000 ∧
  Answers d st most r ∧ ∀ H' v, Same H H' → AnsV H' v r → Q v H'
theorem lk_hd (f : Str) (v : V) (l : List (Str × V)) : List.lookup f ((f, v) :: l) = some v := by simp [List.lookup]
theorem w_ret2 {te : TE} {σ : L2.St} {H : Hp} {D : Ends} (h : te σ H D.rt) : tRet te D σ H := h
theorem w_xf {e C : Addr} {cls : Value} {d : Option Addr} {f : Str} {te : TE} {σ : L2.St} {H : Hp} {Q : VK} (h : te σ H fun x H1 => x = .ref e ∧ cls = .ref C ∧ ∃ (dd : Addr) (fs : List (Str × V)) (v : V), d = some dd ∧ H1 dd = some (.xd fs) ∧ fs.lookup f = some v ∧ Q v H1) : tXf e cls d C f te σ H Q := h
theorem sc_law_answer : FnScope ["_law_program_here", "_law_store_here", "_law_most", "e"] ["_law_program_here", "_law_store_here", "_law_most"] (defScope s_law_answer) := ⟨rfl, rfl, rfl, by decide +kernel, rfl, by decide +kernel, by decide +kernel⟩
theorem ok_law_answer (T : Tx w K mg a) (Y : Xx K mg P a fdR) : FnOk P w K mg base CX0 12 a.f_law_answer a.d_law_answer ["_law_program_here", "_law_store_here", "_law_most"] (spLAns a) := by
  have G_answer : FnOk P w K mg base (L2.CX P w) 10 _ _ _ (spAnswer a) := ok_answer T Y
  refine T.F_law_answer.ok sc_law_answer (fun vs H Q E h => ?_) (fun cdv A outer s H vs Q E hr h => ?_)
  · obtain ⟨pp, sa, d, st, most, r, rfl, _⟩ := h
    rfl
  · obtain ⟨pp, sa, d, st, most, r, rfl, hp, dok, nd, hs, sok, hmost, han, q⟩ := h
    have hu := hu_of hr
    have hr1 : Room 10 _ := hr.mono (by decide)
    refine ⟨_, pss_one (ps_try_two (i := 3) (tb := fun W => tRet (tCallS (spAnswer a) (WE W) (tCons (tVar 0) (tCons (tVar 1) (tCons (tVar 2) tNil))))) (t1 := fun e cls dd => tRet (tTup (tCons (tC (.str "refused")) (tCons (tXf e cls dd a.c_Refused "steps" (tVar 3)) (tCons (tXf e cls dd a.c_Refused "store" (tVar 3)) tNil)))))
      (t2 := fun e cls dd => tRet (tTup (tCons (tC (.str "long")) tNil))) rfl rfl sc_law_answer.nd rfl rfl ⟨rfl, by decide, Or.inl Y.RF.gC⟩ ⟨rfl, by decide, Or.inl Y.g_TooLong⟩
      (fun W pn xe tk _ => pss_one (ps_ret (by exact (pe_callS G_answer hr1 rfl T.g_answer T.F_answer.kp T.b_answer (fun σ => passAt tk σ) (pa_cons (pv 0) (pa_cons (pv 1) (pa_cons (pv 2) pa_nil)))))))
      (fun e oe cls dd pn hz hf => pss_one (ps_ret (by exact (pe_tup (pa_cons pe_str (pa_cons (pe_xf Y.xf Y.RF.no_steps hz hf (pv 3)) (pa_cons (pe_xf Y.xf Y.RF.no_store hz hf (pv 3)) pa_nil)))))))
      (fun e oe cls dd pn hz hf => pss_one (ps_ret (by exact (pe_tup (pa_cons pe_str pa_nil)))))), ?_⟩
    refine w_ret2 ?_
    show tCons (tVar 0) (tCons (tVar 1) (tCons (tVar 2) tNil)) _ _ _
    tm_at "g"
    refine ⟨pp, sa, d, st, most, r, rfl, hp, dok, nd, hs, sok, hmost, han, ?_⟩
    cases r with
    | done s n =>
      intro H1 r1 sa1 s1 h1 h2 h3
      exact q H1 _ s1 ⟨r1, sa1, rfl, h1, h2, h3⟩
    | refused n s =>
      intro H1 dd sa1 s1 h1 h2 h3
      refine .inl ⟨Y.mR, fun e ne => ?_⟩
      refine w_ret2 ?_
      tm_at "g"
      refine w_xf ?_
      tm_at "g"
      refine ⟨rfl, rfl, dd, _, _, rfl, h1, (lk_skip (by decide +kernel)).trans (lk_hd _ _ _), ?_⟩
      tm_at "g"
      refine w_xf ?_
      tm_at "g"
      refine ⟨rfl, rfl, dd, _, _, rfl, h1, lk_hd _ _ _, ?_⟩
      tm_at "g"
      refine w_lay (by show 3 ≤ 100000; decide) fun r5 H5 s5 n5 h5 => ?_
      exact q H5 _ (s1.trans s5) ⟨r5, sa1, rfl, h5, s5 _ _ h2, h3⟩
    | long =>
      intro H1 s1
      refine .inr ⟨Y.mTR, Y.mT, fun e ne => ?_⟩
      refine w_ret2 ?_
      tm_at "g"
      refine w_lay (by show 1 ≤ 100000; decide) fun r5 H5 s5 n5 h5 => ?_
      exact q H5 _ (s1.trans s5) ⟨r5, rfl, h5⟩
end
end Kt
end -- KAns
section -- KDs
set_option Elab.async false
set_option linter.all false
set_option maxRecDepth 100000
set_option maxHeartbeats 4000000
/-! KDs: tuple(d), list(d.values()) of a dict with text keys. -/
namespace Kt
open PySem PySem.Spec PyProof.Rows L2
section
variable {X : Cx}
theorem keys_vals {prog : Program} {w : World} {vs : List (Key × Value)} {us : List Value} (hl : us.length = vs.length) (h : ∀ (j : Nat) (v : Value), us[j]? = some v → ∃ k x, vs[j]? = some (k, x) ∧ (mixKind prog w).is k v = true) : Vals (vs.map fun p => kV p.1) us := by
  refine vals_of_at (by rw [List.length_map, hl]) fun j x u hx hu => ?_
  obtain ⟨k, y, e, q⟩ := h j u hu
  rw [List.getElem?_map, e] at hx
  cases hx
  exact keyIs_rel q
theorem pair_get {α β : Type} {F : α → β → Prop} : ∀ {l1 : List α} {l2 : List β} {i : Nat} {x : α}, Paired F l1 l2 → l1[i]? = some x → ∃ y, l2[i]? = some y ∧ F x y
  | _, _, i, x, .nil, h => by simp at h
  | _, _, 0, x, .cons f r, h => by
    simp at h
    subst h
    exact ⟨_, rfl, f⟩
  | _, _, i + 1, x, .cons f r, h => by
    obtain ⟨y, hy, g⟩ := pair_get (i := i) r (by simpa using h)
    exact ⟨y, by simpa using hy, g⟩
theorem call_tupleD (hcalm : X.calm = true) : CallR X (.type "tuple") (fun xs H Q => ∃ (a : Addr) (kvs : List (Key × V)), xs = [.ref a] ∧ Rd H a (.dK kvs) ∧ ∀ p, H p = none → Q (.ref p) (upd H p (.tup (kvs.map fun kv => kV kv.1)))) := by
  intro pins s σ H xs us Q I r q
  obtain ⟨a, kvs, ex, hd, q⟩ := q
  subst ex
  obtain ⟨u, eu, rx⟩ := vals1 r
  subst eu
  cases rx
  obtain ⟨z, lo, vs, rel, dd⟩ := dk_rd I.hok hd
  obtain ⟨ep, hat⟩ := dd.dictAt
  have ek : (kvs.map fun kv => kV kv.1) = vs.map fun p => kV p.1 := by
    have e := congrArg (List.map kV) rel.keys
    rw [List.map_map, List.map_map] at e
    exact e
  have hh : X.A.handled = none := I.ok.hd hcalm
  have zl : vs.length ≤ sizeLine := by rw [← rel.length]; exact z
  refine callType_codes (Q₁ := fun obj s₁ => s₁.TypeIs obj "tuple" ∧ EP X pins σ Q obj s₁) F.called_tuple (F.typeCall_tuple_1 _) F.entry_object_init ?_ fun obj s₁ h₁ => ?_
  · refine codeAny_of_tree ?_
    show wpAny _ X.A.in1.in1 (do checkBuiltinCall "tuple.__new__" ⟨[.type "tuple", .ref a], []⟩; again (.builtin "tuple.__new__" ⟨[.type "tuple", .ref a], []⟩)) _ _ s
    refine wpAny_bind (wpAny_of_eq (F.newCall_tuple_1 _) (wpAny_pure ⟨plainId_quiet F.plain_tuple_new _, codeAny_builtin F.entry_tuple_new ?_⟩))
    rw [Around.under_plainId F.plain_tuple_new _]
    have hsub := sub_tuple_self
    have hinit := init_tuple_lookup
    have hmh := madeHere_tuple
    have hTI : s.TypeIs (.ref a) "dict" := dd.typeIs
    wp_walk using wpAny_typeOf hTI, PySem.W.kdu_collect (A := X.A.in1.in1) (PySem.W.kdl_dict (knd := mixKind X.prog X.w) (kvs := vs) (ep := ep) lo) hh hat zl
    intro h' tk acc hk hacc
    have hv : Vals (vs.map fun p => kV p.1) acc.toList := keys_vals (prog := X.prog) (w := X.w) (by rw [Array.length_toList]; exact hacc.1) fun j v e => hacc.2 j v (by rw [← Array.getElem?_toList]; exact e)
    show wpAny _ _ (Builtin.Tuple.tupleExact acc.toList.toArray >>= fun v => ret v) _ _ _
    unfold Builtin.Tuple.tupleExact
    refine wpAny_bind (wpAny_newObj_type ?_ (by show acc.toList.toArray.size ≤ sizeLine; simp only [Array.toArray_toList]; rw [hacc.1]; exact zl))
    refine wpAny_pure ?_
    have I1 : Inv X pins σ H { s with heap := h', toks := tk } := I.kept (t' := tk) hk
    have I2 : Inv X pins σ (upd H h'.objs.size (.tup (kvs.map fun kv => kV kv.1))) { s with heap := h'.push { cls := .type "tuple", data := .seq acc.toList.toArray }, toks := tk } :=
      I1.laid (t' := tk) (fun b o e => Heap.get?_push_of_some _ e) (Nat.le_refl _) (show ObjOk X.prog X.w _ _ _ (.tup (kvs.map fun kv => kV kv.1)) from ⟨by rw [List.length_map]; exact z, acc.toList, by rw [ek]; exact hv, IsTup.new _ _⟩)
    exact ⟨⟨_, Heap.get?_push_size _ rfl, rfl⟩, .ref h'.objs.size, _, I2, rfl, q _ (I1.hok.fresh (Nat.le_refl _))⟩
  · exact ⟨h₁.1, F.args_object_init_2 obj _, object_init_meets F.called_tuple.init.lookup F.called_tuple.made (by decide) X.prog X.w X.A.in1 _ s₁ ⟨h₁.1, rfl, h₁.2⟩⟩
def tLVals (td : TE) : TE := fun σ H Q => td σ H fun x H1 => ∃ (a : Addr) (kvs : List (Key × V)), x = .ref a ∧ Rd H1 a (.dK kvs) ∧ ∀ p, H1 p = none → Q (.ref p) (upd H1 p (.lst (kvs.map (·.2))))
theorem pe_listVals {e : Expr} {td : TE} {p apos cpos pos : Pos} (hcalm : X.calm = true) (hg : Gl X "list") (hm : X.mg "list" = none) (he : PE X e td)
    (hbase : attributeBase e "values" X.env (eval e X.env) = eval e X.env := by rfl) (hline : (apos.endLine == cpos.line) = true := by rfl)
    (na : starEach [.Call (.Attribute e "values" apos) [] [] cpos] X.env = (false, eval (.Call (.Attribute e "values" apos) [] [] cpos) X.env) :: starEach [] X.env := by rfl) :
    PE X (.Call (.Name "list" p) [.Call (.Attribute e "values" apos) [] [] cpos] [] pos) (tLVals td) := by
  refine ⟨fun pins s σ H Q I h => ?_⟩
  refine Call_ (ld_blt I hg hm boot_list (callWith_type1 (args_cons ?_ na) na))
  refine wpAny_Call_method (T := "dict") (id := "dict.values") hbase rfl hline F.plainAttrs_dict F.slot_dict_values F.type_dict_values (thn (he.run pins s σ H _ I h) fun u s1 ⟨x, H1, I1, rx, d, kvs, ex, hd, q⟩ => ?_)
  subst ex
  obtain rfl : u = Value.ref d := rx
  obtain ⟨z, lo, vs, rel, dd⟩ := dk_rd I1.hok hd
  obtain ⟨ep, hat⟩ := dd.dictAt
  refine ⟨dd.typeIs, dd.mapOf.noDict, ?_⟩
  show wpAny _ _ (callWith cpos (.builtin "dict.values") [.ref d] [] []) _ X.xe s1
  refine method_meetsIn F.slot_dict_values F.entry_dict_values rfl (PySem.evalArgs_none ⟨rfl, dd.typeIs, F.args_dict_values_1 _, _, meets_dict_values (mixKind X.prog X.w) d lo, ⟨vs, dd⟩, ?_⟩)
  refine args_nil ?_
  have I2 : Inv X pins σ H1 { s1 with heap := s1.heap.push { cls := .type "dict_values", data := .fields #[.ref d] } } := I1.kept (t' := s1.toks) fun b ob q => Heap.get?_push_of_some _ q
  refine PySem.W.kdl_call (PySem.W.kdl_values (knd := mixKind X.prog X.w) (kvs := vs) (ep := ep) (d := d)) (I2.ok.hd hcalm) ⟨⟨_, Heap.get?_push_size _ rfl, rfl, rfl⟩, hat.push _⟩ (by rw [← rel.length]; exact z) fun h' tk acc c' hk hD hacc => ?_
  have hv : Vals (kvs.map (·.2)) acc.toList := by
    refine vals_of_at (by rw [List.length_map]; exact (Paired.length rel).trans (hacc.1.symm.trans Array.length_toList.symm)) fun j x u hx hu => ?_
    obtain ⟨k, e⟩ := hacc.2 j u (by rw [← Array.getElem?_toList]; exact hu)
    rw [List.getElem?_map] at hx
    cases ej : kvs[j]? with
    | none => rw [ej] at hx; cases hx
    | some y =>
      rw [ej] at hx
      cases hx
      obtain ⟨w', e2, rr⟩ := pair_get rel ej
      rw [e] at e2
      cases e2
      exact rr.2
  refine ⟨.ref (s1.heap.push { cls := .type "dict_values", data := .fields #[.ref d] }).objs.size, upd H1 _ (.lst (kvs.map (·.2))), I2.laid (t' := tk) hk (Nat.le_refl _)
    (show ObjOk X.prog X.w _ _ _ (.lst (kvs.map (·.2))) from ⟨by rw [List.length_map]; exact z, acc.toList, c', hv, by rw [Array.toArray_toList]; exact hD⟩), rfl, q _ (I2.hok.fresh (Nat.le_refl _))⟩
end
end Kt
end -- KDs
section -- KDc
set_option Elab.async false
set_option linter.all false
set_option maxRecDepth 100000
set_option maxHeartbeats 4000000
/-! KDc: x = {k: v for ..} at a name. -/
namespace Kt
open PySem PySem.Spec PyProof.Rows L2
section
variable {X : Cx}
theorem swD_true {kx vx : Expr} {gs : List Comprehension} {scope : Scope} {pos py : Pos} {y : Str} {l : Nat} {env : Env} (hk : env.scope.kind = .function) (hy : env.scope.names.lookup y = some .local) (hl : (py.line == pos.line) = true)
    (ha : (scope.names.any fun (n, k) => n == y && (k == .local || k == .cell)) = false) : swapsWith (.DictComp kx vx gs scope pos) (some (.Name y py)) l env = pure true := by
  have ky : env.kindOf y = some .local := hy
  have hb : env.blockKind = .function := by unfold Env.blockKind; rw [hk]; rfl
  unfold swapsWith
  simp only [hb, ky, ha, Expr.pos, hl]
  rfl
theorem ps_setDc {i : Nat} {y : Str} {py : Pos} {kx vx tg iter : Expr} {ifs : List Expr} {scope : Scope} {own : List (Str × Nat)} {pos spos : Pos} {wi : TI} {g : TG} {tt : TT} {tk tv : TE} (hc : X.calm = true) (hN : X.N.Nodup) (hy : X.N[i]? = some y) (hyl : X.env.scope.names.lookup y = some .local)
    (hsw : swapsWith (.DictComp kx vx [⟨tg, iter, ifs, 0⟩] scope pos) (some (.Name y py)) spos.line X.env = pure true) (hi : PI X tg iter wi) (ok : BlkOk X.N X.env.scope scope own)
    (hg : ∀ (s : Shared) (H : Hp) (C : Addr) (cl : List (Str × Addr)) (fp : List Addr), PG (X.blk s H scope (compEnvC scope cl C X.env) fp) tg g) (ht : ∀ (s : Shared) (H : Hp) (C : Addr) (cl : List (Str × Addr)) (fp : List Addr), PTs (X.blk s H scope (compEnvC scope cl C X.env) fp) ifs tt)
    (hk : ∀ (s : Shared) (H : Hp) (C : Addr) (cl : List (Str × Addr)) (fp : List Addr), PE (X.blk s H scope (compEnvC scope cl C X.env) fp) kx tk)
    (he : ∀ (s : Shared) (H : Hp) (C : Addr) (cl : List (Str × Addr)) (fp : List Addr), PE (X.blk s H scope (compEnvC scope cl C X.env) fp) vx tv) (hs : ∀ x, foldedSetIterable iter X.env x = pure x := by intro _; rfl) :
    PS X (.Assign [.Name y py] (.DictComp kx vx [⟨tg, iter, ifs, 0⟩] scope pos) spos) (tAsg (tDc wi g tt tk tv (own.map (·.2))) (gName i)) := by
  refine ⟨fun pins s σ H D I h => ?_⟩
  rw [exec_Assign_Name_used _ _ _ _ hsw]
  refine wpAny_bind (wpAny_standAt (wpAny_bind ?_))
  show wpAny _ X.A (do let _ ← comprehension (.DictComp kx vx [⟨tg, iter, ifs, 0⟩] scope pos) scope X.env (firstIterPos [⟨tg, iter, ifs, 0⟩] pos) newDict false (eval iter X.env) (some (assign (.Name y py) X.env))) _ _ s
  have h : tDc wi g tt tk tv (own.map (·.2)) σ H (fun x H1 => gName i x σ H1 D.nx) := h
  refine wpAny_bind (thn (dc_core (Qf := fun _ s' => SP X pins D .next s') hc hN I hi ok hg ht hk he hs h fun L C s' m H' I' q hn f => ?_) fun _ s' hq => wpAny_pure (wpAny_pure hq))
  show wpAny _ _ (assign (.Name y py) X.env (.ref L)) _ _ _
  refine wpAny_assign_Name (store_ok2 (v := V.ref L) I' hN hy (.inl hyl) rfl (fun s2 I2 ⟨a, sb, ha⟩ => ?_) (.inr hyl))
  obtain ⟨f0, f1, f2, f3, f4, f5⟩ := f
  have haC : C ≠ a := by
    rcases ha with z | z
    · rw [z]; exact f1
    · exact fun e => f4 y a z e.symm
  refine ⟨m, hn.sameBut sb haC, fun h3 sb3 => ?_⟩
  exact ⟨_, H', I2.turned (t' := s2.toks) (fun b o hb e => (sb3.2 b hb).trans e) f0 f1 f3 f4 f5, q⟩
end
end Kt
end -- KDc
section -- KCk
set_option Elab.async false
set_option linter.all false
set_option maxRecDepth 100000
set_option maxHeartbeats 4000000
/-! KCk: Checker, but for count_statements. -/
namespace Kt
open PySem L2
def flCk (n : Int) (vt nt : Addr) : List (Str × V) := [("_bound", .int n), ("_variables", .ref vt), ("_names", .ref nt)]
theorem flCk_bound {n : Int} {vt nt : Addr} : (flCk n vt nt).lookup ("_bound" : Str) = some (.int n) := by unfold flCk; exact lk_hit
theorem flCk_variables {n : Int} {vt nt : Addr} : (flCk n vt nt).lookup ("_variables" : Str) = some (.ref vt) := by unfold flCk; exact (lk_skip (by decide +kernel)).trans lk_hit
theorem flCk_names {n : Int} {vt nt : Addr} : (flCk n vt nt).lookup ("_names" : Str) = some (.ref nt) := by unfold flCk; exact (lk_skip (by decide +kernel)).trans ((lk_skip (by decide +kernel)).trans lk_hit)
theorem flCk_m (f : Str) {n : Int} {vt nt : Addr} (h1 : (f == ("_bound" : Str)) = false) (h2 : (f == ("_variables" : Str)) = false) (h3 : (f == ("_names" : Str)) = false) : (flCk n vt nt).lookup f = none := by
  unfold flCk
  rw [lk_skip h1, lk_skip h2, lk_skip h3]
  rfl
/-- a checker -/
def CkA (a : Ad) (H : Hp) (c : Addr) (w : Nat) (vars ns : List Str) : Prop := ∃ dx vt nt, H c = some (.ins a.c_Checker dx (flCk (2 ^ w) vt nt)) ∧ H vt = some (.tup (vars.map V.str)) ∧ H nt = some (.tup (ns.map V.str))
theorem CkA.mono {a : Ad} {H H' : Hp} {c : Addr} {w : Nat} {vars ns : List Str} (h : CkA a H c w vars ns) (s : Same H H') : CkA a H' c w vars ns :=
  let ⟨dx, vt, nt, h1, h2, h3⟩ := h
  ⟨dx, vt, nt, s _ _ h1, s _ _ h2, s _ _ h3⟩
theorem inV_str (x : Str) (l : List Str) : inV (.str x) (l.map V.str) = decide (x ∈ l) := by
  induction l with
  | nil => rfl
  | cons y r ih =>
    have e : inV (.str x) ((y :: r).map V.str) = ((y == x) || inV (.str x) (r.map V.str)) := rfl
    rw [e, ih]
    by_cases h : y = x
    · subst h; simp
    · have h1 : (y == x) = false := by simpa using h
      have h2 : ¬ x = y := fun z => h z.symm
      rw [h1, Bool.false_or]
      congr 1
      simp [h2]
theorem all_flat (l : List Str) : (l.map V.str).all flatV = true := by
  rw [List.all_eq_true]
  intro v hv
  obtain ⟨x, _, rfl⟩ := List.mem_map.mp hv
  rfl
theorem inV_at {x : Str} {b : At} (h : b.free x) : eqV b.v (.str x) = false := by
  cases b with
  | num i => rfl
  | var y =>
    show (y == x) = false
    exact beq_eq_false_iff_ne.mpr (fun z => h z.symm)
theorem flat_at (b : At) : flatV b.v = true := by cases b <;> rfl
section
variable {K : PySem.W.Frag} {H : Hp} {Q : VK} {x : V}
theorem w_inK {p : Addr} {xs : List V} (h : SqT K H p xs) (hx : flatV x = true) (hy : xs.all flatV = true) (q : Q (.bl (inV x xs)) H) : rIn K false x (.ref p) H Q := ⟨p, xs, rfl, .inr h, hx, hy, q⟩
theorem w_ninK {p : Addr} {xs : List V} (h : SqT K H p xs) (hx : flatV x = true) (hy : xs.all flatV = true) (q : Q (.bl (!inV x xs)) H) : rIn K true x (.ref p) H Q := ⟨p, xs, rfl, .inr h, hx, hy, q⟩
end
/-- a value that may be an atom, and whether it is one -/
def AtQ (vars : List Str) (n : Int) (H : Hp) (x : V) (b : Bool) : Prop := (∃ t : At, x = t.v ∧ t.ok vars n ∧ b = true) ∨ (∃ p xs, x = .ref p ∧ H p = some (.tup xs) ∧ b = false)
def spCkInit (a : Ad) : Sp := fun vs H Q _ => ∃ (c dx : Addr) (w : Nat) (vt nt : Addr), vs = [.ref c, .int (w : Nat), .ref vt, .ref nt] ∧ H c = some (.ins a.c_Checker dx []) ∧ w ≤ 8 ∧ Q .non (upd H c (.ins a.c_Checker dx (flCk (2 ^ w) vt nt)))
def spIsAtom (a : Ad) : Sp := fun vs H Q _ => ∃ (c : Addr) (w : Nat) (vars ns : List Str) (x : V) (b : Bool), vs = [.ref c, x] ∧ CkA a H c w vars ns ∧ AtQ vars (2 ^ w) H x b ∧ Q (.bl b) H
def spIsVar (a : Ad) : Sp := fun vs H Q _ => ∃ (c : Addr) (w : Nat) (vars ns : List Str) (x : Str), vs = [.ref c, .str x] ∧ CkA a H c w vars ns ∧ x ∈ vars ∧ Q (.bl true) H
def spIsPair (a : Ad) (K : PySem.W.Frag) : Sp := fun vs H Q _ => ∃ (c p sp : Addr) (w : Nat) (vars ns : List Str) (g : Str) (x y : At) (l : List Str), vs = [.ref c, .ref p, .ref sp] ∧ CkA a H c w vars ns ∧ H p = some (.tup [.str g, x.v, y.v]) ∧ SqT K H sp (l.map V.str) ∧ g ∈ l ∧ x.ok vars (2 ^ w) ∧ y.ok vars (2 ^ w) ∧ Q (.bl true) H
def spAtoms : Sp := fun vs H Q _ => ∃ (e : Ex) (v : V), vs = [v] ∧ ExV H v e ∧ ∀ H' r xs, Same H H' → H' r = some (.tup xs) → xs.all flatV = true → (∀ z, e.free z → inV (.str z) xs = false) → Q (.ref r) H'
def spIsChange (a : Ad) : Sp := fun vs H Q _ => ∃ (c : Addr) (w : Nat) (vars ns : List Str) (v : V) (p : Pr), vs = [.ref c, v] ∧ CkA a H c w vars ns ∧ PrV H v p ∧ p.ok vars (2 ^ w) ∧ p.w ∈ chgL ∧ ∀ H', Same H H' → Q (.bl true) H'
/-- the first statement of a body is right -/
def HdOk (vars : List Str) (n : Int) (ns : List Str) : Body → Prop
  | .nil => False
  | .pr p _ => p.ok vars n
  | .cl _ q _ => q ∈ ns ∧ q ≠ "main"
  | .ite c d _ _ _ => c.ok vars n ∧ d.ok vars n
  | .lp c d _ _ _ => c.ok vars n ∧ d.ok vars n
def spIsStmt (a : Ad) : Sp := fun vs H Q _ => ∃ (c : Addr) (w : Nat) (vars ns : List Str) (v : V) (ys : List V) (b : Body), vs = [.ref c, v] ∧ CkA a H c w vars ns ∧ BdV H (v :: ys) b ∧ HdOk vars (2 ^ w) ns b ∧ ∀ H', Same H H' → Q (.bl true) H'
section
variable {P : Program} {w : World} {K : PySem.W.Frag} {mg : Str → Option Value} {base : Heap} {a : Ad}
local macro_rules | `(tactic| tm_at "g") => `(tactic| repeat (first
  | with_reducible refine w_seq ?_ | with_reducible refine w_if ?_ | with_reducible refine w_tB ?_ | with_reducible refine w_tTest ?_ | with_reducible refine w_asg ?_ | with_reducible refine w_name ?_
  | with_reducible refine w_ret ?_ | with_reducible refine w_next ?_ | with_reducible refine w_op ?_ | with_reducible refine w_c ?_ | with_reducible refine w_cb ?_ | with_reducible refine w_call ?_ | with_reducible refine w_cons ?_ | with_reducible refine w_nil ?_
  | with_reducible refine w_var (by with_unfolding_all rfl) ?_
  | with_reducible refine w_rI0 ?_ | with_reducible refine w_eq (by with_unfolding_all rfl) ?_ | with_reducible refine w_ne (by with_unfolding_all rfl) ?_
  | with_reducible refine w_test ?_ | with_reducible refine w_T ?_ | with_reducible refine w_F ?_ | with_reducible refine w_T0 ?_ | with_reducible refine w_F0 ?_
  | with_reducible refine w_and ?_ | with_reducible refine w_or ?_ | with_reducible refine w_not ?_ | with_reducible refine w_ifE ?_ | with_reducible refine w_drop ?_
  | with_reducible refine w_andV ?_ | with_reducible refine w_orV ?_ | with_reducible refine w_notV ?_ | with_reducible refine w_dget ?_ | with_reducible refine w_din ?_ | with_reducible refine w_dnin ?_ | with_reducible refine w_fld ?_
  | with_reducible refine w_ttup ?_ | with_reducible refine w_tlst ?_ | with_reducible refine w_un ?_ | with_reducible refine w_rU ?_ | with_reducible refine w_gcons ?_ | with_reducible refine w_gnil ?_ | with_reducible refine w_sub ?_ | with_reducible refine w_sl ?_ | with_reducible refine w_nopart ?_ | with_reducible refine w_part ?_ | with_reducible refine w_int ?_ | with_reducible refine w_meth ?_
  | with_reducible refine w_make ?_ | with_reducible refine w_dput ?_ | with_reducible refine w_sfld ?_ | with_reducible refine w_bm ?_ | with_reducible refine w_bm0 ?_ | with_reducible refine w_isN ?_ | with_reducible refine w_notT ?_ | with_reducible refine w_forR ?_ | with_reducible refine w_forL ?_ | with_reducible refine w_forT ?_ | with_reducible refine w_fldaug ?_ | with_reducible refine w_radd ?_ | with_reducible refine w_par ?_ | with_reducible refine w_pair ?_
  | with_reducible refine w_lcR ?_ | with_reducible refine w_dcR ?_ | with_reducible refine w_lcL ?_ | with_reducible refine w_lcT ?_ | with_reducible refine w_dcT ?_ | with_reducible refine w_yes ?_ | with_reducible refine w_chain ?_))

theorem sc_Checker_init : FnScope ["self", "width", "variables", "names"] ["self", "width", "variables", "names"] (defScope s_Checker_init) := ⟨rfl, rfl, rfl, by decide +kernel, rfl, by decide +kernel, by decide +kernel⟩
theorem flCk_new {n : Int} {vt nt : Addr} : putF "_names" (.ref nt) (putF "_variables" (.ref vt) (putF "_bound" (.int n) [])) = flCk n vt nt := by
  repeat (first | rw [putF_nil] | rw [putF_ne (by decide +kernel)])
  rfl
theorem ok_ckinit (T : Tx w K mg a) : FnOk P w K mg base CX0 1 a.f_Checker_init a.d_Checker_init ["self", "width", "variables", "names"] (spCkInit a) := by
  refine T.F_Checker_init.ok sc_Checker_init (fun vs H Q E h => ?_) (fun cdv A outer s H vs Q E hr h => ?_)
  · obtain ⟨c, dx, n, vt, nt, rfl, _⟩ := h
    rfl
  · obtain ⟨c, dx, n, vt, nt, rfl, hc, h8, q⟩ := h
    have hu := hu_of hr
    have cp : CPow 1 ((n : Nat) : Int) := ⟨by omega, by omega, by decide⟩
    have e2 : (1 * 2 ^ ((n : Nat) : Int).toNat : Int) = 2 ^ n := by rw [Int.one_mul, Int.toNat_natCast]
    refine ⟨_, (pss_cons (ps_fld (pv 0) (pe_op op_shl pe_int (pv 1)) rfl)
    (pss_cons (ps_fld (pv 0) (pv 2) rfl)
    (pss_one (ps_fld (pv 0) (pv 3) rfl)))), ?_⟩
    tm_at "g"
    refine w_rI cp ?_
    rw [e2]
    tm_at "g"
    refine w_sobj hc T.cl_Checker T.na_Checker__bound (by show 0 < 1000; decide) ?_
    tm_at "g"
    refine w_sobj upd_same T.cl_Checker T.na_Checker__variables (by show 1 < 1000; decide) ?_
    rw [upd_upd]
    tm_at "g"
    refine w_sobj upd_same T.cl_Checker T.na_Checker__names (by show 2 < 1000; decide) ?_
    rw [upd_upd, flCk_new]
    exact q
theorem sc_Checker__is_atom : FnScope ["self", "value"] ["self", "value"] (defScope s_Checker__is_atom) := ⟨rfl, rfl, rfl, by decide +kernel, rfl, by decide +kernel, by decide +kernel⟩
theorem ok_is_atom (T : Tx w K mg a) : FnOk P w K mg base CX0 2 a.f_Checker__is_atom a.d_Checker__is_atom ["self", "value"] (spIsAtom a) := by
  have G_is_number : FnOk P w K mg base CX0 1 _ _ _ spIsNum := ok_is_number T
  refine T.F_Checker__is_atom.ok sc_Checker__is_atom (fun vs H Q E h => ?_) (fun cdv A outer s H vs Q E hr h => ?_)
  · obtain ⟨c, n, vars, ns, x, b, rfl, _⟩ := h
    rfl
  · obtain ⟨c, n, vars, ns, x, b, rfl, hc, hx, q⟩ := h
    have hu := hu_of hr
    obtain ⟨dx, vt, nt, h1, h2, h3⟩ := hc
    refine ⟨_, (pss_one (ps_ret (pe_or (pe_call G_is_number (hr.mono (by decide)) rfl T.g_is_number T.F_is_number.kp T.b_is_number .nil pass0 (pa_cons (pv 1) (pa_cons (pe_fld (pv 0) rfl) pa_nil))) (pe_one (pe_and (pe_callB call_is (by rfl) T.z_isinstance (by decide +kernel) (pa_cons (pv 1) (pa_cons (pe_bltn (v := .ty "str") rfl T.z_str (by decide +kernel) rfl) pa_nil))) (pe_one (pe_cmpR op_in_seq (pv 1) (pe_fld (pv 0) rfl) rfl))))))), ?_⟩
    tm_at "g"
    refine w_obj h1 T.cl_Checker T.na_Checker__bound flCk_bound ?_
    tm_at "g"
    rcases hx with ⟨t, rfl, hok, rfl⟩ | ⟨p, xs, rfl, hp, rfl⟩
    · cases t with
      | num i =>
        refine ⟨_, _, "int", rfl, rfl, ?_⟩
        have e : isNum (2 ^ n) (At.num i).v = true := by
          obtain ⟨o1, o2⟩ := hok
          simp [isNum, At.v, o1, o2]
        rw [e]
        tm_at "g"
        exact q
      | var y =>
        refine ⟨_, _, "str", rfl, rfl, ?_⟩
        have e : isNum (2 ^ n) (At.var y).v = false := rfl
        rw [e]
        tm_at "g"
        refine w_is rfl k_str_str ?_
        tm_at "g"
        refine w_obj h1 T.cl_Checker T.na_Checker__variables flCk_variables ?_
        refine w_inT h2 rfl (all_flat _) ?_
        tm_at "g"
        have e2 : inV (At.var y).v (vars.map V.str) = true := by
          show inV (.str y) _ = true
          rw [inV_str]
          exact decide_eq_true hok
        rw [e2]
        exact q
    · refine ⟨_, _, "tuple", rfl, ⟨⟨_, hp⟩, rfl⟩, ?_⟩
      have e : isNum (2 ^ n) (.ref p) = false := rfl
      rw [e]
      tm_at "g"
      refine w_is ⟨⟨_, hp⟩, rfl⟩ k_tuple_str ?_
      tm_at "g"
      exact q
theorem sc_Checker__is_variable : FnScope ["self", "value"] ["self", "value"] (defScope s_Checker__is_variable) := ⟨rfl, rfl, rfl, by decide +kernel, rfl, by decide +kernel, by decide +kernel⟩
theorem ok_is_var (T : Tx w K mg a) : FnOk P w K mg base CX0 1 a.f_Checker__is_variable a.d_Checker__is_variable ["self", "value"] (spIsVar a) := by
  refine T.F_Checker__is_variable.ok sc_Checker__is_variable (fun vs H Q E h => ?_) (fun cdv A outer s H vs Q E hr h => ?_)
  · obtain ⟨c, n, vars, ns, x, rfl, _⟩ := h
    rfl
  · obtain ⟨c, n, vars, ns, x, rfl, hc, hx, q⟩ := h
    have hu := hu_of hr
    obtain ⟨dx, vt, nt, h1, h2, h3⟩ := hc
    refine ⟨_, (pss_one (ps_ret (pe_and (pe_callB call_is (by rfl) T.z_isinstance (by decide +kernel) (pa_cons (pv 1) (pa_cons (pe_bltn (v := .ty "str") rfl T.z_str (by decide +kernel) rfl) pa_nil))) (pe_one (pe_cmpR op_in_seq (pv 1) (pe_fld (pv 0) rfl) rfl))))), ?_⟩
    tm_at "g"
    refine w_is rfl k_str_str ?_
    tm_at "g"
    refine w_obj h1 T.cl_Checker T.na_Checker__variables flCk_variables ?_
    refine w_inT h2 rfl (all_flat _) ?_
    rw [inV_str, decide_eq_true hx]
    tm_at "g"
    exact q
theorem sc_Checker__is_pair : FnScope ["self", "value", "signs"] ["self", "value", "signs"] (defScope s_Checker__is_pair) := ⟨rfl, rfl, rfl, by decide +kernel, rfl, by decide +kernel, by decide +kernel⟩
theorem ok_is_pair (T : Tx w K mg a) : FnOk P w K mg base CX0 3 a.f_Checker__is_pair a.d_Checker__is_pair ["self", "value", "signs"] (spIsPair a K) := by
  have G_Checker__is_atom : FnOk P w K mg base CX0 2 _ _ _ (spIsAtom a) := ok_is_atom T
  refine T.F_Checker__is_pair.ok sc_Checker__is_pair (fun vs H Q E h => ?_) (fun cdv A outer s H vs Q E hr h => ?_)
  · obtain ⟨c, p, sp, n, vars, ns, g, x, y, l, rfl, _⟩ := h
    rfl
  · obtain ⟨c, p, sp, n, vars, ns, g, x, y, l, rfl, hc, hp, hl, hg, hx, hy, q⟩ := h
    have hu := hu_of hr
    obtain ⟨dx, vt, nt, h1, h2, h3⟩ := id hc
    refine ⟨_, (pss_cons (ps_if (PW.pt (pw_or (pt_not (pt_val (pe_callB call_is (by rfl) T.z_isinstance (by decide +kernel) (pa_cons (pv 1) (pa_cons (pe_bltn (v := .ty "tuple") rfl T.z_tuple (by decide +kernel) rfl) pa_nil))))) (pw_or (pt_cmpR op_ne (pe_callB cl_len (by rfl) T.z_len PySem.boot_len (pa_cons (pv 1) pa_nil)) pe_int (nomark _)) (pw_or (pt_not (pt_val (pe_callB call_is (by rfl) T.z_isinstance (by decide +kernel) (pa_cons (pe_ix ix_tup (pv 1) pe_int (fun _ _ => rfl)) (pa_cons (pe_bltn (v := .ty "str") rfl T.z_str (by decide +kernel) rfl) pa_nil))))) (pw_or1 (pt_cmpR op_notIn_seq (pe_ix ix_tup (pv 1) pe_int (fun _ _ => rfl)) (pv 2) rfl)))))) (pss_one (ps_ret pe_bl)) pss_nil)
    (pss_one (ps_ret (pe_and (pe_meth (pv 0) T.cl_Checker T.m_Checker__is_atom G_Checker__is_atom (hr.mono (by decide)) T.b_Checker__is_atom .nil pass0 (pa_cons (pe_ix ix_tup (pv 1) pe_int (fun _ _ => rfl)) pa_nil)) (pe_one (pe_meth (pv 0) T.cl_Checker T.m_Checker__is_atom G_Checker__is_atom (hr.mono (by decide)) T.b_Checker__is_atom .nil pass0 (pa_cons (pe_ix ix_tup (pv 1) pe_int (fun _ _ => rfl)) pa_nil))))))), ?_⟩
    tm_at "g"
    refine w_is ⟨⟨_, hp⟩, rfl⟩ k_tuple_tuple ?_
    tm_at "g"
    refine w_lenT hp ?_
    tm_at "g"
    refine w_nF rfl ?_
    tm_at "g"
    refine w_ixT hp (atI_nat (j := 0) rfl) ?_
    tm_at "g"
    refine w_is rfl k_str_str ?_
    tm_at "g"
    refine w_ixT hp (atI_nat (j := 0) rfl) ?_
    tm_at "g"
    refine w_ninK hl rfl (all_flat _) ?_
    rw [inV_str, decide_eq_true hg]
    tm_at "g"
    refine w_mobj h1 (flCk_m _ (by decide +kernel) (by decide +kernel) (by decide +kernel)) ?_
    tm_at "g"
    refine w_ixT hp (atI_nat (j := 1) rfl) ?_
    tm_at "g"
    refine ⟨c, n, vars, ns, _, true, rfl, hc, .inl ⟨x, rfl, hx, rfl⟩, ?_⟩
    tm_at "g"
    refine w_mobj h1 (flCk_m _ (by decide +kernel) (by decide +kernel) (by decide +kernel)) ?_
    tm_at "g"
    refine w_ixT hp (atI_nat (j := 2) rfl) ?_
    tm_at "g"
    exact ⟨c, n, vars, ns, _, true, rfl, hc, .inl ⟨y, rfl, hy, rfl⟩, q⟩
theorem sc_atoms_of : FnScope ["expression"] ["expression"] (defScope s_atoms_of) := ⟨rfl, rfl, rfl, by decide +kernel, rfl, by decide +kernel, by decide +kernel⟩
theorem ok_atoms_of (T : Tx w K mg a) : FnOk P w K mg base CX0 1 a.f_atoms_of a.d_atoms_of ["expression"] spAtoms := by
  refine T.F_atoms_of.ok sc_atoms_of (fun vs H Q E h => ?_) (fun cdv A outer s H vs Q E hr h => ?_)
  · obtain ⟨e, v, rfl, _⟩ := h
    rfl
  · obtain ⟨e, v, rfl, he, q⟩ := h
    have hu := hu_of hr
    refine ⟨_, (pss_cons (ps_if (pt_val (pe_callB call_is (by rfl) T.z_isinstance (by decide +kernel) (pa_cons (pv 0) (pa_cons (pe_bltn (v := .ty "tuple") rfl T.z_tuple (by decide +kernel) rfl) pa_nil)))) (pss_one (ps_ret (pe_slice sl_tupA (pv 0) (po_some pe_int) po_none))) pss_nil)
    (pss_one (ps_ret (pe_tup (pa_cons (pv 0) pa_nil))))), ?_⟩
    cases e with
    | at_ b =>
      obtain rfl : v = b.v := he
      have ty : ∃ t, tyN H b.v t ∧ kitB t "tuple" = some false := by
        cases b with
        | num i => exact ⟨_, rfl, k_int_tuple⟩
        | var x => exact ⟨_, rfl, k_str_tuple⟩
      obtain ⟨t, h1, h2⟩ := ty
      tm_at "g"
      refine w_is h1 h2 ?_
      tm_at "g"
      refine w_lay (by show 1 ≤ 100000; decide) fun r H1 s1 n1 g1 => ?_
      refine q H1 r _ s1 g1 ?_ (fun z hz => ?_)
      · simp [flat_at]
      · show ([b.v].any fun y => eqV y (.str z)) = false
        simp only [List.any_cons, List.any_nil, Bool.or_false]
        exact inV_at hz
    | bin g b c =>
      obtain ⟨p, rfl, hp⟩ := he
      tm_at "g"
      refine w_is ⟨⟨_, hp⟩, rfl⟩ k_tuple_tuple ?_
      tm_at "g"
      refine w_sl1 hp fun r H1 s1 n1 g1 => ?_
      tm_at "g"
      refine q H1 r _ s1 g1 ?_ (fun z hz => ?_)
      · simp [flat_at]
      · show ([b.v, c.v].any fun y => eqV y (.str z)) = false
        simp only [List.any_cons, List.any_nil, Bool.or_false]
        rw [inV_at hz.1, inV_at hz.2]
        rfl
theorem sc_Checker__is_change : FnScope ["self", "statement"] ["self", "statement"] (defScope s_Checker__is_change) := ⟨rfl, rfl, rfl, by decide +kernel, rfl, by decide +kernel, by decide +kernel⟩
theorem ok_is_change (T : Tx w K mg a) : FnOk P w K mg base CX0 4 a.f_Checker__is_change a.d_Checker__is_change ["self", "statement"] (spIsChange a) := by
  have G_Checker__is_atom : FnOk P w K mg base CX0 2 _ _ _ (spIsAtom a) := ok_is_atom T
  have G_Checker__is_variable : FnOk P w K mg base CX0 1 _ _ _ (spIsVar a) := ok_is_var T
  have G_Checker__is_pair : FnOk P w K mg base CX0 3 _ _ _ (spIsPair a K) := ok_is_pair T
  have G_atoms_of : FnOk P w K mg base CX0 1 _ _ _ spAtoms := ok_atoms_of T
  refine T.F_Checker__is_change.ok sc_Checker__is_change (fun vs H Q E h => ?_) (fun cdv A outer s H vs Q E hr h => ?_)
  · obtain ⟨c, n, vars, ns, v, p, rfl, _⟩ := h
    rfl
  · obtain ⟨c, n, vars, ns, v, p, rfl, hc, hp, hok, hw, q⟩ := h
    have hu := hu_of hr
    obtain ⟨dx, vt, nt, h1, h2, h3⟩ := id hc
    obtain ⟨qa, ov, rfl, hq, hov⟩ := hp
    obtain ⟨hx, ho⟩ := hok
    have ho2 : p.o.ok vars (2 ^ n) ∧ p.o.free p.x := by
      rcases ho with ⟨_, a, b⟩ | ⟨e, _⟩
      · exact ⟨a, b⟩
      · rw [e] at hw
        exact absurd hw (by decide +kernel)
    refine ⟨_, (pss_cons (ps_if (PW.pt (pw_or (pt_cmpR op_ne (pe_callB cl_len (by rfl) T.z_len PySem.boot_len (pa_cons (pv 1) pa_nil)) pe_int (nomark _)) (pw_or1 (pt_not (pt_val (pe_meth (pv 0) T.cl_Checker T.m_Checker__is_variable G_Checker__is_variable (hr.mono (by decide)) T.b_Checker__is_variable .nil pass0 (pa_cons (pe_ix ix_tup (pv 1) pe_int (fun _ _ => rfl)) pa_nil))))))) (pss_one (ps_ret pe_bl)) pss_nil)
    (pss_cons (ps_if (PW.pt (pw_and (pt_not (pt_val (pe_meth (pv 0) T.cl_Checker T.m_Checker__is_atom G_Checker__is_atom (hr.mono (by decide)) T.b_Checker__is_atom .nil pass0 (pa_cons (pe_ix ix_tup (pv 1) pe_int (fun _ _ => rfl)) pa_nil)))) (pw_and1 (pt_not (pt_val (pe_meth (pv 0) T.cl_Checker T.m_Checker__is_pair G_Checker__is_pair (hr.mono (by decide)) T.b_Checker__is_pair .nil pass0 (pa_cons (pe_ix ix_tup (pv 1) pe_int (fun _ _ => rfl)) (pa_cons (pe_glob (v := .ref a.k_OPERATORS) rfl T.g_OPERATORS rfl) pa_nil)))))))) (pss_one (ps_ret pe_bl)) pss_nil)
    (pss_one (ps_ret (pe_cmpR op_notIn_seq (pe_ix ix_tup (pv 1) pe_int (fun _ _ => rfl)) (pe_call G_atoms_of (hr.mono (by decide)) rfl T.g_atoms_of T.F_atoms_of.kp T.b_atoms_of .nil pass0 (pa_cons (pe_ix ix_tup (pv 1) pe_int (fun _ _ => rfl)) pa_nil)) rfl))))), ?_⟩
    tm_at "g"
    refine w_lenT hq ?_
    tm_at "g"
    refine w_nF rfl ?_
    tm_at "g"
    refine w_mobj h1 (flCk_m _ (by decide +kernel) (by decide +kernel) (by decide +kernel)) ?_
    tm_at "g"
    refine w_ixT hq (atI_nat (j := 1) rfl) ?_
    tm_at "g"
    refine ⟨c, n, vars, ns, p.x, rfl, hc, hx, ?_⟩
    tm_at "g"
    refine w_mobj h1 (flCk_m _ (by decide +kernel) (by decide +kernel) (by decide +kernel)) ?_
    tm_at "g"
    refine w_ixT hq (atI_nat (j := 2) rfl) ?_
    tm_at "g"
    obtain ⟨bb, hbb, hcont⟩ : ∃ bb, AtQ vars (2 ^ n) H ov bb ∧ (bb = false → ∃ g x y r, p.o = .bin g x y ∧ ov = .ref r ∧ H r = some (.tup [.str g, x.v, y.v])) := by
      cases eo : p.o with
      | at_ b =>
        rw [eo] at hov ho2
        exact ⟨true, .inl ⟨b, hov, ho2.1, rfl⟩, fun z => by cases z⟩
      | bin g x y =>
        rw [eo] at hov ho2
        obtain ⟨r, rfl, hr⟩ := hov
        exact ⟨false, .inr ⟨r, _, rfl, hr, rfl⟩, fun _ => ⟨g, x, y, r, rfl, rfl, hr⟩⟩
    refine ⟨c, n, vars, ns, _, bb, rfl, hc, hbb, ?_⟩
    tm_at "g"
    have fin : rIxT K (.ref qa) (.int 1) H fun x H1 => tCall spAtoms [] E0 (tCons (tOp (rIxT K) (tVar 1) (tC (.int 2))) tNil) (start ["self", "statement"] [.ref c, .ref qa]) H1 fun y H2 => rIn K true x y H2 Q := by
      refine w_ixT hq (atI_nat (j := 1) rfl) ?_
      tm_at "g"
      refine w_ixT hq (atI_nat (j := 2) rfl) ?_
      tm_at "g"
      refine ⟨p.o, ov, rfl, hov, fun H1 r xs s1 g1 gf gn => ?_⟩
      tm_at "g"
      refine w_ninT g1 rfl gf ?_
      rw [gn _ ho2.2]
      exact q H1 s1
    cases bb with
    | true =>
      tm_at "g"
      exact fin
    | false =>
      obtain ⟨g, x, y, r, eo, rfl, hr⟩ := hcont rfl
      rw [eo] at ho2
      tm_at "g"
      refine w_mobj h1 (flCk_m _ (by decide +kernel) (by decide +kernel) (by decide +kernel)) ?_
      tm_at "g"
      refine w_ixT hq (atI_nat (j := 2) rfl) ?_
      tm_at "g"
      refine ⟨c, r, a.k_OPERATORS, n, vars, ns, g, x, y, opsL, rfl, hc, hr, T.v_OPERATORS H, ho2.1.1, ho2.1.2.1, ho2.1.2.2, ?_⟩
      tm_at "g"
      exact fin
theorem sc_Checker_is_statement : FnScope ["self", "statement", "word"] ["self", "statement"] (defScope s_Checker_is_statement) := ⟨rfl, rfl, rfl, by decide +kernel, rfl, by decide +kernel, by decide +kernel⟩
theorem ok_is_statement (T : Tx w K mg a) : FnOk P w K mg base CX0 5 a.f_Checker_is_statement a.d_Checker_is_statement ["self", "statement"] (spIsStmt a) := by
  have G_Checker__is_change : FnOk P w K mg base CX0 4 _ _ _ (spIsChange a) := ok_is_change T
  have G_Checker__is_variable : FnOk P w K mg base CX0 1 _ _ _ (spIsVar a) := ok_is_var T
  have G_Checker__is_pair : FnOk P w K mg base CX0 3 _ _ _ (spIsPair a K) := ok_is_pair T
  refine T.F_Checker_is_statement.ok sc_Checker_is_statement (fun vs H Q E h => ?_) (fun cdv A outer s H vs Q E hr h => ?_)
  · obtain ⟨c, n, vars, ns, v, ys, b, rfl, _⟩ := h
    rfl
  · obtain ⟨c, n, vars, ns, v, ys, b, rfl, hc, hv, hok, q⟩ := h
    have hu := hu_of hr
    obtain ⟨dx, vt, nt, h1, h2, h3⟩ := id hc
    refine ⟨_, (pss_cons (ps_if (PW.pt (pw_or (pt_not (pt_val (pe_callB call_is (by rfl) T.z_isinstance (by decide +kernel) (pa_cons (pv 1) (pa_cons (pe_bltn (v := .ty "tuple") rfl T.z_tuple (by decide +kernel) rfl) pa_nil))))) (pw_or (pt_not (pt_truth (pv 1) (by intro _; rfl))) (pw_or1 (pt_not (pt_val (pe_callB call_is (by rfl) T.z_isinstance (by decide +kernel) (pa_cons (pe_ix ix_tup (pv 1) pe_int (fun _ _ => rfl)) (pa_cons (pe_bltn (v := .ty "str") rfl T.z_str (by decide +kernel) rfl) pa_nil))))))))) (pss_one (ps_ret pe_bl)) pss_nil)
    (pss_cons (ps_set (i := 2) sc_Checker_is_statement.nd rfl (Or.inl rfl) (pe_ix ix_tup (pv 1) pe_int (fun _ _ => rfl)))
    (pss_cons (ps_if (pt_cmpR op_in_seq (pv 2) (pe_glob (v := .ref a.k_CHANGES) rfl T.g_CHANGES rfl) rfl) (pss_one (ps_ret (pe_meth (pv 0) T.cl_Checker T.m_Checker__is_change G_Checker__is_change (hr.mono (by decide)) T.b_Checker__is_change .nil pass0 (pa_cons (pv 1) pa_nil)))) pss_nil)
    (pss_cons (ps_if (pt_cmpR op_eq (pv 2) pe_str (nomark _)) (pss_cons (ps_if (PW.pt (pw_or (pt_cmpR op_ne (pe_callB cl_len (by rfl) T.z_len PySem.boot_len (pa_cons (pv 1) pa_nil)) pe_int (nomark _)) (pw_or (pt_not (pt_val (pe_meth (pv 0) T.cl_Checker T.m_Checker__is_variable G_Checker__is_variable (hr.mono (by decide)) T.b_Checker__is_variable .nil pass0 (pa_cons (pe_ix ix_tup (pv 1) pe_int (fun _ _ => rfl)) pa_nil)))) (pw_or1 (pt_not (pt_val (pe_meth (pv 0) T.cl_Checker T.m_Checker__is_variable G_Checker__is_variable (hr.mono (by decide)) T.b_Checker__is_variable .nil pass0 (pa_cons (pe_ix ix_tup (pv 1) pe_int (fun _ _ => rfl)) pa_nil)))))))) (pss_one (ps_ret pe_bl)) pss_nil)
    (pss_one (ps_ret (pe_cmpR op_ne (pe_ix ix_tup (pv 1) pe_int (fun _ _ => rfl)) (pe_ix ix_tup (pv 1) pe_int (fun _ _ => rfl)) (nomark _))))) pss_nil)
    (pss_cons (ps_if (pt_cmpR op_in_seq (pv 2) (pe_tup (pa_cons pe_str (pa_cons pe_str pa_nil))) rfl) (pss_one (ps_ret (pe_and (pe_cmpR op_eq (pe_callB cl_len (by rfl) T.z_len PySem.boot_len (pa_cons (pv 1) pa_nil)) pe_int (nomark _)) (pe_and (pe_cmpR op_in_seq (pe_ix ix_tup (pv 1) pe_int (fun _ _ => rfl)) (pe_fld (pv 0) rfl) rfl) (pe_one (pe_cmpR op_ne (pe_ix ix_tup (pv 1) pe_int (fun _ _ => rfl)) pe_str (nomark _))))))) pss_nil)
    (pss_cons (ps_if (PW.pt (pw_or (pt_cmpR op_notIn_seq (pv 2) (pe_tup (pa_cons pe_str (pa_cons pe_str pa_nil))) rfl) (pw_or1 (pt_cmpR op_ne (pe_callB cl_len (by rfl) T.z_len PySem.boot_len (pa_cons (pv 1) pa_nil)) pe_int (nomark _))))) (pss_one (ps_ret pe_bl)) pss_nil)
    (pss_cons (ps_if (PW.pt (pw_or (pt_not (pt_val (pe_meth (pv 0) T.cl_Checker T.m_Checker__is_pair G_Checker__is_pair (hr.mono (by decide)) T.b_Checker__is_pair .nil pass0 (pa_cons (pe_ix ix_tup (pv 1) pe_int (fun _ _ => rfl)) (pa_cons (pe_glob (v := .ref a.k_RELATIONS) rfl T.g_RELATIONS rfl) pa_nil))))) (pw_or1 (pt_not (pt_val (pe_meth (pv 0) T.cl_Checker T.m_Checker__is_pair G_Checker__is_pair (hr.mono (by decide)) T.b_Checker__is_pair .nil pass0 (pa_cons (pe_ix ix_tup (pv 1) pe_int (fun _ _ => rfl)) (pa_cons (pe_glob (v := .ref a.k_RELATIONS) rfl T.g_RELATIONS rfl) pa_nil)))))))) (pss_one (ps_ret pe_bl)) pss_nil)
    (pss_one (ps_ret (pe_and (pe_callB call_is (by rfl) T.z_isinstance (by decide +kernel) (pa_cons (pe_ix ix_tup (pv 1) pe_int (fun _ _ => rfl)) (pa_cons (pe_bltn (v := .ty "tuple") rfl T.z_tuple (by decide +kernel) rfl) pa_nil))) (pe_one (pe_callB call_is (by rfl) T.z_isinstance (by decide +kernel) (pa_cons (pe_ix ix_tup (pv 1) pe_int (fun _ _ => rfl)) (pa_cons (pe_bltn (v := .ty "tuple") rfl T.z_tuple (by decide +kernel) rfl) pa_nil)))))))))))))), ?_⟩
    have pre : ∀ {qa : Addr} {wd : Str} {xs : List V} {R1 : Prop}, H qa = some (.tup (.str wd :: xs)) → True := fun _ => trivial
    cases b with
    | nil => exact False.elim hok
    | pr p r =>
      obtain ⟨v', ys', e, hp, _⟩ := hv
      injection e with e1 e2
      subst e1 e2
      obtain ⟨qa, ov, rfl, hq, hov⟩ := id hp
      tm_at "g"
      refine w_is ⟨⟨_, hq⟩, rfl⟩ k_tuple_tuple ?_
      tm_at "g"
      refine w_truTn hq (by simp) ?_
      tm_at "g"
      refine w_ixT hq (atI_nat (j := 0) rfl) ?_
      tm_at "g"
      refine w_is rfl k_str_str ?_
      tm_at "g"
      refine w_ixT hq (atI_nat (j := 0) rfl) ?_
      tm_at "g"
      refine w_inK (T.v_CHANGES H) rfl (all_flat _) ?_
      rw [inV_str]
      by_cases hw : p.w ∈ chgL
      · have e : decide (p.w ∈ (["+=", "-=", "^="] : List Str)) = true := decide_eq_true hw
        rw [e]
        tm_at "g"
        refine w_mobj h1 (flCk_m _ (by decide +kernel) (by decide +kernel) (by decide +kernel)) ?_
        tm_at "g"
        exact ⟨c, n, vars, ns, _, p, rfl, hc, hp, hok, hw, fun H1 s1 => q H1 s1⟩
      · have e : decide (p.w ∈ (["+=", "-=", "^="] : List Str)) = false := decide_eq_false hw
        rw [e]
        obtain ⟨hx, ho⟩ := hok
        rcases ho with ⟨z, _⟩ | ⟨ew, y, hy, eo, nxy⟩
        · exact absurd z hw
        · rw [eo] at hov
          obtain rfl : ov = .str y := hov
          tm_at "g"
          rw [ew]
          refine w_T' (by decide +kernel) ?_
          tm_at "g"
          refine w_lenT hq ?_
          tm_at "g"
          refine w_nF rfl ?_
          tm_at "g"
          refine w_mobj h1 (flCk_m _ (by decide +kernel) (by decide +kernel) (by decide +kernel)) ?_
          tm_at "g"
          refine w_ixT hq (atI_nat (j := 1) rfl) ?_
          tm_at "g"
          refine ⟨c, n, vars, ns, p.x, rfl, hc, hx, ?_⟩
          tm_at "g"
          refine w_mobj h1 (flCk_m _ (by decide +kernel) (by decide +kernel) (by decide +kernel)) ?_
          tm_at "g"
          refine w_ixT hq (atI_nat (j := 2) rfl) ?_
          tm_at "g"
          refine ⟨c, n, vars, ns, y, rfl, hc, hy, ?_⟩
          tm_at "g"
          refine w_ixT hq (atI_nat (j := 1) rfl) ?_
          tm_at "g"
          refine w_ixT hq (atI_nat (j := 2) rfl) ?_
          tm_at "g"
          have e2 : decide (V.str p.x = V.str y) = false := decide_eq_false (fun z => nxy (by injection z))
          rw [e2]
          exact q H (Same.refl H)
    | cl sg pn r =>
      obtain ⟨qa, ys', e, hq, _⟩ := hv
      injection e with e1 e2
      subst e1 e2
      have w1 : decide ((if sg then ("call" : Str) else "uncall") ∈ (["+=", "-=", "^="] : List Str)) = false := by cases sg <;> decide +kernel
      have w2 : decide (V.str (if sg then ("call" : Str) else "uncall") = V.str "swap") = false := by cases sg <;> decide +kernel
      have w3 : inV (.str (if sg then ("call" : Str) else "uncall")) [.str "call", .str "uncall"] = true := by cases sg <;> decide +kernel
      tm_at "g"
      refine w_is ⟨⟨_, hq⟩, rfl⟩ k_tuple_tuple ?_
      tm_at "g"
      refine w_truTn hq (by simp) ?_
      tm_at "g"
      refine w_ixT hq (atI_nat (j := 0) rfl) ?_
      tm_at "g"
      refine w_is rfl k_str_str ?_
      tm_at "g"
      refine w_ixT hq (atI_nat (j := 0) rfl) ?_
      tm_at "g"
      refine w_inK (T.v_CHANGES H) rfl (all_flat _) ?_
      rw [inV_str]
      rw [w1]
      tm_at "g"
      refine w_F' w2 ?_
      tm_at "g"
      refine w_lay (by show 2 ≤ 100000; decide) fun r1 H1 s1 n1 g1 => ?_
      refine w_inT g1 rfl rfl ?_
      rw [w3]
      tm_at "g"
      refine w_lenT (s1 _ _ hq) ?_
      tm_at "g"
      refine w_T' rfl ?_
      tm_at "g"
      refine w_ixT (s1 _ _ hq) (atI_nat (j := 1) rfl) ?_
      tm_at "g"
      refine w_obj (s1 _ _ h1) T.cl_Checker T.na_Checker__names flCk_names ?_
      refine w_inT (s1 _ _ h3) rfl (all_flat _) ?_
      rw [inV_str, decide_eq_true hok.1]
      tm_at "g"
      refine w_ixT (s1 _ _ hq) (atI_nat (j := 1) rfl) ?_
      tm_at "g"
      have e2 : decide (V.str pn = V.str "main") = false := decide_eq_false (fun z => hok.2 (by injection z))
      rw [e2]
      exact q H1 s1
    | ite cc dd A1 B1 r =>
      obtain ⟨qa, ys', cv, dv, pa, xa, pb, xb, e, hq, hcv, hdv, ha, _, hb, _, _⟩ := hv
      injection e with e1 e2
      subst e1 e2
      obtain ⟨p1, rfl, c1⟩ := hcv
      obtain ⟨p2, rfl, c2⟩ := hdv
      have w1 : decide (("if" : Str) ∈ (["+=", "-=", "^="] : List Str)) = false := by decide +kernel
      have w3 : inV (.str "if") [.str "call", .str "uncall"] = false := by decide +kernel
      have w4 : inV (.str "if") [.str "if", .str "from"] = true := by decide +kernel
      tm_at "g"
      refine w_is ⟨⟨_, hq⟩, rfl⟩ k_tuple_tuple ?_
      tm_at "g"
      refine w_truTn hq (by simp) ?_
      tm_at "g"
      refine w_ixT hq (atI_nat (j := 0) rfl) ?_
      tm_at "g"
      refine w_is rfl k_str_str ?_
      tm_at "g"
      refine w_ixT hq (atI_nat (j := 0) rfl) ?_
      tm_at "g"
      refine w_inK (T.v_CHANGES H) rfl (all_flat _) ?_
      rw [inV_str]
      rw [w1]
      tm_at "g"
      refine w_F' (by decide +kernel) ?_
      tm_at "g"
      refine w_lay (by show 2 ≤ 100000; decide) fun r1 H1 s1 n1 g1 => ?_
      refine w_inT g1 rfl rfl ?_
      rw [w3]
      tm_at "g"
      refine w_lay (by show 2 ≤ 100000; decide) fun r2 H2 s2 n2 g2 => ?_
      refine w_ninT g2 rfl rfl ?_
      rw [w4]
      have s12 := s1.trans s2
      have hq2 := s12 _ _ hq
      have hc2 := hc.mono s12
      tm_at "g"
      refine w_lenT hq2 ?_
      tm_at "g"
      refine w_nF rfl ?_
      tm_at "g"
      refine w_mobj (s12 _ _ h1) (flCk_m _ (by decide +kernel) (by decide +kernel) (by decide +kernel)) ?_
      tm_at "g"
      refine w_ixT hq2 (atI_nat (j := 1) rfl) ?_
      tm_at "g"
      refine ⟨c, p1, a.k_RELATIONS, n, vars, ns, cc.rel, cc.a, cc.b, relsL, rfl, hc2, s12 _ _ c1, T.v_RELATIONS H2, hok.1.1, hok.1.2.1, hok.1.2.2, ?_⟩
      tm_at "g"
      refine w_mobj (s12 _ _ h1) (flCk_m _ (by decide +kernel) (by decide +kernel) (by decide +kernel)) ?_
      tm_at "g"
      refine w_ixT hq2 (atI_nat (j := 4) rfl) ?_
      tm_at "g"
      refine ⟨c, p2, a.k_RELATIONS, n, vars, ns, dd.rel, dd.a, dd.b, relsL, rfl, hc2, s12 _ _ c2, T.v_RELATIONS H2, hok.2.1, hok.2.2.1, hok.2.2.2, ?_⟩
      tm_at "g"
      refine w_ixT hq2 (atI_nat (j := 2) rfl) ?_
      tm_at "g"
      refine w_is ⟨⟨_, s12 _ _ ha⟩, rfl⟩ k_tuple_tuple ?_
      tm_at "g"
      refine w_ixT hq2 (atI_nat (j := 3) rfl) ?_
      tm_at "g"
      refine w_is ⟨⟨_, s12 _ _ hb⟩, rfl⟩ k_tuple_tuple ?_
      exact q H2 s12
    | lp cc dd A1 B1 r =>
      obtain ⟨qa, ys', cv, dv, pa, xa, pb, xb, e, hq, hcv, hdv, ha, _, hb, _, _⟩ := hv
      injection e with e1 e2
      subst e1 e2
      obtain ⟨p1, rfl, c1⟩ := hcv
      obtain ⟨p2, rfl, c2⟩ := hdv
      have w1 : decide (("from" : Str) ∈ (["+=", "-=", "^="] : List Str)) = false := by decide +kernel
      have w3 : inV (.str "from") [.str "call", .str "uncall"] = false := by decide +kernel
      have w4 : inV (.str "from") [.str "if", .str "from"] = true := by decide +kernel
      tm_at "g"
      refine w_is ⟨⟨_, hq⟩, rfl⟩ k_tuple_tuple ?_
      tm_at "g"
      refine w_truTn hq (by simp) ?_
      tm_at "g"
      refine w_ixT hq (atI_nat (j := 0) rfl) ?_
      tm_at "g"
      refine w_is rfl k_str_str ?_
      tm_at "g"
      refine w_ixT hq (atI_nat (j := 0) rfl) ?_
      tm_at "g"
      refine w_inK (T.v_CHANGES H) rfl (all_flat _) ?_
      rw [inV_str]
      rw [w1]
      tm_at "g"
      refine w_F' (by decide +kernel) ?_
      tm_at "g"
      refine w_lay (by show 2 ≤ 100000; decide) fun r1 H1 s1 n1 g1 => ?_
      refine w_inT g1 rfl rfl ?_
      rw [w3]
      tm_at "g"
      refine w_lay (by show 2 ≤ 100000; decide) fun r2 H2 s2 n2 g2 => ?_
      refine w_ninT g2 rfl rfl ?_
      rw [w4]
      have s12 := s1.trans s2
      have hq2 := s12 _ _ hq
      have hc2 := hc.mono s12
      tm_at "g"
      refine w_lenT hq2 ?_
      tm_at "g"
      refine w_nF rfl ?_
      tm_at "g"
      refine w_mobj (s12 _ _ h1) (flCk_m _ (by decide +kernel) (by decide +kernel) (by decide +kernel)) ?_
      tm_at "g"
      refine w_ixT hq2 (atI_nat (j := 1) rfl) ?_
      tm_at "g"
      refine ⟨c, p1, a.k_RELATIONS, n, vars, ns, cc.rel, cc.a, cc.b, relsL, rfl, hc2, s12 _ _ c1, T.v_RELATIONS H2, hok.1.1, hok.1.2.1, hok.1.2.2, ?_⟩
      tm_at "g"
      refine w_mobj (s12 _ _ h1) (flCk_m _ (by decide +kernel) (by decide +kernel) (by decide +kernel)) ?_
      tm_at "g"
      refine w_ixT hq2 (atI_nat (j := 4) rfl) ?_
      tm_at "g"
      refine ⟨c, p2, a.k_RELATIONS, n, vars, ns, dd.rel, dd.a, dd.b, relsL, rfl, hc2, s12 _ _ c2, T.v_RELATIONS H2, hok.2.1, hok.2.2.1, hok.2.2.2, ?_⟩
      tm_at "g"
      refine w_ixT hq2 (atI_nat (j := 2) rfl) ?_
      tm_at "g"
      refine w_is ⟨⟨_, s12 _ _ ha⟩, rfl⟩ k_tuple_tuple ?_
      tm_at "g"
      refine w_ixT hq2 (atI_nat (j := 3) rfl) ?_
      tm_at "g"
      refine w_is ⟨⟨_, s12 _ _ hb⟩, rfl⟩ k_tuple_tuple ?_
      exact q H2 s12
end
end Kt
end -- KCk
section -- KCt
set_option Elab.async false
set_option linter.all false
set_option maxRecDepth 100000
set_option maxHeartbeats 4000000
/-! KCt: count_statements. -/
namespace Kt
open PySem L2
/-- statements, at all depths -/
def sc : Body → Nat
  | .nil => 0
  | .pr _ r => 1 + sc r
  | .cl _ _ r => 1 + sc r
  | .ite _ _ A B r => 1 + sc A + sc B + sc r
  | .lp _ _ A B r => 1 + sc A + sc B + sc r
def dp : Body → Nat
  | .nil => 0
  | .pr _ r => dp r
  | .cl _ _ r => dp r
  | .ite _ _ A B r => max (max (dp A + 1) (dp B + 1)) (dp r)
  | .lp _ _ A B r => max (max (dp A + 1) (dp B + 1)) (dp r)
theorem wt_sc (b : Body) : wt b ≤ 3 * sc b + 1 ∧ sc b + 1 ≤ wt b := by
  induction b with
  | nil => exact ⟨by decide, by decide⟩
  | pr _ _ ih => simp only [wt, sc]; omega
  | cl _ _ _ ih => simp only [wt, sc]; omega
  | ite _ _ _ _ _ i1 i2 i3 => simp only [wt, sc]; omega
  | lp _ _ _ _ _ i1 i2 i3 => simp only [wt, sc]; omega
/-- one of the list: a body and its depth -/
def DeV (H : Hp) (v : V) (e : Body × Nat) : Prop := ∃ q bt xs, v = .ref q ∧ H q = some (.tup [.ref bt, .int (e.2 : Nat)]) ∧ H bt = some (.tup xs) ∧ BdV H xs e.1
theorem DeV.mono {H H' : Hp} (i : Im H H') {v : V} {e : Body × Nat} (h : DeV H v e) : DeV H' v e := let ⟨q, bt, xs, e1, h1, h2, h3⟩ := h; ⟨q, bt, xs, e1, i _ _ h1, i _ _ h2, h3.mono i⟩
def DesV (H : Hp) : List V → List (Body × Nat) → Prop := Paired (DeV H)
theorem DesV.mono {H H' : Hp} (i : Im H H') {vs : List V} {es : List (Body × Nat)} (h : DesV H vs es) : DesV H' vs es := Paired.mapP h fun _ _ x => x.mono i
theorem DesV.snoc {H : Hp} : ∀ {vs : List V} {es : List (Body × Nat)} {v : V} {e : Body × Nat}, DesV H vs es → DeV H v e → DesV H (vs ++ [v]) (es ++ [e])
  | _, _, _, _, .nil, g => .cons g .nil
  | _, _, _, _, .cons x r, g => .cons x (DesV.snoc r g)
theorem DesV.snoc_inv {H : Hp} {e : Body × Nat} : ∀ {es : List (Body × Nat)} {vs : List V}, DesV H vs (es ++ [e]) → ∃ ws v, vs = ws ++ [v] ∧ DesV H ws es ∧ DeV H v e
  | [], vs, h => by
    cases h with
    | cons x r => cases r; exact ⟨[], _, rfl, .nil, x⟩
  | e1 :: es, vs, h => by
    cases h with
    | cons x r =>
      obtain ⟨ws, v, rfl, h1, h2⟩ := DesV.snoc_inv r
      exact ⟨_ :: ws, v, rfl, .cons x h1, h2⟩
def dsc (l : List (Body × Nat)) : Nat := (l.map fun e => sc e.1).sum
def dwt (l : List (Body × Nat)) : Nat := (l.map fun e => wt e.1).sum
theorem dsc_snoc (l : List (Body × Nat)) (e : Body × Nat) : dsc (l ++ [e]) = dsc l + sc e.1 := by simp [dsc]
theorem dwt_snoc (l : List (Body × Nat)) (e : Body × Nat) : dwt (l ++ [e]) = dwt l + wt e.1 := by simp [dwt]
theorem dwt_len (l : List (Body × Nat)) : l.length ≤ dwt l := by
  induction l with
  | nil => exact Nat.zero_le _
  | cons e r ih =>
    have : dwt (e :: r) = wt e.1 + dwt r := by simp [dwt]
    rw [this, List.length_cons]
    have := wt_pos e.1
    omega
/-- what the count wishes of an entry -/
def DeOk (vars : List Str) (n : Int) (cn : List Str) (e : Body × Nat) : Prop := BOk vars n cn e.1 ∧ e.2 + dp e.1 ≤ 10
def spCount (a : Ad) : Sp := fun vs H Q _ => ∃ (c bl : Addr) (w : Nat) (vars ns cn : List Str) (vbs : List V) (bs : List Body), vs = [.ref c, .ref bl] ∧ CkA a H c w vars ns ∧ (∀ q ∈ cn, q ∈ ns ∧ q ≠ "main") ∧ H bl = some (.lst vbs) ∧ Paired (BdT H) vbs bs ∧
  (∀ b ∈ bs, BOk vars (2 ^ w) cn b ∧ dp b ≤ 10) ∧ (bs.map sc).sum ≤ 200 ∧ bs.length ≤ 8 ∧ ∀ H' (k : Nat), Same H H' → Q (.int (k : Nat)) H'
theorem HdOk.of {vars : List Str} {n : Int} {ns cn : List Str} (hc : ∀ q ∈ cn, q ∈ ns ∧ q ≠ "main") {b : Body} (nb : b ≠ .nil) (h : BOk vars n cn b) : HdOk vars n ns b := by
  cases b with
  | nil => exact absurd rfl nb
  | pr _ _ => exact h.1
  | cl _ _ _ => exact hc _ h.1
  | ite _ _ _ _ _ => exact ⟨h.1, h.2.1⟩
  | lp _ _ _ _ _ => exact ⟨h.1, h.2.1⟩
section
variable {P : Program} {w : World} {K : PySem.W.Frag} {mg : Str → Option Value} {base : Heap} {a : Ad}
local macro_rules | `(tactic| tm_at "g") => `(tactic| repeat (first
  | with_reducible refine w_seq ?_ | with_reducible refine w_if ?_ | with_reducible refine w_tB ?_ | with_reducible refine w_tTest ?_ | with_reducible refine w_asg ?_ | with_reducible refine w_name ?_
  | with_reducible refine w_ret ?_ | with_reducible refine w_next ?_ | with_reducible refine w_op ?_ | with_reducible refine w_c ?_ | with_reducible refine w_cb ?_ | with_reducible refine w_call ?_ | with_reducible refine w_cons ?_ | with_reducible refine w_nil ?_
  | with_reducible refine w_var (by with_unfolding_all rfl) ?_
  | with_reducible refine w_rI0 ?_ | with_reducible refine w_eq (by with_unfolding_all rfl) ?_ | with_reducible refine w_ne (by with_unfolding_all rfl) ?_
  | with_reducible refine w_test ?_ | with_reducible refine w_T ?_ | with_reducible refine w_F ?_ | with_reducible refine w_T0 ?_ | with_reducible refine w_F0 ?_
  | with_reducible refine w_and ?_ | with_reducible refine w_or ?_ | with_reducible refine w_not ?_ | with_reducible refine w_ifE ?_ | with_reducible refine w_drop ?_
  | with_reducible refine w_andV ?_ | with_reducible refine w_orV ?_ | with_reducible refine w_notV ?_ | with_reducible refine w_dget ?_ | with_reducible refine w_din ?_ | with_reducible refine w_dnin ?_ | with_reducible refine w_fld ?_
  | with_reducible refine w_ttup ?_ | with_reducible refine w_tlst ?_ | with_reducible refine w_un ?_ | with_reducible refine w_rU ?_ | with_reducible refine w_gcons ?_ | with_reducible refine w_gnil ?_ | with_reducible refine w_sub ?_ | with_reducible refine w_sl ?_ | with_reducible refine w_nopart ?_ | with_reducible refine w_part ?_ | with_reducible refine w_int ?_ | with_reducible refine w_meth ?_
  | with_reducible refine w_make ?_ | with_reducible refine w_dput ?_ | with_reducible refine w_sfld ?_ | with_reducible refine w_bm ?_ | with_reducible refine w_bm0 ?_ | with_reducible refine w_isN ?_ | with_reducible refine w_notT ?_ | with_reducible refine w_forR ?_ | with_reducible refine w_forL ?_ | with_reducible refine w_forT ?_ | with_reducible refine w_fldaug ?_ | with_reducible refine w_radd ?_ | with_reducible refine w_par ?_ | with_reducible refine w_pair ?_
  | with_reducible refine w_lcR ?_ | with_reducible refine w_dcR ?_ | with_reducible refine w_lcL ?_ | with_reducible refine w_lcT ?_ | with_reducible refine w_dcT ?_ | with_reducible refine w_yes ?_ | with_reducible refine w_chain ?_))

theorem w_augI {i : Nat} {te : TE} {f : Int → Int → Int} {j l : Int} {σ : L2.St} {H : Hp} {D : Ends} (hs : σ[i]? = some (some (.int j))) (h : te σ H fun y H1 => y = .int l ∧ D.nx (σ.set i (some (.int (f j l)))) H1) (mono : ∀ Q Q' : VK, (∀ y H1, Q y H1 → Q' y H1) → te σ H Q → te σ H Q') : tAug i te (ipI f) D σ H :=
  ⟨_, hs, mono _ _ (fun _ _ ⟨e, q⟩ => ⟨j, l, rfl, e, q⟩) h⟩
theorem sc_count_statements : FnScope ["checker", "bodies", "count", "todo", "body", "depth", "statement"] ["checker", "bodies"] (defScope s_count_statements) := ⟨rfl, rfl, rfl, by decide +kernel, rfl, by decide +kernel, by decide +kernel⟩
theorem ok_count (T : Tx w K mg a) : FnOk P w K mg base CX0 6 a.f_count_statements a.d_count_statements ["checker", "bodies"] (spCount a) := by
  have G_Checker_is_statement : FnOk P w K mg base CX0 5 _ _ _ (spIsStmt a) := ok_is_statement T
  refine T.F_count_statements.ok sc_count_statements (fun vs H Q E h => ?_) (fun cdv A outer s H vs Q E hr h => ?_)
  · obtain ⟨c, bl, n, vars, ns, cn, vbs, bs, rfl, _⟩ := h
    rfl
  · obtain ⟨c, bl, n, vars, ns, cn, vbs, bs, rfl, hc, hcn, hbl, hbs, hok, hsum, hlen, q⟩ := h
    have hu := hu_of hr
    refine ⟨_, (pss_cons (ps_set (i := 2) sc_count_statements.nd rfl (Or.inl rfl) pe_int)
    (pss_cons (ps_setLc (i := 3) (own := [("body", 4)]) (g := gName 4) (tt := tYes) rfl sc_count_statements.nd rfl rfl (sw_true rfl rfl rfl (by decide +kernel)) (pi_list (pv 1)) (blkOk_by (own := [("body", 4)]) (N := ["checker", "bodies", "count", "todo", "body", "depth", "statement"]) (sc := defScope s_count_statements) (by decide +kernel)) (fun _ _ _ _ _ => pg_name (i := 4) sc_count_statements.nd rfl (Or.inl rfl)) (fun _ _ _ _ _ => pts_nil) (fun _ _ _ _ _ => by exact (by exact (pe_tup (by exact (pa_cons (by exact (pv 4)) (pa_cons pe_int pa_nil)))))))
    (pss_cons (ps_while PassesOwn.never (pt_truth (pv 3) (by intro _; rfl))
      (pss_cons (ps_asg (pe_bm0 PySem.F.plainAttrs_list PySem.F.slot_list_pop PySem.F.type_list_pop mt_pop (pv 3) ) (pg_tup rfl (pgs_cons (pg_name (i := 4) sc_count_statements.nd rfl (Or.inl rfl)) (pgs_cons (pg_name (i := 5) sc_count_statements.nd rfl (Or.inl rfl)) pgs_nil))))
    (pss_cons (ps_if (PW.pt (pw_or (pt_not (pt_val (pe_callB call_is (by rfl) T.z_isinstance (by decide +kernel) (pa_cons (pv 4) (pa_cons (pe_bltn (v := .ty "tuple") rfl T.z_tuple (by decide +kernel) rfl) pa_nil))))) (pw_or1 (pt_cmpR op_gt (pv 5) (pe_glob (v := .int 10) rfl (T.g_MOST_DEPTH.choose_spec) ⟨_, rfl⟩) (nomark _))))) (pss_one (ps_ret (pe_un un_neg pe_int))) pss_nil)
    (pss_one (ps_for PassesOwn.never rfl (pi_tup (pv 4)) (pg_name (i := 6) sc_count_statements.nd rfl (Or.inl rfl))
      (pss_cons (ps_aug (i := 2) sc_count_statements.nd rfl (Or.inl rfl) pe_int ip_add)
    (pss_cons (ps_if (PW.pt (pw_or (pt_cmpR op_gt (pv 2) (pe_glob (v := .int 200) rfl (T.g_MOST_STATEMENTS.choose_spec) ⟨_, rfl⟩) (nomark _)) (pw_or1 (pt_not (pt_val (pe_meth (pv 0) T.cl_Checker T.m_Checker_is_statement G_Checker_is_statement (hr.mono (by decide)) T.b_Checker_is_statement .nil pass0 (pa_cons (pv 6) pa_nil))))))) (pss_one (ps_ret (pe_un un_neg pe_int))) pss_nil)
    (pss_one (ps_if (pt_cmpR op_in_seq (pe_ix ix_tup (pv 6) pe_int (fun _ _ => rfl)) (pe_tup (pa_cons pe_str (pa_cons pe_str pa_nil))) rfl) (pss_cons (ps_expr (pe_bm PySem.F.plainAttrs_list PySem.F.slot_list_append PySem.F.type_list_append mt_append (pv 3) (pa_cons (pe_tup (pa_cons (pe_ix ix_tup (pv 6) pe_int (fun _ _ => rfl)) (pa_cons (pe_op op_add (pv 5) pe_int) pa_nil))) pa_nil)))
    (pss_one (ps_expr (pe_bm PySem.F.plainAttrs_list PySem.F.slot_list_append PySem.F.type_list_append mt_append (pv 3) (pa_cons (pe_tup (pa_cons (pe_ix ix_tup (pv 6) pe_int (fun _ _ => rfl)) (pa_cons (pe_op op_add (pv 5) pe_int) pa_nil))) pa_nil))))) pss_nil)))))))))
    (pss_one (ps_ret (pv 2)))))), ?_⟩
    tm_at "g"
    refine w_lclst hbl fun D hD => ⟨fun i H' => ∃ tvs, H' D = some (.lst tvs) ∧ DesV H' tvs ((bs.take i).map fun b => (b, 0)) ∧ Same H H', ⟨[], upd_same, .nil, Same.new hD⟩, fun i H' hi h => ?_, fun i x H' hx h => ?_, fun H' h => ?_⟩
    · obtain ⟨tvs, _, _, s1⟩ := h
      exact s1 _ _ hbl
    · obtain ⟨tvs, hd, htv, s1⟩ := h
      obtain ⟨b, hb, hbt⟩ := pair_get hbs hx
      obtain ⟨bt, xs, rfl, g1, g2⟩ := hbt
      tm_at "g"
      refine ⟨rfl, ?_⟩
      tm_at "g"
      refine w_lay (by show 2 ≤ 100000; decide) fun r H1 s2 n1 g3 => ?_
      have hlt : tvs.length = i := by
        have e := Paired.length htv
        have hl : i < bs.length := (List.getElem?_eq_some_iff.mp hb).1
        rw [e, List.length_map, List.length_take]
        omega
      have hi8 : i < bs.length := (List.getElem?_eq_some_iff.mp hb).1
      refine w_acc (s2 _ _ hd) (by omega) ?_
      have i3 : Im H1 (upd H1 D (.lst (tvs ++ [.ref r]))) := Im.upd fun zs z => by rw [s2 _ _ hd] at z; cases z
      have s3 : Same H (upd H1 D (.lst (tvs ++ [.ref r]))) := (s1.trans s2).mut hD
      refine ⟨_, upd_same, ?_, s3⟩
      rw [take_snoc hb, List.map_append]
      refine DesV.snoc ((htv.mono (Im.of s2)).mono i3) ⟨r, bt, xs, rfl, i3 _ _ g3, s3 _ _ g1, g2.mono (Im.of s3)⟩
    · obtain ⟨tvs, hd, htv, s1⟩ := h
      have e0 : vbs.length = bs.length := Paired.length hbs
      rw [e0, List.take_length] at htv
      tm_at "g"
      refine w_while (fun m σ H' => ∃ o4 o5 o6 tvs todo k, σ = [some (.ref c), some (.ref bl), some (.int (k : Nat)), some (.ref D), o4, o5, o6] ∧ H' D = some (.lst tvs) ∧ DesV H' tvs todo ∧ Same H H' ∧ (∀ e ∈ todo, DeOk vars (2 ^ n) cn e) ∧ k + dsc todo ≤ 200 ∧ dwt todo ≤ 1000 ∧ m = dwt todo)
        (dwt (bs.map fun b => (b, 0))) ⟨none, none, none, _, _, 0, rfl, hd, htv, s1, ?_, ?_, ?_, rfl⟩ (fun m σ H' h => ?_) (fun σ H Q Q' hQ h => ?_)
      · intro e he
        obtain ⟨b, hb, rfl⟩ := List.mem_map.mp he
        have := hok b hb
        exact ⟨this.1, by show 0 + dp b ≤ 10; omega⟩
      · have : dsc (bs.map fun b => (b, 0)) = (bs.map sc).sum := by
          unfold dsc
          rw [List.map_map]
          rfl
        omega
      · have h1 : ∀ l : List Body, dwt (l.map fun b => (b, 0)) ≤ 3 * (l.map sc).sum + l.length := fun l => by
          induction l with
          | nil => exact Nat.zero_le _
          | cons b r ih =>
            have e1 : dwt ((b :: r).map fun b => (b, 0)) = wt b + dwt (r.map fun b => (b, 0)) := by simp [dwt]
            have e2 : ((b :: r).map sc).sum = sc b + (r.map sc).sum := by simp
            have := (wt_sc b).1
            rw [e1, e2, List.length_cons]
            omega
        have := h1 bs
        omega
      · obtain ⟨o4, o5, o6, tvs2, todo, k, rfl, hd2, htv2, s2, ok2, hk, hw2, rfl⟩ := h
        tm_at "g"
        rcases List.eq_nil_or_concat todo with e | ⟨td, x, e⟩
        · subst e
          have et0 : tvs2 = [] := by cases htv2; rfl
          subst et0
          refine w_truL0 hd2 ?_
          tm_at "g"
          exact q H' k s2
        · rw [List.concat_eq_append] at e
          subst e
          obtain ⟨ws, v, rfl, hws, qa, bt, xs, rfl, g1, g2, g3⟩ := htv2.snoc_inv
          refine w_truLn hd2 (by simp) ?_
          tm_at "g"
          refine w_tyL hd2 ?_
          refine w_pop hd2 ?_
          have i1 : Im H' (upd H' D (.lst ws)) := Im.upd fun zs z => by rw [hd2] at z; cases z
          refine w_tup (i1 _ _ g1) rfl ?_
          tm_at "g"
          refine w_is ⟨⟨_, i1 _ _ g2⟩, rfl⟩ k_tuple_tuple ?_
          tm_at "g"
          have okx := ok2 x (List.mem_append.mpr (.inr (List.mem_singleton_self _)))
          have okd : ∀ e ∈ td, DeOk vars (2 ^ n) cn e := fun e he => ok2 e (List.mem_append.mpr (.inl he))
          obtain ⟨okx1, okx2⟩ := okx
          rw [dsc_snoc] at hk
          rw [dwt_snoc] at hw2 ⊢
          have hwx := wt_pos x.1
          refine w_F' (decide_eq_false (by omega)) ?_
          tm_at "g"
          have s3 : Same H (upd H' D (.lst ws)) := s2.mut hD
          refine w_tpl (xs := xs) (fun i σ H2 => ∃ o6 k2 tvs2 td2 b2, σ = [some (.ref c), some (.ref bl), some (.int (k2 : Nat)), some (.ref D), some (.ref bt), some (.int (x.2 : Nat)), o6] ∧ H2 D = some (.lst tvs2) ∧ DesV H2 tvs2 td2 ∧ Same H H2 ∧ (∀ e ∈ td2, DeOk vars (2 ^ n) cn e) ∧
              BdV H2 (xs.drop i) b2 ∧ BOk vars (2 ^ n) cn b2 ∧ x.2 + dp b2 ≤ 10 ∧ k2 + dsc td2 + sc b2 ≤ 200 ∧ dwt td2 + wt b2 ≤ dwt td + wt x.1 ∧ H2 bt = some (.tup xs))
            ⟨o6, k, ws, td, x.1, rfl, upd_same, hws.mono i1, s3, okd, g3.mono i1, okx1, okx2, by omega, Nat.le_refl _, i1 _ _ g2⟩ (fun i σ H2 hi h => ?_) (fun i y σ H2 hy h => ?_) (fun σ H2 h => ?_)
          · obtain ⟨_, _, _, _, _, _, _, _, _, _, _, _, _, _, _, z⟩ := h
            exact z
          · obtain ⟨o6', k2, tvs2, td2, b2, rfl, hD2, htd2, sH2, okt2, hv2, bok2, hdp2, hk2, hm2, hbt2⟩ := h
            have hi : i < xs.length := (List.getElem?_eq_some_iff.mp hy).1
            have ey : xs[i] = y := (List.getElem?_eq_some_iff.mp hy).2
            have exd : xs.drop i = y :: xs.drop (i + 1) := by rw [← ey]; exact List.drop_eq_getElem_cons hi
            rw [exd] at hv2
            obtain ⟨hv3, bne⟩ := hv2.head
            have hsc : 1 ≤ sc b2 := by
              cases b2 with
              | nil => exact absurd rfl bne
              | pr _ _ => simp only [sc]; omega
              | cl _ _ _ => simp only [sc]; omega
              | ite _ _ _ _ _ => simp only [sc]; omega
              | lp _ _ _ _ _ => simp only [sc]; omega
            tm_at "g"
            refine w_augI (j := (k2 : Nat)) (l := 1) (by with_unfolding_all rfl) ?_ (fun _ _ hh q => hh _ _ q)
            refine w_c ?_
            refine ⟨rfl, ?_⟩
            tm_at "g"
            refine w_F' (decide_eq_false (by omega)) ?_
            tm_at "g"
            obtain ⟨dxc, vtc, ntc, c1, c2, c3⟩ := id hc
            refine w_mobj (sH2 _ _ c1) (flCk_m _ (by decide +kernel) (by decide +kernel) (by decide +kernel)) ?_
            tm_at "g"
            refine ⟨c, n, vars, ns, y, _, b2, rfl, hc.mono sH2, hv2, HdOk.of hcn bne bok2, fun H3 s23 => ?_⟩
            tm_at "g"
            have ek : ((k2 : Nat) : Int) + 1 = ((k2 + 1 : Nat) : Int) := by omega
            rw [ek]
            cases b2 with
            | nil => exact absurd rfl bne
            | pr p r =>
              obtain ⟨v', ys', e, hp, _⟩ := hv2
              injection e with e1 e2
              subst e1
              obtain ⟨qa, ov, rfl, hq, hov⟩ := hp
              tm_at "g"
              refine w_ixT (s23 _ _ hq) (atI_nat (j := 0) rfl) ?_
              tm_at "g"
              refine w_lay (by show 2 ≤ 100000; decide) fun r1 H4 s4 n4 g4 => ?_
              refine w_inT g4 rfl rfl ?_
              rw [(chg_words bok2.1).2]
              tm_at "g"
              have s24 := s23.trans s4
              simp only [sc] at hk2
              simp only [wt] at hm2
              exact ⟨_, k2 + 1, tvs2, td2, r, rfl, s24 _ _ hD2, htd2.mono (Im.of s24), sH2.trans s24, okt2, hv3.mono (Im.of s24), bok2.2, hdp2, by omega, by omega, s24 _ _ hbt2⟩
            | cl sg pn r =>
              obtain ⟨qa, ys', e, hq, _⟩ := hv2
              injection e with e1 e2
              subst e1
              have w1 : inV (.str (if sg then ("call" : Str) else "uncall")) [.str "if", .str "from"] = false := by cases sg <;> decide +kernel
              tm_at "g"
              refine w_ixT (s23 _ _ hq) (atI_nat (j := 0) rfl) ?_
              tm_at "g"
              refine w_lay (by show 2 ≤ 100000; decide) fun r1 H4 s4 n4 g4 => ?_
              refine w_inT g4 rfl rfl ?_
              rw [w1]
              tm_at "g"
              have s24 := s23.trans s4
              simp only [sc] at hk2
              simp only [wt] at hm2
              exact ⟨_, k2 + 1, tvs2, td2, r, rfl, s24 _ _ hD2, htd2.mono (Im.of s24), sH2.trans s24, okt2, hv3.mono (Im.of s24), bok2.2, hdp2, by omega, by omega, s24 _ _ hbt2⟩
            | ite cc dd A1 B1 r =>
              obtain ⟨qa, ys', cv, dv, pa, xa, pb, xb, e, hq, hcv, hdv, ha, hA, hb, hB, _⟩ := hv2
              injection e with e1 e2
              subst e1
              have w1 : inV (.str "if") [.str "if", .str "from"] = true := by decide +kernel
              tm_at "g"
              refine w_ixT (s23 _ _ hq) (atI_nat (j := 0) rfl) ?_
              tm_at "g"
              refine w_lay (by show 2 ≤ 100000; decide) fun r1 H4 s4 n4 g4 => ?_
              refine w_inT g4 rfl rfl ?_
              rw [w1]
              have s24 := s23.trans s4
              have hl2 : tvs2.length ≤ 1000 := by
                have z1 := Paired.length htd2
                have z2 := dwt_len td2
                have z3 := wt_pos (Bk.Bd.ite cc dd A1 B1 r)
                omega
              tm_at "g"
              refine w_tyL (s24 _ _ hD2) ?_
              tm_at "g"
              refine w_ixT (s24 _ _ hq) (atI_nat (j := 2) rfl) ?_
              tm_at "g"
              refine w_lay (by show 2 ≤ 100000; decide) fun r5 H5 s5 n5 g5 => ?_
              have s25 := s24.trans s5
              have hD5 := s25 _ _ hD2
              tm_at "g"
              refine w_append hD5 (by omega) ?_
              have i6 : Im H5 (upd H5 D (.lst (tvs2 ++ [.ref r5]))) := Im.upd fun zs z => by rw [hD5] at z; cases z
              tm_at "g"
              refine w_tyL upd_same ?_
              tm_at "g"
              refine w_ixT (i6 _ _ (s25 _ _ hq)) (atI_nat (j := 3) rfl) ?_
              tm_at "g"
              refine w_lay (by show 2 ≤ 100000; decide) fun r7 H7 s7 n7 g7 => ?_
              have hD7 := s7 _ _ (upd_same (H := H5) (a := D) (o := .lst (tvs2 ++ [.ref r5])))
              tm_at "g"
              refine w_append hD7 (by rw [List.length_append, List.length_singleton]; omega) ?_
              have i8 : Im H7 (upd H7 D (.lst (tvs2 ++ [.ref r5] ++ [.ref r7]))) := Im.upd fun zs z => by rw [hD7] at z; cases z
              tm_at "g"
              have iA : Im H2 (upd H7 D (.lst (tvs2 ++ [.ref r5] ++ [.ref r7]))) := (((Im.of s25).trans i6).trans (Im.of s7)).trans i8
              have sF : Same H (upd H7 D (.lst (tvs2 ++ [.ref r5] ++ [.ref r7]))) := (((sH2.trans s25).mut hD).trans s7).mut hD
              have eadd : ((x.2 : Nat) : Int) + 1 = ((x.2 + 1 : Nat) : Int) := by omega
              rw [eadd] at g5 g7
              obtain ⟨bo1, bo2, bo3, bo4, bo5⟩ := bok2
              simp only [dp] at hdp2
              simp only [sc] at hk2
              simp only [wt] at hm2
              refine ⟨_, k2 + 1, _, td2 ++ [(A1, x.2 + 1)] ++ [(B1, x.2 + 1)], r, rfl, upd_same, ((htd2.mono iA).snoc ⟨r5, pa, xa, rfl, i8 _ _ (s7 _ _ (i6 _ _ g5)), iA _ _ ha, hA.mono iA⟩).snoc ⟨r7, pb, xb, rfl, i8 _ _ g7, iA _ _ hb, hB.mono iA⟩, sF, ?_, hv3.mono iA, bo5, by omega, ?_, ?_, iA _ _ hbt2⟩
              · intro e he
                rcases List.mem_append.mp he with z | z
                · rcases List.mem_append.mp z with z | z
                  · exact okt2 e z
                  · rw [List.mem_singleton] at z
                    subst z
                    exact ⟨bo3, by show x.2 + 1 + dp A1 ≤ 10; omega⟩
                · rw [List.mem_singleton] at z
                  subst z
                  exact ⟨bo4, by show x.2 + 1 + dp B1 ≤ 10; omega⟩
              · rw [dsc_snoc, dsc_snoc]
                dsimp only
                omega
              · rw [dwt_snoc, dwt_snoc]
                dsimp only
                omega
            | lp cc dd A1 B1 r =>
              obtain ⟨qa, ys', cv, dv, pa, xa, pb, xb, e, hq, hcv, hdv, ha, hA, hb, hB, _⟩ := hv2
              injection e with e1 e2
              subst e1
              have w1 : inV (.str "from") [.str "if", .str "from"] = true := by decide +kernel
              tm_at "g"
              refine w_ixT (s23 _ _ hq) (atI_nat (j := 0) rfl) ?_
              tm_at "g"
              refine w_lay (by show 2 ≤ 100000; decide) fun r1 H4 s4 n4 g4 => ?_
              refine w_inT g4 rfl rfl ?_
              rw [w1]
              have s24 := s23.trans s4
              have hl2 : tvs2.length ≤ 1000 := by
                have z1 := Paired.length htd2
                have z2 := dwt_len td2
                have z3 := wt_pos (Bk.Bd.lp cc dd A1 B1 r)
                omega
              tm_at "g"
              refine w_tyL (s24 _ _ hD2) ?_
              tm_at "g"
              refine w_ixT (s24 _ _ hq) (atI_nat (j := 2) rfl) ?_
              tm_at "g"
              refine w_lay (by show 2 ≤ 100000; decide) fun r5 H5 s5 n5 g5 => ?_
              have s25 := s24.trans s5
              have hD5 := s25 _ _ hD2
              tm_at "g"
              refine w_append hD5 (by omega) ?_
              have i6 : Im H5 (upd H5 D (.lst (tvs2 ++ [.ref r5]))) := Im.upd fun zs z => by rw [hD5] at z; cases z
              tm_at "g"
              refine w_tyL upd_same ?_
              tm_at "g"
              refine w_ixT (i6 _ _ (s25 _ _ hq)) (atI_nat (j := 3) rfl) ?_
              tm_at "g"
              refine w_lay (by show 2 ≤ 100000; decide) fun r7 H7 s7 n7 g7 => ?_
              have hD7 := s7 _ _ (upd_same (H := H5) (a := D) (o := .lst (tvs2 ++ [.ref r5])))
              tm_at "g"
              refine w_append hD7 (by rw [List.length_append, List.length_singleton]; omega) ?_
              have i8 : Im H7 (upd H7 D (.lst (tvs2 ++ [.ref r5] ++ [.ref r7]))) := Im.upd fun zs z => by rw [hD7] at z; cases z
              tm_at "g"
              have iA : Im H2 (upd H7 D (.lst (tvs2 ++ [.ref r5] ++ [.ref r7]))) := (((Im.of s25).trans i6).trans (Im.of s7)).trans i8
              have sF : Same H (upd H7 D (.lst (tvs2 ++ [.ref r5] ++ [.ref r7]))) := (((sH2.trans s25).mut hD).trans s7).mut hD
              have eadd : ((x.2 : Nat) : Int) + 1 = ((x.2 + 1 : Nat) : Int) := by omega
              rw [eadd] at g5 g7
              obtain ⟨bo1, bo2, bo3, bo4, bo5⟩ := bok2
              simp only [dp] at hdp2
              simp only [sc] at hk2
              simp only [wt] at hm2
              refine ⟨_, k2 + 1, _, td2 ++ [(A1, x.2 + 1)] ++ [(B1, x.2 + 1)], r, rfl, upd_same, ((htd2.mono iA).snoc ⟨r5, pa, xa, rfl, i8 _ _ (s7 _ _ (i6 _ _ g5)), iA _ _ ha, hA.mono iA⟩).snoc ⟨r7, pb, xb, rfl, i8 _ _ g7, iA _ _ hb, hB.mono iA⟩, sF, ?_, hv3.mono iA, bo5, by omega, ?_, ?_, iA _ _ hbt2⟩
              · intro e he
                rcases List.mem_append.mp he with z | z
                · rcases List.mem_append.mp z with z | z
                  · exact okt2 e z
                  · rw [List.mem_singleton] at z
                    subst z
                    exact ⟨bo3, by show x.2 + 1 + dp A1 ≤ 10; omega⟩
                · rw [List.mem_singleton] at z
                  subst z
                  exact ⟨bo4, by show x.2 + 1 + dp B1 ≤ 10; omega⟩
              · rw [dsc_snoc, dsc_snoc]
                dsimp only
                omega
              · rw [dwt_snoc, dwt_snoc]
                dsimp only
                omega
          · obtain ⟨o6', k2, tvs2, td2, b2, rfl, hD2, htd2, sH2, okt2, hv2, bok2, hdp2, hk2, hm2, hbt2⟩ := h
            rw [List.drop_length] at hv2
            have hn : b2 = .nil := hv2.nil_iff.mp rfl
            subst hn
            have z1 : wt (.nil : Body) = 1 := rfl
            have z2 : sc (.nil : Body) = 0 := rfl
            rw [z1] at hm2
            rw [z2] at hk2
            exact ⟨dwt td2, by omega, _, _, _, tvs2, td2, k2, rfl, hD2, htd2, sH2, okt2, by omega, by omega, rfl⟩
      · obtain ⟨v, hv, k, hk, h⟩ := h
        exact ⟨v, hv, k, hk, hQ _ _ h⟩
end
end Kt
end -- KCt
section -- KNm
set_option Elab.async false
set_option linter.all false
set_option maxRecDepth 100000
set_option maxHeartbeats 4000000
/-! KNm: is_name. -/
namespace Kt
open PySem L2
/-- the names that this law has -/
def nameL : List Str := ["a", "b", "cc", "d", "eeeeeeee", "ff", "p", "q", "main", "zz"]
def wordL : List Str := ["add", "call", "do", "else", "end", "fi", "from", "if", "loop", "proc", "swap", "then", "uncall", "until"]
def moreL : List Str := ["vars", "width"]
def inLet (c : Nat) : Bool := !(Builtin.Str.occurrences ("abcdefghijklmnopqrstuvwxyz" : Str) ⟨#[c]⟩ 0 ("abcdefghijklmnopqrstuvwxyz" : Str).length 1).isEmpty
theorem nm_facts : ∀ x ∈ nameL, 1 ≤ x.length ∧ x.length ≤ 8 ∧ ¬ x ∈ wordL ++ moreL ∧ x.cps.size ≤ 8 ∧ x.cps.toList.all inLet = true := by decide +kernel
def spIsName : Sp := fun vs H Q _ => ∃ (x : Str), vs = [.str x] ∧ x ∈ nameL ∧ ∀ H', Same H H' → Q (.bl true) H'
def LcStr (g : TG) (tt : TT) (te : TE) (vs : List Nat) (σ : L2.St) (x : V) (H1 : Hp) (Q : VK) : Prop := ∃ z, x = .str z ∧ LcR (Its z) g tt te vs σ H1 Q
section
variable {g : TG} {tt : TT} {te tx : TE} {vs : List Nat} {σ : L2.St} {H : Hp} {Q : VK} {K : PySem.W.Frag}
theorem w_lcS (h : tx σ H fun x H1 => LcStr g tt te vs σ x H1 Q) : tLc (iStr tx) g tt te vs σ H Q := h
theorem w_lcstr {z : Str} (h : ∀ D, H D = none → ∃ Pv : Nat → Hp → Prop, Pv 0 (upd H D (.lst [])) ∧ (∀ i c H', z.cps[i]? = some c → Pv i H' → g (.str ⟨#[c]⟩) (wipe σ vs) H' fun σ2 H2 => wipe σ2 vs = wipe σ vs ∧ tt σ2 H2 fun b H3 =>
      if b = true then te σ2 H3 fun y H4 => ∃ acc, H4 D = some (.lst acc) ∧ acc.length < sizeLine ∧ Pv (i + 1) (upd H4 D (.lst (acc ++ [y]))) else Pv (i + 1) H3) ∧ ∀ H', Pv z.cps.size H' → Q (.ref D) H') : LcStr g tt te vs σ (.str z) H Q := by
  refine ⟨z, rfl, fun D hD => ?_⟩
  obtain ⟨Pv, h0, hs, hd⟩ := h D hD
  refine lc_it walk_str Pv h0 (fun _ _ _ _ => trivial) (fun i x H1 H' hi p y => ?_) hd
  obtain ⟨rfl, c, hc, rfl⟩ := y
  exact hs i c _ hc p
theorem w_catK {p r : Addr} {xs ys : List V} (h1 : SqT K H p xs) (h2 : SqT K H r ys) (z : xs.length + ys.length ≤ 100000) (hx : xs ≠ []) (hy : ys ≠ [])
    (q : ∀ t H', Same H H' → H' t = some (.tup (xs ++ ys)) → Q (.ref t) H') : rCatA K (.ref p) (.ref r) H Q :=
  ⟨p, r, xs, ys, rfl, rfl, h1, h2, Nat.le_trans z (by decide), fun e => absurd e hx, fun _ e => absurd e hy, fun _ _ => w_new fun t H' s _ h => q t H' s h⟩
end
section
variable {P : Program} {w : World} {K : PySem.W.Frag} {mg : Str → Option Value} {base : Heap} {a : Ad}
local macro_rules | `(tactic| tm_at "g") => `(tactic| repeat (first
  | with_reducible refine w_seq ?_ | with_reducible refine w_if ?_ | with_reducible refine w_tB ?_ | with_reducible refine w_tTest ?_ | with_reducible refine w_asg ?_ | with_reducible refine w_name ?_
  | with_reducible refine w_ret ?_ | with_reducible refine w_next ?_ | with_reducible refine w_op ?_ | with_reducible refine w_c ?_ | with_reducible refine w_cb ?_ | with_reducible refine w_call ?_ | with_reducible refine w_cons ?_ | with_reducible refine w_nil ?_
  | with_reducible refine w_var (by with_unfolding_all rfl) ?_
  | with_reducible refine w_rI0 ?_ | with_reducible refine w_eq (by with_unfolding_all rfl) ?_ | with_reducible refine w_ne (by with_unfolding_all rfl) ?_
  | with_reducible refine w_test ?_ | with_reducible refine w_T ?_ | with_reducible refine w_F ?_ | with_reducible refine w_T0 ?_ | with_reducible refine w_F0 ?_
  | with_reducible refine w_and ?_ | with_reducible refine w_or ?_ | with_reducible refine w_not ?_ | with_reducible refine w_ifE ?_ | with_reducible refine w_drop ?_
  | with_reducible refine w_andV ?_ | with_reducible refine w_orV ?_ | with_reducible refine w_notV ?_ | with_reducible refine w_dget ?_ | with_reducible refine w_din ?_ | with_reducible refine w_dnin ?_ | with_reducible refine w_fld ?_
  | with_reducible refine w_ttup ?_ | with_reducible refine w_tlst ?_ | with_reducible refine w_un ?_ | with_reducible refine w_rU ?_ | with_reducible refine w_gcons ?_ | with_reducible refine w_gnil ?_ | with_reducible refine w_sub ?_ | with_reducible refine w_sl ?_ | with_reducible refine w_nopart ?_ | with_reducible refine w_part ?_ | with_reducible refine w_int ?_ | with_reducible refine w_meth ?_
  | with_reducible refine w_make ?_ | with_reducible refine w_dput ?_ | with_reducible refine w_sfld ?_ | with_reducible refine w_bm ?_ | with_reducible refine w_bm0 ?_ | with_reducible refine w_isN ?_ | with_reducible refine w_notT ?_ | with_reducible refine w_forR ?_ | with_reducible refine w_forL ?_ | with_reducible refine w_forT ?_ | with_reducible refine w_fldaug ?_ | with_reducible refine w_radd ?_ | with_reducible refine w_par ?_ | with_reducible refine w_pair ?_
  | with_reducible refine w_lcR ?_ | with_reducible refine w_dcR ?_ | with_reducible refine w_lcL ?_ | with_reducible refine w_lcT ?_ | with_reducible refine w_dcT ?_ | with_reducible refine w_yes ?_ | with_reducible refine w_chain ?_))

theorem sc_is_name : FnScope ["value", "sign"] ["value"] (defScope s_is_name) := ⟨rfl, rfl, rfl, by decide +kernel, rfl, by decide +kernel, by decide +kernel⟩
theorem ok_is_name (T : Tx w K mg a) : FnOk P w K mg base CX0 1 a.f_is_name a.d_is_name ["value"] spIsName := by
  refine T.F_is_name.ok sc_is_name (fun vs H Q E h => ?_) (fun cdv A outer s H vs Q E hr h => ?_)
  · obtain ⟨x, rfl, _⟩ := h
    rfl
  · obtain ⟨x, rfl, hx, q⟩ := h
    have hu := hu_of hr
    obtain ⟨f1, f2, f3, f4, f5⟩ := nm_facts x hx
    refine ⟨_, (pss_cons (ps_if (PW.pt (pw_or (pt_not (pt_val (pe_callB call_is (by rfl) T.z_isinstance (by decide +kernel) (pa_cons (pv 0) (pa_cons (pe_bltn (v := .ty "str") rfl T.z_str (by decide +kernel) rfl) pa_nil))))) (pw_or (pt_not (pt_chain op_le op_le pe_int (pe_callB cl_lenS (by rfl) T.z_len PySem.boot_len (pa_cons (pv 0) pa_nil)) (pe_glob (v := .int 8) rfl (T.g_LONGEST_NAME.choose_spec) ⟨_, rfl⟩))) (pw_or1 (pt_cmpR op_in_seq (pv 0) (pe_op op_catA (pe_glob (v := .ref a.k_WORDS) rfl T.g_WORDS rfl) (pe_glob (v := .ref a.k_MORE_WORDS) rfl T.g_MORE_WORDS rfl)) rfl))))) (pss_one (ps_ret pe_bl)) pss_nil)
    (pss_one (ps_ret (pe_callB (cr_all rfl) (by rfl) T.z_all (by decide +kernel) (pa_cons (pe_lc (own := [("sign", 1)]) (g := gName 1) (tt := tYes) rfl sc_is_name.nd (pi_str (pv 0)) (blkOk_by (own := [("sign", 1)]) (N := ["value", "sign"]) (sc := defScope s_is_name) (by decide +kernel)) (fun _ _ _ _ _ => pg_name (i := 1) sc_is_name.nd rfl (Or.inl rfl)) (fun _ _ _ _ _ => pts_nil) (fun _ _ _ _ _ => by exact (by exact (pe_cmpR op_in_str (by exact (pv 1)) (by exact (pe_glob (v := .str "abcdefghijklmnopqrstuvwxyz") rfl (T.g_LETTERS.choose_spec) ⟨_, rfl⟩)) rfl)))) pa_nil))))), ?_⟩
    tm_at "g"
    refine w_is rfl k_str_str ?_
    tm_at "g"
    refine w_lenS (by omega) ?_
    tm_at "g"
    refine w_T' (decide_eq_true (by omega)) ?_
    tm_at "g"
    refine w_nF (by omega) ?_
    tm_at "g"
    refine w_catK (T.v_WORDS H) (T.v_MORE_WORDS H) (by show 14 + 2 ≤ 100000; decide) (by simp) (by simp) fun t H1 s1 h1 => ?_
    have e1 : (["add", "call", "do", "else", "end", "fi", "from", "if", "loop", "proc", "swap", "then", "uncall", "until"] : List Str).map V.str ++ (["vars", "width"] : List Str).map V.str = (wordL ++ moreL).map V.str := by rw [List.map_append]; rfl
    rw [e1] at h1
    refine w_inT h1 rfl (all_flat _) ?_
    rw [inV_str, decide_eq_false f3]
    tm_at "g"
    refine w_lcS ?_
    tm_at "g"
    refine w_lcstr fun D hD => ⟨fun i H' => H' = upd H1 D (.lst ((List.replicate i true).map V.bl)) ∧ i ≤ 8, ⟨rfl, by omega⟩, fun i c H' hc h => ?_, fun H' h => ?_⟩
    · obtain ⟨rfl, hi⟩ := h
      have hlt : i < x.cps.size := (Array.getElem?_eq_some_iff.mp hc).1
      have hin : inLet c = true := by
        have z := List.all_eq_true.mp f5 c (by
          rw [← Array.getElem?_toList] at hc
          exact List.mem_of_getElem? hc)
        exact z
      tm_at "g"
      refine ⟨rfl, ?_⟩
      tm_at "g"
      refine ⟨_, _, rfl, rfl, ?_⟩
      refine w_acc upd_same (by rw [List.length_map, List.length_replicate]; omega) ?_
      rw [upd_upd]
      refine ⟨?_, by omega⟩
      show upd H1 D (.lst ((List.replicate i true).map V.bl ++ [V.bl (inLet c)])) = _
      rw [hin, List.replicate_succ', List.map_append]
      rfl
    · obtain ⟨rfl, _⟩ := h
      tm_at "g"
      refine w_all upd_same ?_
      have e2 : (List.replicate x.cps.size true).all id = true := by simp
      rw [e2]
      exact q _ (s1.trans (Same.new hD))
end
end Kt
end -- KNm
section -- KPi
set_option Elab.async false
set_option linter.all false
set_option maxRecDepth 100000
set_option maxHeartbeats 4000000
/-! KPi: Program.__init__. -/
namespace Kt
open PySem L2
def rTupD : List V → Hp → VK → Prop := fun xs H Q => ∃ (a : Addr) (kvs : List (Key × V)), xs = [.ref a] ∧ Rd H a (.dK kvs) ∧ ∀ p, H p = none → Q (.ref p) (upd H p (.tup (kvs.map fun kv => kV kv.1)))
def rDictD : List V → Hp → VK → Prop := fun xs H Q => ∃ (a : Addr) (kvs : List (Key × V)), xs = [.ref a] ∧ Rd H a (.dK kvs) ∧ ∀ p, H p = none → Q (.ref p) (upd H p (.dK kvs))
def rSortD : List V → Hp → VK → Prop := fun xs H Q => ∃ (a : Addr) (kvs : List (Key × V)) (ks : List Str), xs = [.ref a] ∧ Rd H a (.dK kvs) ∧ kvs.map (·.1) = ks.map Sum.inr ∧ ks.length < 64 ∧
    ∀ ys p, ys.Perm ks → PyProof.Rows.sortedS ys = true → H p = none → Q (.ref p) (upd H p (.lst (ys.map V.str)))
theorem cl_tupD {X : Cx} (hc : X.calm = true) : CallR X (.type "tuple") rTupD := call_tupleD hc
theorem cl_dictD {X : Cx} : CallR X (.type "dict") rDictD := call_dictD
theorem cl_sortD {X : Cx} (hc : X.calm = true) : CallR X (.builtin "sorted") rSortD := call_sortedD hc
def LVals (x : V) (H : Hp) (Q : VK) : Prop := ∃ (a : Addr) (kvs : List (Key × V)), x = .ref a ∧ Rd H a (.dK kvs) ∧ ∀ p, H p = none → Q (.ref p) (upd H p (.lst (kvs.map (·.2))))
section
variable {H : Hp} {Q : VK}
theorem w_tupD {p : Addr} {kvs : List (Key × V)} (h : H p = some (.dK kvs)) (q : ∀ l H', Same H H' → H l = none → H' l = some (.tup (kvs.map fun kv => kV kv.1)) → Q (.ref l) H') : rTupD [V.ref p] H Q := ⟨p, kvs, rfl, .inl h, w_new q⟩
theorem w_dictD {p : Addr} {kvs : List (Key × V)} (h : H p = some (.dK kvs)) (q : ∀ l H', Same H H' → H l = none → H' l = some (.dK kvs) → Q (.ref l) H') : rDictD [V.ref p] H Q := ⟨p, kvs, rfl, .inl h, w_new q⟩
theorem w_sortD {p : Addr} {kvs : List (Key × V)} {ks : List Str} (h : H p = some (.dK kvs)) (hk : kvs.map (·.1) = ks.map Sum.inr) (hl : ks.length < 64) (q : ∀ (ys : List Str) l H', ys.Perm ks → Same H H' → H l = none → H' l = some (.lst (ys.map V.str)) → Q (.ref l) H') : rSortD [V.ref p] H Q :=
  ⟨p, kvs, ks, rfl, .inl h, hk, hl, fun ys p hp _ hn => q ys p _ hp (Same.new hn) hn upd_same⟩
theorem w_lvals {te : TE} {σ : L2.St} (h : te σ H fun x H1 => LVals x H1 Q) : tLVals te σ H Q := h
theorem w_lv {p : Addr} {kvs : List (Key × V)} (h : H p = some (.dK kvs)) (q : ∀ l H', Same H H' → H l = none → H' l = some (.lst (kvs.map (·.2))) → Q (.ref l) H') : LVals (.ref p) H Q := ⟨p, kvs, rfl, .inl h, w_new q⟩
end
/-- a comprehension over a locked dict's keys -/
theorem w_keysC {g : TG} {tt : TT} {te : TE} {vs : List Nat} {σ : L2.St} {i0 : Nat} {d : Addr} {o : Obj} {kvs : List (Key × V)} {H : Hp} {Q : VK} (hs : σ[i0]? = some (some (.ref d))) (hd : H d = some (.frz o (.dK kvs)))
    (h : ∀ D, H D = none → ∃ Pv : Nat → Hp → Prop, Pv 0 (upd H D (.lst [])) ∧ (∀ i H', i ≤ kvs.length → Pv i H' → H' d = some (.frz o (.dK kvs))) ∧ (∀ i k v H', kvs[i]? = some (k, v) → Pv i H' → g (kV k) (wipe σ vs) H' fun σ2 H2 => wipe σ2 vs = wipe σ vs ∧ tt σ2 H2 fun b H3 =>
      if b = true then te σ2 H3 fun y H4 => ∃ acc, H4 D = some (.lst acc) ∧ acc.length < sizeLine ∧ Pv (i + 1) (upd H4 D (.lst (acc ++ [y]))) else Pv (i + 1) H3) ∧ ∀ H', Pv kvs.length H' → Q (.ref D) H') : tLc (iKeys (tVar i0)) g tt te vs σ H Q := by
  refine ⟨_, hs, d, o, rfl, .inl ⟨kvs, hd, fun D hD => ?_⟩⟩
  obtain ⟨Pv, h0, hG, hst, hdn⟩ := h D hD
  refine lc_it walk_keys Pv h0 hG (fun i x H1 H' hi p y => ?_) hdn
  obtain ⟨rfl, k, v, hk, rfl⟩ := y
  exact hst i k v _ hk p
theorem putK_new {kvs : List (Key × V)} {k : Key} {v : V} (h : ∀ kv ∈ kvs, kv.1 ≠ k) : putK kvs k v = kvs ++ [(k, v)] := by
  unfold putK
  rw [if_neg]
  intro z
  obtain ⟨kv, hkv, e⟩ := List.any_eq_true.mp z
  exact h kv hkv (of_decide_eq_true e)
/-- a dict of procedures -/
structure PrcD (H : Hp) (kvs : List (Key × V)) (ks : List Str) (R : Str → Body) : Prop where
  keys : kvs.map (·.1) = ks.map Sum.inr
  vals : Paired (BdT H) (kvs.map (·.2)) (ks.map R)
  get : ∀ k ∈ ks, ∃ v, valV kvs (.inr k) = some v ∧ BdT H v (R k)
  nd : ks.Nodup
theorem PrcD.mono {H H' : Hp} (i : Im H H') {kvs : List (Key × V)} {ks : List Str} {R : Str → Body} (h : PrcD H kvs ks R) : PrcD H' kvs ks R :=
  ⟨h.keys, Paired.mapP h.vals fun _ _ x => x.mono i, fun k hk => let ⟨v, e, g⟩ := h.get k hk; ⟨v, e, g.mono i⟩, h.nd⟩
/-- what the program's parts are to be -/
structure PgOk (w : Nat) (vars ks cn : List Str) (R : Str → Body) : Prop where
  w1 : 1 ≤ w
  w8 : w ≤ 8
  v1 : 1 ≤ vars.length
  v6 : vars.length ≤ 6
  vn : ∀ x ∈ vars, x ∈ nameL
  vd : vars.Nodup
  k8 : ks.length ≤ 8
  kn : ∀ x ∈ ks, x ∈ nameL
  main : ("main" : Str) ∈ ks
  cno : ∀ q ∈ cn, q ∈ ks ∧ q ≠ "main"
  bok : ∀ k ∈ ks, BOk vars (2 ^ w) cn (R k) ∧ dp (R k) ≤ 10
  sm : ((ks.map R).map sc).sum ≤ 200
theorem BOk.mono {vars : List Str} {n : Int} {ns ns' : List Str} (h : ∀ q ∈ ns, q ∈ ns') : ∀ {b : Body}, BOk vars n ns b → BOk vars n ns' b
  | .nil, _ => trivial
  | .pr _ _, g => ⟨g.1, BOk.mono h g.2⟩
  | .cl _ _ _, g => ⟨h _ g.1, BOk.mono h g.2⟩
  | .ite _ _ _ _ _, g => ⟨g.1, g.2.1, BOk.mono h g.2.2.1, BOk.mono h g.2.2.2.1, BOk.mono h g.2.2.2.2⟩
  | .lp _ _ _ _ _, g => ⟨g.1, g.2.1, BOk.mono h g.2.2.1, BOk.mono h g.2.2.2.1, BOk.mono h g.2.2.2.2⟩
theorem PgOk.pd {w : Nat} {vars ks cn ns : List Str} {R : Str → Body} (h : PgOk w vars ks cn R) (nd : ks.Nodup) (p : ns.Perm ks) : PD.Ok ⟨w, vars, ns, R⟩ := by
  refine ⟨h.w8, h.v6, p.nodup_iff.mpr nd, p.mem_iff.mpr h.main, fun n hn => ?_, ?_⟩
  · exact (h.bok n (p.mem_iff.mp hn)).1.mono fun q hq => p.mem_iff.mpr (h.cno q hq).1
  · dsimp only
    have e : (ns.map fun n => wt (R n)).sum = (ks.map fun n => wt (R n)).sum := (p.map _).sum_nat
    rw [e]
    have z : ∀ l : List Str, (l.map fun n => wt (R n)).sum ≤ 3 * ((l.map R).map sc).sum + l.length := fun l => by
      induction l with
      | nil => exact Nat.zero_le _
      | cons x r ih =>
        simp only [List.map_cons, List.sum_cons, List.length_cons]
        have := (wt_sc (R x)).1
        omega
    have := z ks
    have := h.sm
    have := h.k8
    omega
def spPgInit (a : Ad) : Sp := fun vs H Q _ => ∃ (p dx vt dt : Addr) (w : Nat) (vars ks cn : List Str) (R : Str → Body) (kvs : List (Key × V)), vs = [.ref p, .int (w : Nat), .ref vt, .ref dt] ∧ H p = some (.ins a.c_Program dx []) ∧ H vt = some (.tup (vars.map V.str)) ∧
  H dt = some (.dK kvs) ∧ PrcD H kvs ks R ∧ PgOk w vars ks cn R ∧ ∀ H' ns, Kp [p] H H' → ns.Perm ks → PgA a H' p ⟨w, vars, ns, R⟩ → Q .non H'
theorem flPg_new {w : Nat} {vt nt db : Addr} : putF "_bodies" (.ref db) (putF "names" (.ref nt) (putF "variables" (.ref vt) (putF "width" (.int (w : Nat)) []))) = flPg w vt nt db := by
  repeat (first | rw [putF_nil] | rw [putF_ne (by decide +kernel)])
  rfl
section
variable {P : Program} {w : World} {K : PySem.W.Frag} {mg : Str → Option Value} {base : Heap} {a : Ad}
local macro_rules | `(tactic| tm_at "g") => `(tactic| repeat (first
  | with_reducible refine w_seq ?_ | with_reducible refine w_if ?_ | with_reducible refine w_tB ?_ | with_reducible refine w_tTest ?_ | with_reducible refine w_asg ?_ | with_reducible refine w_name ?_
  | with_reducible refine w_ret ?_ | with_reducible refine w_next ?_ | with_reducible refine w_op ?_ | with_reducible refine w_c ?_ | with_reducible refine w_cb ?_ | with_reducible refine w_call ?_ | with_reducible refine w_cons ?_ | with_reducible refine w_nil ?_
  | with_reducible refine w_var (by with_unfolding_all rfl) ?_
  | with_reducible refine w_rI0 ?_ | with_reducible refine w_eq (by with_unfolding_all rfl) ?_ | with_reducible refine w_ne (by with_unfolding_all rfl) ?_
  | with_reducible refine w_test ?_ | with_reducible refine w_T ?_ | with_reducible refine w_F ?_ | with_reducible refine w_T0 ?_ | with_reducible refine w_F0 ?_
  | with_reducible refine w_and ?_ | with_reducible refine w_or ?_ | with_reducible refine w_not ?_ | with_reducible refine w_ifE ?_ | with_reducible refine w_drop ?_
  | with_reducible refine w_andV ?_ | with_reducible refine w_orV ?_ | with_reducible refine w_notV ?_ | with_reducible refine w_dget ?_ | with_reducible refine w_din ?_ | with_reducible refine w_dnin ?_ | with_reducible refine w_fld ?_
  | with_reducible refine w_ttup ?_ | with_reducible refine w_tlst ?_ | with_reducible refine w_un ?_ | with_reducible refine w_rU ?_ | with_reducible refine w_gcons ?_ | with_reducible refine w_gnil ?_ | with_reducible refine w_sub ?_ | with_reducible refine w_sl ?_ | with_reducible refine w_nopart ?_ | with_reducible refine w_part ?_ | with_reducible refine w_int ?_ | with_reducible refine w_meth ?_
  | with_reducible refine w_make ?_ | with_reducible refine w_dput ?_ | with_reducible refine w_sfld ?_ | with_reducible refine w_bm ?_ | with_reducible refine w_bm0 ?_ | with_reducible refine w_isN ?_ | with_reducible refine w_notT ?_ | with_reducible refine w_forR ?_ | with_reducible refine w_forL ?_ | with_reducible refine w_forT ?_ | with_reducible refine w_fldaug ?_ | with_reducible refine w_radd ?_ | with_reducible refine w_par ?_ | with_reducible refine w_pair ?_
  | with_reducible refine w_lcR ?_ | with_reducible refine w_dcR ?_ | with_reducible refine w_lcL ?_ | with_reducible refine w_lcT ?_ | with_reducible refine w_dcT ?_ | with_reducible refine w_yes ?_ | with_reducible refine w_chain ?_))

theorem sc_Program_init : FnScope ["self", "width", "variables", "procedures", "checker", "name"] ["self", "width", "variables", "procedures"] (defScope s_Program_init) := ⟨rfl, rfl, rfl, by decide +kernel, rfl, by decide +kernel, by decide +kernel⟩
theorem ok_pginit (T : Tx w K mg a) : FnOk P w K mg base CX0 7 a.f_Program_init a.d_Program_init ["self", "width", "variables", "procedures"] (spPgInit a) := by
  have G_is_number : FnOk P w K mg base CX0 1 _ _ _ spIsNum := ok_is_number T
  have G_is_name : FnOk P w K mg base CX0 1 _ _ _ spIsName := ok_is_name T
  have G_Checker_init : FnOk P w K mg base CX0 1 _ _ _ (spCkInit a) := ok_ckinit T
  have G_count_statements : FnOk P w K mg base CX0 6 _ _ _ (spCount a) := ok_count T
  refine T.F_Program_init.ok sc_Program_init (fun vs H Q E h => ?_) (fun cdv A outer s H vs Q E hr h => ?_)
  · obtain ⟨p, dx, vt, dt, n, vars, ks, cn, R, kvs, rfl, _⟩ := h
    rfl
  · obtain ⟨p, dx, vt, dt, n, vars, ks, cn, R, kvs, rfl, hp, hv, hd, hpr, ok, q⟩ := h
    have hu := hu_of hr
    refine ⟨_, (pss_cons (ps_if (PW.pt (pw_or (pt_not (pt_val (pe_call G_is_number (hr.mono (by decide)) rfl T.g_is_number T.F_is_number.kp T.b_is_number .nil pass0 (pa_cons (pv 1) (pa_cons (pe_op op_add (pe_glob (v := .int 8) rfl (T.g_MOST_WIDTH.choose_spec) ⟨_, rfl⟩) pe_int) pa_nil))))) (pw_or1 (pt_cmpR op_eq (pv 1) pe_int (nomark _))))) (pss_one ps_never) pss_nil)
    (pss_cons (ps_if (PW.pt (pw_or (pt_not (pt_val (pe_callB call_is (by rfl) T.z_isinstance (by decide +kernel) (pa_cons (pv 2) (pa_cons (pe_bltn (v := .ty "tuple") rfl T.z_tuple (by decide +kernel) rfl) pa_nil))))) (pw_or1 (pt_not (pt_chain op_le op_le pe_int (pe_callB cl_len (by rfl) T.z_len PySem.boot_len (pa_cons (pv 2) pa_nil)) (pe_glob (v := .int 6) rfl (T.g_MOST_VARIABLES.choose_spec) ⟨_, rfl⟩)))))) (pss_one ps_never) pss_nil)
    (pss_cons (ps_if (PW.pt (pw_or (pt_not (pt_val (pe_callB (cr_all rfl) (by rfl) T.z_all (by decide +kernel) (pa_cons (pe_lc (own := [("name", 5)]) (g := gName 5) (tt := tYes) rfl sc_Program_init.nd (pi_tup (pv 2)) (blkOk_by (own := [("name", 5)]) (N := ["self", "width", "variables", "procedures", "checker", "name"]) (sc := defScope s_Program_init) (by decide +kernel)) (fun _ _ _ _ _ => pg_name (i := 5) sc_Program_init.nd rfl (Or.inl rfl)) (fun _ _ _ _ _ => pts_nil) (fun _ _ _ _ _ => by exact (by exact (pe_call G_is_name (hr.mono (by decide)) rfl T.g_is_name T.F_is_name.kp T.b_is_name .nil pass0 (by exact (pa_cons (by exact (pv 5)) pa_nil)))))) pa_nil)))) (pw_or1 (pt_cmpR op_lt (pe_callB cl_lenD (by rfl) T.z_len PySem.boot_len (pa_cons (pe_dc (own := [("name", 5)]) (g := gName 5) (tt := tYes) rfl sc_Program_init.nd (pi_tup (pv 2)) (blkOk_by (own := [("name", 5)]) (N := ["self", "width", "variables", "procedures", "checker", "name"]) (sc := defScope s_Program_init) (by decide +kernel)) (fun _ _ _ _ _ => pg_name (i := 5) sc_Program_init.nd rfl (Or.inl rfl)) (fun _ _ _ _ _ => pts_nil) (fun _ _ _ _ _ => by exact (by exact (pv 5))) (fun _ _ _ _ _ => by exact pe_bl)) pa_nil)) (pe_callB cl_len (by rfl) T.z_len PySem.boot_len (pa_cons (pv 2) pa_nil)) (nomark _))))) (pss_one ps_never) pss_nil)
    (pss_cons (ps_if (PW.pt (pw_or (pt_not (pt_chain op_le op_le pe_int (pe_callB cl_lenD (by rfl) T.z_len PySem.boot_len (pa_cons (pv 3) pa_nil)) (pe_glob (v := .int 8) rfl (T.g_MOST_PROCEDURES.choose_spec) ⟨_, rfl⟩))) (pw_or1 (pt_not (pt_val (pe_callB (cr_all rfl) (by rfl) T.z_all (by decide +kernel) (pa_cons (pe_lock (pe_lc (own := [("name", 5)]) (g := gName 5) (tt := tYes) rfl sc_Program_init.nd (pi_keys (by exact (pv 3))) (blkOk_by (own := [("name", 5)]) (N := ["self", "width", "variables", "procedures", "checker", "name"]) (sc := defScope s_Program_init) (by decide +kernel)) (fun _ _ _ _ _ => pg_name (i := 5) sc_Program_init.nd rfl (Or.inl rfl)) (fun _ _ _ _ _ => pts_nil) (fun _ _ _ _ _ => by exact (by exact (pe_call G_is_name (hr.mono (by decide)) rfl T.g_is_name T.F_is_name.kp T.b_is_name .nil pass0 (by exact (pa_cons (by exact (pv 5)) pa_nil))))))) pa_nil))))))) (pss_one ps_never) pss_nil)
    (pss_cons (ps_if (pt_cmp (pc_dnotin hu pe_str (pv 3))) (pss_one ps_never) pss_nil)
    (pss_cons (ps_set (i := 4) sc_Program_init.nd rfl (Or.inl rfl) (pe_make T.mk_Checker G_Checker_init (hr.mono (by decide)) rfl T.g_Checker T.b_Checker_init .nil pass0 (pa_cons (pv 1) (pa_cons (pv 2) (pa_cons (pe_callTy (cl_tupD rfl) (by rfl) T.z_tuple (by decide +kernel) (pa_cons (pv 3) pa_nil)) pa_nil)))))
    (pss_cons (ps_if (pt_cmpR op_lt (pe_call G_count_statements (hr.mono (by decide)) rfl T.g_count_statements T.F_count_statements.kp T.b_count_statements .nil pass0 (pa_cons (pv 4) (pa_cons (pe_listVals rfl rfl T.z_list (pv 3)) pa_nil))) pe_int (nomark _)) (pss_one ps_never) pss_nil)
    (pss_cons (ps_fld (pv 0) (pv 1) rfl)
    (pss_cons (ps_fld (pv 0) (pv 2) rfl)
    (pss_cons (ps_fld (pv 0) (pe_callTy cl_tup (by rfl) T.z_tuple (by decide +kernel) (pa_cons (pe_callB (cl_sortD rfl) (by rfl) T.z_sorted (by decide +kernel) (pa_cons (pv 3) pa_nil)) pa_nil)) rfl)
    (pss_one (ps_fld (pv 0) (pe_callTy cl_dictD (by rfl) T.z_dict (by decide +kernel) (pa_cons (pv 3) pa_nil)) rfl)))))))))))), ?_⟩
    tm_at "g"
    have e1 : isNum (8 + 1) (.int (n : Nat)) = true := by
      have := ok.w8
      simp [isNum]
      omega
    refine ⟨_, _, "int", rfl, rfl, ?_⟩
    rw [e1]
    tm_at "g"
    refine w_F' (decide_eq_false (fun z => by injection z with z; have := ok.w1; omega)) ?_
    tm_at "g"
    refine w_is ⟨⟨_, hv⟩, rfl⟩ k_tuple_tuple ?_
    tm_at "g"
    refine w_lenT hv ?_
    have v1 := ok.v1
    have v6 := ok.v6
    tm_at "g"
    refine w_T' (decide_eq_true (by rw [List.length_map]; omega)) ?_
    tm_at "g"
    refine w_nF (by rw [List.length_map]; omega) ?_
    tm_at "g"
    refine w_lctup hv fun D hD => ⟨fun i H' => Same H H' ∧ H' D = some (.lst ((List.replicate i true).map V.bl)) ∧ i ≤ vars.length, ⟨Same.new hD, upd_same, Nat.zero_le _⟩, fun i H' hi h => h.1 _ _ hv, fun i x H' hx h => ?_, fun H1 h => ?_⟩
    · obtain ⟨s1, h1, hi⟩ := h
      rw [List.getElem?_map] at hx
      obtain ⟨y, hy, rfl⟩ : ∃ y, vars[i]? = some y ∧ x = V.str y := by
        cases e : vars[i]? with
        | none => rw [e] at hx; cases hx
        | some y => rw [e] at hx; exact ⟨y, rfl, (Option.some.inj hx).symm⟩
      have hlt : i < vars.length := (List.getElem?_eq_some_iff.mp hy).1
      tm_at "g"
      refine ⟨rfl, ?_⟩
      tm_at "g"
      refine ⟨y, rfl, ok.vn _ (List.mem_of_getElem? hy), fun H2 s2 => ?_⟩
      refine w_acc (s2 _ _ h1) (by rw [List.length_map, List.length_replicate]; omega) ?_
      refine ⟨(s1.trans s2).mut hD, ?_, hlt⟩
      rw [List.replicate_succ', List.map_append]
      exact upd_same
    obtain ⟨s01, h1, _⟩ := h
    tm_at "g"
    refine w_all h1 ?_
    have e2 : (List.replicate (vars.map V.str).length true).all id = true := by simp
    rw [e2]
    tm_at "g"
    refine w_dctup (s01 _ _ hv) fun D2 hD2 => ⟨fun i H' => Same H1 H' ∧ H' D2 = some (.dK ((vars.take i).map fun x => (Sum.inr x, V.bl true))), ⟨Same.new hD2, upd_same⟩, fun i H' hi h => h.1 _ _ (s01 _ _ hv), fun i x H' hx h => ?_, fun H2 h => ?_⟩
    · obtain ⟨s1, h1⟩ := h
      rw [List.getElem?_map] at hx
      obtain ⟨y, hy, rfl⟩ : ∃ y, vars[i]? = some y ∧ x = V.str y := by
        cases e : vars[i]? with
        | none => rw [e] at hx; cases hx
        | some y => rw [e] at hx; exact ⟨y, rfl, (Option.some.inj hx).symm⟩
      have hlt : i < vars.length := (List.getElem?_eq_some_iff.mp hy).1
      have htk := take_snoc hy
      tm_at "g"
      refine ⟨rfl, ?_⟩
      tm_at "g"
      refine w_dacS h1 (by rw [List.length_map, List.length_take]; omega) ?_
      refine ⟨s1.mut hD2, ?_⟩
      rw [putK_new, htk, List.map_append]
      · exact upd_same
      · intro kv hkv z
        obtain ⟨x', hx', rfl⟩ := List.mem_map.mp hkv
        have z := Sum.inr.inj z
        subst z
        have nd := ok.vd
        rw [← List.take_append_drop (i + 1) vars, htk, List.append_assoc] at nd
        exact (List.nodup_append.mp nd).2.2 x' hx' x' (by simp) rfl
    obtain ⟨s12, h2⟩ := h
    tm_at "g"
    refine w_lenD h2 ?_
    tm_at "g"
    refine w_lenT ((s01.trans s12) _ _ hv) ?_
    tm_at "g"
    refine w_F' (decide_eq_false (by simp)) ?_
    have s02 := s01.trans s12
    tm_at "g"
    refine w_lenD (s02 _ _ hd) ?_
    have hkl : kvs.length = ks.length := by
      have e := congrArg List.length hpr.keys
      rwa [List.length_map, List.length_map] at e
    have hk1 : 1 ≤ ks.length := List.length_pos_of_mem ok.main
    have hk8 := ok.k8
    tm_at "g"
    refine w_T' (decide_eq_true (by omega)) ?_
    tm_at "g"
    refine w_nF (by omega) ?_
    tm_at "g"
    refine ⟨dt, .dK kvs, s02 _ _ hd, trivial, fun od => ?_⟩
    obtain ⟨HL, hHL⟩ : ∃ HL, HL = upd H2 dt (.frz od (.dK kvs)) := ⟨_, rfl⟩
    rw [← hHL]
    have hLd : HL dt = some (.frz od (.dK kvs)) := by rw [hHL]; exact upd_same
    refine w_keysC (by with_unfolding_all rfl) hLd fun D3 hD3 => ⟨fun i H' => Same HL H' ∧ H' D3 = some (.lst ((List.replicate i true).map V.bl)) ∧ i ≤ ks.length, ⟨Same.new hD3, upd_same, Nat.zero_le _⟩, fun i H' hi h => h.1 _ _ hLd, fun i k v H' hx h => ?_, fun H3 h => ?_⟩
    · obtain ⟨s1, h1, hi⟩ := h
      have hkk : ∃ y, ks[i]? = some y ∧ k = .inr y := by
        have e := congrArg (fun l => l[i]?) hpr.keys
        rw [List.getElem?_map, List.getElem?_map, hx] at e
        cases e3 : ks[i]? with
        | none => rw [e3] at e; cases e
        | some y => rw [e3] at e; exact ⟨y, rfl, Option.some.inj e⟩
      obtain ⟨y, hy, rfl⟩ := hkk
      have hlt : i < ks.length := (List.getElem?_eq_some_iff.mp hy).1
      show gName 5 (.str y) _ _ _
      tm_at "g"
      refine ⟨rfl, ?_⟩
      tm_at "g"
      refine ⟨y, rfl, ok.kn _ (List.mem_of_getElem? hy), fun H4 s4 => ?_⟩
      refine w_acc (s4 _ _ h1) (by rw [List.length_map, List.length_replicate]; omega) ?_
      refine ⟨(s1.trans s4).mut hD3, ?_, hlt⟩
      rw [List.replicate_succ', List.map_append]
      exact upd_same
    obtain ⟨s3, h3, _⟩ := h
    refine ⟨s3 _ _ hLd, ?_⟩
    have nD3 : D3 ≠ dt := fun z => by rw [z, hLd] at hD3; cases hD3
    have s23 : Same H2 (upd H3 dt (.dK kvs)) := fun b o e => by
      by_cases hb : b = dt
      · subst hb
        rw [s02 _ _ hd] at e
        cases e
        exact upd_same
      · rw [upd_ne hb]
        refine s3 _ _ ?_
        rw [hHL, upd_ne hb]
        exact e
    have h3' : upd H3 dt (.dK kvs) D3 = some (.lst ((List.replicate kvs.length true).map V.bl)) := by rw [upd_ne nD3]; exact h3
    obtain ⟨H4, hH4⟩ : ∃ H4, H4 = upd H3 dt (.dK kvs) := ⟨_, rfl⟩
    rw [← hH4] at s23 h3' ⊢
    have s04 := s02.trans s23
    tm_at "g"
    refine w_all h3' ?_
    have e3 : (List.replicate kvs.length true).all id = true := by simp
    rw [e3]
    tm_at "g"
    refine w_diS (s04 _ _ hd) ?_
    obtain ⟨vm, hvm, _⟩ := hpr.get _ ok.main
    rw [hvm]
    tm_at "g"
    refine w_F' rfl ?_
    tm_at "g"
    refine w_tupD (s04 _ _ hd) fun nt H5 s5 n5 h5 => ?_
    have ek : (kvs.map fun kv => kV kv.1) = ks.map V.str := by
      have e := congrArg (List.map kV) hpr.keys
      rw [List.map_map, List.map_map] at e
      exact e
    rw [ek] at h5
    have s05 := s04.trans s5
    tm_at "g"
    intro c dxc nc ndc ncd
    have s6 : Same H5 (upd (upd H5 dxc (.own c)) c (.ins a.c_Checker dxc [])) := fun b o e => by
      rw [upd_ne (ne_of_none e nc), upd_ne (ne_of_none e ndc)]
      exact e
    refine ⟨c, dxc, n, vt, nt, rfl, upd_same, ok.w8, rfl, ?_⟩
    rw [upd_upd]
    obtain ⟨H6, hH6⟩ : ∃ H6, H6 = upd (upd H5 dxc (.own c)) c (.ins a.c_Checker dxc (flCk (2 ^ n) vt nt)) := ⟨_, rfl⟩
    rw [← hH6]
    have s56 : Same H5 H6 := fun b o e => by
      rw [hH6, upd_ne (ne_of_none e nc), upd_ne (ne_of_none e ndc)]
      exact e
    have s06 := s05.trans s56
    have hck : CkA a H6 c n vars ks := ⟨dxc, vt, nt, by rw [hH6]; exact upd_same, s06 _ _ hv, s56 _ _ h5⟩
    tm_at "g"
    refine w_lvals ?_
    tm_at "g"
    refine w_lv (s06 _ _ hd) fun lv H7 s7 n7 h7 => ?_
    have s07 := s06.trans s7
    have hpr7 := hpr.mono (Im.of s07)
    tm_at "g"
    refine ⟨c, lv, n, vars, ks, cn, _, ks.map R, rfl, hck.mono s7, ok.cno, h7, hpr7.vals, fun b hb => ?_, ok.sm, by rw [List.length_map]; exact ok.k8, fun H8 k s8 => ?_⟩
    · obtain ⟨y, hy, rfl⟩ := List.mem_map.mp hb
      exact ok.bok y hy
    tm_at "g"
    refine w_F' (decide_eq_false (by omega)) ?_
    have s08 := s07.trans s8
    have hpr8 := hpr7.mono (Im.of s8)
    tm_at "g"
    refine w_sobj (s08 _ _ hp) T.cl_Program T.na_Program_width (by show 0 < 1000; decide) ?_
    tm_at "g"
    refine w_sobj upd_same T.cl_Program T.na_Program_variables (by show 1 < 1000; decide) ?_
    rw [upd_upd]
    obtain ⟨H9, hH9⟩ : ∃ H9, H9 = upd H8 p (.ins a.c_Program dx (putF "variables" (.ref vt) (putF "width" (.int (n : Nat)) []))) := ⟨_, rfl⟩
    rw [← hH9]
    have k89 : Kp [p] H8 H9 := by rw [hH9]; exact Kp.upd (by simp)
    have npd : dt ≠ p := fun z => by rw [z, hp] at hd; cases hd
    have npv : vt ≠ p := fun z => by rw [z, hp] at hv; cases hv
    have hp9 : H9 p = some (.ins a.c_Program dx (putF "variables" (.ref vt) (putF "width" (.int (n : Nat)) []))) := by rw [hH9]; exact upd_same
    have hd9 := k89 _ _ (s08 _ _ hd) (by simpa using npd)
    have hv9 := k89 _ _ (s08 _ _ hv) (by simpa using npv)
    have i89 : Im H8 H9 := by rw [hH9]; exact Im.upd fun xs z => by rw [s08 _ _ hp] at z; cases z
    tm_at "g"
    refine w_sortD hd9 hpr.keys (by omega) fun ns ln H10 hperm s10 n10 h10 => ?_
    tm_at "g"
    refine w_tupL h10 fun nt2 H11 s11 n11 h11 => ?_
    have s911 := s10.trans s11
    tm_at "g"
    refine w_sobj (s911 _ _ hp9) T.cl_Program T.na_Program_names (by show 2 < 1000; decide) ?_
    obtain ⟨H12, hH12⟩ : ∃ H12, H12 = upd H11 p (.ins a.c_Program dx (putF "names" (.ref nt2) (putF "variables" (.ref vt) (putF "width" (.int (n : Nat)) [])))) := ⟨_, rfl⟩
    rw [← hH12]
    have k1112 : Kp [p] H11 H12 := by rw [hH12]; exact Kp.upd (by simp)
    have hp12 : H12 p = some (.ins a.c_Program dx (putF "names" (.ref nt2) (putF "variables" (.ref vt) (putF "width" (.int (n : Nat)) [])))) := by rw [hH12]; exact upd_same
    have hd12 := k1112 _ _ (s911 _ _ hd9) (by simpa using npd)
    have hv12 := k1112 _ _ (s911 _ _ hv9) (by simpa using npv)
    have nnt : nt2 ≠ p := fun z => by rw [z, s911 _ _ hp9] at h11; cases h11
    have hn12 := k1112 _ _ h11 (by simpa using nnt)
    have i1112 : Im H11 H12 := by rw [hH12]; exact Im.upd fun xs z => by rw [s911 _ _ hp9] at z; cases z
    tm_at "g"
    refine w_dictD hd12 fun db H13 s13 n13 h13 => ?_
    tm_at "g"
    refine w_sobj (s13 _ _ hp12) T.cl_Program T.na_Program__bodies (by show 3 < 1000; decide) ?_
    rw [flPg_new]
    have i13 : Im H13 (upd H13 p (.ins a.c_Program dx (flPg n vt nt2 db))) := Im.upd fun xs z => by rw [s13 _ _ hp12] at z; cases z
    have hprF := ((((hpr8.mono i89).mono (Im.of s911)).mono i1112).mono (Im.of s13)).mono i13
    have ndb : db ≠ p := fun z => by rw [z, s13 _ _ hp12] at h13; cases h13
    refine q _ ns ?_ hperm ⟨dx, vt, nt2, db, kvs, upd_same, ?_, ?_, ?_, fun k hk => hprF.get k (hperm.mem_iff.mp hk)⟩
    · exact ((((Kp.of s08).trans k89).trans (Kp.of s911)).trans k1112).trans ((Kp.of s13).trans (Kp.upd (by simp)))
    · rw [upd_ne npv]
      exact s13 _ _ hv12
    · rw [upd_ne nnt]
      exact s13 _ _ hn12
    · rw [upd_ne ndb]
      exact h13
end
end Kt
end -- KPi
section -- KNs
set_option Elab.async false
set_option linter.all false
set_option maxRecDepth 100000
set_option maxHeartbeats 4000000
/-! KNs: nested: the bodies of a body, those within behind those around. -/
namespace Kt
open PySem L2
/-- without its first k statements -/
def drp : Nat → Body → Body
  | 0, b => b
  | k + 1, b => drp k (rest b)
theorem drp_nil : ∀ k : Nat, drp k .nil = .nil
  | 0 => rfl
  | k + 1 => drp_nil k
theorem drp_succ : ∀ (k : Nat) (b : Body), drp (k + 1) b = rest (drp k b)
  | 0, _ => rfl
  | k + 1, b => drp_succ k (rest b)
theorem rest_nil_of {H : Hp} {b : Body} {xs : List V} (h : BdV H xs b) (e : xs = []) : b = .nil := h.nil_iff.mp e
theorem BdV.drp {H : Hp} : ∀ {k : Nat} {xs : List V} {b : Body}, BdV H xs b → BdV H (xs.drop k) (drp k b)
  | 0, _, _, h => h
  | k + 1, [], b, h => by
    obtain rfl := h.nil_iff.mp rfl
    rw [List.drop_nil, drp_nil]
    rfl
  | k + 1, x :: xs, b, h => BdV.drp (k := k) h.head.1
theorem BdV.drp_len {H : Hp} {xs : List V} {b : Body} (h : BdV H xs b) : Kt.drp xs.length b = .nil := by
  have := h.drp (k := xs.length)
  rw [List.drop_length] at this
  exact this.nil_iff.mp rfl
/-- b begins with a compound of A and B -/
def Cmp (b A B : Body) : Prop := ∃ c d r, b = .ite c d A B r ∨ b = .lp c d A B r
/-- the bodies within, at all depths -/
def nb : Body → Nat
  | .nil => 0
  | .pr _ r => nb r
  | .cl _ _ r => nb r
  | .ite _ _ A B r => 2 + nb A + nb B + nb r
  | .lp _ _ A B r => 2 + nb A + nb B + nb r
theorem nb_sc (b : Body) : nb b ≤ 2 * sc b := by
  induction b with
  | nil => exact Nat.le_refl _
  | pr _ _ ih => simp only [nb, sc]; omega
  | cl _ _ _ ih => simp only [nb, sc]; omega
  | ite _ _ _ _ _ i1 i2 i3 => simp only [nb, sc]; omega
  | lp _ _ _ _ _ i1 i2 i3 => simp only [nb, sc]; omega
abbrev TK := List (List Key × V)
def kAt (i j : Nat) : List Key := [.inl ((i : Nat) : Int), .inl ((j : Nat) : Int)]
theorem kAt_inj {i j i' j' : Nat} (h : kAt i j = kAt i' j') : i = i' ∧ j = j' := by
  unfold kAt at h
  injection h with h1 h2
  injection h2 with h2 _
  injection h1 with h1
  injection h2 with h2
  exact ⟨by omega, by omega⟩
/-- the places at the turn (at, k) -/
structure NI (bs : List Body) (kvs : TK) (at_ k : Nat) : Prop where
  yes : ∀ i j b A B, (i < at_ ∨ (i = at_ ∧ j < k)) → bs[i]? = some b → Cmp (drp j b) A B → ∃ m : Nat, valV kvs (kAt i j) = some (.int (m : Nat)) ∧ i < m ∧ bs[m]? = some A ∧ bs[m + 1]? = some B
  no : ∀ i j b, bs[i]? = some b → (¬ ∃ A B, Cmp (drp j b) A B) → valV kvs (kAt i j) = none
  new : ∀ i j, ¬ (i < at_ ∨ (i = at_ ∧ j < k)) → valV kvs (kAt i j) = none
/-- all of them -/
structure NDone (bs : List Body) (kvs : TK) : Prop where
  yes : ∀ i j b A B, bs[i]? = some b → Cmp (drp j b) A B → ∃ m : Nat, valV kvs (kAt i j) = some (.int (m : Nat)) ∧ i < m ∧ bs[m]? = some A ∧ bs[m + 1]? = some B
  no : ∀ i j b, bs[i]? = some b → (¬ ∃ A B, Cmp (drp j b) A B) → valV kvs (kAt i j) = none
theorem NI.step {bs : List Body} {kvs : TK} {at_ k : Nat} {b : Body} (h : NI bs kvs at_ k) (hb : bs[at_]? = some b) (hn : ¬ ∃ A B, Cmp (drp k b) A B) : NI bs kvs at_ (k + 1) := by
  refine ⟨fun i j b' A B hij hb' hc => ?_, h.no, fun i j hij => h.new i j (fun z => hij (by rcases z with z | ⟨z1, z2⟩; exact .inl z; exact .inr ⟨z1, by omega⟩))⟩
  rcases hij with z | ⟨z1, z2⟩
  · exact h.yes i j b' A B (.inl z) hb' hc
  · by_cases e : j = k
    · subst e
      subst z1
      rw [hb] at hb'
      cases hb'
      exact absurd ⟨A, B, hc⟩ hn
    · exact h.yes i j b' A B (.inr ⟨z1, by omega⟩) hb' hc
theorem get_app {α : Type} {l r : List α} {i : Nat} {x : α} (h : l[i]? = some x) : (l ++ r)[i]? = some x := by
  rw [List.getElem?_append_left (List.getElem?_eq_some_iff.mp h).1]
  exact h
theorem NI.put {bs : List Body} {kvs : TK} {at_ k : Nat} {b A B : Body} (h : NI bs kvs at_ k) (hb : bs[at_]? = some b) (hc : Cmp (drp k b) A B) : NI (bs ++ [A] ++ [B]) (putK kvs (kAt at_ k) (.int (bs.length : Nat))) at_ (k + 1) := by
  have hlt : at_ < bs.length := (List.getElem?_eq_some_iff.mp hb).1
  have gA : (bs ++ [A] ++ [B])[bs.length]? = some A := by simp
  have gB : (bs ++ [A] ++ [B])[bs.length + 1]? = some B := by simp
  have up : ∀ {i : Nat} {x : Body}, bs[i]? = some x → (bs ++ [A] ++ [B])[i]? = some x := fun hx => get_app (get_app hx)
  have dn : ∀ {i : Nat} {x : Body}, i < bs.length → (bs ++ [A] ++ [B])[i]? = some x → bs[i]? = some x := fun {i x} hi hx => by
    rw [List.append_assoc, List.getElem?_append_left hi] at hx
    exact hx
  have one : ∀ {A' B' : Body}, Cmp (drp k b) A' B' → A' = A ∧ B' = B := fun {A' B'} h' => by
    obtain ⟨c, d, r, e⟩ := hc
    obtain ⟨c', d', r', e'⟩ := h'
    rcases e with e | e <;> rcases e' with e' | e' <;> rw [e] at e' <;> cases e' <;> exact ⟨rfl, rfl⟩
  refine ⟨fun i j b' A' B' hij hb' hc' => ?_, fun i j b' hb' hn => ?_, fun i j hij => ?_⟩
  · rw [valV_put]
    by_cases e : kAt i j = kAt at_ k
    · obtain ⟨rfl, rfl⟩ := kAt_inj e
      have hb2 := dn hlt hb'
      rw [hb] at hb2
      cases hb2
      obtain ⟨rfl, rfl⟩ := one hc'
      exact ⟨bs.length, by rw [if_pos rfl], hlt, gA, gB⟩
    · rw [if_neg e]
      have hij' : i < at_ ∨ (i = at_ ∧ j < k) := by
        rcases hij with z | ⟨z1, z2⟩
        · exact .inl z
        · refine .inr ⟨z1, ?_⟩
          by_cases e2 : j = k
          · exact absurd (by rw [z1, e2]) e
          · omega
      have hi : i < bs.length := by rcases hij' with z | ⟨z, _⟩ <;> omega
      obtain ⟨m, m1, m2, m3, m4⟩ := h.yes i j b' A' B' hij' (dn hi hb') hc'
      exact ⟨m, m1, m2, up m3, up m4⟩
  · rw [valV_put]
    by_cases e : kAt i j = kAt at_ k
    · obtain ⟨rfl, rfl⟩ := kAt_inj e
      have hb2 := dn hlt hb'
      rw [hb] at hb2
      cases hb2
      exact absurd ⟨A, B, hc⟩ hn
    · rw [if_neg e]
      by_cases hi : i < bs.length
      · exact h.no i j b' (dn hi hb') hn
      · exact h.new i j (fun z => by rcases z with z | ⟨z, _⟩ <;> omega)
  · rw [valV_put, if_neg (fun e => by obtain ⟨rfl, rfl⟩ := kAt_inj e; exact hij (.inr ⟨rfl, by omega⟩))]
    exact h.new i j (fun z => hij (by rcases z with z | ⟨z1, z2⟩; exact .inl z; exact .inr ⟨z1, by omega⟩))
theorem Paired.snoc {α β : Type} {F : α → β → Prop} : ∀ {l1 : List α} {l2 : List β} {x : α} {y : β}, Paired F l1 l2 → F x y → Paired F (l1 ++ [x]) (l2 ++ [y])
  | _, _, _, _, .nil, g => .cons g .nil
  | _, _, _, _, .cons x r, g => .cons x (Paired.snoc r g)
theorem pair_get2 {α β : Type} {F : α → β → Prop} : ∀ {l1 : List α} {l2 : List β} {i : Nat} {y : β}, Paired F l1 l2 → l2[i]? = some y → ∃ x, l1[i]? = some x ∧ F x y
  | _, _, i, x, .nil, h => by simp at h
  | _, _, 0, x, .cons f r, h => by
    simp at h
    subst h
    exact ⟨_, rfl, f⟩
  | _, _, i + 1, x, .cons f r, h => by
    obtain ⟨y, hy, g⟩ := pair_get2 (i := i) r (by simpa using h)
    exact ⟨y, by simpa using hy, g⟩
theorem cmp_nil {A B : Body} : ¬ Cmp .nil A B := fun ⟨c, d, r, h⟩ => by rcases h with h | h <;> cases h
theorem NI.next {bs : List Body} {kvs : TK} {at_ n : Nat} {b : Body} (h : NI bs kvs at_ n) (hb : bs[at_]? = some b) (hn : ∀ j, n ≤ j → drp j b = .nil) : NI bs kvs (at_ + 1) 0 := by
  refine ⟨fun i j b' A B hij hb' hc => ?_, h.no, fun i j hij => h.new i j (fun z => hij (by rcases z with z | ⟨z1, z2⟩ <;> exact .inl (by omega)))⟩
  rcases hij with z | ⟨_, z2⟩
  · by_cases e : i = at_
    · subst e
      rw [hb] at hb'
      cases hb'
      by_cases hj : j < n
      · exact h.yes i j b A B (.inr ⟨rfl, hj⟩) hb hc
      · rw [hn j (by omega)] at hc
        exact absurd hc cmp_nil
    · exact h.yes i j b' A B (.inl (by omega)) hb' hc
  · exact absurd z2 (by omega)
theorem NI.done {bs : List Body} {kvs : TK} (h : NI bs kvs bs.length 0) : NDone bs kvs := by
  refine ⟨fun i j b A B hb hc => h.yes i j b A B (.inl (List.getElem?_eq_some_iff.mp hb).1) hb hc, h.no⟩
theorem w_dpT {H : Hp} {v : V} {p b : Addr} {kvs : TK} {k : List Key} {PH : Hp → Prop} (h : H p = some (.dT kvs)) (hb : H b = some (.tup (k.map kV))) (z : kvs.length ≤ 100000) (q : PH (upd H p (.dT (putK kvs k v)))) : ∃ a H4, V.ref p = .ref a ∧ DPut H a (.ref b) v H4 ∧ PH H4 :=
  ⟨p, _, rfl, DPut.t h hb (Nat.lt_of_le_of_lt z (by decide)), q⟩
theorem w_dnewT {σ : L2.St} {H : Hp} {Q : VK} (h : ∀ p H', Same H H' → H p = none → H' p = some (.dT []) → Q (.ref p) H') : tDNewT σ H Q := w_new h
theorem putK_len2 {kvs : TK} {k : List Key} {v : V} : (putK kvs k v).length ≤ kvs.length + 1 := by
  unfold putK
  split
  · rw [List.length_map]; omega
  · rw [List.length_append, List.length_singleton]; omega
theorem BOk.drp {vars : List Str} {n : Int} {ns : List Str} : ∀ (k : Nat) {b : Body}, BOk vars n ns b → BOk vars n ns (drp k b)
  | 0, _, h => h
  | k + 1, .nil, _ => by rw [drp_nil]; trivial
  | k + 1, .pr _ _, h => BOk.drp k h.2
  | k + 1, .cl _ _ _, h => BOk.drp k h.2
  | k + 1, .ite _ _ _ _ _, h => BOk.drp k h.2.2.2.2
  | k + 1, .lp _ _ _ _ _, h => BOk.drp k h.2.2.2.2
theorem wt_rest (b : Body) : wt (rest b) ≤ wt b := by cases b <;> simp only [rest, wt] <;> omega
theorem wt_drp : ∀ (k : Nat) (b : Body), wt (drp k b) ≤ wt b
  | 0, _ => Nat.le_refl _
  | k + 1, b => Nat.le_trans (wt_drp k (rest b)) (wt_rest b)
def nbs (l : List Body) : Nat := (l.map nb).sum
def spNested : Sp := fun vs H Q _ => ∃ (bt : Addr) (xs : List V) (b : Body) (vars : List Str) (n0 : Int) (ns : List Str), vs = [.ref bt] ∧ BOk vars n0 ns b ∧ H bt = some (.tup xs) ∧ BdV H xs b ∧ nb b ≤ 1000 ∧ wt b ≤ 4000 ∧
  ∀ H' r bl dt bv bs kvs, Same H H' → H' r = some (.tup [.ref bl, .ref dt]) → H' bl = some (.lst bv) → H' dt = some (.dT kvs) → Paired (BdT H') bv bs → NDone bs kvs → bs[0]? = some b → bs.length ≤ 1001 → (∀ b' ∈ bs, wt b' ≤ 4000 ∧ BOk vars n0 ns b') → H bl = none → H dt = none → Q (.ref r) H'
section
variable {P : Program} {w : World} {K : PySem.W.Frag} {mg : Str → Option Value} {base : Heap} {a : Ad}
local macro_rules | `(tactic| tm_at "g") => `(tactic| repeat (first
  | with_reducible refine w_seq ?_ | with_reducible refine w_if ?_ | with_reducible refine w_tB ?_ | with_reducible refine w_tTest ?_ | with_reducible refine w_asg ?_ | with_reducible refine w_name ?_
  | with_reducible refine w_ret ?_ | with_reducible refine w_next ?_ | with_reducible refine w_op ?_ | with_reducible refine w_c ?_ | with_reducible refine w_cb ?_ | with_reducible refine w_call ?_ | with_reducible refine w_cons ?_ | with_reducible refine w_nil ?_
  | with_reducible refine w_var (by with_unfolding_all rfl) ?_
  | with_reducible refine w_rI0 ?_ | with_reducible refine w_eq (by with_unfolding_all rfl) ?_ | with_reducible refine w_ne (by with_unfolding_all rfl) ?_
  | with_reducible refine w_test ?_ | with_reducible refine w_T ?_ | with_reducible refine w_F ?_ | with_reducible refine w_T0 ?_ | with_reducible refine w_F0 ?_
  | with_reducible refine w_and ?_ | with_reducible refine w_or ?_ | with_reducible refine w_not ?_ | with_reducible refine w_ifE ?_ | with_reducible refine w_drop ?_
  | with_reducible refine w_andV ?_ | with_reducible refine w_orV ?_ | with_reducible refine w_notV ?_ | with_reducible refine w_dget ?_ | with_reducible refine w_din ?_ | with_reducible refine w_dnin ?_ | with_reducible refine w_fld ?_
  | with_reducible refine w_ttup ?_ | with_reducible refine w_tlst ?_ | with_reducible refine w_un ?_ | with_reducible refine w_rU ?_ | with_reducible refine w_gcons ?_ | with_reducible refine w_gnil ?_ | with_reducible refine w_sub ?_ | with_reducible refine w_sl ?_ | with_reducible refine w_nopart ?_ | with_reducible refine w_part ?_ | with_reducible refine w_int ?_ | with_reducible refine w_meth ?_
  | with_reducible refine w_make ?_ | with_reducible refine w_dput ?_ | with_reducible refine w_sfld ?_ | with_reducible refine w_bm ?_ | with_reducible refine w_bm0 ?_ | with_reducible refine w_isN ?_ | with_reducible refine w_notT ?_ | with_reducible refine w_forR ?_ | with_reducible refine w_forL ?_ | with_reducible refine w_forT ?_ | with_reducible refine w_fldaug ?_ | with_reducible refine w_radd ?_ | with_reducible refine w_par ?_ | with_reducible refine w_pair ?_
  | with_reducible refine w_lcR ?_ | with_reducible refine w_dcR ?_ | with_reducible refine w_lcL ?_ | with_reducible refine w_lcT ?_ | with_reducible refine w_dcT ?_ | with_reducible refine w_yes ?_ | with_reducible refine w_chain ?_))

theorem sc_nested : FnScope ["body", "bodies", "places", "at", "k", "statement"] ["body"] (defScope s_nested) := ⟨rfl, rfl, rfl, by decide +kernel, rfl, by decide +kernel, by decide +kernel⟩
theorem ok_nested (T : Tx w K mg a) : FnOk P w K mg base CX0 1 a.f_nested a.d_nested ["body"] spNested := by
  refine T.F_nested.ok sc_nested (fun vs H Q E h => ?_) (fun cdv A outer s H vs Q E hr h => ?_)
  · obtain ⟨bt, xs, b, _, _, _, rfl, _⟩ := h
    rfl
  · obtain ⟨bt, xs, b, vars, n0, ns, rfl, hbok, hbt, hbv, hnb, hwt, q⟩ := h
    have hu := hu_of hr
    refine ⟨_, (pss_cons (ps_set (i := 1) sc_nested.nd rfl (Or.inl rfl) (pe_lst (pa_cons (pv 0) pa_nil)))
    (pss_cons (ps_set (i := 2) sc_nested.nd rfl (Or.inl rfl) pe_dnewT)
    (pss_cons (ps_set (i := 3) sc_nested.nd rfl (Or.inl rfl) pe_int)
    (pss_cons (ps_while PassesOwn.never (pt_cmpR op_lt (pv 3) (pe_callB cl_len (by rfl) T.z_len PySem.boot_len (pa_cons (pv 1) pa_nil)) (nomark _))
      (pss_cons (ps_for PassesOwn.never rfl (pi_range1 rfl T.z_range (pa_cons (pe_callB cl_len (by rfl) T.z_len PySem.boot_len (pa_cons (pe_ix ix_list (pv 1) (pv 3) (fun _ _ => rfl)) pa_nil)) pa_nil)) (pg_name (i := 4) sc_nested.nd rfl (Or.inl rfl))
      (pss_cons (ps_set (i := 5) sc_nested.nd rfl (Or.inl rfl) (pe_ix ix_tup (pe_ix ix_list (pv 1) (pv 3) (fun _ _ => rfl)) (pv 4) (fun _ _ => rfl)))
    (pss_one (ps_if (pt_cmpR op_in_seq (pe_ix ix_tup (pv 5) pe_int (fun _ _ => rfl)) (pe_tup (pa_cons pe_str (pa_cons pe_str pa_nil))) rfl) (pss_cons (ps_dput hu (pv 2) (pe_tup (pa_cons (pv 3) (pa_cons (pv 4) pa_nil))) (pe_callB cl_len (by rfl) T.z_len PySem.boot_len (pa_cons (pv 1) pa_nil)) rfl)
    (pss_cons (ps_expr (pe_bm PySem.F.plainAttrs_list PySem.F.slot_list_append PySem.F.type_list_append mt_append (pv 1) (pa_cons (pe_ix ix_tup (pv 5) pe_int (fun _ _ => rfl)) pa_nil)))
    (pss_one (ps_expr (pe_bm PySem.F.plainAttrs_list PySem.F.slot_list_append PySem.F.type_list_append mt_append (pv 1) (pa_cons (pe_ix ix_tup (pv 5) pe_int (fun _ _ => rfl)) pa_nil)))))) pss_nil))))
    (pss_one (ps_aug (i := 3) sc_nested.nd rfl (Or.inl rfl) pe_int ip_add))))
    (pss_one (ps_ret (pe_tup (pa_cons (pv 1) (pa_cons (pv 2) pa_nil))))))))), ?_⟩
    tm_at "g"
    refine w_lay (by show 1 ≤ 100000; decide) fun bl H1 s1 n1 h1 => ?_
    tm_at "g"
    refine w_dnewT fun dt H2 s2 n2 h2 => ?_
    tm_at "g"
    have s02 := s1.trans s2
    have ndl : bl ≠ dt := fun z => by rw [z, n2] at h1; cases h1
    have nbl : H bl = none := n1
    have ndt : H dt = none := s1.free n2
    refine w_while (fun m σ H' => ∃ at_ : Nat, ∃ o4 o5 bv bs kvs, σ = [some (.ref bt), some (.ref bl), some (.ref dt), some (.int (at_ : Nat)), o4, o5] ∧ Same H H' ∧ H' bl = some (.lst bv) ∧ H' dt = some (.dT kvs) ∧ Paired (BdT H') bv bs ∧ NI bs kvs at_ 0 ∧ bs[0]? = some b ∧
        bs.length + nbs (bs.drop at_) = 1 + nb b ∧ at_ ≤ bs.length ∧ (∀ b' ∈ bs, wt b' ≤ 4000 ∧ BOk vars n0 ns b') ∧ kvs.length ≤ bs.length ∧ m = 2 + nb b - at_) (2 + nb b)
      ⟨0, none, none, _, [b], _, rfl, s02, s2 _ _ h1, h2, .cons ⟨bt, xs, rfl, s02 _ _ hbt, hbv.mono (Im.of s02)⟩ .nil, ⟨fun i j b' A B hij => absurd hij (by omega), fun i j b' _ _ => rfl, fun i j _ => rfl⟩, rfl, by simp [nbs], by simp, fun b' hb' => by rw [List.mem_singleton] at hb'; subst hb'; exact ⟨hwt, hbok⟩, by simp, rfl⟩
      (fun m σ H' h => ?_) (fun σ H Q Q' hQ h => ?_)
    · obtain ⟨at_, o4, o5, bv, bs, kvs, rfl, sH, hbl, hdt, hp, hni, hb0, hN, hat, hw, hkl, rfl⟩ := h
      have elen : bv.length = bs.length := Paired.length hp
      tm_at "g"
      refine w_lenL hbl ?_
      tm_at "g"
      refine w_b (fun e => ?_) (fun e => ?_)
      · have hlt : at_ < bs.length := by have := of_decide_eq_true e; omega
        obtain ⟨bb, hbb⟩ : ∃ bb, bs[at_]? = some bb := ⟨_, List.getElem?_eq_getElem hlt⟩
        obtain ⟨bav, hba, ba, xs2, rfl, hxs2, hbv2⟩ := pair_get2 hp hbb
        tm_at "g"
        refine w_ixL hbl (atI_nat hba) ?_
        tm_at "g"
        refine w_lenT hxs2 ?_
        have hl2 : xs2.length ≤ 4000 := Nat.le_trans hbv2.len_le (hw _ (List.mem_of_getElem? hbb)).1
        have hdr : bs.drop at_ = bb :: bs.drop (at_ + 1) := by
          have e1 : bs[at_] = bb := (List.getElem?_eq_some_iff.mp hbb).2
          rw [← e1]
          exact List.drop_eq_getElem_cons hlt
        have hN2 : bs.length + nbs (bs.drop (at_ + 1)) + nb bb = 1 + nb b := by
          rw [hdr] at hN
          simp only [nbs, List.map_cons, List.sum_cons] at hN ⊢
          omega
        refine w_rng (n := xs2.length) (fun k σ H3 => ∃ o4 o5 bv bs kvs, σ = [some (.ref bt), some (.ref bl), some (.ref dt), some (.int (at_ : Nat)), o4, o5] ∧ Same H H3 ∧ H3 bl = some (.lst bv) ∧ H3 dt = some (.dT kvs) ∧ Paired (BdT H3) bv bs ∧ NI bs kvs at_ k ∧ bs[0]? = some b ∧
            bs[at_]? = some bb ∧ bv[at_]? = some (.ref ba) ∧ H3 ba = some (.tup xs2) ∧ BdV H3 xs2 bb ∧ bs.length + nbs (bs.drop (at_ + 1)) + nb (drp k bb) = 1 + nb b ∧ (∀ b' ∈ bs, wt b' ≤ 4000 ∧ BOk vars n0 ns b') ∧ kvs.length ≤ bs.length)
          (by omega) ⟨o4, o5, bv, bs, kvs, rfl, sH, hbl, hdt, hp, hni, hb0, hbb, hba, hxs2, hbv2, hN2, hw, hkl⟩ (fun k σ H3 hk h => ?_) (fun σ H3 h => ?_)
        · obtain ⟨o4, o5, bv, bs, kvs, rfl, sH, hbl, hdt, hp, hni, hb0, hbb, hba, hxs2, hbv2, hN, hw, hkl⟩ := h
          have elen : bv.length = bs.length := Paired.length hp
          have hget : xs2[k]? = some xs2[k] := List.getElem?_eq_getElem hk
          have hv2 := hbv2.drp (k := k)
          rw [List.drop_eq_getElem_cons hk] at hv2
          have hlt : at_ < bs.length := (List.getElem?_eq_some_iff.mp hbb).1
          tm_at "g"
          refine w_ixL hbl (atI_nat hba) ?_
          tm_at "g"
          refine w_ixT hxs2 (atI_nat hget) ?_
          tm_at "g"
          have hkb : at_ < bs.length ∧ bs.length ≤ 1001 := ⟨hlt, by omega⟩
          cases ed : drp k bb with
          | nil =>
            rw [ed] at hv2
            cases hv2
          | pr p r =>
            rw [ed] at hv2
            obtain ⟨v', ys', e, hpv, _⟩ := hv2
            injection e with e1 e2
            rw [e1]
            obtain ⟨qa, ov, rfl, hq, hov⟩ := hpv
            have wdp : inV (.str p.w) [.str "if", .str "from"] = false := (chg_words (by have z := BOk.drp k (hw _ (List.mem_of_getElem? hbb)).2; rw [ed] at z; exact z.1)).2
            refine w_ixT hq (atI_nat (j := 0) rfl) ?_
            tm_at "g"
            refine w_lay (by show 2 ≤ 100000; decide) fun r1 H4 s4 n4 g4 => ?_
            refine w_inT g4 rfl rfl ?_
            rw [wdp]
            tm_at "g"
            have hes : drp (k + 1) bb = r := by rw [drp_succ, ed]; rfl
            have hno : ¬ ∃ A B, Cmp (drp k bb) A B := fun ⟨A, B, c, d, r', z⟩ => by rw [ed] at z; rcases z with z | z <;> cases z
            refine ⟨_, _, bv, bs, kvs, rfl, sH.trans s4, s4 _ _ hbl, s4 _ _ hdt, Paired.mapP hp fun _ _ x => x.mono (Im.of s4), hni.step hbb hno, hb0, hbb, hba, s4 _ _ hxs2, hbv2.mono (Im.of s4), ?_, hw, hkl⟩
            rw [hes]
            rw [ed] at hN
            exact hN
          | cl sg pn r =>
            rw [ed] at hv2
            obtain ⟨qa, ys', e, hq, _⟩ := hv2
            injection e with e1 e2
            rw [e1]
            have w1 : inV (.str (if sg then ("call" : Str) else "uncall")) [.str "if", .str "from"] = false := by cases sg <;> decide +kernel
            refine w_ixT hq (atI_nat (j := 0) rfl) ?_
            tm_at "g"
            refine w_lay (by show 2 ≤ 100000; decide) fun r1 H4 s4 n4 g4 => ?_
            refine w_inT g4 rfl rfl ?_
            rw [w1]
            tm_at "g"
            have hes : drp (k + 1) bb = r := by rw [drp_succ, ed]; rfl
            have hno : ¬ ∃ A B, Cmp (drp k bb) A B := fun ⟨A, B, c, d, r', z⟩ => by rw [ed] at z; rcases z with z | z <;> cases z
            refine ⟨_, _, bv, bs, kvs, rfl, sH.trans s4, s4 _ _ hbl, s4 _ _ hdt, Paired.mapP hp fun _ _ x => x.mono (Im.of s4), hni.step hbb hno, hb0, hbb, hba, s4 _ _ hxs2, hbv2.mono (Im.of s4), ?_, hw, hkl⟩
            rw [hes]
            rw [ed] at hN
            exact hN
          | ite cc dd A1 B1 r =>
            rw [ed] at hv2
            obtain ⟨qa, ys', cv, dv, pa, xa, pb, xb, e, hq, hcv, hdv, ha, hA, hb, hB, _⟩ := hv2
            injection e with e1 e2
            rw [e1]
            have w1 : inV (.str "if") [.str "if", .str "from"] = true := by decide +kernel
            refine w_ixT hq (atI_nat (j := 0) rfl) ?_
            tm_at "g"
            refine w_lay (by show 2 ≤ 100000; decide) fun r1 H4 s4 n4 g4 => ?_
            refine w_inT g4 rfl rfl ?_
            rw [w1]
            tm_at "g"
            refine w_lenL (s4 _ _ hbl) ?_
            tm_at "g"
            refine w_lay (by show 2 ≤ 100000; decide) fun kt H5 s5 n5 g5 => ?_
            have s35 := s4.trans s5
            refine w_dpT (k := kAt at_ k) (s35 _ _ hdt) g5 (by omega) ?_
            obtain ⟨H6, hH6⟩ : ∃ H6, H6 = upd H5 dt (.dT (putK kvs (kAt at_ k) (.int (bv.length : Nat)))) := ⟨_, rfl⟩
            rw [← hH6]
            have i56 : Im H5 H6 := by rw [hH6]; exact Im.upd fun zs z => by rw [s35 _ _ hdt] at z; cases z
            have hbl6 : H6 bl = some (.lst bv) := by rw [hH6, upd_ne ndl]; exact s35 _ _ hbl
            have i36 : Im H3 H6 := (Im.of s35).trans i56
            have sH6 : Same H H6 := by rw [hH6]; exact (sH.trans s35).mut ndt
            have hdt6 : H6 dt = some (.dT (putK kvs (kAt at_ k) (.int (bv.length : Nat)))) := by rw [hH6]; exact upd_same
            tm_at "g"
            refine w_tyL hbl6 ?_
            tm_at "g"
            refine w_ixT (i36 _ _ hq) (atI_nat (j := 2) rfl) ?_
            tm_at "g"
            refine w_append hbl6 (by omega) ?_
            have i67 : Im H6 (upd H6 bl (.lst (bv ++ [.ref pa]))) := Im.upd fun zs z => by rw [hbl6] at z; cases z
            tm_at "g"
            refine w_tyL upd_same ?_
            tm_at "g"
            refine w_ixT (i67 _ _ (i36 _ _ hq)) (atI_nat (j := 3) rfl) ?_
            tm_at "g"
            refine w_append upd_same (by rw [List.length_append, List.length_singleton]; omega) ?_
            rw [upd_upd]
            obtain ⟨H8, hH8⟩ : ∃ H8, H8 = upd H6 bl (.lst (bv ++ [.ref pa] ++ [.ref pb])) := ⟨_, rfl⟩
            rw [← hH8]
            have i68 : Im H6 H8 := by rw [hH8]; exact Im.upd fun zs z => by rw [hbl6] at z; cases z
            have i38 := i36.trans i68
            have hcmp : Cmp (drp k bb) A1 B1 := ⟨cc, dd, r, .inl ed⟩
            have hni2 := hni.put hbb hcmp
            rw [← elen] at hni2
            have hp2 : Paired (BdT H8) (bv ++ [.ref pa] ++ [.ref pb]) (bs ++ [A1] ++ [B1]) := ((Paired.mapP hp fun _ _ x => x.mono i38).snoc ⟨pa, xa, rfl, i38 _ _ ha, hA.mono i38⟩).snoc ⟨pb, xb, rfl, i38 _ _ hb, hB.mono i38⟩
            have hwA := (hw _ (List.mem_of_getElem? hbb)).1
            have hwk : wt (drp k bb) ≤ wt bb := wt_drp k bb
            have hbk := BOk.drp k (hw _ (List.mem_of_getElem? hbb)).2
            rw [ed] at hwk hbk
            simp only [wt] at hwk
            have hdrop : (bs ++ [A1] ++ [B1]).drop (at_ + 1) = bs.drop (at_ + 1) ++ [A1] ++ [B1] := by
              rw [List.drop_append_of_le_length (by rw [List.length_append]; omega), List.drop_append_of_le_length (by omega)]
            have hes : drp (k + 1) bb = r := by rw [drp_succ, ed]; rfl
            refine ⟨_, _, _, bs ++ [A1] ++ [B1], _, rfl, ?_, by rw [hH8]; exact upd_same, ?_, hp2, hni2, get_app (get_app hb0), get_app (get_app hbb), get_app (get_app hba), i38 _ _ hxs2, hbv2.mono i38, ?_, ?_, ?_⟩
            · rw [hH8]
              exact sH6.mut nbl
            · rw [hH8, upd_ne ndl.symm]
              exact hdt6
            · rw [hdrop, hes]
              rw [ed] at hN
              simp only [nb, nbs, List.map_append, List.sum_append, List.length_append, List.map_cons, List.map_nil, List.sum_cons, List.sum_nil, List.length_singleton, List.length_cons, List.length_nil] at hN ⊢
              omega
            · intro b' hb'
              rcases List.mem_append.mp hb' with z | z
              · rcases List.mem_append.mp z with z | z
                · exact hw _ z
                · rw [List.mem_singleton] at z
                  subst z
                  exact ⟨by omega, hbk.2.2.1⟩
              · rw [List.mem_singleton] at z
                subst z
                exact ⟨by omega, hbk.2.2.2.1⟩
            · have := putK_len2 (kvs := kvs) (k := kAt at_ k) (v := .int (bv.length : Nat))
              rw [List.length_append, List.length_append, List.length_singleton, List.length_singleton]
              omega
          | lp cc dd A1 B1 r =>
            rw [ed] at hv2
            obtain ⟨qa, ys', cv, dv, pa, xa, pb, xb, e, hq, hcv, hdv, ha, hA, hb, hB, _⟩ := hv2
            injection e with e1 e2
            rw [e1]
            have w1 : inV (.str "from") [.str "if", .str "from"] = true := by decide +kernel
            refine w_ixT hq (atI_nat (j := 0) rfl) ?_
            tm_at "g"
            refine w_lay (by show 2 ≤ 100000; decide) fun r1 H4 s4 n4 g4 => ?_
            refine w_inT g4 rfl rfl ?_
            rw [w1]
            tm_at "g"
            refine w_lenL (s4 _ _ hbl) ?_
            tm_at "g"
            refine w_lay (by show 2 ≤ 100000; decide) fun kt H5 s5 n5 g5 => ?_
            have s35 := s4.trans s5
            refine w_dpT (k := kAt at_ k) (s35 _ _ hdt) g5 (by omega) ?_
            obtain ⟨H6, hH6⟩ : ∃ H6, H6 = upd H5 dt (.dT (putK kvs (kAt at_ k) (.int (bv.length : Nat)))) := ⟨_, rfl⟩
            rw [← hH6]
            have i56 : Im H5 H6 := by rw [hH6]; exact Im.upd fun zs z => by rw [s35 _ _ hdt] at z; cases z
            have hbl6 : H6 bl = some (.lst bv) := by rw [hH6, upd_ne ndl]; exact s35 _ _ hbl
            have i36 : Im H3 H6 := (Im.of s35).trans i56
            have sH6 : Same H H6 := by rw [hH6]; exact (sH.trans s35).mut ndt
            have hdt6 : H6 dt = some (.dT (putK kvs (kAt at_ k) (.int (bv.length : Nat)))) := by rw [hH6]; exact upd_same
            tm_at "g"
            refine w_tyL hbl6 ?_
            tm_at "g"
            refine w_ixT (i36 _ _ hq) (atI_nat (j := 2) rfl) ?_
            tm_at "g"
            refine w_append hbl6 (by omega) ?_
            have i67 : Im H6 (upd H6 bl (.lst (bv ++ [.ref pa]))) := Im.upd fun zs z => by rw [hbl6] at z; cases z
            tm_at "g"
            refine w_tyL upd_same ?_
            tm_at "g"
            refine w_ixT (i67 _ _ (i36 _ _ hq)) (atI_nat (j := 3) rfl) ?_
            tm_at "g"
            refine w_append upd_same (by rw [List.length_append, List.length_singleton]; omega) ?_
            rw [upd_upd]
            obtain ⟨H8, hH8⟩ : ∃ H8, H8 = upd H6 bl (.lst (bv ++ [.ref pa] ++ [.ref pb])) := ⟨_, rfl⟩
            rw [← hH8]
            have i68 : Im H6 H8 := by rw [hH8]; exact Im.upd fun zs z => by rw [hbl6] at z; cases z
            have i38 := i36.trans i68
            have hcmp : Cmp (drp k bb) A1 B1 := ⟨cc, dd, r, .inr ed⟩
            have hni2 := hni.put hbb hcmp
            rw [← elen] at hni2
            have hp2 : Paired (BdT H8) (bv ++ [.ref pa] ++ [.ref pb]) (bs ++ [A1] ++ [B1]) := ((Paired.mapP hp fun _ _ x => x.mono i38).snoc ⟨pa, xa, rfl, i38 _ _ ha, hA.mono i38⟩).snoc ⟨pb, xb, rfl, i38 _ _ hb, hB.mono i38⟩
            have hwA := (hw _ (List.mem_of_getElem? hbb)).1
            have hwk : wt (drp k bb) ≤ wt bb := wt_drp k bb
            have hbk := BOk.drp k (hw _ (List.mem_of_getElem? hbb)).2
            rw [ed] at hwk hbk
            simp only [wt] at hwk
            have hdrop : (bs ++ [A1] ++ [B1]).drop (at_ + 1) = bs.drop (at_ + 1) ++ [A1] ++ [B1] := by
              rw [List.drop_append_of_le_length (by rw [List.length_append]; omega), List.drop_append_of_le_length (by omega)]
            have hes : drp (k + 1) bb = r := by rw [drp_succ, ed]; rfl
            refine ⟨_, _, _, bs ++ [A1] ++ [B1], _, rfl, ?_, by rw [hH8]; exact upd_same, ?_, hp2, hni2, get_app (get_app hb0), get_app (get_app hbb), get_app (get_app hba), i38 _ _ hxs2, hbv2.mono i38, ?_, ?_, ?_⟩
            · rw [hH8]
              exact sH6.mut nbl
            · rw [hH8, upd_ne ndl.symm]
              exact hdt6
            · rw [hdrop, hes]
              rw [ed] at hN
              simp only [nb, nbs, List.map_append, List.sum_append, List.length_append, List.map_cons, List.map_nil, List.sum_cons, List.sum_nil, List.length_singleton, List.length_cons, List.length_nil] at hN ⊢
              omega
            · intro b' hb'
              rcases List.mem_append.mp hb' with z | z
              · rcases List.mem_append.mp z with z | z
                · exact hw _ z
                · rw [List.mem_singleton] at z
                  subst z
                  exact ⟨by omega, hbk.2.2.1⟩
              · rw [List.mem_singleton] at z
                subst z
                exact ⟨by omega, hbk.2.2.2.1⟩
            · have := putK_len2 (kvs := kvs) (k := kAt at_ k) (v := .int (bv.length : Nat))
              rw [List.length_append, List.length_append, List.length_singleton, List.length_singleton]
              omega
        · obtain ⟨o4, o5, bv, bs, kvs, rfl, sH, hbl, hdt, hp, hni, hb0, hbb, hba, hxs2, hbv2, hN, hw, hkl⟩ := h
          have hlt : at_ < bs.length := (List.getElem?_eq_some_iff.mp hbb).1
          have hnil : ∀ j, xs2.length ≤ j → drp j bb = .nil := fun j hj => by
            have z := hbv2.drp (k := j)
            rw [List.drop_of_length_le hj] at z
            exact z.nil_iff.mp rfl
          rw [hnil _ (Nat.le_refl _)] at hN
          tm_at "g"
          refine w_augI (j := (at_ : Nat)) (l := 1) (by with_unfolding_all rfl) ?_ (fun _ _ hh q => hh _ _ q)
          refine w_c ?_
          refine ⟨rfl, ?_⟩
          have ek : ((at_ : Nat) : Int) + 1 = ((at_ + 1 : Nat) : Int) := by omega
          rw [ek]
          refine ⟨2 + nb b - (at_ + 1), ?_, at_ + 1, o4, o5, bv, bs, kvs, rfl, sH, hbl, hdt, hp, hni.next hbb hnil, hb0, ?_, by omega, hw, hkl, rfl⟩
          · omega
          · simp only [nb] at hN
            omega
      · have hge : at_ = bs.length := by have := of_decide_eq_false e; omega
        subst hge
        tm_at "g"
        refine w_lay (by show 2 ≤ 100000; decide) fun r H3 s3 n3 h3 => ?_
        refine q H3 r bl dt bv bs kvs (sH.trans s3) h3 (s3 _ _ hbl) (s3 _ _ hdt) (Paired.mapP hp fun _ _ x => x.mono (Im.of s3)) hni.done hb0 (by omega) hw nbl ndt
    · obtain ⟨v, hv, v1, hv1, p, ys, e1, hs, i, j, e2, e3, k, e4, hk⟩ := h
      exact ⟨v, hv, v1, hv1, p, ys, e1, hs, i, j, e2, e3, k, e4, hQ _ _ hk⟩
end
end Kt
end -- KNs
section -- KInv
set_option Elab.async false
set_option linter.all false
set_option maxRecDepth 100000
set_option maxHeartbeats 4000000
/-! KInv: inverse_of. -/
namespace Kt
open PySem L2
section
variable {g : TG} {tb : TS} {D : Ends} {σ : L2.St} {H : Hp} {tA : TA}
def Rng3R (g : TG) (tb : TS) (D : Ends) (σ : L2.St) (us : List V) (H1 : Hp) : Prop := ∃ (i j c : Int) (n : Nat), us = [.int i, .int j, .int c] ∧ RgC i j c n ∧ ForR (Itc i c n) g tb D σ H1
theorem w_for3 (h : tA σ H fun us H1 => Rng3R g tb D σ us H1) : tFor (iRng3 tA) g tb D σ H := h
/-- from n - 1 down to 0 -/
theorem w_down {n : Nat} (Pv : Nat → L2.St → Hp → Prop) (hn : n ≤ 1000000) (h0 : Pv n σ H) (hs : ∀ i σ H, i < n → Pv (i + 1) σ H → g (.int (i : Nat)) σ H fun σ2 H2 => tb { D with nx := Pv i, ct := Pv i, bk := D.nx } σ2 H2) (hd : ∀ σ H, Pv 0 σ H → D.nx σ H) :
    Rng3R g tb D σ [.int ((n : Nat) - 1), .int (-1), .int (-1)] H := by
  have hr : RgC (((n : Nat) : Int) - 1) (-1) (-1) n := by
    have z := RgC.neg (i := ((n : Nat) : Int) - 1) (j := -1) (by omega) (by omega) (by omega) (by omega)
    have e : (((n : Nat) : Int) - 1 - -1).toNat = n := by omega
    rw [e] at z
    exact z
  refine ⟨_, _, _, n, rfl, hr, for_it walk_rangeC (fun i σ H => Pv (n - i) σ H) h0 (fun _ _ _ _ _ => trivial) (fun i x σ H H' hi p y => ?_) (fun σ H p => hd σ H (by rw [Nat.sub_self] at p; exact p))⟩
  obtain ⟨rfl, rfl⟩ := y
  have e1 : n - i = (n - (i + 1)) + 1 := by omega
  have e2 : ((n : Nat) : Int) - 1 + (i : Nat) * -1 = ((n - (i + 1) : Nat) : Int) := by omega
  dsimp only
  rw [e2]
  rw [e1] at p
  exact hs _ σ _ (by omega) p
theorem w_rep {Q : VK} {p : Addr} {xs : List V} {k : Nat} (h : H p = some (.lst xs)) (z : xs.length * k ≤ 100000) (hk : k ≤ 100000) (q : ∀ l H', Same H H' → H l = none → H' l = some (.lst (List.replicate k xs).flatten) → Q (.ref l) H') : rRep (.ref p) (.int (k : Nat)) H Q :=
  ⟨p, _, xs, rfl, rfl, h, by omega, by omega, Nat.le_trans z (by decide), w_new q⟩
theorem w_diT {p b : Addr} {kvs : TK} {k : List Key} {PO : Option V → Prop} (h : H p = some (.dT kvs)) (hb : H b = some (.tup (k.map kV))) (q : PO (valV kvs k)) : ∃ a o, V.ref p = .ref a ∧ DGet H a (.ref b) o ∧ PO o := ⟨p, _, rfl, DGet.t h hb, q⟩
theorem w_dgT {p b : Addr} {kvs : TK} {k : List Key} {v : V} (h : H p = some (.dT kvs)) (hb : H b = some (.tup (k.map kV))) (e : valV kvs k = some v) {PV : V → Prop} (q : PV v) : ∃ a v, V.ref p = .ref a ∧ DGet H a (.ref b) (some v) ∧ PV v :=
  ⟨p, v, rfl, by have z := DGet.t (k := k) h hb; rw [e] at z; exact z, q⟩
end
theorem BdV.app {H : Hp} : ∀ {b1 b2 : Body} {xs ys : List V}, BdV H xs b1 → BdV H ys b2 → BdV H (xs ++ ys) (b1.app b2)
  | .nil, _, _, _, h, g => by cases h; exact g
  | .pr _ _, _, _, _, ⟨v, zs, e, h1, h2⟩, g => by subst e; exact ⟨v, _, rfl, h1, h2.app g⟩
  | .cl _ _ _, _, _, _, ⟨v, zs, e, h1, h2⟩, g => by subst e; exact ⟨v, _, rfl, h1, h2.app g⟩
  | .ite _ _ _ _ _, _, _, _, ⟨q, ys, cv, dv, pa, xa, pb, xb, e, h, hc, hd, ha, hA, hb, hB, hr⟩, g => by subst e; exact ⟨q, _, cv, dv, pa, xa, pb, xb, rfl, h, hc, hd, ha, hA, hb, hB, hr.app g⟩
  | .lp _ _ _ _ _, _, _, _, ⟨q, ys, cv, dv, pa, xa, pb, xb, e, h, hc, hd, ha, hA, hb, hB, hr⟩, g => by subst e; exact ⟨q, _, cv, dv, pa, xa, pb, xb, rfl, h, hc, hd, ha, hA, hb, hB, hr.app g⟩
abbrev inv (b : Body) : Body := b.inv Pr.und
/-- the inverses from i on stand in ws -/
def InvA (H : Hp) (bs : List Body) (ws : List V) (i : Nat) : Prop := ws.length = bs.length ∧ ∀ j b, i ≤ j → bs[j]? = some b → ∃ v, ws[j]? = some v ∧ BdT H v (inv b)
theorem InvA.mono {H H' : Hp} {bs : List Body} {ws : List V} {i : Nat} (im : Im H H') (h : InvA H bs ws i) : InvA H' bs ws i := ⟨h.1, fun j b hj hb => let ⟨v, e, g⟩ := h.2 j b hj hb; ⟨v, e, g.mono im⟩⟩
def spInvOf : Sp := fun vs H Q _ => ∃ (bt : Addr) (xs : List V) (b : Body) (vars : List Str) (n0 : Int) (ns : List Str), vs = [.ref bt] ∧ BOk vars n0 ns b ∧ H bt = some (.tup xs) ∧ BdV H xs b ∧ nb b ≤ 1000 ∧ wt b ≤ 4000 ∧
  ∀ H' v, Same H H' → BdT H' v (inv b) → Q v H'
section
variable {P : Program} {w : World} {K : PySem.W.Frag} {mg : Str → Option Value} {base : Heap} {a : Ad}
local macro_rules | `(tactic| tm_at "g") => `(tactic| repeat (first
  | with_reducible refine w_seq ?_ | with_reducible refine w_if ?_ | with_reducible refine w_tB ?_ | with_reducible refine w_tTest ?_ | with_reducible refine w_asg ?_ | with_reducible refine w_name ?_
  | with_reducible refine w_ret ?_ | with_reducible refine w_next ?_ | with_reducible refine w_op ?_ | with_reducible refine w_c ?_ | with_reducible refine w_cb ?_ | with_reducible refine w_call ?_ | with_reducible refine w_cons ?_ | with_reducible refine w_nil ?_
  | with_reducible refine w_var (by with_unfolding_all rfl) ?_
  | with_reducible refine w_rI0 ?_ | with_reducible refine w_eq (by with_unfolding_all rfl) ?_ | with_reducible refine w_ne (by with_unfolding_all rfl) ?_
  | with_reducible refine w_test ?_ | with_reducible refine w_T ?_ | with_reducible refine w_F ?_ | with_reducible refine w_T0 ?_ | with_reducible refine w_F0 ?_
  | with_reducible refine w_and ?_ | with_reducible refine w_or ?_ | with_reducible refine w_not ?_ | with_reducible refine w_ifE ?_ | with_reducible refine w_drop ?_
  | with_reducible refine w_andV ?_ | with_reducible refine w_orV ?_ | with_reducible refine w_notV ?_ | with_reducible refine w_dget ?_ | with_reducible refine w_din ?_ | with_reducible refine w_dnin ?_ | with_reducible refine w_fld ?_
  | with_reducible refine w_ttup ?_ | with_reducible refine w_tlst ?_ | with_reducible refine w_un ?_ | with_reducible refine w_rU ?_ | with_reducible refine w_gcons ?_ | with_reducible refine w_gnil ?_ | with_reducible refine w_sub ?_ | with_reducible refine w_sl ?_ | with_reducible refine w_nopart ?_ | with_reducible refine w_part ?_ | with_reducible refine w_int ?_ | with_reducible refine w_meth ?_
  | with_reducible refine w_make ?_ | with_reducible refine w_dput ?_ | with_reducible refine w_sfld ?_ | with_reducible refine w_bm ?_ | with_reducible refine w_bm0 ?_ | with_reducible refine w_isN ?_ | with_reducible refine w_notT ?_ | with_reducible refine w_forR ?_ | with_reducible refine w_forL ?_ | with_reducible refine w_forT ?_ | with_reducible refine w_fldaug ?_ | with_reducible refine w_radd ?_ | with_reducible refine w_par ?_ | with_reducible refine w_pair ?_
  | with_reducible refine w_lcR ?_ | with_reducible refine w_dcR ?_ | with_reducible refine w_lcL ?_ | with_reducible refine w_lcT ?_ | with_reducible refine w_dcT ?_ | with_reducible refine w_yes ?_ | with_reducible refine w_chain ?_))

theorem oppo_of {T : Tx w K mg a} {vars : List Str} {n : Int} {p : Pr} (h : p.ok vars n) : KDct K w a.k_OPPOSITES p.w (.str (undW p.w)) := by
  rcases chg_cases h with e | e | e | e <;> rw [e]
  · exact T.v_OPPOSITES_add
  · exact T.v_OPPOSITES_sub
  · exact T.v_OPPOSITES_xor
  · exact T.v_OPPOSITES_swap
theorem oppo_cl {T : Tx w K mg a} (s : Bool) : KDct K w a.k_OPPOSITES (if s then ("call" : Str) else "uncall") (.str (if !s then ("call" : Str) else "uncall")) := by
  cases s
  · exact T.v_OPPOSITES_uncall
  · exact T.v_OPPOSITES_call
theorem sc_inverse_of : FnScope ["body", "bodies", "places", "inverses", "at", "found", "k", "statement", "inner"] ["body"] (defScope s_inverse_of) := ⟨rfl, rfl, rfl, by decide +kernel, rfl, by decide +kernel, by decide +kernel⟩
theorem ok_inv_of (T : Tx w K mg a) : FnOk P w K mg base CX0 2 a.f_inverse_of a.d_inverse_of ["body"] spInvOf := by
  have G_nested : FnOk P w K mg base CX0 1 _ _ _ spNested := ok_nested T
  refine T.F_inverse_of.ok sc_inverse_of (fun vs H Q E h => ?_) (fun cdv A outer s H vs Q E hr h => ?_)
  · obtain ⟨bt, xs, b, _, _, _, rfl, _⟩ := h
    rfl
  · obtain ⟨bt, xs, b, vars, n0, ns, rfl, hbok, hbt, hbv, hnb, hwt, q⟩ := h
    have hu := hu_of hr
    refine ⟨_, (pss_cons (ps_asg (pe_call G_nested (hr.mono (by decide)) rfl T.g_nested T.F_nested.kp T.b_nested .nil pass0 (pa_cons (pv 0) pa_nil)) (pg_tup rfl (pgs_cons (pg_name (i := 1) sc_inverse_of.nd rfl (Or.inl rfl)) (pgs_cons (pg_name (i := 2) sc_inverse_of.nd rfl (Or.inl rfl)) pgs_nil))))
    (pss_cons (ps_set (i := 3) sc_inverse_of.nd rfl (Or.inl rfl) (pe_op op_rep (pe_lst (pa_cons (pe_tup pa_nil) pa_nil)) (pe_callB cl_len (by rfl) T.z_len PySem.boot_len (pa_cons (pv 1) pa_nil))))
    (pss_cons (ps_for PassesOwn.never rfl (pi_range3 rfl T.z_range (pa_cons (pe_op op_sub (pe_callB cl_len (by rfl) T.z_len PySem.boot_len (pa_cons (pv 1) pa_nil)) pe_int) (pa_cons (pe_un un_neg pe_int) (pa_cons (pe_un un_neg pe_int) pa_nil)))) (pg_name (i := 4) sc_inverse_of.nd rfl (Or.inl rfl))
      (pss_cons (ps_set (i := 5) sc_inverse_of.nd rfl (Or.inl rfl) (pe_lst pa_nil))
    (pss_cons (ps_for PassesOwn.never rfl (pi_range3 rfl T.z_range (pa_cons (pe_op op_sub (pe_callB cl_len (by rfl) T.z_len PySem.boot_len (pa_cons (pe_ix ix_list (pv 1) (pv 4) (fun _ _ => rfl)) pa_nil)) pe_int) (pa_cons (pe_un un_neg pe_int) (pa_cons (pe_un un_neg pe_int) pa_nil)))) (pg_name (i := 6) sc_inverse_of.nd rfl (Or.inl rfl))
      (pss_cons (ps_set (i := 7) sc_inverse_of.nd rfl (Or.inl rfl) (pe_ix ix_tup (pe_ix ix_list (pv 1) (pv 4) (fun _ _ => rfl)) (pv 6) (fun _ _ => rfl)))
    (pss_one (ps_if (pt_cmp (pc_din hu (pe_tup (pa_cons (pv 4) (pa_cons (pv 6) pa_nil))) (pv 2))) (pss_cons (ps_set (i := 8) sc_inverse_of.nd rfl (Or.inl rfl) (pe_dget hu (pv 2) (pe_tup (pa_cons (pv 4) (pa_cons (pv 6) pa_nil))) (fun _ _ => rfl)))
    (pss_one (ps_expr (pe_bm PySem.F.plainAttrs_list PySem.F.slot_list_append PySem.F.type_list_append mt_append (pv 5) (pa_cons (pe_tup (pa_cons (pe_ix ix_tup (pv 7) pe_int (fun _ _ => rfl)) (pa_cons (pe_ix ix_tup (pv 7) pe_int (fun _ _ => rfl)) (pa_cons (pe_ix ix_list (pv 3) (pv 8) (fun _ _ => rfl)) (pa_cons (pe_ix ix_list (pv 3) (pe_op op_add (pv 8) pe_int) (fun _ _ => rfl)) (pa_cons (pe_ix ix_tup (pv 7) pe_int (fun _ _ => rfl)) pa_nil)))))) pa_nil))))) (pss_one (ps_expr (pe_bm PySem.F.plainAttrs_list PySem.F.slot_list_append PySem.F.type_list_append mt_append (pv 5) (pa_cons (pe_op op_catA (pe_tup (pa_cons (pe_ix ix_kdict (pe_glob (v := .ref a.k_OPPOSITES) rfl T.g_OPPOSITES rfl) (pe_ix ix_tup (pv 7) pe_int (fun _ _ => rfl)) (fun _ _ => rfl)) pa_nil)) (pe_slice sl_tupA (pv 7) (po_some pe_int) po_none)) pa_nil))))))))
    (pss_one (ps_asg (pe_callTy cl_tup (by rfl) T.z_tuple (by decide +kernel) (pa_cons (pv 5) pa_nil)) (pg_sub (pv 3) (pv 4) set_list))))))
    (pss_one (ps_ret (pe_ix ix_list (pv 3) pe_int (fun _ _ => rfl))))))), ?_⟩
    tm_at "g"
    refine ⟨bt, xs, b, vars, n0, ns, rfl, hbok, hbt, hbv, hnb, hwt, fun H1 r bl dt bv bs kvs s1 hr1 hbl hdt hp hnd hb0 hlen hw nbl ndt => ?_⟩
    refine w_tup hr1 rfl ?_
    tm_at "g"
    refine w_lay (by show 0 ≤ 100000; decide) fun et H2 s2 n2 h2 => ?_
    tm_at "g"
    refine w_lay (by show 1 ≤ 100000; decide) fun ol H3 s3 n3 h3 => ?_
    tm_at "g"
    have s13 := s2.trans s3
    have elen : bv.length = bs.length := Paired.length hp
    refine w_lenL (s13 _ _ hbl) ?_
    tm_at "g"
    refine w_rep h3 (by show 1 * bv.length ≤ 100000; omega) (by omega) fun il H4 s4 n4 h4 => ?_
    have s14 := s13.trans s4
    have nil1 : H1 il = none := s13.free n4
    have e4 : (List.replicate bv.length [V.ref et]).flatten = List.replicate bv.length (V.ref et) := by
      have z : ∀ n, (List.replicate n [V.ref et]).flatten = List.replicate n (V.ref et) := fun n => by
        induction n with
        | zero => rfl
        | succ n ih => rw [List.replicate_succ, List.flatten_cons, ih]; rfl
      exact z _
    rw [e4] at h4
    have hI0 : InvA H4 bs (List.replicate bv.length (V.ref et)) bs.length := ⟨by rw [List.length_replicate, elen], fun j b' hj hb' => absurd (List.getElem?_eq_some_iff.mp hb').1 (by omega)⟩
    tm_at "g"
    refine w_for3 ?_
    tm_at "g"
    refine w_lenL (s14 _ _ hbl) ?_
    tm_at "g"
    rw [elen]
    refine w_down (n := bs.length) (fun i σ H' => ∃ o4 o5 o6 o7 o8 ws, σ = [some (.ref bt), some (.ref bl), some (.ref dt), some (.ref il), o4, o5, o6, o7, o8] ∧ Same H1 H' ∧ H' il = some (.lst ws) ∧ InvA H' bs ws i)
      (by omega) ⟨none, none, none, none, none, _, rfl, s14, h4, hI0⟩ (fun i σ H' hi h => ?_) (fun σ H' h => ?_)
    · obtain ⟨o4, o5, o6, o7, o8, ws, rfl, s1', hil, hI⟩ := h
      obtain ⟨bb, hbb⟩ : ∃ bb, bs[i]? = some bb := ⟨_, List.getElem?_eq_getElem hi⟩
      obtain ⟨bav, hba, ba, xs2, rfl, hxs2, hbv2⟩ := pair_get2 hp hbb
      tm_at "g"
      refine w_lay (by show 0 ≤ 100000; decide) fun fl H5 s5 n5 h5 => ?_
      have s15 := s1'.trans s5
      have nfl1 : H1 fl = none := s1'.free n5
      have nfi : il ≠ fl := fun z => by rw [z, n5] at hil; cases hil
      tm_at "g"
      refine w_for3 ?_
      tm_at "g"
      refine w_ixL (s15 _ _ hbl) (atI_nat hba) ?_
      tm_at "g"
      refine w_lenT (s15 _ _ hxs2) ?_
      have hl2 : xs2.length ≤ 4000 := Nat.le_trans hbv2.len_le (hw _ (List.mem_of_getElem? hbb)).1
      tm_at "g"
      refine w_down (n := xs2.length) (fun k σ H' => ∃ o6 o7 o8 fs, σ = [some (.ref bt), some (.ref bl), some (.ref dt), some (.ref il), some (.int (i : Nat)), some (.ref fl), o6, o7, o8] ∧ Same H1 H' ∧ H' il = some (.lst ws) ∧ InvA H' bs ws (i + 1) ∧ H' fl = some (.lst fs) ∧ BdV H' fs (inv (drp k bb)) ∧ fs.length + k = xs2.length)
        (by omega) ⟨o6, o7, o8, _, rfl, s15, s5 _ _ hil, hI.mono (Im.of s5), h5, by rw [hbv2.drp_len]; rfl, by simp⟩ (fun k σ H6 hk h => ?_) (fun σ H6 h => ?_)
      · obtain ⟨o6, o7, o8, fs, rfl, s16, hil6, hI6, hfl, hfv, hfk⟩ := h
        have hget : xs2[k]? = some xs2[k] := List.getElem?_eq_getElem hk
        have hv2 := hbv2.drp (k := k)
        rw [List.drop_eq_getElem_cons hk] at hv2
        have hbk := BOk.drp k (hw _ (List.mem_of_getElem? hbb)).2
        rw [drp_succ] at hfv
        tm_at "g"
        refine w_ixL (s16 _ _ hbl) (atI_nat hba) ?_
        tm_at "g"
        refine w_ixT (s16 _ _ hxs2) (atI_nat hget) ?_
        tm_at "g"
        refine w_lay (by show 2 ≤ 100000; decide) fun kt H7 s7 n7 h7 => ?_
        tm_at "g"
        have s17 := s16.trans s7
        refine w_diT (k := kAt i k) (s17 _ _ hdt) h7 ?_
        cases ed : drp k bb with
        | nil =>
          rw [ed] at hv2
          cases hv2
        | pr p r =>
          rw [ed] at hv2 hfv hbk
          obtain ⟨v', ys', e, hpv, _⟩ := hv2
          injection e with e1 e2
          rw [e1]
          obtain ⟨qa, ov, rfl, hq, hov⟩ := hpv
          have hno : ¬ ∃ A B, Cmp (drp k bb) A B := fun ⟨A, B, c, d, r', z⟩ => by rw [ed] at z; rcases z with z | z <;> cases z
          rw [hnd.no i k bb hbb hno]
          tm_at "g"
          refine w_F' rfl ?_
          have hfl7 := s7 _ _ hfl
          have hq7 := s17 _ _ hq
          tm_at "g"
          refine w_tyL hfl7 ?_
          tm_at "g"
          refine w_ixT hq7 (atI_nat (j := 0) rfl) ?_
          refine w_kd (oppo_of (T := T) hbk.1) ?_
          tm_at "g"
          refine w_lay (by show 1 ≤ 100000; decide) fun t1 H8 s8 n8 h8 => ?_
          tm_at "g"
          refine w_sl1 (s8 _ _ hq7) fun t2 H9 s9 n9 h9 => ?_
          refine w_cat (s9 _ _ h8) h9 (by simp only [List.length_cons, List.length_nil]; omega) (by simp) fun nt H10 s10 h10 => ?_
          have s7A := (s8.trans s9).trans s10
          tm_at "g"
          refine w_append (s7A _ _ hfl7) (by omega) ?_
          have i11 : Im H10 (upd H10 fl (.lst (fs ++ [.ref nt]))) := Im.upd fun zs z => by rw [s7A _ _ hfl7] at z; cases z
          have iA := (Im.of (s7.trans s7A)).trans i11
          have iC := (Im.of (s17.trans s7A)).trans i11
          tm_at "g"
          have hnew : BdV (upd H10 fl (.lst (fs ++ [.ref nt]))) [.ref nt] (.pr p.und .nil) := ⟨.ref nt, [], rfl, ⟨nt, ov, rfl, i11 _ _ h10, hov.mono iC⟩, rfl⟩
          refine ⟨_, _, _, fs ++ [.ref nt], rfl, (s17.trans s7A).mut nfl1, by rw [upd_ne nfi]; exact s7A _ _ (s7 _ _ hil6), hI6.mono iA, upd_same, ?_, by rw [List.length_append, List.length_singleton]; omega⟩
          have z := (hfv.mono iA).app hnew
          exact z
        | cl sg pn r =>
          rw [ed] at hv2 hfv hbk
          obtain ⟨qa, ys', e, hq, _⟩ := hv2
          injection e with e1 e2
          rw [e1]
          have hno : ¬ ∃ A B, Cmp (drp k bb) A B := fun ⟨A, B, c, d, r', z⟩ => by rw [ed] at z; rcases z with z | z <;> cases z
          rw [hnd.no i k bb hbb hno]
          tm_at "g"
          refine w_F' rfl ?_
          have hfl7 := s7 _ _ hfl
          have hq7 := s17 _ _ hq
          tm_at "g"
          refine w_tyL hfl7 ?_
          tm_at "g"
          refine w_ixT hq7 (atI_nat (j := 0) rfl) ?_
          refine w_kd (oppo_cl (T := T) sg) ?_
          tm_at "g"
          refine w_lay (by show 1 ≤ 100000; decide) fun t1 H8 s8 n8 h8 => ?_
          tm_at "g"
          refine w_sl1 (s8 _ _ hq7) fun t2 H9 s9 n9 h9 => ?_
          refine w_cat (s9 _ _ h8) h9 (by simp only [List.length_cons, List.length_nil]; omega) (by simp) fun nt H10 s10 h10 => ?_
          have s7A := (s8.trans s9).trans s10
          tm_at "g"
          refine w_append (s7A _ _ hfl7) (by omega) ?_
          have i11 : Im H10 (upd H10 fl (.lst (fs ++ [.ref nt]))) := Im.upd fun zs z => by rw [s7A _ _ hfl7] at z; cases z
          have iA := (Im.of (s7.trans s7A)).trans i11
          have iC := (Im.of (s17.trans s7A)).trans i11
          tm_at "g"
          have hnew : BdV (upd H10 fl (.lst (fs ++ [.ref nt]))) [.ref nt] (.cl (!sg) pn .nil) := ⟨nt, [], rfl, i11 _ _ h10, rfl⟩
          refine ⟨_, _, _, fs ++ [.ref nt], rfl, (s17.trans s7A).mut nfl1, by rw [upd_ne nfi]; exact s7A _ _ (s7 _ _ hil6), hI6.mono iA, upd_same, ?_, by rw [List.length_append, List.length_singleton]; omega⟩
          have z := (hfv.mono iA).app hnew
          exact z
        | ite cc dd A1 B1 r =>
          rw [ed] at hv2 hfv hbk
          obtain ⟨qa, ys', cv, dv, pa, xa, pb, xb, e, hq, hcv, hdv, ha, hA, hb, hB, _⟩ := hv2
          injection e with e1 e2
          rw [e1]
          obtain ⟨mi, m1, m2, m3, m4⟩ := hnd.yes i k bb A1 B1 hbb ⟨cc, dd, r, .inl ed⟩
          rw [m1]
          tm_at "g"
          refine w_T' rfl ?_
          tm_at "g"
          refine w_lay (by show 2 ≤ 100000; decide) fun kt2 H8 s8 n8 h8 => ?_
          tm_at "g"
          have s18 := s17.trans s8
          refine w_dgT (k := kAt i k) (s18 _ _ hdt) h8 m1 ?_
          have s68 := s7.trans s8
          have hfl8 := s68 _ _ hfl
          have hil8 := s68 _ _ hil6
          have hI8 := hI6.mono (Im.of s68)
          obtain ⟨va, wa, pa', xa', rfl, ga1, ga2⟩ := hI8.2 mi A1 (by omega) m3
          obtain ⟨vb, wb, pb', xb', rfl, gb1, gb2⟩ := hI8.2 (mi + 1) B1 (by omega) m4
          have hq8 := s18 _ _ hq
          tm_at "g"
          refine w_tyL hfl8 ?_
          tm_at "g"
          refine w_ixT hq8 (atI_nat (j := 0) rfl) ?_
          tm_at "g"
          refine w_ixT hq8 (atI_nat (j := 4) rfl) ?_
          tm_at "g"
          refine w_ixL hil8 (atI_nat wa) ?_
          tm_at "g"
          refine w_ixL hil8 (by have z := atI_nat wb; rwa [show ((mi + 1 : Nat) : Int) = ((mi : Nat) : Int) + 1 by omega] at z) ?_
          tm_at "g"
          refine w_ixT hq8 (atI_nat (j := 1) rfl) ?_
          tm_at "g"
          refine w_lay (by show 5 ≤ 100000; decide) fun nt H9 s9 n9 h9 => ?_
          tm_at "g"
          refine w_append (s9 _ _ hfl8) (by omega) ?_
          have i10 : Im H9 (upd H9 fl (.lst (fs ++ [.ref nt]))) := Im.upd fun zs z => by rw [s9 _ _ hfl8] at z; cases z
          have iA := ((Im.of s68).trans (Im.of s9)).trans i10
          have iB := (Im.of s9).trans i10
          have iC := (Im.of (s18.trans s9)).trans i10
          tm_at "g"
          have hnew : BdV (upd H9 fl (.lst (fs ++ [.ref nt]))) [.ref nt] (.ite dd cc (inv A1) (inv B1) .nil) :=
            ⟨nt, [], dv, cv, pa', xa', pb', xb', rfl, i10 _ _ h9, hdv.mono iC, hcv.mono iC, iB _ _ ga1, ga2.mono iB, iB _ _ gb1, gb2.mono iB, rfl⟩
          refine ⟨_, _, _, fs ++ [.ref nt], rfl, (s18.trans s9).mut nfl1, by rw [upd_ne nfi]; exact s9 _ _ hil8, hI6.mono iA, upd_same, ?_, by rw [List.length_append, List.length_singleton]; omega⟩
          have z := (hfv.mono iA).app hnew
          exact z
        | lp cc dd A1 B1 r =>
          rw [ed] at hv2 hfv hbk
          obtain ⟨qa, ys', cv, dv, pa, xa, pb, xb, e, hq, hcv, hdv, ha, hA, hb, hB, _⟩ := hv2
          injection e with e1 e2
          rw [e1]
          obtain ⟨mi, m1, m2, m3, m4⟩ := hnd.yes i k bb A1 B1 hbb ⟨cc, dd, r, .inr ed⟩
          rw [m1]
          tm_at "g"
          refine w_T' rfl ?_
          tm_at "g"
          refine w_lay (by show 2 ≤ 100000; decide) fun kt2 H8 s8 n8 h8 => ?_
          tm_at "g"
          have s18 := s17.trans s8
          refine w_dgT (k := kAt i k) (s18 _ _ hdt) h8 m1 ?_
          have s68 := s7.trans s8
          have hfl8 := s68 _ _ hfl
          have hil8 := s68 _ _ hil6
          have hI8 := hI6.mono (Im.of s68)
          obtain ⟨va, wa, pa', xa', rfl, ga1, ga2⟩ := hI8.2 mi A1 (by omega) m3
          obtain ⟨vb, wb, pb', xb', rfl, gb1, gb2⟩ := hI8.2 (mi + 1) B1 (by omega) m4
          have hq8 := s18 _ _ hq
          tm_at "g"
          refine w_tyL hfl8 ?_
          tm_at "g"
          refine w_ixT hq8 (atI_nat (j := 0) rfl) ?_
          tm_at "g"
          refine w_ixT hq8 (atI_nat (j := 4) rfl) ?_
          tm_at "g"
          refine w_ixL hil8 (atI_nat wa) ?_
          tm_at "g"
          refine w_ixL hil8 (by have z := atI_nat wb; rwa [show ((mi + 1 : Nat) : Int) = ((mi : Nat) : Int) + 1 by omega] at z) ?_
          tm_at "g"
          refine w_ixT hq8 (atI_nat (j := 1) rfl) ?_
          tm_at "g"
          refine w_lay (by show 5 ≤ 100000; decide) fun nt H9 s9 n9 h9 => ?_
          tm_at "g"
          refine w_append (s9 _ _ hfl8) (by omega) ?_
          have i10 : Im H9 (upd H9 fl (.lst (fs ++ [.ref nt]))) := Im.upd fun zs z => by rw [s9 _ _ hfl8] at z; cases z
          have iA := ((Im.of s68).trans (Im.of s9)).trans i10
          have iB := (Im.of s9).trans i10
          have iC := (Im.of (s18.trans s9)).trans i10
          tm_at "g"
          have hnew : BdV (upd H9 fl (.lst (fs ++ [.ref nt]))) [.ref nt] (.lp dd cc (inv A1) (inv B1) .nil) :=
            ⟨nt, [], dv, cv, pa', xa', pb', xb', rfl, i10 _ _ h9, hdv.mono iC, hcv.mono iC, iB _ _ ga1, ga2.mono iB, iB _ _ gb1, gb2.mono iB, rfl⟩
          refine ⟨_, _, _, fs ++ [.ref nt], rfl, (s18.trans s9).mut nfl1, by rw [upd_ne nfi]; exact s9 _ _ hil8, hI6.mono iA, upd_same, ?_, by rw [List.length_append, List.length_singleton]; omega⟩
          have z := (hfv.mono iA).app hnew
          exact z
      · obtain ⟨o6, o7, o8, fs, rfl, s16, hil6, hI6, hfl, hfv, hfk⟩ := h
        tm_at "g"
        refine w_tupL hfl fun tt H7 s7 n7 h7 => ?_
        tm_at "g"
        refine w_setL (s7 _ _ hil6) (by rw [hI6.1]; exact hi) ?_
        have i8 : Im H7 (upd H7 il (.lst (ws.set i (.ref tt)))) := Im.upd fun zs z => by rw [s7 _ _ hil6] at z; cases z
        have i68 := (Im.of s7).trans i8
        refine ⟨_, _, _, _, _, ws.set i (.ref tt), rfl, (s16.trans s7).mut nil1, upd_same, by rw [List.length_set]; exact hI6.1, fun j b' hj hb' => ?_⟩
        by_cases e : j = i
        · subst e
          rw [hbb] at hb'
          cases hb'
          refine ⟨.ref tt, by rw [List.getElem?_set_self (by rw [hI6.1]; exact hi)], tt, fs, rfl, i8 _ _ h7, hfv.mono i68⟩
        · obtain ⟨v, e1, g1⟩ := hI6.2 j b' (by omega) hb'
          exact ⟨v, by rw [List.getElem?_set_ne (fun z => e z.symm)]; exact e1, g1.mono i68⟩
    · obtain ⟨o4, o5, o6, o7, o8, ws, rfl, s1', hil, hI⟩ := h
      obtain ⟨v, hv, hbt'⟩ := hI.2 0 b (Nat.le_refl _) hb0
      tm_at "g"
      refine w_ixL hil (atI_nat (j := 0) hv) ?_
      exact q H' v (s1.trans s1') hbt'
end
end Kt
end -- KInv
section -- KInp
set_option Elab.async false
set_option linter.all false
set_option maxRecDepth 100000
set_option maxHeartbeats 4000000
/-! KInp: dicts of procedures; the inverse of a body is as right, as deep, as long; inverse_program. -/
namespace Kt
open PySem L2
/-- a dict of procedures, pair by pair -/
def PrP (H : Hp) (kvs : List (Key × V)) (ks : List Str) (R : Str → Body) : Prop := Paired (fun (kv : Key × V) (k : Str) => kv.1 = .inr k ∧ BdT H kv.2 (R k)) kvs ks
theorem PrP.mono {H H' : Hp} (i : Im H H') {kvs : List (Key × V)} {ks : List Str} {R : Str → Body} (h : PrP H kvs ks R) : PrP H' kvs ks R := Paired.mapP h fun _ _ x => ⟨x.1, x.2.mono i⟩
theorem PrP.keys {H : Hp} {R : Str → Body} : ∀ {kvs : List (Key × V)} {ks : List Str}, PrP H kvs ks R → kvs.map (·.1) = ks.map Sum.inr
  | _, _, .nil => rfl
  | _, _, .cons x r => by rw [List.map_cons, List.map_cons, x.1, PrP.keys r]
theorem PrP.vals {H : Hp} {R : Str → Body} : ∀ {kvs : List (Key × V)} {ks : List Str}, PrP H kvs ks R → Paired (BdT H) (kvs.map (·.2)) (ks.map R)
  | _, _, .nil => .nil
  | _, _, .cons x r => .cons x.2 (PrP.vals r)
theorem PrP.get {H : Hp} {R : Str → Body} : ∀ {kvs : List (Key × V)} {ks : List Str}, PrP H kvs ks R → ∀ k ∈ ks, ∃ v, valV kvs (.inr k) = some v ∧ BdT H v (R k)
  | _, _, .nil, k, hk => by cases hk
  | (a, v) :: kvs, k0 :: ks, .cons x r, k, hk => by
    have e0 : a = .inr k0 := x.1
    by_cases e : k = k0
    · subst e
      refine ⟨v, ?_, x.2⟩
      show ((List.find? _ ((a, v) :: kvs)).map _) = _
      rw [List.find?_cons_of_pos (by rw [e0]; simp)]
      rfl
    · have hk' : k ∈ ks := by
        rcases List.mem_cons.mp hk with z | z
        · exact absurd z e
        · exact z
      obtain ⟨v', h1, h2⟩ := PrP.get r k hk'
      refine ⟨v', ?_, h2⟩
      show ((List.find? _ ((a, v) :: kvs)).map _) = _
      rw [List.find?_cons_of_neg (by rw [e0]; simp; exact fun z => e z.symm)]
      exact h1
theorem PrP.d {H : Hp} {R : Str → Body} {kvs : List (Key × V)} {ks : List Str} (h : PrP H kvs ks R) (nd : ks.Nodup) : PrcD H kvs ks R := ⟨h.keys, h.vals, h.get, nd⟩
theorem PrP.mem {H : Hp} {R : Str → Body} : ∀ {kvs : List (Key × V)} {ks : List Str}, PrP H kvs ks R → ∀ kv ∈ kvs, ∃ k ∈ ks, kv.1 = .inr k
  | _, _, .nil, kv, h => by cases h
  | _, _, .cons x r, kv, h => by
    rcases List.mem_cons.mp h with z | z
    · subst z; exact ⟨_, List.mem_cons_self .., x.1⟩
    · obtain ⟨k, h1, h2⟩ := PrP.mem r kv z
      exact ⟨k, List.mem_cons_of_mem _ h1, h2⟩
theorem PrP.new {H : Hp} {R : Str → Body} {kvs : List (Key × V)} {ks : List Str} {k : Str} {v : V} (h : PrP H kvs ks R) (hk : k ∉ ks) (hv : BdT H v (R k)) : PrP H (putK kvs (.inr k) v) (ks ++ [k]) R := by
  rw [putK_new (fun kv hkv z => by
    obtain ⟨k', h1, h2⟩ := h.mem kv hkv
    rw [h2] at z
    exact hk (by rw [← Sum.inr.inj z]; exact h1))]
  exact Paired.snoc h ⟨rfl, hv⟩
theorem PrP.weak {H : Hp} {R R' : Str → Body} : ∀ {kvs : List (Key × V)} {ks : List Str}, PrP H kvs ks R → (∀ k ∈ ks, R k = R' k) → PrP H kvs ks R'
  | _, _, .nil, _ => .nil
  | _, _, .cons x r, h => .cons ⟨x.1, by rw [← h _ (List.mem_cons_self ..)]; exact x.2⟩ (PrP.weak r fun k hk => h k (List.mem_cons_of_mem _ hk))
def setR (R : Str → Body) (k : Str) (b : Body) : Str → Body := fun n => if n = k then b else R n
theorem PrP.map {H : Hp} {R : Str → Body} {k : Str} {v : V} {b : Body} (hv : BdT H v b) : ∀ {kvs : List (Key × V)} {ks : List Str}, PrP H kvs ks R → PrP H (kvs.map fun kv => if kv.1 = .inr k then (kv.1, v) else kv) ks (setR R k b)
  | _, _, .nil => .nil
  | (a, u) :: kvs, k0 :: ks, .cons x r => by
    have e0 : a = .inr k0 := x.1
    refine .cons ?_ (PrP.map hv r)
    by_cases e : k0 = k
    · subst e
      dsimp only
      rw [if_pos e0]
      exact ⟨e0, by simp only [setR, if_pos]; exact hv⟩
    · have hne : ¬ a = Sum.inr k := by rw [e0]; exact fun z => e (Sum.inr.inj z)
      have e1 : (if a = Sum.inr k then (a, v) else (a, u)) = (a, u) := if_neg hne
      show (if a = Sum.inr k then (a, v) else (a, u)).1 = Sum.inr k0 ∧ BdT H (if a = Sum.inr k then (a, v) else (a, u)).2 (setR R k b k0)
      rw [e1]
      have e2 : setR R k b k0 = R k0 := if_neg e
      rw [e2]
      exact x
theorem PrP.repl {H : Hp} {R : Str → Body} {kvs : List (Key × V)} {ks : List Str} {k : Str} {v : V} {b : Body} (h : PrP H kvs ks R) (hk : k ∈ ks) (hv : BdT H v b) : PrP H (putK kvs (.inr k) v) ks (setR R k b) := by
  have hany : (kvs.any fun kv => decide (kv.1 = .inr k)) = true := by
    have e : (Sum.inr k : Key) ∈ kvs.map (·.1) := by rw [h.keys]; exact List.mem_map_of_mem hk
    obtain ⟨kv, h1, h2⟩ := List.mem_map.mp e
    exact List.any_eq_true.mpr ⟨kv, h1, decide_eq_true h2⟩
  unfold putK
  rw [if_pos hany]
  exact h.map hv
/-! ### the inverse -/
theorem sc_app : ∀ (x y : Body), sc (x.app y) = sc x + sc y
  | .nil, y => by show sc y = 0 + sc y; omega
  | .pr _ r, y => by show 1 + sc (r.app y) = 1 + sc r + sc y; rw [sc_app]; omega
  | .cl _ _ r, y => by show 1 + sc (r.app y) = 1 + sc r + sc y; rw [sc_app]; omega
  | .ite _ _ A B r, y => by show 1 + sc A + sc B + sc (r.app y) = 1 + sc A + sc B + sc r + sc y; rw [sc_app]; omega
  | .lp _ _ A B r, y => by show 1 + sc A + sc B + sc (r.app y) = 1 + sc A + sc B + sc r + sc y; rw [sc_app]; omega
theorem dp_app : ∀ (x y : Body), dp (x.app y) = max (dp x) (dp y)
  | .nil, y => by show dp y = max 0 (dp y); omega
  | .pr _ r, y => dp_app r y
  | .cl _ _ r, y => dp_app r y
  | .ite _ _ A B r, y => by show max (max (dp A + 1) (dp B + 1)) (dp (r.app y)) = max (max (max (dp A + 1) (dp B + 1)) (dp r)) (dp y); rw [dp_app]; omega
  | .lp _ _ A B r, y => by show max (max (dp A + 1) (dp B + 1)) (dp (r.app y)) = max (max (max (dp A + 1) (dp B + 1)) (dp r)) (dp y); rw [dp_app]; omega
theorem sc_inv : ∀ b : Body, sc (inv b) = sc b
  | .nil => rfl
  | .pr p r => by show sc ((inv r).app (.pr p.und .nil)) = _; rw [sc_app, sc_inv r]; simp only [sc]; omega
  | .cl s n r => by show sc ((inv r).app (.cl (!s) n .nil)) = _; rw [sc_app, sc_inv r]; simp only [sc]; omega
  | .ite c d A B r => by show sc ((inv r).app (.ite d c (inv A) (inv B) .nil)) = _; rw [sc_app, sc_inv r]; simp only [sc]; rw [sc_inv A, sc_inv B]; omega
  | .lp c d A B r => by show sc ((inv r).app (.lp d c (inv A) (inv B) .nil)) = _; rw [sc_app, sc_inv r]; simp only [sc]; rw [sc_inv A, sc_inv B]; omega
theorem dp_inv : ∀ b : Body, dp (inv b) = dp b
  | .nil => rfl
  | .pr p r => by show dp ((inv r).app (.pr p.und .nil)) = _; rw [dp_app, dp_inv r]; simp only [dp]; omega
  | .cl s n r => by show dp ((inv r).app (.cl (!s) n .nil)) = _; rw [dp_app, dp_inv r]; simp only [dp]; omega
  | .ite c d A B r => by show dp ((inv r).app (.ite d c (inv A) (inv B) .nil)) = _; rw [dp_app, dp_inv r]; simp only [dp]; rw [dp_inv A, dp_inv B]; omega
  | .lp c d A B r => by show dp ((inv r).app (.lp d c (inv A) (inv B) .nil)) = _; rw [dp_app, dp_inv r]; simp only [dp]; rw [dp_inv A, dp_inv B]; omega
section
variable {vars : List Str} {n : Int} {ns : List Str}
theorem BOk.app : ∀ {x y : Body}, BOk vars n ns x → BOk vars n ns y → BOk vars n ns (x.app y)
  | .nil, _, _, g => g
  | .pr _ _, _, h, g => ⟨h.1, BOk.app h.2 g⟩
  | .cl _ _ _, _, h, g => ⟨h.1, BOk.app h.2 g⟩
  | .ite _ _ _ _ _, _, h, g => ⟨h.1, h.2.1, h.2.2.1, h.2.2.2.1, BOk.app h.2.2.2.2 g⟩
  | .lp _ _ _ _ _, _, h, g => ⟨h.1, h.2.1, h.2.2.1, h.2.2.2.1, BOk.app h.2.2.2.2 g⟩
theorem BOk.inv : ∀ {x : Body}, BOk vars n ns x → BOk vars n ns (Kt.inv x)
  | .nil, _ => trivial
  | .pr p _, h => BOk.app (BOk.inv h.2) ⟨Pr.ok_und p h.1, trivial⟩
  | .cl _ _ _, h => BOk.app (BOk.inv h.2) ⟨h.1, trivial⟩
  | .ite _ _ _ _ _, h => BOk.app (BOk.inv h.2.2.2.2) ⟨h.2.1, h.1, BOk.inv h.2.2.1, BOk.inv h.2.2.2.1, trivial⟩
  | .lp _ _ _ _ _, h => BOk.app (BOk.inv h.2.2.2.2) ⟨h.2.1, h.1, BOk.inv h.2.2.1, BOk.inv h.2.2.2.1, trivial⟩
end
theorem PgOk.inv {w : Nat} {vars ks cn : List Str} {R : Str → Body} (h : PgOk w vars ks cn R) : PgOk w vars ks cn (setR R "main" (Kt.inv (R "main"))) := by
  have e : ∀ k, sc (setR R "main" (Kt.inv (R "main")) k) = sc (R k) := fun k => by
    unfold setR
    split
    · rename_i z; rw [z, sc_inv]
    · rfl
  refine ⟨h.w1, h.w8, h.v1, h.v6, h.vn, h.vd, h.k8, h.kn, h.main, h.cno, fun k hk => ?_, ?_⟩
  · unfold setR
    split
    · have z := h.bok _ h.main
      exact ⟨z.1.inv, by rw [dp_inv]; exact z.2⟩
    · exact h.bok k hk
  · have z : (ks.map (setR R "main" (Kt.inv (R "main")))).map sc = (ks.map R).map sc := by
      rw [List.map_map, List.map_map]
      exact List.map_congr_left fun k _ => e k
    rw [z]
    exact h.sm
theorem PgOk.perm {w : Nat} {vars ks ks' cn : List Str} {R : Str → Body} (h : PgOk w vars ks cn R) (p : ks'.Perm ks) : PgOk w vars ks' cn R :=
  ⟨h.w1, h.w8, h.v1, h.v6, h.vn, h.vd, by rw [p.length_eq]; exact h.k8, fun x hx => h.kn x (p.mem_iff.mp hx), p.mem_iff.mpr h.main, fun q hq => ⟨p.mem_iff.mpr (h.cno q hq).1, (h.cno q hq).2⟩, fun k hk => h.bok k (p.mem_iff.mp hk), by
    have e : ((ks'.map R).map sc).sum = ((ks.map R).map sc).sum := ((p.map R).map sc).sum_nat
    rw [e]; exact h.sm⟩
def spInvP (a : Ad) : Sp := fun vs H Q _ => ∃ (pp : Addr) (d : PD) (cn : List Str), vs = [.ref pp] ∧ PgA a H pp d ∧ PgOk d.w d.vars d.ns cn d.R ∧ d.ns.Nodup ∧
  ∀ H' r ns, Same H H' → ns.Perm d.ns → PgA a H' r ⟨d.w, d.vars, ns, setR d.R "main" (Kt.inv (d.R "main"))⟩ → Q (.ref r) H'
section
variable {P : Program} {w : World} {K : PySem.W.Frag} {mg : Str → Option Value} {base : Heap} {a : Ad}
local macro_rules | `(tactic| tm_at "g") => `(tactic| repeat (first
  | with_reducible refine w_seq ?_ | with_reducible refine w_if ?_ | with_reducible refine w_tB ?_ | with_reducible refine w_tTest ?_ | with_reducible refine w_asg ?_ | with_reducible refine w_name ?_
  | with_reducible refine w_ret ?_ | with_reducible refine w_next ?_ | with_reducible refine w_op ?_ | with_reducible refine w_c ?_ | with_reducible refine w_cb ?_ | with_reducible refine w_call ?_ | with_reducible refine w_cons ?_ | with_reducible refine w_nil ?_
  | with_reducible refine w_var (by with_unfolding_all rfl) ?_
  | with_reducible refine w_rI0 ?_ | with_reducible refine w_eq (by with_unfolding_all rfl) ?_ | with_reducible refine w_ne (by with_unfolding_all rfl) ?_
  | with_reducible refine w_test ?_ | with_reducible refine w_T ?_ | with_reducible refine w_F ?_ | with_reducible refine w_T0 ?_ | with_reducible refine w_F0 ?_
  | with_reducible refine w_and ?_ | with_reducible refine w_or ?_ | with_reducible refine w_not ?_ | with_reducible refine w_ifE ?_ | with_reducible refine w_drop ?_
  | with_reducible refine w_andV ?_ | with_reducible refine w_orV ?_ | with_reducible refine w_notV ?_ | with_reducible refine w_dget ?_ | with_reducible refine w_din ?_ | with_reducible refine w_dnin ?_ | with_reducible refine w_fld ?_
  | with_reducible refine w_ttup ?_ | with_reducible refine w_tlst ?_ | with_reducible refine w_un ?_ | with_reducible refine w_rU ?_ | with_reducible refine w_gcons ?_ | with_reducible refine w_gnil ?_ | with_reducible refine w_sub ?_ | with_reducible refine w_sl ?_ | with_reducible refine w_nopart ?_ | with_reducible refine w_part ?_ | with_reducible refine w_int ?_ | with_reducible refine w_meth ?_
  | with_reducible refine w_make ?_ | with_reducible refine w_dput ?_ | with_reducible refine w_sfld ?_ | with_reducible refine w_bm ?_ | with_reducible refine w_bm0 ?_ | with_reducible refine w_isN ?_ | with_reducible refine w_notT ?_ | with_reducible refine w_forR ?_ | with_reducible refine w_forL ?_ | with_reducible refine w_forT ?_ | with_reducible refine w_fldaug ?_ | with_reducible refine w_radd ?_ | with_reducible refine w_par ?_ | with_reducible refine w_pair ?_
  | with_reducible refine w_lcR ?_ | with_reducible refine w_dcR ?_ | with_reducible refine w_lcL ?_ | with_reducible refine w_lcT ?_ | with_reducible refine w_dcT ?_ | with_reducible refine w_yes ?_ | with_reducible refine w_chain ?_))

theorem sc_inverse_program : FnScope ["program", "procedures", "name"] ["program"] (defScope s_inverse_program) := ⟨rfl, rfl, rfl, by decide +kernel, rfl, by decide +kernel, by decide +kernel⟩
theorem ok_inv_prog (T : Tx w K mg a) : FnOk P w K mg base CX0 9 a.f_inverse_program a.d_inverse_program ["program"] (spInvP a) := by
  have G_Program_body : FnOk P w K mg base CX0 1 _ _ _ (spBody a) := ok_body T
  have G_inverse_of : FnOk P w K mg base CX0 2 _ _ _ spInvOf := ok_inv_of T
  have G_Program_init : FnOk P w K mg base CX0 7 _ _ _ (spPgInit a) := ok_pginit T
  refine T.F_inverse_program.ok sc_inverse_program (fun vs H Q E h => ?_) (fun cdv A outer s H vs Q E hr h => ?_)
  · obtain ⟨pp, d, cn, rfl, _⟩ := h
    rfl
  · obtain ⟨pp, d, cn, rfl, hp, ok, nd, q⟩ := h
    have hu := hu_of hr
    obtain ⟨dxp, vt, nt, db, kvs0, h1, h2, h3, h4, h5⟩ := id hp
    refine ⟨_, (pss_cons (ps_setDc (i := 1) (own := [("name", 2)]) (g := gName 2) (tt := tYes) rfl sc_inverse_program.nd rfl rfl (swD_true rfl rfl rfl (by decide +kernel)) (pi_tup (pe_fld (pv 0) rfl)) (blkOk_by (own := [("name", 2)]) (N := ["program", "procedures", "name"]) (sc := defScope s_inverse_program) (by decide +kernel)) (fun _ _ _ _ _ => pg_name (i := 2) sc_inverse_program.nd rfl (Or.inl rfl)) (fun _ _ _ _ _ => pts_nil) (fun _ _ _ _ _ => by exact (by exact (pv 2))) (fun _ _ _ _ _ => by exact (by exact (pe_meth (by exact (pv 0)) T.cl_Program T.m_Program_body G_Program_body (hr.mono (by decide)) T.b_Program_body .nil pass0 (by exact (pa_cons (by exact (pv 2)) pa_nil))))))
    (pss_cons (ps_dput hu (pv 1) pe_str (pe_call G_inverse_of (hr.mono (by decide)) rfl T.g_inverse_of T.F_inverse_of.kp T.b_inverse_of .nil pass0 (pa_cons (pe_dget hu (pv 1) pe_str (fun _ _ => rfl)) pa_nil)) rfl)
    (pss_one (ps_ret (pe_make T.mk_Program G_Program_init (hr.mono (by decide)) rfl T.g_Program T.b_Program_init .nil pass0 (pa_cons (pe_fld (pv 0) rfl) (pa_cons (pe_fld (pv 0) rfl) (pa_cons (pv 1) pa_nil)))))))), ?_⟩
    tm_at "g"
    refine w_obj h1 T.cl_Program T.na_Program_names flPg_names ?_
    tm_at "g"
    refine w_dctup h3 fun D hD => ⟨fun i H' => ∃ kvs, Same H H' ∧ H' D = some (.dK kvs) ∧ PrP H' kvs (d.ns.take i) d.R, ⟨[], Same.new hD, upd_same, .nil⟩, fun i H' hi h => ?_, fun i x H' hx h => ?_, fun H1 h => ?_⟩
    · obtain ⟨_, s1, _⟩ := h
      exact s1 _ _ h3
    · obtain ⟨kvs, s1, g1, g2⟩ := h
      rw [List.getElem?_map] at hx
      obtain ⟨n, hn, rfl⟩ : ∃ n, d.ns[i]? = some n ∧ x = V.str n := by
        cases e : d.ns[i]? with
        | none => rw [e] at hx; cases hx
        | some n => rw [e] at hx; exact ⟨n, rfl, (Option.some.inj hx).symm⟩
      have htk := take_snoc hn
      tm_at "g"
      refine ⟨rfl, ?_⟩
      tm_at "g"
      refine w_mobj (s1 _ _ h1) flPg_body ?_
      tm_at "g"
      refine ⟨pp, d, n, rfl, hp.mono s1, List.mem_of_getElem? hn, fun bt xs hbt hbv => ?_⟩
      have hkl : kvs.length = (d.ns.take i).length := Paired.length g2
      have k8 := ok.k8
      refine w_dacS g1 (by rw [hkl, List.length_take]; omega) ?_
      have i2 : Im H' (upd H' D (.dK (putK kvs (.inr n) (.ref bt)))) := Im.upd fun zs z => by rw [g1] at z; cases z
      refine ⟨_, s1.mut hD, upd_same, ?_⟩
      rw [htk]
      refine (g2.mono i2).new (fun z => ?_) ⟨bt, xs, rfl, i2 _ _ hbt, hbv.mono i2⟩
      have nd2 := nd
      rw [← List.take_append_drop (i + 1) d.ns, htk, List.append_assoc] at nd2
      exact (List.nodup_append.mp nd2).2.2 n z n (by simp) rfl
    obtain ⟨kvs, s1, g1, g2⟩ := h
    rw [List.length_map, List.take_length] at g2
    tm_at "g"
    obtain ⟨vm, hvm, mt, mxs, rfl, hm1, hm2⟩ := g2.get _ ok.main
    have okm := ok.bok _ ok.main
    have scm : sc (d.R "main") ≤ 200 := by
      have z : ∀ l : List Str, ("main" : Str) ∈ l → sc (d.R "main") ≤ ((l.map d.R).map sc).sum := fun l => by
        induction l with
        | nil => intro h; cases h
        | cons x r ih =>
          intro h
          simp only [List.map_cons, List.sum_cons]
          rcases List.mem_cons.mp h with z | z
          · rw [← z]; omega
          · have := ih z; omega
      exact Nat.le_trans (z _ ok.main) ok.sm
    refine w_dgS g1 hvm ?_
    tm_at "g"
    refine ⟨mt, mxs, d.R "main", d.vars, 2 ^ d.w, cn, rfl, okm.1, hm1, hm2, by have := nb_sc (d.R "main"); omega, by have := (wt_sc (d.R "main")).1; omega, fun H2 v s2 hv => ?_⟩
    tm_at "g"
    have hkl : kvs.length = d.ns.length := Paired.length g2
    have k8 := ok.k8
    have g1' := s2 _ _ g1
    refine w_dpS g1' (by omega) ?_
    have i3 : Im H2 (upd H2 D (.dK (putK kvs (.inr "main") v))) := Im.upd fun zs z => by rw [g1'] at z; cases z
    have g3 := ((g2.mono (Im.of s2)).mono i3).repl ok.main (hv.mono i3)
    have s3 : Same H (upd H2 D (.dK (putK kvs (.inr "main") v))) := (s1.trans s2).mut hD
    obtain ⟨H3, hH3⟩ : ∃ H3, H3 = upd H2 D (.dK (putK kvs (.inr "main") v)) := ⟨_, rfl⟩
    have hD3 : H3 D = some (.dK (putK kvs (.inr "main") v)) := by rw [hH3]; exact upd_same
    rw [← hH3] at s3 g3 ⊢
    tm_at "g"
    refine w_obj (s3 _ _ h1) T.cl_Program T.na_Program_width flPg_width ?_
    tm_at "g"
    refine w_obj (s3 _ _ h1) T.cl_Program T.na_Program_variables flPg_variables ?_
    tm_at "g"
    intro x dx nx ndx nex
    have s4 : Same H3 (upd (upd H3 dx (.own x)) x (.ins a.c_Program dx [])) := fun b o e => by
      rw [upd_ne (ne_of_none e nx), upd_ne (ne_of_none e ndx)]
      exact e
    refine ⟨x, dx, vt, D, d.w, d.vars, d.ns, cn, setR d.R "main" (Kt.inv (d.R "main")), _, rfl, upd_same, s4 _ _ (s3 _ _ h2), s4 _ _ hD3, (g3.mono (Im.of s4)).d nd, ok.inv, fun H5 ns k5 hperm hpg => ⟨rfl, ?_⟩⟩
    have s5 : Same H H5 := fun b o e => k5 b o (s4 b o (s3 b o e)) (by simpa using ne_of_none (s3 b o e) nx)
    exact q H5 x ns s5 hperm hpg
end
end Kt
end -- KInp
section -- KGa
set_option Elab.async false
set_option linter.all false
set_option maxRecDepth 100000
set_option maxHeartbeats 4000000
/-! KGa: the law's draws, atoms, plain statements, conditions, bodies. -/
namespace Kt
open PySem L2
section
variable {H : Hp} {Q : VK} {K : PySem.W.Frag}
theorem w_modc {i j : Int} (h : 0 < j) (q : Q (.int (i % j)) H) : rI (fun _ j => 0 < j) (fun i j => .int (i % j)) (.int i) (.int j) H Q := ⟨i, j, rfl, rfl, h, q⟩
theorem w_divc {i j : Int} (h : 0 < j) (h2 : j < 1073741824) (q : Q (.int (i / j)) H) : rI CDiv (fun i j => .int (i / j)) (.int i) (.int j) H Q := ⟨i, j, rfl, rfl, ⟨h, h2⟩, q⟩
theorem w_mulr {i j : Int} (h : -18446744073709551616 < j) (h2 : j < 18446744073709551616) (q : Q (.int (i * j)) H) : rI CMul (fun i j => .int (i * j)) (.int i) (.int j) H Q := ⟨i, j, rfl, rfl, .inr ⟨h, h2⟩, q⟩
theorem w_mull {i j : Int} (h : -18446744073709551616 < i) (h2 : i < 18446744073709551616) (q : Q (.int (i * j)) H) : rI CMul (fun i j => .int (i * j)) (.int i) (.int j) H Q := ⟨i, j, rfl, rfl, .inl ⟨h, h2⟩, q⟩
theorem w_slL {p : Addr} {xs : List V} {lo hi : Option Int} (h : SqL K H p xs) (q : ∀ l H', Same H H' → H l = none → H' l = some (.lst (cutV xs lo hi)) → Q (.ref l) H') : rSlL K (.ref p) lo hi H Q := ⟨p, xs, rfl, h, w_new q⟩
theorem w_ixSq {p : Addr} {xs : List V} {j : Int} {v : V} (h : SqL K H p xs) (e : atI xs j = some v) (q : Q v H) : rIxL K (.ref p) (.int j) H Q := ⟨p, xs, j, v, rfl, rfl, h, e, q⟩
/-- one of a list, by an index within -/
theorem w_pick {p : Addr} {xs : List V} {j : Int} (h : H p = some (.lst xs)) (h0 : 0 ≤ j) (h1 : j < xs.length) (q : ∀ v ∈ xs, Q v H) : rIxL K (.ref p) (.int j) H Q := by
  obtain ⟨n, rfl⟩ := Int.eq_ofNat_of_zero_le h0
  have hn : n < xs.length := by omega
  exact ⟨p, xs, _, xs[n], rfl, rfl, SqL.of h, atI_nat (List.getElem?_eq_getElem hn), q _ (List.getElem_mem hn)⟩
/-- the draws -/
def DrA (H : Hp) (l : Addr) : Prop := ∃ ds : List Int, H l = some (.lst (ds.map V.int)) ∧ ds.length = 130 ∧ ∀ d ∈ ds, 0 ≤ d
theorem DrA.mono {H' : Hp} {l : Addr} (s : Same H H') (h : DrA H l) : DrA H' l := let ⟨ds, e, g⟩ := h; ⟨ds, s _ _ e, g⟩
theorem w_dr {l : Addr} {j : Int} (h : DrA H l) (h0 : 0 ≤ j) (h1 : j < 130) (q : ∀ d : Int, 0 ≤ d → Q (.int d) H) : rIxL K (.ref l) (.int j) H Q := by
  obtain ⟨ds, e, n, hd⟩ := h
  refine w_pick e h0 (by rw [List.length_map, n]; exact h1) (fun v hv => ?_)
  obtain ⟨d, hd', rfl⟩ := List.mem_map.mp hv
  exact q d (hd d hd')
end
theorem cut_take {xs : List V} {k : Nat} : cutV xs none (some (k : Int)) = xs.take k := by
  unfold cutV
  rw [HT.sIx_none, HT.sIx_nat, List.drop_zero, Nat.sub_zero]
  by_cases h : k ≤ xs.length
  · rw [Nat.min_eq_left h]
  · rw [Nat.min_eq_right (by omega), List.take_of_length_le (Nat.le_refl _), List.take_of_length_le (by omega)]
def spDraws (K : PySem.W.Frag) : Sp := fun vs H Q _ => ∃ (l : Addr) (ns : List Int), vs = [.ref l, .int 130] ∧ SqL K H l (ns.map V.int) ∧ ∀ H' r, Same H H' → DrA H' r → Q (.ref r) H'
theorem same_seq {K : PySem.W.Frag} {H H' : Hp} {l : Addr} {xs : List V} (s : Same H H') (h : SqL K H l xs) : SqL K H' l xs := s.seq h
def nnL (ds : List Int) : Prop := ∀ d ∈ ds, 0 ≤ d
theorem nnL.snoc {ds : List Int} (h : nnL ds) (a : Int) {b : Int} (hb : 0 < b) : nnL (ds ++ [a % b]) := fun d hd => by
  rcases List.mem_append.mp hd with z | z
  · exact h d z
  · rw [List.mem_singleton] at z
    subst z
    exact Int.emod_nonneg _ (by omega)
section
variable {P : Program} {w : World} {K : PySem.W.Frag} {mg : Str → Option Value} {base : Heap} {a : Ad}
local macro_rules | `(tactic| tm_at "a") => `(tactic| repeat (first
  | with_reducible refine w_seq ?_ | with_reducible refine w_if ?_ | with_reducible refine w_tB ?_ | with_reducible refine w_tTest ?_ | with_reducible refine w_asg ?_ | with_reducible refine w_name ?_
  | with_reducible refine w_ret ?_ | with_reducible refine w_next ?_ | with_reducible refine w_op ?_ | with_reducible refine w_c ?_ | with_reducible refine w_cb ?_ | with_reducible refine w_call ?_ | with_reducible refine w_cons ?_ | with_reducible refine w_nil ?_
  | with_reducible refine w_var (by with_unfolding_all rfl) ?_
  | with_reducible refine w_rI0 ?_ | with_reducible refine w_eq (by with_unfolding_all rfl) ?_ | with_reducible refine w_ne (by with_unfolding_all rfl) ?_
  | with_reducible refine w_test ?_ | with_reducible refine w_T ?_ | with_reducible refine w_F ?_ | with_reducible refine w_T0 ?_ | with_reducible refine w_F0 ?_
  | with_reducible refine w_and ?_ | with_reducible refine w_or ?_ | with_reducible refine w_not ?_ | with_reducible refine w_ifE ?_ | with_reducible refine w_drop ?_
  | with_reducible refine w_andV ?_ | with_reducible refine w_orV ?_ | with_reducible refine w_notV ?_ | with_reducible refine w_dget ?_ | with_reducible refine w_din ?_ | with_reducible refine w_dnin ?_ | with_reducible refine w_fld ?_
  | with_reducible refine w_ttup ?_ | with_reducible refine w_tlst ?_ | with_reducible refine w_un ?_ | with_reducible refine w_rU ?_ | with_reducible refine w_gcons ?_ | with_reducible refine w_gnil ?_ | with_reducible refine w_sub ?_ | with_reducible refine w_sl ?_ | with_reducible refine w_nopart ?_ | with_reducible refine w_part ?_ | with_reducible refine w_int ?_ | with_reducible refine w_meth ?_
  | with_reducible refine w_make ?_ | with_reducible refine w_dput ?_ | with_reducible refine w_sfld ?_ | with_reducible refine w_bm ?_ | with_reducible refine w_bm0 ?_ | with_reducible refine w_isN ?_ | with_reducible refine w_notT ?_ | with_reducible refine w_forR ?_ | with_reducible refine w_forL ?_ | with_reducible refine w_forT ?_ | with_reducible refine w_fldaug ?_ | with_reducible refine w_radd ?_ | with_reducible refine w_par ?_ | with_reducible refine w_pair ?_
  | with_reducible refine w_lcR ?_ | with_reducible refine w_dcR ?_ | with_reducible refine w_lcL ?_ | with_reducible refine w_lcT ?_ | with_reducible refine w_dcT ?_ | with_reducible refine w_yes ?_ | with_reducible refine w_chain ?_
  | with_reducible refine w_modc (by decide) ?_ | with_reducible refine w_divc (by decide) (by decide) ?_ | with_reducible refine w_mulr (by decide) (by decide) ?_))
theorem sc_law_draws : FnScope ["_law_script", "_law_many", "_law_draws_here", "_law_at", "_law_cell", "_law_number", "_law_k"] ["_law_script", "_law_many"] (defScope s_law_draws) := ⟨rfl, rfl, rfl, by decide +kernel, rfl, by decide +kernel, by decide +kernel⟩
theorem ok_draws (T : Tx w K mg a) : FnOk P w K mg base CX0 1 a.f_law_draws a.d_law_draws ["_law_script", "_law_many"] (spDraws K) := by
  refine T.F_law_draws.ok sc_law_draws (fun vs H Q E h => ?_) (fun cdv A outer s H vs Q E hr h => ?_)
  · obtain ⟨l, ns, rfl, _⟩ := h
    rfl
  · obtain ⟨l, ns, rfl, hl, q⟩ := h
    have hu := hu_of hr
    refine ⟨_, (pss_cons (ps_set (i := 2) sc_law_draws.nd rfl (Or.inl rfl) (pe_lst pa_nil))
    (pss_cons (ps_set (i := 3) sc_law_draws.nd rfl (Or.inl rfl) pe_int)
    (pss_cons (ps_for PassesOwn.never rfl (pi_list (pe_slice sl_list (pv 0) po_none (po_some pe_int))) (pg_name (i := 4) sc_law_draws.nd rfl (Or.inl rfl))
      (pss_cons (ps_set (i := 5) sc_law_draws.nd rfl (Or.inl rfl) (pe_callB cl_abs (by rfl) T.z_abs (by decide +kernel) (pa_cons (pv 4) pa_nil)))
    (pss_cons (ps_if (pt_cmpR op_ge (pv 5) (pe_op op_pow pe_int pe_int) (nomark _)) (pss_one (ps_for PassesOwn.never rfl (pi_range1 rfl T.z_range (pa_cons pe_int pa_nil)) (pg_name (i := 6) sc_law_draws.nd rfl (Or.inl rfl))
      (pss_one (ps_if (pt_cmpR op_gt (pv 5) pe_int (nomark _)) (pss_cons (ps_expr (pe_bm PySem.F.plainAttrs_list PySem.F.slot_list_append PySem.F.type_list_append mt_append (pv 2) (pa_cons (pe_op op_mod (pe_callTy cl_int (by rfl) T.z_int (by decide +kernel) (pa_cons (pv 5) pa_nil)) pe_int) pa_nil)))
    (pss_one (ps_set (i := 5) sc_law_draws.nd rfl (Or.inl rfl) (pe_op op_fdiv (pv 5) pe_int)))) pss_nil)))) (pss_cons (ps_expr (pe_bm PySem.F.plainAttrs_list PySem.F.slot_list_append PySem.F.type_list_append mt_append (pv 2) (pa_cons (pe_op op_mod (pe_callTy cl_int (by rfl) T.z_int (by decide +kernel) (pa_cons (pe_op op_add (pe_op op_add (pe_op op_mul (pv 5) pe_int) (pe_op op_mul (pv 3) pe_int)) pe_int) pa_nil)) pe_int) pa_nil)))
    (pss_one (ps_expr (pe_bm PySem.F.plainAttrs_list PySem.F.slot_list_append PySem.F.type_list_append mt_append (pv 2) (pa_cons (pe_op op_mod (pe_callTy cl_int (by rfl) T.z_int (by decide +kernel) (pa_cons (pe_op op_add (pe_op op_add (pe_op op_add (pe_op op_mul (pv 5) pe_int) (pe_op op_mul (pv 3) pe_int)) pe_int) (pe_op op_mul (pv 5) (pv 5))) pa_nil)) pe_int) pa_nil))))))
    (pss_one (ps_set (i := 3) sc_law_draws.nd rfl (Or.inl rfl) (pe_op op_add (pv 3) pe_int))))))
    (pss_cons (ps_for PassesOwn.never rfl (pi_range1 rfl T.z_range (pa_cons (pv 1) pa_nil)) (pg_name (i := 6) sc_law_draws.nd rfl (Or.inl rfl))
      (pss_one (ps_if (pt_cmpR op_lt (pe_callB cl_len (by rfl) T.z_len PySem.boot_len (pa_cons (pv 2) pa_nil)) (pv 1) (nomark _)) (pss_one (ps_expr (pe_bm PySem.F.plainAttrs_list PySem.F.slot_list_append PySem.F.type_list_append mt_append (pv 2) (pa_cons (pe_op op_mod (pe_callTy cl_int (by rfl) T.z_int (by decide +kernel) (pa_cons (pe_op op_add (pe_op op_add (pe_op op_mul (pe_callB cl_len (by rfl) T.z_len PySem.boot_len (pa_cons (pv 2) pa_nil)) pe_int) (pe_op op_mul pe_int (pv 3))) (pe_op op_mul (pe_op op_mul (pv 6) (pv 6)) pe_int)) pa_nil)) pe_int) pa_nil)))) pss_nil)))
    (pss_one (ps_ret (pe_slice sl_list (pv 2) po_none (po_some (pv 1))))))))), ?_⟩
    tm_at "a"
    refine w_lay (by show 0 ≤ 100000; decide) fun hd H1 s1 n1 h1 => ?_
    tm_at "a"
    refine w_slL (same_seq s1 hl) fun sl H2 s2 n2 h2 => ?_
    have e2 : cutV (ns.map V.int) none (some (63 : Int)) = (ns.take 63).map V.int := by
      have := cut_take (xs := ns.map V.int) (k := 63)
      rw [List.map_take]
      exact this
    rw [e2] at h2
    tm_at "a"
    have nhs : hd ≠ sl := fun z => by rw [z, n2] at h1; cases h1
    have nhd1 : H hd = none := n1
    have l63 : ((ns.take 63).map V.int).length ≤ 63 := by rw [List.length_map, List.length_take]; omega
    refine w_lst (xs := (ns.take 63).map V.int) (fun i σ H' => ∃ o4 o5 o6, ∃ at_ : Int, ∃ ds : List Int, σ = [some (.ref l), some (.int 130), some (.ref hd), some (.int at_), o4, o5, o6] ∧ Same H H' ∧ H' sl = some (.lst ((ns.take 63).map V.int)) ∧ H' hd = some (.lst (ds.map V.int)) ∧ nnL ds ∧ ds.length ≤ 24 * i)
      ⟨none, none, none, 0, [], rfl, s1.trans s2, h2, s2 _ _ h1, (fun d hd => by cases hd), Nat.zero_le _⟩ (fun i σ H' hi h => ?_) (fun i x σ H' hx h => ?_) (fun σ H' h => ?_)
    · obtain ⟨_, _, _, _, _, _, _, z, _⟩ := h
      exact z
    · obtain ⟨o4, o5, o6, at_, ds, rfl, sH, hsl, hhd, hnn, hlen⟩ := h
      have hi : i < 63 := Nat.lt_of_lt_of_le (List.getElem?_eq_some_iff.mp hx).1 l63
      rw [List.getElem?_map] at hx
      obtain ⟨cv, hcv, rfl⟩ : ∃ c, (ns.take 63)[i]? = some c ∧ x = V.int c := by
        cases e : (ns.take 63)[i]? with
        | none => rw [e] at hx; cases hx
        | some y => rw [e] at hx; exact ⟨y, rfl, (Option.some.inj hx).symm⟩
      tm_at "a"
      refine w_abs ?_
      tm_at "a"
      refine w_rI ⟨by decide, by decide, by decide⟩ ?_
      tm_at "a"
      obtain ⟨N, hN⟩ : ∃ N : Int, N = if cv < 0 then -cv else cv := ⟨_, rfl⟩
      rw [← hN]
      have hN0 : 0 ≤ N := by rw [hN]; split <;> omega
      refine w_b (fun e => ?_) (fun e => ?_)
      · tm_at "a"
        refine w_rng (n := 24) (fun k σ H' => ∃ o6, ∃ M : Int, ∃ ds : List Int, σ = [some (.ref l), some (.int 130), some (.ref hd), some (.int at_), some (.int cv), some (.int M), o6] ∧ Same H H' ∧ H' sl = some (.lst ((ns.take 63).map V.int)) ∧ H' hd = some (.lst (ds.map V.int)) ∧ nnL ds ∧ ds.length ≤ 24 * i + k)
          (by decide) ⟨o6, N, ds, rfl, sH, hsl, hhd, hnn, by omega⟩ (fun k σ H3 hk h => ?_) (fun σ H3 h => ?_)
        · obtain ⟨o6, M, ds, rfl, sH, hsl, hhd, hnn, hlen⟩ := h
          tm_at "a"
          refine w_b (fun e => ?_) (fun e => ?_)
          · tm_at "a"
            refine w_tyL hhd ?_
            tm_at "a"
            refine w_intI ?_
            tm_at "a"
            refine w_append hhd (by rw [List.length_map]; omega) ?_
            tm_at "a"
            have e3 : ds.map V.int ++ [V.int (M % 1009)] = (ds ++ [M % 1009]).map V.int := by rw [List.map_append]; rfl
            rw [e3]
            refine ⟨_, _, ds ++ [M % 1009], rfl, sH.mut nhd1, ?_, upd_same, hnn.snoc M (by decide), by rw [List.length_append, List.length_singleton]; omega⟩
            rw [upd_ne nhs.symm]
            exact hsl
          · tm_at "a"
            exact ⟨_, _, ds, rfl, sH, hsl, hhd, hnn, by omega⟩
        · obtain ⟨o6, M, ds, rfl, sH, hsl, hhd, hnn, hlen⟩ := h
          tm_at "a"
          exact ⟨_, _, _, _, ds, rfl, sH, hsl, hhd, hnn, by omega⟩
      · have hlt : N < 1000000000000000000 := by
          have z := of_decide_eq_false e
          have z2 : ((10 : Int) ^ ((18 : Int).toNat)) = 1000000000000000000 := by decide
          omega
        tm_at "a"
        refine w_tyL hhd ?_
        tm_at "a"
        refine w_intI ?_
        tm_at "a"
        refine w_append hhd (by rw [List.length_map]; omega) ?_
        tm_at "a"
        refine w_tyL upd_same ?_
        tm_at "a"
        refine w_mull (by omega) (by omega) ?_
        tm_at "a"
        refine w_intI ?_
        tm_at "a"
        refine w_append upd_same (by rw [List.length_append, List.length_map, List.length_singleton]; omega) ?_
        rw [upd_upd]
        tm_at "a"
        have e3 : ∀ u v : Int, ds.map V.int ++ [V.int u] ++ [V.int v] = (ds ++ [u] ++ [v]).map V.int := fun u v => by rw [List.map_append, List.map_append]; rfl
        rw [e3]
        refine ⟨_, _, _, _, _, rfl, sH.mut nhd1, ?_, upd_same, (hnn.snoc _ (by decide)).snoc _ (by decide), by rw [List.length_append, List.length_append, List.length_singleton, List.length_singleton]; omega⟩
        rw [upd_ne nhs.symm]
        exact hsl
    · obtain ⟨o4, o5, o6, at_, ds, rfl, sH, hsl, hhd, hnn, hlen⟩ := h
      tm_at "a"
      refine w_rng (n := 130) (fun k σ H' => ∃ o6, ∃ ds : List Int, σ = [some (.ref l), some (.int 130), some (.ref hd), some (.int at_), o4, o5, o6] ∧ Same H H' ∧ H' hd = some (.lst (ds.map V.int)) ∧ nnL ds ∧ ds.length ≤ 1512 + k ∧ k ≤ ds.length)
        (by decide) ⟨o6, ds, rfl, sH, hhd, hnn, by omega, Nat.zero_le _⟩ (fun k σ H3 hk h => ?_) (fun σ H3 h => ?_)
      · obtain ⟨o6, ds, rfl, sH, hhd, hnn, hlen, hkl⟩ := h
        tm_at "a"
        refine w_lenL hhd ?_
        tm_at "a"
        refine w_b (fun e => ?_) (fun e => ?_)
        · tm_at "a"
          refine w_tyL hhd ?_
          tm_at "a"
          refine w_lenL hhd ?_
          tm_at "a"
          refine w_mull (by decide) (by decide) ?_
          tm_at "a"
          refine w_mull (by omega) (by omega) ?_
          tm_at "a"
          refine w_intI ?_
          tm_at "a"
          refine w_append hhd (by rw [List.length_map]; omega) ?_
          tm_at "a"
          have e3 : ∀ u : Int, ds.map V.int ++ [V.int u] = (ds ++ [u]).map V.int := fun u => by rw [List.map_append]; rfl
          rw [e3]
          exact ⟨_, _, rfl, sH.mut nhd1, upd_same, hnn.snoc _ (by decide), by rw [List.length_append, List.length_singleton]; omega, by rw [List.length_append, List.length_singleton]; omega⟩
        · have hge : 130 ≤ ds.length := by
            have z := of_decide_eq_false e
            rw [List.length_map] at z
            omega
          tm_at "a"
          exact ⟨_, ds, rfl, sH, hhd, hnn, by omega, by omega⟩
      · obtain ⟨o6, ds, rfl, sH, hhd, hnn, hlen, hkl⟩ := h
        tm_at "a"
        refine w_slL (SqL.of hhd) fun r H4 s4 n4 h4 => ?_
        have e4 : cutV (ds.map V.int) none (some (130 : Int)) = (ds.take 130).map V.int := by
          have := cut_take (xs := ds.map V.int) (k := 130)
          rw [List.map_take]
          exact this
        rw [e4] at h4
        exact q H4 r (sH.trans s4) ⟨ds.take 130, h4, by rw [List.length_take]; omega, fun d hd => hnn d (List.mem_of_mem_take hd)⟩
end
end Kt
end -- KGa
section -- KGb
set_option Elab.async false
set_option linter.all false
set_option maxRecDepth 100000
set_option maxHeartbeats 4000000
/-! KGb: the law's atoms, plain statements, conditions, bodies. -/
namespace Kt
open PySem L2
def NmA (H : Hp) (l : Addr) (names : List Str) : Prop := H l = some (.lst (names.map V.str))
def spLAtom : Sp := fun vs H Q _ => ∃ (d : Int) (nl : Addr) (b : Int) (names : List Str), vs = [.int d, .ref nl, .int b] ∧ NmA H nl names ∧ names ≠ [] ∧ 0 ≤ d ∧ 1 ≤ b ∧ ∀ t : At, t.ok names b → Q t.v H
/-- right, short, flat -/
structure Sm (vars : List Str) (n : Int) (cn : List Str) (b : Body) (k d : Nat) : Prop where
  ok : BOk vars n cn b
  sc : sc b ≤ k
  dp : dp b ≤ d
def spLPlain : Sp := fun vs H Q _ => ∃ (d m : Int) (nl cl : Addr) (b : Int) (names cs : List Str), vs = [.int d, .int m, .ref nl, .int b, .ref cl] ∧ NmA H nl names ∧ NmA H cl cs ∧ names ≠ [] ∧ names.length ≤ 6 ∧ 0 ≤ d ∧ 0 ≤ m ∧ 2 ≤ b ∧
  ∀ H' v bd, Same H H' → BdV H' [v] bd → Sm names b cs bd 1 0 → Q v H'
def spLCond : Sp := fun vs H Q _ => ∃ (d : Int) (nl : Addr) (b : Int) (names : List Str), vs = [.int d, .ref nl, .int b] ∧ NmA H nl names ∧ names ≠ [] ∧ 0 ≤ d ∧ 1 ≤ b ∧ ∀ H' v c, Same H H' → CdV H' v c → c.ok names b → Q v H'
def spLBody : Sp := fun vs H Q _ => ∃ (dl nl cl : Addr) (at_ many b : Int) (names cs : List Str), vs = [.ref dl, .int at_, .int many, .ref nl, .int b, .ref cl] ∧ DrA H dl ∧ NmA H nl names ∧ NmA H cl cs ∧ names ≠ [] ∧ names.length ≤ 6 ∧ 0 ≤ at_ ∧ at_ ≤ 120 ∧ 0 ≤ many ∧ many ≤ 2 ∧ 2 ≤ b ∧
  ∀ H' v bd, Same H H' → BdT H' v bd → Sm names b cs bd 2 0 → Q v H'
theorem w_pickS {H : Hp} {Q : VK} {K : PySem.W.Frag} {p : Addr} {names : List Str} {j : Int} (h : H p = some (.lst (names.map V.str))) (h0 : 0 ≤ j) (h1 : j < names.length) (q : ∀ x ∈ names, Q (.str x) H) : rIxL K (.ref p) (.int j) H Q := by
  refine w_pick h h0 (by rw [List.length_map]; exact h1) (fun v hv => ?_)
  obtain ⟨x, hx, rfl⟩ := List.mem_map.mp hv
  exact q x hx
theorem cutP {A B : Prop} (f : (Unit → A) → B) (h : A) : B := f fun _ => h
theorem len_pos {l : List Str} (h : l ≠ []) : 0 < l.length := List.length_pos_iff.mpr h
theorem At.ok_mono {vars vars' : List Str} {n : Int} {t : At} (h : ∀ x ∈ vars, x ∈ vars') (o : t.ok vars n) : t.ok vars' n := by
  cases t with
  | num i => exact o
  | var x => exact h x o
section
variable {P : Program} {w : World} {K : PySem.W.Frag} {mg : Str → Option Value} {base : Heap} {a : Ad}
local macro_rules | `(tactic| tm_at "a") => `(tactic| repeat (first
  | with_reducible refine w_seq ?_ | with_reducible refine w_if ?_ | with_reducible refine w_tB ?_ | with_reducible refine w_tTest ?_ | with_reducible refine w_asg ?_ | with_reducible refine w_name ?_
  | with_reducible refine w_ret ?_ | with_reducible refine w_next ?_ | with_reducible refine w_op ?_ | with_reducible refine w_c ?_ | with_reducible refine w_cb ?_ | with_reducible refine w_call ?_ | with_reducible refine w_cons ?_ | with_reducible refine w_nil ?_
  | with_reducible refine w_var (by with_unfolding_all rfl) ?_
  | with_reducible refine w_rI0 ?_ | with_reducible refine w_eq (by with_unfolding_all rfl) ?_ | with_reducible refine w_ne (by with_unfolding_all rfl) ?_
  | with_reducible refine w_test ?_ | with_reducible refine w_T ?_ | with_reducible refine w_F ?_ | with_reducible refine w_T0 ?_ | with_reducible refine w_F0 ?_
  | with_reducible refine w_and ?_ | with_reducible refine w_or ?_ | with_reducible refine w_not ?_ | with_reducible refine w_ifE ?_ | with_reducible refine w_drop ?_
  | with_reducible refine w_andV ?_ | with_reducible refine w_orV ?_ | with_reducible refine w_notV ?_ | with_reducible refine w_dget ?_ | with_reducible refine w_din ?_ | with_reducible refine w_dnin ?_ | with_reducible refine w_fld ?_
  | with_reducible refine w_ttup ?_ | with_reducible refine w_tlst ?_ | with_reducible refine w_un ?_ | with_reducible refine w_rU ?_ | with_reducible refine w_gcons ?_ | with_reducible refine w_gnil ?_ | with_reducible refine w_sub ?_ | with_reducible refine w_sl ?_ | with_reducible refine w_nopart ?_ | with_reducible refine w_part ?_ | with_reducible refine w_int ?_ | with_reducible refine w_meth ?_
  | with_reducible refine w_make ?_ | with_reducible refine w_dput ?_ | with_reducible refine w_sfld ?_ | with_reducible refine w_bm ?_ | with_reducible refine w_bm0 ?_ | with_reducible refine w_isN ?_ | with_reducible refine w_notT ?_ | with_reducible refine w_forR ?_ | with_reducible refine w_forL ?_ | with_reducible refine w_forT ?_ | with_reducible refine w_fldaug ?_ | with_reducible refine w_radd ?_ | with_reducible refine w_par ?_ | with_reducible refine w_pair ?_
  | with_reducible refine w_lcR ?_ | with_reducible refine w_dcR ?_ | with_reducible refine w_lcL ?_ | with_reducible refine w_lcT ?_ | with_reducible refine w_dcT ?_ | with_reducible refine w_yes ?_ | with_reducible refine w_chain ?_
  | with_reducible refine w_modc (by decide) ?_ | with_reducible refine w_divc (by decide) (by decide) ?_ | with_reducible refine w_mulr (by decide) (by decide) ?_))
theorem sc_law_atom : FnScope ["_law_draw", "_law_names", "_law_bound"] ["_law_draw", "_law_names", "_law_bound"] (defScope s_law_atom) := ⟨rfl, rfl, rfl, by decide +kernel, rfl, by decide +kernel, by decide +kernel⟩
theorem ok_latom (T : Tx w K mg a) : FnOk P w K mg base CX0 1 a.f_law_atom a.d_law_atom ["_law_draw", "_law_names", "_law_bound"] spLAtom := by
  refine T.F_law_atom.ok sc_law_atom (fun vs H Q E h => ?_) (fun cdv A outer s H vs Q E hr h => ?_)
  · obtain ⟨d, nl, b, names, rfl, _⟩ := h
    rfl
  · obtain ⟨d, nl, b, names, rfl, hn, hne, hd, hb, q⟩ := h
    have hu := hu_of hr
    have lp := len_pos hne
    refine ⟨_, (pss_cons (ps_if (pt_cmpR op_eq (pe_op op_mod (pv 0) pe_int) pe_int (nomark _)) (pss_one (ps_ret (pe_op op_mod (pe_op op_fdiv (pv 0) pe_int) (pv 2)))) pss_nil)
    (pss_one (ps_ret (pe_ix ix_list (pv 1) (pe_op op_mod (pe_op op_fdiv (pv 0) pe_int) (pe_callB cl_len (by rfl) T.z_len PySem.boot_len (pa_cons (pv 1) pa_nil))) (fun _ _ => rfl))))), ?_⟩
    tm_at "a"
    refine w_b (fun e => ?_) (fun e => ?_)
    · tm_at "a"
      refine w_modc (by omega) ?_
      exact q (.num (d / 3 % b)) ⟨Int.emod_nonneg _ (by omega), Int.emod_lt_of_pos _ (by omega)⟩
    · tm_at "a"
      refine w_lenL hn ?_
      refine w_modc (by rw [List.length_map]; omega) ?_
      rw [List.length_map]
      refine w_pickS hn (Int.emod_nonneg _ (by omega)) (Int.emod_lt_of_pos _ (by omega)) (fun x hx => ?_)
      exact q (.var x) hx
theorem sc_law_condition : FnScope ["_law_draw", "_law_names", "_law_bound", "_law_relation"] ["_law_draw", "_law_names", "_law_bound"] (defScope s_law_condition) := ⟨rfl, rfl, rfl, by decide +kernel, rfl, by decide +kernel, by decide +kernel⟩
theorem ok_lcond (T : Tx w K mg a) : FnOk P w K mg base CX0 2 a.f_law_condition a.d_law_condition ["_law_draw", "_law_names", "_law_bound"] spLCond := by
  have G_law_atom : FnOk P w K mg base CX0 1 _ _ _ spLAtom := ok_latom T
  refine T.F_law_condition.ok sc_law_condition (fun vs H Q E h => ?_) (fun cdv A outer s H vs Q E hr h => ?_)
  · obtain ⟨d, nl, b, names, rfl, _⟩ := h
    rfl
  · obtain ⟨d, nl, b, names, rfl, hn, hne, hd, hb, q⟩ := h
    have hu := hu_of hr
    refine ⟨_, (pss_cons (ps_set (i := 3) sc_law_condition.nd rfl (Or.inl rfl) (pe_ix ix_list (pe_lst (pa_cons pe_str (pa_cons pe_str (pa_cons pe_str (pa_cons pe_str pa_nil))))) (pe_op op_mod (pv 0) pe_int) (fun _ _ => rfl)))
    (pss_one (ps_ret (pe_tup (pa_cons (pv 3) (pa_cons (pe_call G_law_atom (hr.mono (by decide)) rfl T.g_law_atom T.F_law_atom.kp T.b_law_atom .nil pass0 (pa_cons (pe_op op_fdiv (pv 0) pe_int) (pa_cons (pv 1) (pa_cons (pv 2) pa_nil)))) (pa_cons (pe_call G_law_atom (hr.mono (by decide)) rfl T.g_law_atom T.F_law_atom.kp T.b_law_atom .nil pass0 (pa_cons (pe_op op_fdiv (pv 0) pe_int) (pa_cons (pv 1) (pa_cons (pv 2) pa_nil)))) pa_nil))))))), ?_⟩
    tm_at "a"
    refine w_lay (by show 4 ≤ 100000; decide) fun rl H1 s1 n1 h1 => ?_
    tm_at "a"
    refine w_pick h1 (Int.emod_nonneg _ (by decide)) (by show _ < (4 : Int); exact Int.emod_lt_of_pos _ (by decide)) (fun v hv => ?_)
    have hrel : ∃ r, v = .str r ∧ r ∈ relsL := by
      simp only [List.mem_cons, List.not_mem_nil, or_false] at hv
      rcases hv with z | z | z | z <;> subst z
      · exact ⟨_, rfl, by decide +kernel⟩
      · exact ⟨_, rfl, by decide +kernel⟩
      · exact ⟨_, rfl, by decide +kernel⟩
      · exact ⟨_, rfl, by decide +kernel⟩
    obtain ⟨r, rfl, hr2⟩ := hrel
    tm_at "a"
    refine ⟨_, nl, b, names, rfl, s1 _ _ hn, hne, Int.ediv_nonneg hd (by decide), hb, fun t ht => ?_⟩
    tm_at "a"
    refine ⟨_, nl, b, names, rfl, s1 _ _ hn, hne, Int.ediv_nonneg hd (by decide), hb, fun u hu' => ?_⟩
    tm_at "a"
    refine w_lay (by show 3 ≤ 100000; decide) fun p H2 s2 n2 h2 => ?_
    exact q H2 _ ⟨r, t, u⟩ (s1.trans s2) ⟨p, rfl, h2⟩ ⟨hr2, ht, hu'⟩
theorem sc_law_plain : FnScope ["_law_draw", "_law_more", "_law_names", "_law_bound", "_law_callees", "_law_x", "_law_others", "_law_kind", "_law_word", "_law_sign", "_law_name"] ["_law_draw", "_law_more", "_law_names", "_law_bound", "_law_callees"] (defScope s_law_plain) := ⟨rfl, rfl, rfl, by decide +kernel, rfl, by decide +kernel, by decide +kernel⟩
theorem ok_lplain (T : Tx w K mg a) : FnOk P w K mg base CX0 2 a.f_law_plain a.d_law_plain ["_law_draw", "_law_more", "_law_names", "_law_bound", "_law_callees"] spLPlain := by
  have G_law_atom : FnOk P w K mg base CX0 1 _ _ _ spLAtom := ok_latom T
  refine T.F_law_plain.ok sc_law_plain (fun vs H Q E h => ?_) (fun cdv A outer s H vs Q E hr h => ?_)
  · obtain ⟨d, m, nl, cl, b, names, cs, rfl, _⟩ := h
    rfl
  · obtain ⟨d, m, nl, cl, b, names, cs, rfl, hn, hc, hne, hn6, hd, hm, hb, q⟩ := h
    have hu := hu_of hr
    have lp := len_pos hne
    refine ⟨_, (pss_cons (ps_set (i := 5) sc_law_plain.nd rfl (Or.inr rfl) (pe_ix ix_list (pv 2) (pe_op op_mod (pe_op op_fdiv (pv 0) pe_int) (pe_callB cl_len (by rfl) T.z_len PySem.boot_len (pa_cons (pv 2) pa_nil))) (fun _ _ => rfl)))
    (pss_cons (ps_setLc (i := 6) (own := [("_law_name", 10)]) (g := gName 10) rfl sc_law_plain.nd rfl rfl (sw_true rfl rfl rfl (by decide +kernel)) (pi_list (pv 2)) (blkOk_by (own := [("_law_name", 10)]) (N := ["_law_draw", "_law_more", "_law_names", "_law_bound", "_law_callees", "_law_x", "_law_others", "_law_kind", "_law_word", "_law_sign", "_law_name"]) (sc := defScope s_law_plain) (by decide +kernel)) (fun _ _ _ _ _ => pg_name (i := 10) sc_law_plain.nd rfl (Or.inl rfl)) (fun _ _ _ _ _ => pts_one (pt_cmpR op_ne (pv 10) (pv 5) (nomark _))) (fun _ _ _ _ _ => by exact (by exact (pv 10))))
    (pss_cons (ps_set (i := 7) sc_law_plain.nd rfl (Or.inl rfl) (pe_op op_mod (pv 0) pe_int))
    (pss_cons (ps_if (PW.pt (pw_and (pt_cmpR op_eq (pv 7) pe_int (nomark _)) (pw_and1 (pt_cmpR op_gt (pe_callB cl_len (by rfl) T.z_len PySem.boot_len (pa_cons (pv 6) pa_nil)) pe_int (nomark _))))) (pss_one (ps_ret (pe_tup (pa_cons pe_str (pa_cons (pv 5) (pa_cons (pe_ix ix_list (pv 6) (pe_op op_mod (pv 1) (pe_callB cl_len (by rfl) T.z_len PySem.boot_len (pa_cons (pv 6) pa_nil))) (fun _ _ => rfl)) pa_nil)))))) pss_nil)
    (pss_cons (ps_if (PW.pt (pw_and (pt_cmpR op_gt (pv 7) pe_int (nomark _)) (pw_and1 (pt_cmpR op_gt (pe_callB cl_len (by rfl) T.z_len PySem.boot_len (pa_cons (pv 4) pa_nil)) pe_int (nomark _))))) (pss_one (ps_ret (pe_tup (pa_cons (pe_ix ix_list (pe_lst (pa_cons pe_str (pa_cons pe_str pa_nil))) (pe_op op_mod (pv 1) pe_int) (fun _ _ => rfl)) (pa_cons (pe_ix ix_list (pv 4) (pe_op op_mod (pe_op op_fdiv (pv 1) pe_int) (pe_callB cl_len (by rfl) T.z_len PySem.boot_len (pa_cons (pv 4) pa_nil))) (fun _ _ => rfl)) pa_nil))))) pss_nil)
    (pss_cons (ps_set (i := 8) sc_law_plain.nd rfl (Or.inl rfl) (pe_ix ix_list (pe_lst (pa_cons pe_str (pa_cons pe_str (pa_cons pe_str pa_nil)))) (pe_op op_mod (pv 1) pe_int) (fun _ _ => rfl)))
    (pss_cons (ps_if (pt_cmpR op_eq (pe_callB cl_len (by rfl) T.z_len PySem.boot_len (pa_cons (pv 6) pa_nil)) pe_int (nomark _)) (pss_one (ps_ret (pe_tup (pa_cons (pv 8) (pa_cons (pv 5) (pa_cons (pe_op op_mod (pe_op op_fdiv (pv 1) pe_int) (pv 3)) pa_nil)))))) pss_nil)
    (pss_cons (ps_if (pt_cmpR op_lt (pv 7) pe_int (nomark _)) (pss_one (ps_ret (pe_tup (pa_cons (pv 8) (pa_cons (pv 5) (pa_cons (pe_call G_law_atom (hr.mono (by decide)) rfl T.g_law_atom T.F_law_atom.kp T.b_law_atom .nil pass0 (pa_cons (pe_op op_fdiv (pv 1) pe_int) (pa_cons (pv 6) (pa_cons (pv 3) pa_nil)))) pa_nil)))))) pss_nil)
    (pss_cons (ps_set (i := 9) sc_law_plain.nd rfl (Or.inl rfl) (pe_ix ix_list (pe_lst (pa_cons pe_str (pa_cons pe_str (pa_cons pe_str (pa_cons pe_str (pa_cons pe_str (pa_cons pe_str pa_nil))))))) (pe_op op_mod (pe_op op_fdiv (pv 1) pe_int) pe_int) (fun _ _ => rfl)))
    (pss_one (ps_ret (pe_tup (pa_cons (pv 8) (pa_cons (pv 5) (pa_cons (pe_tup (pa_cons (pv 9) (pa_cons (pe_call G_law_atom (hr.mono (by decide)) rfl T.g_law_atom T.F_law_atom.kp T.b_law_atom .nil pass0 (pa_cons (pe_op op_fdiv (pv 1) pe_int) (pa_cons (pv 6) (pa_cons (pv 3) pa_nil)))) (pa_cons (pe_call G_law_atom (hr.mono (by decide)) rfl T.g_law_atom T.F_law_atom.kp T.b_law_atom .nil pass0 (pa_cons (pe_op op_fdiv (pv 0) pe_int) (pa_cons (pv 6) (pa_cons (pv 3) pa_nil)))) pa_nil)))) pa_nil))))))))))))))), ?_⟩
    tm_at "a"
    refine w_lenL hn ?_
    refine w_modc (by rw [List.length_map]; omega) ?_
    rw [List.length_map]
    refine w_pickS hn (Int.emod_nonneg _ (by omega)) (Int.emod_lt_of_pos _ (by omega)) (fun x hx => ?_)
    tm_at "a"
    refine w_lclst hn fun D hD => ⟨fun i H' => Same H H' ∧ H' D = some (.lst (((names.take i).filter (fun y => decide (y ≠ x))).map V.str)), ⟨Same.new hD, upd_same⟩, fun i H' hi h => h.1 _ _ hn, fun i v H' hv h => ?_, fun H1 h => ?_⟩
    · obtain ⟨s1, h1⟩ := h
      rw [List.getElem?_map] at hv
      obtain ⟨y, hy, rfl⟩ : ∃ y, names[i]? = some y ∧ v = V.str y := by
        cases e : names[i]? with
        | none => rw [e] at hv; cases hv
        | some y => rw [e] at hv; exact ⟨y, rfl, (Option.some.inj hv).symm⟩
      have htk := take_snoc hy
      have hi6 : i < names.length := (List.getElem?_eq_some_iff.mp hy).1
      have hfl : ((names.take i).filter (fun y => decide (y ≠ x))).length ≤ 6 := Nat.le_trans (List.length_filter_le _ _) (by rw [List.length_take]; omega)
      tm_at "a"
      refine ⟨rfl, ?_⟩
      tm_at "a"
      by_cases e : y = x
      · have e1 : (!decide (V.str y = V.str x)) = false := by rw [e]; simp
        rw [e1]
        refine w_F ?_
        refine ⟨s1, ?_⟩
        rw [htk, List.filter_append, List.filter_cons_of_neg (by simp [e])]
        simpa using h1
      · have e1 : (!decide (V.str y = V.str x)) = true := by
          rw [Bool.not_eq_true', decide_eq_false_iff_not]
          exact fun z => e (by injection z)
        rw [e1]
        refine w_T ?_
        tm_at "a"
        refine w_acc h1 (by rw [List.length_map]; omega) ?_
        refine ⟨s1.mut hD, ?_⟩
        rw [htk, List.filter_append, List.map_append, List.filter_cons_of_pos (by simp [e])]
        exact upd_same
    obtain ⟨s1, h1⟩ := h
    rw [List.length_map, List.take_length] at h1
    obtain ⟨others, hoth⟩ : ∃ o, o = names.filter (fun y => decide (y ≠ x)) := ⟨_, rfl⟩
    rw [← hoth] at h1
    have hmem : ∀ y ∈ others, y ∈ names ∧ y ≠ x := fun y hy => by
      rw [hoth] at hy
      obtain ⟨z1, z2⟩ := List.mem_filter.mp hy
      exact ⟨z1, of_decide_eq_true z2⟩
    have hfree : ∀ t : At, t.ok others b → t.ok names b ∧ t.free x := fun t ht => by
      cases t with
      | num i => exact ⟨ht, trivial⟩
      | var y => exact ⟨(hmem y ht).1, fun z => (hmem y ht).2 z.symm⟩
    have hc1 : NmA H1 cl cs := s1 _ _ hc
    tm_at "a"
    have sm1 : ∀ (wd : Str) (o : Ex), Sm names b cs (.pr ⟨wd, x, o⟩ .nil) 1 0 ↔ Pr.ok names b ⟨wd, x, o⟩ := fun wd o => ⟨fun z => z.ok.1, fun z => ⟨⟨z, trivial⟩, Nat.le_refl _, Nat.le_refl _⟩⟩
    refine cutP (A := ?T1) (fun tail => ?m1) ?t1
    case m1 =>
      refine w_b (fun e5 => ?_) (fun e5 => ?_)
      · tm_at "a"
        refine w_lenL h1 ?_
        tm_at "a"
        refine w_b (fun eo => ?_) (fun eo => ?_)
        · have hol : 0 < others.length := by have z := of_decide_eq_true eo; rw [List.length_map] at z; omega
          tm_at "a"
          refine w_lenL h1 ?_
          refine w_modc (by rw [List.length_map]; omega) ?_
          rw [List.length_map]
          refine w_pickS h1 (Int.emod_nonneg _ (by omega)) (Int.emod_lt_of_pos _ (by omega)) (fun y hy => ?_)
          tm_at "a"
          refine w_lay (by show 3 ≤ 100000; decide) fun r H2 s2 n2 h2 => ?_
          refine q H2 _ (.pr ⟨"swap", x, .at_ (.var y)⟩ .nil) (s1.trans s2) ⟨.ref r, [], rfl, ⟨r, .str y, rfl, h2, rfl⟩, rfl⟩ ((sm1 _ _).mpr ⟨hx, .inr ⟨rfl, y, (hmem y hy).1, rfl, fun z => (hmem y hy).2 z.symm⟩⟩)
        · tm_at "a"
          exact tail ()
      · tm_at "a"
        exact tail ()
    refine cutP (A := ?T2) (fun tail => ?m2) ?t2
    case m2 =>
      refine w_b (fun e5 => ?_) (fun e5 => ?_)
      · tm_at "a"
        refine w_lenL hc1 ?_
        tm_at "a"
        refine w_b (fun eo => ?_) (fun eo => ?_)
        · have hol : 0 < cs.length := by have z := of_decide_eq_true eo; rw [List.length_map] at z; omega
          tm_at "a"
          refine w_lay (by show 2 ≤ 100000; decide) fun rl H2 s2 n2 h2 => ?_
          tm_at "a"
          refine w_pick h2 (Int.emod_nonneg _ (by decide)) (by show _ < (2 : Int); exact Int.emod_lt_of_pos _ (by decide)) (fun v hv => ?_)
          have hw : ∃ sg : Bool, v = .str (if sg then ("call" : Str) else "uncall") := by
            simp only [List.mem_cons, List.not_mem_nil, or_false] at hv
            rcases hv with z | z
            · exact ⟨true, z⟩
            · exact ⟨false, z⟩
          obtain ⟨sg, rfl⟩ := hw
          tm_at "a"
          refine w_lenL (s2 _ _ hc1) ?_
          refine w_modc (by rw [List.length_map]; omega) ?_
          rw [List.length_map]
          refine w_pickS (s2 _ _ hc1) (Int.emod_nonneg _ (by omega)) (Int.emod_lt_of_pos _ (by omega)) (fun y hy => ?_)
          tm_at "a"
          refine w_lay (by show 2 ≤ 100000; decide) fun r H3 s3 n3 h3 => ?_
          exact q H3 _ (.cl sg y .nil) ((s1.trans s2).trans s3) ⟨r, [], rfl, h3, rfl⟩ ⟨⟨hy, trivial⟩, Nat.le_refl _, Nat.le_refl _⟩
        · tm_at "a"
          exact tail ()
      · tm_at "a"
        exact tail ()
    refine w_lay (by show 3 ≤ 100000; decide) fun wl H2 s2 n2 h2 => ?_
    tm_at "a"
    refine w_pick h2 (Int.emod_nonneg _ (by decide)) (by show _ < (3 : Int); exact Int.emod_lt_of_pos _ (by decide)) (fun v hv => ?_)
    have hw : ∃ wd, v = .str wd ∧ wd ∈ chgL := by
      simp only [List.mem_cons, List.not_mem_nil, or_false] at hv
      rcases hv with z | z | z <;> subst z
      · exact ⟨_, rfl, by decide +kernel⟩
      · exact ⟨_, rfl, by decide +kernel⟩
      · exact ⟨_, rfl, by decide +kernel⟩
    obtain ⟨wd, rfl, hwd⟩ := hw
    have s12 := s1.trans s2
    have h12 := s2 _ _ h1
    tm_at "a"
    refine w_lenL h12 ?_
    tm_at "a"
    refine w_b (fun e0 => ?_) (fun e0 => ?_)
    · tm_at "a"
      refine w_modc (by omega) ?_
      tm_at "a"
      refine w_lay (by show 3 ≤ 100000; decide) fun r H3 s3 n3 h3 => ?_
      refine q H3 _ (.pr ⟨wd, x, .at_ (.num (m / 3 % b))⟩ .nil) (s12.trans s3) ⟨.ref r, [], rfl, ⟨r, _, rfl, h3, rfl⟩, rfl⟩ ((sm1 _ _).mpr ⟨hx, .inl ⟨hwd, ⟨Int.emod_nonneg _ (by omega), Int.emod_lt_of_pos _ (by omega)⟩, trivial⟩⟩)
    · have hone : others ≠ [] := fun z => by
        have z2 := of_decide_eq_false e0
        rw [z] at z2
        exact z2 rfl
      tm_at "a"
      refine w_b (fun e2 => ?_) (fun e2 => ?_)
      · tm_at "a"
        refine ⟨_, D, b, others, rfl, h12, hone, Int.ediv_nonneg hm (by decide), by omega, fun t ht => ?_⟩
        tm_at "a"
        refine w_lay (by show 3 ≤ 100000; decide) fun r H3 s3 n3 h3 => ?_
        obtain ⟨t1, t2⟩ := hfree t ht
        exact q H3 _ (.pr ⟨wd, x, .at_ t⟩ .nil) (s12.trans s3) ⟨.ref r, [], rfl, ⟨r, _, rfl, h3, rfl⟩, rfl⟩ ((sm1 _ _).mpr ⟨hx, .inl ⟨hwd, t1, t2⟩⟩)
      · tm_at "a"
        refine w_lay (by show 6 ≤ 100000; decide) fun gl H3 s3 n3 h3 => ?_
        tm_at "a"
        refine w_pick h3 (Int.emod_nonneg _ (by decide)) (by show _ < (6 : Int); exact Int.emod_lt_of_pos _ (by decide)) (fun v hv => ?_)
        have hg : ∃ g, v = .str g ∧ g ∈ opsL := by
          simp only [List.mem_cons, List.not_mem_nil, or_false] at hv
          rcases hv with z | z | z | z | z | z <;> subst z
          · exact ⟨_, rfl, by decide +kernel⟩
          · exact ⟨_, rfl, by decide +kernel⟩
          · exact ⟨_, rfl, by decide +kernel⟩
          · exact ⟨_, rfl, by decide +kernel⟩
          · exact ⟨_, rfl, by decide +kernel⟩
          · exact ⟨_, rfl, by decide +kernel⟩
        obtain ⟨g, rfl, hg⟩ := hg
        have s13 := s12.trans s3
        have h13 := s3 _ _ h12
        tm_at "a"
        refine ⟨_, D, b, others, rfl, h13, hone, Int.ediv_nonneg hm (by decide), by omega, fun t ht => ?_⟩
        tm_at "a"
        refine ⟨_, D, b, others, rfl, h13, hone, Int.ediv_nonneg hd (by decide), by omega, fun u hu' => ?_⟩
        tm_at "a"
        refine w_lay (by show 3 ≤ 100000; decide) fun r4 H4 s4 n4 h4 => ?_
        tm_at "a"
        refine w_lay (by show 3 ≤ 100000; decide) fun r5 H5 s5 n5 h5 => ?_
        obtain ⟨t1, t2⟩ := hfree t ht
        obtain ⟨u1, u2⟩ := hfree u hu'
        exact q H5 _ (.pr ⟨wd, x, .bin g t u⟩ .nil) ((s13.trans s4).trans s5) ⟨.ref r5, [], rfl, ⟨r5, _, rfl, h5, r4, rfl, s5 _ _ h4⟩, rfl⟩ ((sm1 _ _).mpr ⟨hx, .inl ⟨hwd, ⟨hg, t1, u1⟩, t2, u2⟩⟩)
theorem sc_law_body : FnScope ["_law_draws_here", "_law_at", "_law_many", "_law_names", "_law_bound", "_law_callees", "_law_k"] ["_law_draws_here", "_law_at", "_law_many", "_law_names", "_law_bound", "_law_callees"] (defScope s_law_body) := ⟨rfl, rfl, rfl, by decide +kernel, rfl, by decide +kernel, by decide +kernel⟩
theorem ok_lbody (T : Tx w K mg a) : FnOk P w K mg base CX0 3 a.f_law_body a.d_law_body ["_law_draws_here", "_law_at", "_law_many", "_law_names", "_law_bound", "_law_callees"] spLBody := by
  have G_law_plain : FnOk P w K mg base CX0 2 _ _ _ spLPlain := ok_lplain T
  refine T.F_law_body.ok sc_law_body (fun vs H Q E h => ?_) (fun cdv A outer s H vs Q E hr h => ?_)
  · obtain ⟨dl, nl, cl, at_, many, b, names, cs, rfl, _⟩ := h
    rfl
  · obtain ⟨dl, nl, cl, at_, many, b, names, cs, rfl, hdr, hn, hc, hne, hn6, ha0, ha1, hm0, hm1, hb, q⟩ := h
    have hu := hu_of hr
    obtain ⟨mn, rfl⟩ := Int.eq_ofNat_of_zero_le hm0
    refine ⟨_, (pss_one (ps_ret (pe_callTy cl_tup (by rfl) T.z_tuple (by decide +kernel) (pa_cons (pe_lc (own := [("_law_k", 6)]) (g := gName 6) (tt := tYes) rfl sc_law_body.nd (pi_range1 rfl T.z_range (pa_cons (pv 2) pa_nil)) (blkOk_by (own := [("_law_k", 6)]) (N := ["_law_draws_here", "_law_at", "_law_many", "_law_names", "_law_bound", "_law_callees", "_law_k"]) (sc := defScope s_law_body) (by decide +kernel)) (fun _ _ _ _ _ => pg_name (i := 6) sc_law_body.nd rfl (Or.inl rfl)) (fun _ _ _ _ _ => pts_nil) (fun _ _ _ _ _ => by exact (by exact (pe_call G_law_plain (hr.mono (by decide)) rfl T.g_law_plain T.F_law_plain.kp T.b_law_plain .nil pass0 (by exact (pa_cons (by exact (pe_ix (r := rIxL K) ix_list (by exact (pv 0)) (by exact (pe_op op_add (by exact (pv 1)) (by exact (pe_op op_mul pe_int (by exact (pv 6)))))) (fun _ _ => rfl))) (pa_cons (by exact (pe_ix (r := rIxL K) ix_list (by exact (pv 0)) (by exact (pe_op op_add (by exact (pe_op op_add (by exact (pv 1)) (by exact (pe_op op_mul pe_int (by exact (pv 6)))))) pe_int)) (fun _ _ => rfl))) (pa_cons (by exact (pv 3)) (pa_cons (by exact (pv 4)) (pa_cons (by exact (pv 5)) pa_nil)))))))))) pa_nil)))), ?_⟩
    tm_at "a"
    refine w_lcrng (n := mn) (by omega) fun D hD => ⟨fun i H' => ∃ xs bd, Same H H' ∧ H' D = some (.lst xs) ∧ xs.length = i ∧ BdV H' xs bd ∧ Sm names b cs bd i 0, ⟨[], .nil, Same.new hD, upd_same, rfl, rfl, trivial, Nat.le_refl _, Nat.le_refl _⟩, fun i H' hi h => ?_, fun H1 h => ?_⟩
    · obtain ⟨xs, bd, s1, h1, hl, hv, hs⟩ := h
      tm_at "a"
      refine ⟨rfl, ?_⟩
      tm_at "a"
      refine w_mull (by decide) (by decide) ?_
      tm_at "a"
      refine w_dr (hdr.mono s1) (by omega) (by omega) (fun d hd => ?_)
      tm_at "a"
      refine w_mull (by decide) (by decide) ?_
      tm_at "a"
      refine w_dr (hdr.mono s1) (by omega) (by omega) (fun m hm => ?_)
      tm_at "a"
      refine ⟨d, m, nl, cl, b, names, cs, rfl, s1 _ _ hn, s1 _ _ hc, hne, hn6, hd, hm, hb, fun H2 v bd2 s2 hv2 hs2 => ?_⟩
      refine w_acc (s2 _ _ h1) (by omega) ?_
      have i3 : Im H2 (upd H2 D (.lst (xs ++ [v]))) := Im.upd fun zs z => by rw [s2 _ _ h1] at z; cases z
      refine ⟨_, bd.app bd2, (s1.trans s2).mut hD, upd_same, by rw [List.length_append, List.length_singleton, hl], ((hv.mono (Im.of s2)).app hv2).mono i3, hs.ok.app hs2.ok, ?_, ?_⟩
      · rw [sc_app]; have := hs.sc; have := hs2.sc; omega
      · rw [dp_app]; have := hs.dp; have := hs2.dp; omega
    · obtain ⟨xs, bd, s1, h1, hl, hv, hs⟩ := h
      tm_at "a"
      refine w_tupL h1 fun r H2 s2 n2 h2 => ?_
      exact q H2 _ bd (s1.trans s2) ⟨r, xs, rfl, h2, hv.mono (Im.of s2)⟩ ⟨hs.ok, Nat.le_trans hs.sc (by omega), hs.dp⟩
end
end Kt
end -- KGb
section -- KGc
set_option Elab.async false
set_option linter.all false
set_option maxRecDepth 100000
set_option maxHeartbeats 4000000
/-! KGc: the law's compounds, its main. -/
namespace Kt
open PySem L2
section
variable {H : Hp} {Q : VK} {K : PySem.W.Frag}
theorem w_lastS {p : Addr} {names : List Str} (h : H p = some (.lst (names.map V.str))) (hne : names ≠ []) (q : ∀ x ∈ names, Q (.str x) H) : rIxL K (.ref p) (.int (-1)) H Q := by
  have lp := len_pos hne
  have e : atI (names.map V.str) (-1) = some (.str names[names.length - 1]) := by
    unfold atI ixN
    rw [if_neg (by decide), if_pos (by rw [List.length_map]; omega), Option.bind_some]
    have e1 : (-1 + ((names.map V.str).length : Nat) : Int).toNat = names.length - 1 := by rw [List.length_map]; omega
    rw [e1, List.getElem?_map, List.getElem?_eq_getElem (by omega)]
    rfl
  exact ⟨p, _, _, _, rfl, rfl, SqL.of h, e, q _ (List.getElem_mem _)⟩
theorem cut_front {xs : List V} : cutV xs none (some (-1)) = xs.dropLast := by
  unfold cutV
  have e : HT.sIx xs.length xs.length (some (-1)) = xs.length - 1 := by
    show (if (-1 : Int) < 0 then (-1 + (xs.length : Int)).toNat else min (-1 : Int).toNat xs.length) = _
    rw [if_pos (by decide)]
    omega
  rw [HT.sIx_none, e, List.drop_zero, Nat.sub_zero, List.dropLast_eq_take]
theorem cut_whole {xs : List V} {lo hi : Option Int} (h : HT.sIx xs.length 0 lo = 0 ∧ HT.sIx xs.length xs.length hi = xs.length) : cutV xs lo hi = xs := by
  unfold cutV
  rw [h.1, h.2, List.drop_zero, Nat.sub_zero, List.take_of_length_le (Nat.le_refl _)]
theorem w_slT {p : Addr} {xs : List V} {k : Nat} (h : H p = some (.tup xs)) (q : ∀ r H', Same H H' → H' r = some (.tup (xs.take k)) → Q (.ref r) H') : rSlA K (.ref p) none (some (k : Int)) H Q := by
  by_cases e : HT.sIx xs.length 0 none = 0 ∧ HT.sIx xs.length xs.length (some (k : Int)) = xs.length
  · refine w_slW h e (q p H (Same.refl H) ?_)
    rw [← cut_take, cut_whole e]
    exact h
  · exact w_slP h e fun r H' s _ g => q r H' s (by rw [← cut_take]; exact g)
theorem w_catG {p r : Addr} {xs ys : List V} (h1 : H p = some (.tup xs)) (h2 : H r = some (.tup ys)) (z : xs.length + ys.length ≤ 100000)
    (q : ∀ t H', Same H H' → H' t = some (.tup (xs ++ ys)) → Q (.ref t) H') : rCatA K (.ref p) (.ref r) H Q := by
  refine ⟨p, r, xs, ys, rfl, rfl, SqT.of h1, SqT.of h2, Nat.le_trans z (by decide), fun e => ?_, fun _ e => ?_, fun _ _ => w_new fun t H' s _ h => q t H' s h⟩
  · subst e
    exact q r H (Same.refl H) h2
  · subst e
    exact q p H (Same.refl H) (by rw [List.append_nil]; exact h1)
theorem w_lcat {p r : Addr} {xs ys : List V} (h1 : H p = some (.lst xs)) (h2 : H r = some (.lst ys)) (z : xs.length + ys.length ≤ 100000) (q : ∀ t H', Same H H' → H t = none → H' t = some (.lst (xs ++ ys)) → Q (.ref t) H') : rCat (.ref p) (.ref r) H Q :=
  ⟨p, r, xs, ys, rfl, rfl, h1, h2, Nat.le_trans z (by decide), w_new q⟩
end
theorem w_b2 {A B : Prop} {b : Bool} (h2 : b = false → B) (h1 : b = true → A) : if b = true then A else B := w_b h1 h2
/-- the first statement alone -/
def tk1 : Body → Body
  | .nil => .nil
  | .pr p _ => .pr p .nil
  | .cl s n _ => .cl s n .nil
  | .ite c d A B _ => .ite c d A B .nil
  | .lp c d A B _ => .lp c d A B .nil
theorem tk1_bd {H : Hp} : ∀ {b : Body} {xs : List V}, BdV H xs b → BdV H (xs.take 1) (tk1 b)
  | .nil, _, h => by cases h; rfl
  | .pr _ _, _, ⟨v, ys, e, h, _⟩ => by subst e; exact ⟨v, [], rfl, h, rfl⟩
  | .cl _ _ _, _, ⟨v, ys, e, h, _⟩ => by subst e; exact ⟨v, [], rfl, h, rfl⟩
  | .ite _ _ _ _ _, _, ⟨q, ys, cv, dv, pa, xa, pb, xb, e, h, hc, hd, ha, hA, hb, hB, _⟩ => by subst e; exact ⟨q, [], cv, dv, pa, xa, pb, xb, rfl, h, hc, hd, ha, hA, hb, hB, rfl⟩
  | .lp _ _ _ _ _, _, ⟨q, ys, cv, dv, pa, xa, pb, xb, e, h, hc, hd, ha, hA, hb, hB, _⟩ => by subst e; exact ⟨q, [], cv, dv, pa, xa, pb, xb, rfl, h, hc, hd, ha, hA, hb, hB, rfl⟩
theorem Sm.tk1 {vars : List Str} {n : Int} {cn : List Str} {b : Body} {k d : Nat} (h : Sm vars n cn b k d) : Sm vars n cn (tk1 b) k d := by
  obtain ⟨h1, h2, h3⟩ := h
  cases b with
  | nil => exact ⟨h1, h2, h3⟩
  | pr p r => simp only [Kt.sc, Kt.dp] at h2 h3; exact ⟨⟨h1.1, trivial⟩, by simp only [Kt.tk1, Kt.sc]; omega, by simp only [Kt.tk1, Kt.dp]; omega⟩
  | cl s q r => simp only [Kt.sc, Kt.dp] at h2 h3; exact ⟨⟨h1.1, trivial⟩, by simp only [Kt.tk1, Kt.sc]; omega, by simp only [Kt.tk1, Kt.dp]; omega⟩
  | ite c e A B r => simp only [Kt.sc, Kt.dp] at h2 h3; exact ⟨⟨h1.1, h1.2.1, h1.2.2.1, h1.2.2.2.1, trivial⟩, by simp only [Kt.tk1, Kt.sc]; omega, by simp only [Kt.tk1, Kt.dp]; omega⟩
  | lp c e A B r => simp only [Kt.sc, Kt.dp] at h2 h3; exact ⟨⟨h1.1, h1.2.1, h1.2.2.1, h1.2.2.2.1, trivial⟩, by simp only [Kt.tk1, Kt.sc]; omega, by simp only [Kt.tk1, Kt.dp]; omega⟩
theorem Sm.app {vars : List Str} {n : Int} {cn : List Str} {b b' : Body} {k d k' d' : Nat} (h : Sm vars n cn b k d) (g : Sm vars n cn b' k' d') : Sm vars n cn (b.app b') (k + k') (max d d') :=
  ⟨h.ok.app g.ok, by rw [sc_app]; have := h.sc; have := g.sc; omega, by rw [dp_app]; have := h.dp; have := g.dp; omega⟩
theorem Sm.mono {vars : List Str} {n : Int} {cn : List Str} {b : Body} {k d k' d' : Nat} (h : Sm vars n cn b k d) (h1 : k ≤ k') (h2 : d ≤ d') : Sm vars n cn b k' d' := ⟨h.ok, Nat.le_trans h.sc h1, Nat.le_trans h.dp h2⟩
theorem plusC : ("+=" : Str) ∈ chgL := by decide +kernel
def spLComp : Sp := fun vs H Q _ => ∃ (dl pa pb nl : Addr) (at_ b : Int) (lp : Bool) (names cs : List Str) (xa xb : List V) (A B : Body) (k d : Nat), vs = [.ref dl, .int at_, .ref pa, .ref pb, .ref nl, .int b, .bl lp] ∧ DrA H dl ∧ NmA H nl names ∧ names ≠ [] ∧ 0 ≤ at_ ∧ at_ ≤ 120 ∧ 2 ≤ b ∧
  H pa = some (.tup xa) ∧ BdV H xa A ∧ H pb = some (.tup xb) ∧ BdV H xb B ∧ Sm names b cs A k d ∧ Sm names b cs B k d ∧ 1 ≤ k ∧ ∀ H' v bd, Same H H' → BdV H' [v] bd → Sm names b cs bd (1 + k + k) (d + 1) → Q v H'
section
variable {P : Program} {w : World} {K : PySem.W.Frag} {mg : Str → Option Value} {base : Heap} {a : Ad}
local macro_rules | `(tactic| tm_at "a") => `(tactic| repeat (first
  | with_reducible refine w_seq ?_ | with_reducible refine w_if ?_ | with_reducible refine w_tB ?_ | with_reducible refine w_tTest ?_ | with_reducible refine w_asg ?_ | with_reducible refine w_name ?_
  | with_reducible refine w_ret ?_ | with_reducible refine w_next ?_ | with_reducible refine w_op ?_ | with_reducible refine w_c ?_ | with_reducible refine w_cb ?_ | with_reducible refine w_call ?_ | with_reducible refine w_cons ?_ | with_reducible refine w_nil ?_
  | with_reducible refine w_var (by with_unfolding_all rfl) ?_
  | with_reducible refine w_rI0 ?_ | with_reducible refine w_eq (by with_unfolding_all rfl) ?_ | with_reducible refine w_ne (by with_unfolding_all rfl) ?_
  | with_reducible refine w_test ?_ | with_reducible refine w_T ?_ | with_reducible refine w_F ?_ | with_reducible refine w_T0 ?_ | with_reducible refine w_F0 ?_
  | with_reducible refine w_and ?_ | with_reducible refine w_or ?_ | with_reducible refine w_not ?_ | with_reducible refine w_ifE ?_ | with_reducible refine w_drop ?_
  | with_reducible refine w_andV ?_ | with_reducible refine w_orV ?_ | with_reducible refine w_notV ?_ | with_reducible refine w_dget ?_ | with_reducible refine w_din ?_ | with_reducible refine w_dnin ?_ | with_reducible refine w_fld ?_
  | with_reducible refine w_ttup ?_ | with_reducible refine w_tlst ?_ | with_reducible refine w_un ?_ | with_reducible refine w_rU ?_ | with_reducible refine w_gcons ?_ | with_reducible refine w_gnil ?_ | with_reducible refine w_sub ?_ | with_reducible refine w_sl ?_ | with_reducible refine w_nopart ?_ | with_reducible refine w_part ?_ | with_reducible refine w_int ?_ | with_reducible refine w_meth ?_
  | with_reducible refine w_make ?_ | with_reducible refine w_dput ?_ | with_reducible refine w_sfld ?_ | with_reducible refine w_bm ?_ | with_reducible refine w_bm0 ?_ | with_reducible refine w_isN ?_ | with_reducible refine w_notT ?_ | with_reducible refine w_forR ?_ | with_reducible refine w_forL ?_ | with_reducible refine w_forT ?_ | with_reducible refine w_fldaug ?_ | with_reducible refine w_radd ?_ | with_reducible refine w_par ?_ | with_reducible refine w_pair ?_
  | with_reducible refine w_lcR ?_ | with_reducible refine w_dcR ?_ | with_reducible refine w_lcL ?_ | with_reducible refine w_lcT ?_ | with_reducible refine w_dcT ?_ | with_reducible refine w_yes ?_ | with_reducible refine w_chain ?_
  | with_reducible refine w_modc (by decide) ?_ | with_reducible refine w_divc (by decide) (by decide) ?_ | with_reducible refine w_mulr (by decide) (by decide) ?_))
theorem sc_law_compound : FnScope ["_law_draws_here", "_law_at", "_law_first", "_law_second", "_law_names", "_law_bound", "_law_loops", "_law_draw", "_law_last", "_law_condition_here"] ["_law_draws_here", "_law_at", "_law_first", "_law_second", "_law_names", "_law_bound", "_law_loops"] (defScope s_law_compound) := ⟨rfl, rfl, rfl, by decide +kernel, rfl, by decide +kernel, by decide +kernel⟩
theorem ok_lcomp (T : Tx w K mg a) : FnOk P w K mg base CX0 3 a.f_law_compound a.d_law_compound ["_law_draws_here", "_law_at", "_law_first", "_law_second", "_law_names", "_law_bound", "_law_loops"] spLComp := by
  have G_law_condition : FnOk P w K mg base CX0 2 _ _ _ spLCond := ok_lcond T
  refine T.F_law_compound.ok sc_law_compound (fun vs H Q E h => ?_) (fun cdv A outer s H vs Q E hr h => ?_)
  · obtain ⟨dl, pa, pb, nl, at_, b, lp, names, cs, xa, xb, A, B, k, d, rfl, _⟩ := h
    rfl
  · obtain ⟨dl, pa, pb, nl, at_, b, lp, names, cs, xa, xb, A1, B1, k, d, rfl, hdr, hn, hne, ha0, ha1, hb, hpa, hA, hpb, hB, sA, sB, hk, q⟩ := h
    have hu := hu_of hr
    refine ⟨_, (pss_cons (ps_set (i := 7) sc_law_compound.nd rfl (Or.inl rfl) (pe_ix ix_list (pv 0) (pv 1) (fun _ _ => rfl)))
    (pss_cons (ps_set (i := 8) sc_law_compound.nd rfl (Or.inl rfl) (pe_ix ix_list (pv 4) (pe_un un_neg pe_int) (fun _ _ => rfl)))
    (pss_cons (ps_if (PW.pt (pw_and (pt_cmpR op_eq (pe_op op_mod (pv 7) pe_int) pe_int (nomark _)) (pw_and1 (pt_val (pv 6))))) (pss_one (ps_ret (pe_tup (pa_cons pe_str (pa_cons (pe_tup (pa_cons pe_str (pa_cons (pv 8) (pa_cons pe_int pa_nil)))) (pa_cons (pv 2) (pa_cons (pe_tup (pa_cons (pe_tup (pa_cons pe_str (pa_cons (pv 8) (pa_cons pe_int pa_nil)))) pa_nil)) (pa_cons (pe_tup (pa_cons pe_str (pa_cons (pv 8) (pa_cons (pe_op op_mod (pe_ix ix_list (pv 0) (pe_op op_add (pv 1) pe_int) (fun _ _ => rfl)) (pv 5)) pa_nil)))) pa_nil)))))))) pss_nil)
    (pss_cons (ps_if (PW.pt (pw_and (pt_cmpR op_eq (pe_op op_mod (pv 7) pe_int) pe_int (nomark _)) (pw_and1 (pt_val (pv 6))))) (pss_one (ps_ret (pe_tup (pa_cons pe_str (pa_cons (pe_call G_law_condition (hr.mono (by decide)) rfl T.g_law_condition T.F_law_condition.kp T.b_law_condition .nil pass0 (pa_cons (pe_ix ix_list (pv 0) (pe_op op_add (pv 1) pe_int) (fun _ _ => rfl)) (pa_cons (pv 4) (pa_cons (pv 5) pa_nil)))) (pa_cons (pv 2) (pa_cons (pv 3) (pa_cons (pe_call G_law_condition (hr.mono (by decide)) rfl T.g_law_condition T.F_law_condition.kp T.b_law_condition .nil pass0 (pa_cons (pe_ix ix_list (pv 0) (pe_op op_add (pv 1) pe_int) (fun _ _ => rfl)) (pa_cons (pv 4) (pa_cons (pv 5) pa_nil)))) pa_nil)))))))) pss_nil)
    (pss_cons (ps_if (pt_cmpR op_eq (pe_op op_mod (pv 7) pe_int) pe_int (nomark _)) (pss_one (ps_ret (pe_tup (pa_cons pe_str (pa_cons (pe_call G_law_condition (hr.mono (by decide)) rfl T.g_law_condition T.F_law_condition.kp T.b_law_condition .nil pass0 (pa_cons (pe_ix ix_list (pv 0) (pe_op op_add (pv 1) pe_int) (fun _ _ => rfl)) (pa_cons (pv 4) (pa_cons (pv 5) pa_nil)))) (pa_cons (pv 2) (pa_cons (pv 3) (pa_cons (pe_call G_law_condition (hr.mono (by decide)) rfl T.g_law_condition T.F_law_condition.kp T.b_law_condition .nil pass0 (pa_cons (pe_ix ix_list (pv 0) (pe_op op_add (pv 1) pe_int) (fun _ _ => rfl)) (pa_cons (pv 4) (pa_cons (pv 5) pa_nil)))) pa_nil)))))))) pss_nil)
    (pss_cons (ps_set (i := 9) sc_law_compound.nd rfl (Or.inl rfl) (pe_tup (pa_cons (pe_ix ix_list (pe_lst (pa_cons pe_str (pa_cons pe_str (pa_cons pe_str pa_nil)))) (pe_op op_mod (pe_ix ix_list (pv 0) (pe_op op_add (pv 1) pe_int) (fun _ _ => rfl)) pe_int) (fun _ _ => rfl)) (pa_cons (pv 8) (pa_cons (pe_op op_mod (pe_ix ix_list (pv 0) (pe_op op_add (pv 1) pe_int) (fun _ _ => rfl)) (pv 5)) pa_nil)))))
    (pss_one (ps_ret (pe_tup (pa_cons pe_str (pa_cons (pv 9) (pa_cons (pv 2) (pa_cons (pv 3) (pa_cons (pv 9) pa_nil)))))))))))))), ?_⟩
    have smc : ∀ (X Y : Cd) (A2 B2 : Body), X.ok names b → Y.ok names b → Sm names b cs A2 k d → Sm names b cs B2 k d → Sm names b cs (.lp X Y A2 B2 .nil) (1 + k + k) (d + 1) ∧ Sm names b cs (.ite X Y A2 B2 .nil) (1 + k + k) (d + 1) := fun X Y A2 B2 hx hy h1 h2 => by
      have z1 := h1.sc
      have z2 := h2.sc
      have z3 := h1.dp
      have z4 := h2.dp
      refine ⟨⟨⟨hx, hy, h1.ok, h2.ok, trivial⟩, ?_, ?_⟩, ⟨⟨hx, hy, h1.ok, h2.ok, trivial⟩, ?_, ?_⟩⟩ <;> simp only [sc, dp] <;> omega
    have mk : ∀ (H' : Hp) (r : Addr) (cv dv : V) (X Y : Cd) (pb' : Addr) (xb' : List V) (A2 B2 : Body) (wl : Bool), BdV H' xa A2 → H' pa = some (.tup xa) → H' pb' = some (.tup xb') → BdV H' xb' B2 → H' r = some (.tup [.str (if wl then ("from" : Str) else "if"), cv, .ref pa, .ref pb', dv]) → CdV H' cv X → CdV H' dv Y → BdV H' [.ref r] (if wl then .lp X Y A2 B2 .nil else .ite X Y A2 B2 .nil) :=
      fun H' r cv dv X Y pb' xb' A2 B2 wl hA hpa hpb hB hr hc hd => by
        cases wl
        · exact ⟨r, [], cv, dv, pa, xa, pb', xb', rfl, hr, hc, hd, hpa, hA, hpb, hB, rfl⟩
        · exact ⟨r, [], cv, dv, pa, xa, pb', xb', rfl, hr, hc, hd, hpa, hA, hpb, hB, rfl⟩
    tm_at "a"
    refine w_dr hdr ha0 (by omega) (fun d0 hd0 => ?_)
    tm_at "a"
    refine w_lastS hn hne (fun x hx => ?_)
    have cd0 : ∀ (rel : Str) (i : Int), rel ∈ relsL → 0 ≤ i → i < b → Cd.ok names b ⟨rel, .var x, .num i⟩ := fun rel i h1 h2 h3 => ⟨h1, hx, h2, h3⟩
    tm_at "a"
    refine cutP (A := ?T1) (fun tail => ?m1) ?t1
    case m1 =>
      refine w_b (fun e5 => ?_) (fun e5 => ?_)
      · tm_at "a"
        refine w_b2 (fun el => ?_) (fun el => ?_)
        · tm_at "a"
          exact tail ()
        · tm_at "a"
          refine w_lay (by show 3 ≤ 100000; decide) fun c1 H1 s1 n1 h1 => ?_
          tm_at "a"
          refine w_lay (by show 3 ≤ 100000; decide) fun i1 H2 s2 n2 h2 => ?_
          tm_at "a"
          refine w_lay (by show 1 ≤ 100000; decide) fun l1 H3 s3 n3 h3 => ?_
          tm_at "a"
          have s13 := (s1.trans s2).trans s3
          refine w_dr (hdr.mono s13) (by omega) (by omega) (fun d1 hd1 => ?_)
          tm_at "a"
          refine w_modc (by omega) ?_
          tm_at "a"
          refine w_lay (by show 3 ≤ 100000; decide) fun c2 H4 s4 n4 h4 => ?_
          tm_at "a"
          refine w_lay (by show 5 ≤ 100000; decide) fun r H5 s5 n5 h5 => ?_
          have s15 := (s13.trans s4).trans s5
          have s25 := ((s2.trans s3).trans s4).trans s5
          have s35 := (s3.trans s4).trans s5
          have s45 := s4.trans s5
          have sone : Sm names b cs (.pr ⟨"+=", x, .at_ (.num 1)⟩ .nil) k d := ⟨⟨⟨hx, .inl ⟨plusC, ⟨by omega, by omega⟩, trivial⟩⟩, trivial⟩, by simp only [sc]; omega, by simp only [dp]; omega⟩
          refine q H5 _ _ s15 (mk H5 r _ _ ⟨"==", .var x, .num 0⟩ ⟨"==", .var x, .num (d1 % b)⟩ l1 [.ref i1] A1 (.pr ⟨"+=", x, .at_ (.num 1)⟩ .nil) true (hA.mono (Im.of s15)) (s15 _ _ hpa) (s45 _ _ h3) ⟨.ref i1, [], rfl, ⟨i1, .int 1, rfl, s35 _ _ h2, rfl⟩, rfl⟩ h5 ⟨c1, rfl, s25 _ _ h1⟩ ⟨c2, rfl, s5 _ _ h4⟩) ?_
          exact (smc _ _ _ _ (cd0 _ _ (by decide +kernel) (by omega) (by omega)) (cd0 _ _ (by decide +kernel) (Int.emod_nonneg _ (by omega)) (Int.emod_lt_of_pos _ (by omega))) sA sone).1
      · tm_at "a"
        exact tail ()
    -- both compounds of two conditions
    have two : ∀ (wl : Bool) (H' : Hp) (c1 c2 : V) (X Y : Cd) (s1 : Same H H') (r : Addr), CdV H' c1 X → CdV H' c2 Y → X.ok names b → Y.ok names b → H' r = some (.tup [.str (if wl then ("from" : Str) else "if"), c1, .ref pa, .ref pb, c2]) → Q (.ref r) H' := fun wl H' c1 c2 X Y s1 r h1 h2 h3 h4 h5 => by
      refine q H' _ _ s1 (mk H' r c1 c2 X Y pb xb A1 B1 wl (hA.mono (Im.of s1)) (s1 _ _ hpa) (s1 _ _ hpb) (hB.mono (Im.of s1)) h5 h1 h2) ?_
      cases wl
      · exact (smc X Y A1 B1 h3 h4 sA sB).2
      · exact (smc X Y A1 B1 h3 h4 sA sB).1
    refine cutP (A := ?T2) (fun tail => ?m2) ?t2
    case m2 =>
      refine w_b (fun e5 => ?_) (fun e5 => ?_)
      · tm_at "a"
        refine w_b2 (fun el => ?_) (fun el => ?_)
        · tm_at "a"
          exact tail ()
        · tm_at "a"
          refine w_dr hdr (by omega) (by omega) (fun d1 hd1 => ?_)
          tm_at "a"
          refine ⟨d1, nl, b, names, rfl, hn, hne, hd1, by omega, fun H1 c1 X s1 h1 o1 => ?_⟩
          tm_at "a"
          refine w_dr (hdr.mono s1) (by omega) (by omega) (fun d2 hd2 => ?_)
          tm_at "a"
          refine ⟨d2, nl, b, names, rfl, s1 _ _ hn, hne, hd2, by omega, fun H2 c2 Y s2 h2 o2 => ?_⟩
          tm_at "a"
          refine w_lay (by show 5 ≤ 100000; decide) fun r H5 s5 n5 h5 => ?_
          exact two true H5 c1 c2 X Y ((s1.trans s2).trans s5) r (h1.mono (Im.of (s2.trans s5))) (h2.mono (Im.of s5)) o1 o2 h5
      · tm_at "a"
        exact tail ()
    refine w_b (fun e5 => ?_) (fun e5 => ?_)
    · tm_at "a"
      refine w_dr hdr (by omega) (by omega) (fun d1 hd1 => ?_)
      tm_at "a"
      refine ⟨d1, nl, b, names, rfl, hn, hne, hd1, by omega, fun H1 c1 X s1 h1 o1 => ?_⟩
      tm_at "a"
      refine w_dr (hdr.mono s1) (by omega) (by omega) (fun d2 hd2 => ?_)
      tm_at "a"
      refine ⟨d2, nl, b, names, rfl, s1 _ _ hn, hne, hd2, by omega, fun H2 c2 Y s2 h2 o2 => ?_⟩
      tm_at "a"
      refine w_lay (by show 5 ≤ 100000; decide) fun r H5 s5 n5 h5 => ?_
      exact two false H5 c1 c2 X Y ((s1.trans s2).trans s5) r (h1.mono (Im.of (s2.trans s5))) (h2.mono (Im.of s5)) o1 o2 h5
    · tm_at "a"
      refine w_lay (by show 3 ≤ 100000; decide) fun rl H1 s1 n1 h1 => ?_
      tm_at "a"
      refine w_dr (hdr.mono s1) (by omega) (by omega) (fun d1 hd1 => ?_)
      tm_at "a"
      refine w_pick h1 (Int.emod_nonneg _ (by decide)) (by show _ < (3 : Int); exact Int.emod_lt_of_pos _ (by decide)) (fun v hv => ?_)
      have hrel : ∃ r, v = .str r ∧ r ∈ relsL := by
        simp only [List.mem_cons, List.not_mem_nil, or_false] at hv
        rcases hv with z | z | z <;> subst z
        · exact ⟨_, rfl, by decide +kernel⟩
        · exact ⟨_, rfl, by decide +kernel⟩
        · exact ⟨_, rfl, by decide +kernel⟩
      obtain ⟨rel, rfl, hr2⟩ := hrel
      tm_at "a"
      refine w_dr (hdr.mono s1) (by omega) (by omega) (fun d2 hd2 => ?_)
      tm_at "a"
      refine w_modc (by omega) ?_
      tm_at "a"
      refine w_lay (by show 3 ≤ 100000; decide) fun c1 H2 s2 n2 h2 => ?_
      tm_at "a"
      refine w_lay (by show 5 ≤ 100000; decide) fun r H5 s5 n5 h5 => ?_
      have oc := cd0 rel (d2 % b) hr2 (Int.emod_nonneg _ (by omega)) (Int.emod_lt_of_pos _ (by omega))
      exact two false H5 _ _ _ _ ((s1.trans s2).trans s5) r ⟨c1, rfl, s5 _ _ h2⟩ ⟨c1, rfl, s5 _ _ h2⟩ oc oc h5
end
end Kt
end -- KGc
section -- KGm
set_option Elab.async false
set_option linter.all false
set_option maxRecDepth 100000
set_option maxHeartbeats 4000000
/-! KGm: the law's main. -/
namespace Kt
open PySem L2
def spLMain : Sp := fun vs H Q _ => ∃ (dl nl cl : Addr) (b : Int) (lp : Bool) (names cs : List Str), vs = [.ref dl, .ref nl, .int b, .ref cl, .bl lp] ∧ DrA H dl ∧ NmA H nl names ∧ NmA H cl cs ∧ names ≠ [] ∧ names.length ≤ 6 ∧ 2 ≤ b ∧
  ∀ H' v bd, Same H H' → BdT H' v bd → Sm names b cs bd 93 3 → Q v H'
theorem Ex.ok_mono {vars vars' : List Str} {n : Int} {e : Ex} (h : ∀ x ∈ vars, x ∈ vars') (o : e.ok vars n) : e.ok vars' n := by
  cases e with
  | at_ t => exact At.ok_mono h o
  | bin g x y => exact ⟨o.1, At.ok_mono h o.2.1, At.ok_mono h o.2.2⟩
theorem Cd.ok_mono {vars vars' : List Str} {n : Int} {c : Cd} (h : ∀ x ∈ vars, x ∈ vars') (o : c.ok vars n) : c.ok vars' n := ⟨o.1, At.ok_mono h o.2.1, At.ok_mono h o.2.2⟩
theorem Pr.ok_mono {vars vars' : List Str} {n : Int} {p : Pr} (h : ∀ x ∈ vars, x ∈ vars') (o : p.ok vars n) : p.ok vars' n := by
  obtain ⟨h1, h2⟩ := o
  refine ⟨h _ h1, ?_⟩
  rcases h2 with ⟨a, b, c⟩ | ⟨a, y, b, c, d⟩
  · exact .inl ⟨a, Ex.ok_mono h b, c⟩
  · exact .inr ⟨a, y, h _ b, c, d⟩
theorem BOk.vmono {vars vars' : List Str} {n : Int} {ns : List Str} (h : ∀ x ∈ vars, x ∈ vars') : ∀ {b : Body}, BOk vars n ns b → BOk vars' n ns b
  | .nil, _ => trivial
  | .pr _ _, g => ⟨Pr.ok_mono h g.1, BOk.vmono h g.2⟩
  | .cl _ _ _, g => ⟨g.1, BOk.vmono h g.2⟩
  | .ite _ _ _ _ _, g => ⟨Cd.ok_mono h g.1, Cd.ok_mono h g.2.1, BOk.vmono h g.2.2.1, BOk.vmono h g.2.2.2.1, BOk.vmono h g.2.2.2.2⟩
  | .lp _ _ _ _ _, g => ⟨Cd.ok_mono h g.1, Cd.ok_mono h g.2.1, BOk.vmono h g.2.2.1, BOk.vmono h g.2.2.2.1, BOk.vmono h g.2.2.2.2⟩
theorem Sm.vmono {vars vars' : List Str} {n : Int} {cn : List Str} {b : Body} {k d : Nat} (h : ∀ x ∈ vars, x ∈ vars') (s : Sm vars n cn b k d) : Sm vars' n cn b k d := ⟨s.ok.vmono h, s.sc, s.dp⟩
theorem BdV.len_sc {H : Hp} : ∀ {b : Body} {xs : List V}, BdV H xs b → xs.length ≤ sc b
  | .nil, _, h => by cases h; exact Nat.le_refl _
  | .pr _ r, _, ⟨v, ys, e, _, h⟩ => by subst e; have := BdV.len_sc h; simp only [sc, List.length_cons]; omega
  | .cl _ _ r, _, ⟨v, ys, e, _, h⟩ => by subst e; have := BdV.len_sc h; simp only [sc, List.length_cons]; omega
  | .ite _ _ _ _ r, _, ⟨q, ys, cv, dv, pa, xa, pb, xb, e, _, _, _, _, _, _, _, h⟩ => by subst e; have := BdV.len_sc h; simp only [sc, List.length_cons]; omega
  | .lp _ _ _ _ r, _, ⟨q, ys, cv, dv, pa, xa, pb, xb, e, _, _, _, _, _, _, _, h⟩ => by subst e; have := BdV.len_sc h; simp only [sc, List.length_cons]; omega
/-- a pair of bodies -/
def PrA (H : Hp) (v : V) (names : List Str) (b : Int) (cs : List Str) (k d : Nat) : Prop := ∃ r pa pb xa xb A B, v = .ref r ∧ H r = some (.tup [.ref pa, .ref pb]) ∧ H pa = some (.tup xa) ∧ BdV H xa A ∧ H pb = some (.tup xb) ∧ BdV H xb B ∧ Sm names b cs A k d ∧ Sm names b cs B k d
theorem cutQ {A : Addr → Hp → Prop} {C : Addr → Hp → Prop} {B : Prop} (f : (∀ x H, C x H → A x H) → B) (h : ∀ x H, C x H → A x H) : B := f h
section
variable {P : Program} {w : World} {K : PySem.W.Frag} {mg : Str → Option Value} {base : Heap} {a : Ad}
local macro_rules | `(tactic| tm_at "a") => `(tactic| repeat (first
  | with_reducible refine w_seq ?_ | with_reducible refine w_if ?_ | with_reducible refine w_tB ?_ | with_reducible refine w_tTest ?_ | with_reducible refine w_asg ?_ | with_reducible refine w_name ?_
  | with_reducible refine w_ret ?_ | with_reducible refine w_next ?_ | with_reducible refine w_op ?_ | with_reducible refine w_c ?_ | with_reducible refine w_cb ?_ | with_reducible refine w_call ?_ | with_reducible refine w_cons ?_ | with_reducible refine w_nil ?_
  | with_reducible refine w_var (by with_unfolding_all rfl) ?_
  | with_reducible refine w_rI0 ?_ | with_reducible refine w_eq (by with_unfolding_all rfl) ?_ | with_reducible refine w_ne (by with_unfolding_all rfl) ?_
  | with_reducible refine w_test ?_ | with_reducible refine w_T ?_ | with_reducible refine w_F ?_ | with_reducible refine w_T0 ?_ | with_reducible refine w_F0 ?_
  | with_reducible refine w_and ?_ | with_reducible refine w_or ?_ | with_reducible refine w_not ?_ | with_reducible refine w_ifE ?_ | with_reducible refine w_drop ?_
  | with_reducible refine w_andV ?_ | with_reducible refine w_orV ?_ | with_reducible refine w_notV ?_ | with_reducible refine w_dget ?_ | with_reducible refine w_din ?_ | with_reducible refine w_dnin ?_ | with_reducible refine w_fld ?_
  | with_reducible refine w_ttup ?_ | with_reducible refine w_tlst ?_ | with_reducible refine w_un ?_ | with_reducible refine w_rU ?_ | with_reducible refine w_gcons ?_ | with_reducible refine w_gnil ?_ | with_reducible refine w_sub ?_ | with_reducible refine w_sl ?_ | with_reducible refine w_nopart ?_ | with_reducible refine w_part ?_ | with_reducible refine w_int ?_ | with_reducible refine w_meth ?_
  | with_reducible refine w_make ?_ | with_reducible refine w_dput ?_ | with_reducible refine w_sfld ?_ | with_reducible refine w_bm ?_ | with_reducible refine w_bm0 ?_ | with_reducible refine w_isN ?_ | with_reducible refine w_notT ?_ | with_reducible refine w_forR ?_ | with_reducible refine w_forL ?_ | with_reducible refine w_forT ?_ | with_reducible refine w_fldaug ?_ | with_reducible refine w_radd ?_ | with_reducible refine w_par ?_ | with_reducible refine w_pair ?_
  | with_reducible refine w_lcR ?_ | with_reducible refine w_dcR ?_ | with_reducible refine w_lcL ?_ | with_reducible refine w_lcT ?_ | with_reducible refine w_dcT ?_ | with_reducible refine w_yes ?_ | with_reducible refine w_chain ?_
  | with_reducible refine w_modc (by decide) ?_ | with_reducible refine w_divc (by decide) (by decide) ?_ | with_reducible refine w_mulr (by decide) (by decide) ?_))
theorem sc_law_main : FnScope ["_law_draws_here", "_law_names", "_law_bound", "_law_callees", "_law_loops", "_law_fixed", "_law_body_here", "_law_k", "_law_at", "_law_first", "_law_second", "_law_kind", "_law_inner", "_law_where", "_law_one"] ["_law_draws_here", "_law_names", "_law_bound", "_law_callees", "_law_loops"] (defScope s_law_main) := ⟨rfl, rfl, rfl, by decide +kernel, rfl, by decide +kernel, by decide +kernel⟩
theorem ok_lmain (T : Tx w K mg a) : FnOk P w K mg base CX0 4 a.f_law_main a.d_law_main ["_law_draws_here", "_law_names", "_law_bound", "_law_callees", "_law_loops"] spLMain := by
  have G_law_body : FnOk P w K mg base CX0 3 _ _ _ spLBody := ok_lbody T
  have G_law_compound : FnOk P w K mg base CX0 3 _ _ _ spLComp := ok_lcomp T
  refine T.F_law_main.ok sc_law_main (fun vs H Q E h => ?_) (fun cdv A outer s H vs Q E hr h => ?_)
  · obtain ⟨dl, nl, cl, b, lp, names, cs, rfl, _⟩ := h
    rfl
  · obtain ⟨dl, nl, cl, b, lp, names, cs, rfl, hdr, hn, hc, hne, hn6, hb, q⟩ := h
    have hu := hu_of hr
    have lpos := len_pos hne
    refine ⟨_, (pss_cons (ps_set (i := 5) sc_law_main.nd rfl (Or.inl rfl) (pe_callTy cl_list (by rfl) T.z_list (by decide +kernel) (pa_cons (pv 1) pa_nil)))
    (pss_cons (ps_if (pt_cmpR op_gt (pe_callB cl_len (by rfl) T.z_len PySem.boot_len (pa_cons (pv 1) pa_nil)) pe_int (nomark _)) (pss_one (ps_set (i := 5) sc_law_main.nd rfl (Or.inl rfl) (pe_slice sl_list (pv 1) po_none (po_some (pe_un un_neg pe_int))))) pss_nil)
    (pss_cons (ps_set (i := 6) sc_law_main.nd rfl (Or.inl rfl) (pe_lst pa_nil))
    (pss_cons (ps_for PassesOwn.never rfl (pi_range1 rfl T.z_range (pa_cons (pe_op op_add pe_int (pe_op op_mod (pe_ix ix_list (pv 0) pe_int (fun _ _ => rfl)) pe_int)) pa_nil)) (pg_name (i := 7) sc_law_main.nd rfl (Or.inl rfl))
      (pss_cons (ps_set (i := 8) sc_law_main.nd rfl (Or.inl rfl) (pe_op op_add pe_int (pe_op op_mul pe_int (pv 7))))
    (pss_cons (ps_set (i := 9) sc_law_main.nd rfl (Or.inl rfl) (pe_call G_law_body (hr.mono (by decide)) rfl T.g_law_body T.F_law_body.kp T.b_law_body .nil pass0 (pa_cons (pv 0) (pa_cons (pv 8) (pa_cons (pe_op op_mod (pe_ix ix_list (pv 0) (pe_op op_add (pv 8) pe_int) (fun _ _ => rfl)) pe_int) (pa_cons (pv 5) (pa_cons (pv 2) (pa_cons (pv 3) pa_nil))))))))
    (pss_cons (ps_set (i := 10) sc_law_main.nd rfl (Or.inl rfl) (pe_call G_law_body (hr.mono (by decide)) rfl T.g_law_body T.F_law_body.kp T.b_law_body .nil pass0 (pa_cons (pv 0) (pa_cons (pe_op op_add (pv 8) pe_int) (pa_cons (pe_op op_mod (pe_ix ix_list (pv 0) (pe_op op_add (pv 8) pe_int) (fun _ _ => rfl)) pe_int) (pa_cons (pv 5) (pa_cons (pv 2) (pa_cons (pv 3) pa_nil))))))))
    (pss_cons (ps_set (i := 11) sc_law_main.nd rfl (Or.inl rfl) (pe_op op_mod (pe_ix ix_list (pv 0) (pe_op op_add (pv 8) pe_int) (fun _ _ => rfl)) pe_int))
    (pss_one (ps_if (pt_cmpR op_eq (pv 11) pe_int (nomark _)) (pss_one (ps_set (i := 6) sc_law_main.nd rfl (Or.inl rfl) (pe_op op_cat (pv 6) (pe_callTy cl_list (by rfl) T.z_list (by decide +kernel) (pa_cons (pv 9) pa_nil))))) (pss_cons (ps_set (i := 12) sc_law_main.nd rfl (Or.inl rfl) (pe_call G_law_compound (hr.mono (by decide)) rfl T.g_law_compound T.F_law_compound.kp T.b_law_compound .nil pass0 (pa_cons (pv 0) (pa_cons (pe_op op_add (pv 8) pe_int) (pa_cons (pv 9) (pa_cons (pv 10) (pa_cons (pv 1) (pa_cons (pv 2) (pa_cons (pv 4) pa_nil)))))))))
    (pss_cons (ps_set (i := 13) sc_law_main.nd rfl (Or.inl rfl) (pe_ix ix_list (pv 0) (pe_op op_add (pv 8) pe_int) (fun _ _ => rfl)))
    (pss_cons (ps_if (pt_cmpR op_eq (pv 11) pe_int (nomark _)) (pss_cons (ps_set (i := 14) sc_law_main.nd rfl (Or.inl rfl) (pe_ix ix_list (pe_lst (pa_cons (pe_tup (pa_cons (pe_op op_catA (pe_tup (pa_cons (pv 12) pa_nil)) (pe_slice sl_tupA (pv 9) po_none (po_some pe_int))) (pa_cons (pv 10) pa_nil))) (pa_cons (pe_tup (pa_cons (pe_op op_catA (pe_slice sl_tupA (pv 9) po_none (po_some pe_int)) (pe_tup (pa_cons (pv 12) pa_nil))) (pa_cons (pv 10) pa_nil))) (pa_cons (pe_tup (pa_cons (pv 9) (pa_cons (pe_op op_catA (pe_tup (pa_cons (pv 12) pa_nil)) (pe_slice sl_tupA (pv 10) po_none (po_some pe_int))) pa_nil))) pa_nil)))) (pe_op op_mod (pv 13) pe_int) (fun _ _ => rfl)))
    (pss_cons (ps_set (i := 12) sc_law_main.nd rfl (Or.inl rfl) (pe_call G_law_compound (hr.mono (by decide)) rfl T.g_law_compound T.F_law_compound.kp T.b_law_compound .nil pass0 (pa_cons (pv 0) (pa_cons (pe_op op_add (pv 8) pe_int) (pa_cons (pe_ix ix_tup (pv 14) pe_int (fun _ _ => rfl)) (pa_cons (pe_ix ix_tup (pv 14) pe_int (fun _ _ => rfl)) (pa_cons (pv 1) (pa_cons (pv 2) (pa_cons (pv 4) pa_nil)))))))))
    (pss_one (ps_if (pt_cmpR op_eq (pe_op op_mod (pe_op op_fdiv (pv 13) pe_int) pe_int) pe_int (nomark _)) (pss_cons (ps_set (i := 14) sc_law_main.nd rfl (Or.inl rfl) (pe_ix ix_list (pe_lst (pa_cons (pe_tup (pa_cons (pe_tup (pa_cons (pv 12) pa_nil)) (pa_cons (pe_slice sl_tupA (pv 10) po_none (po_some pe_int)) pa_nil))) (pa_cons (pe_tup (pa_cons (pe_slice sl_tupA (pv 9) po_none (po_some pe_int)) (pa_cons (pe_tup (pa_cons (pv 12) pa_nil)) pa_nil))) pa_nil))) (pe_op op_mod (pe_op op_fdiv (pv 13) pe_int) pe_int) (fun _ _ => rfl)))
    (pss_one (ps_set (i := 12) sc_law_main.nd rfl (Or.inl rfl) (pe_call G_law_compound (hr.mono (by decide)) rfl T.g_law_compound T.F_law_compound.kp T.b_law_compound .nil pass0 (pa_cons (pv 0) (pa_cons (pe_op op_add (pv 8) pe_int) (pa_cons (pe_ix ix_tup (pv 14) pe_int (fun _ _ => rfl)) (pa_cons (pe_ix ix_tup (pv 14) pe_int (fun _ _ => rfl)) (pa_cons (pv 1) (pa_cons (pv 2) (pa_cons (pv 4) pa_nil))))))))))) pss_nil)))) pss_nil)
    (pss_one (ps_expr (pe_bm PySem.F.plainAttrs_list PySem.F.slot_list_append PySem.F.type_list_append mt_append (pv 6) (pa_cons (pv 12) pa_nil))))))))))))))
    (pss_one (ps_ret (pe_callTy cl_tup (by rfl) T.z_tuple (by decide +kernel) (pa_cons (pv 6) pa_nil)))))))), ?_⟩
    tm_at "a"
    refine w_listL hn fun fl0 H0 s0 n0 h0 => ?_
    tm_at "a"
    refine w_lenL (s0 _ _ hn) ?_
    tm_at "a"
    refine cutQ (A := ?T1) (C := fun x H1 => Same H H1 ∧ ∃ fixed, NmA H1 x fixed ∧ fixed ≠ [] ∧ fixed.length ≤ 6 ∧ ∀ y ∈ fixed, y ∈ names) (fun tail => ?m1) ?t1
    case m1 =>
      refine w_b (fun e => ?_) (fun e => ?_)
      · have hl : 1 < names.length := by have z := of_decide_eq_true e; rw [List.length_map] at z; omega
        tm_at "a"
        refine w_slL (SqL.of (s0 _ _ hn)) fun fl H1 s1 n1 h1 => ?_
        have e1 : cutV (names.map V.str) none (some (-1)) = names.dropLast.map V.str := by rw [cut_front, List.map_dropLast]
        rw [e1] at h1
        exact tail fl H1 ⟨s0.trans s1, names.dropLast, h1, fun z => by
          have z2 := congrArg List.length z
          rw [List.length_dropLast, List.length_nil] at z2
          omega, by rw [List.length_dropLast]; omega, fun y hy => List.dropLast_subset _ hy⟩
      · tm_at "a"
        exact tail fl0 H0 ⟨s0, names, h0, hne, hn6, fun y hy => hy⟩
    intro fl H1 ⟨s1, fixed, hfl, hfne, hf6, hfm⟩
    tm_at "a"
    refine w_lay (by show 0 ≤ 100000; decide) fun bh0 H2 s2 n2 h2 => ?_
    have s02 := s1.trans s2
    tm_at "a"
    refine w_dr (hdr.mono s02) (by decide) (by decide) (fun d0 hd0 => ?_)
    tm_at "a"
    obtain ⟨nn, hnn⟩ : ∃ nn : Nat, 1 + d0 % 3 = (nn : Int) := Int.eq_ofNat_of_zero_le (by have := Int.emod_nonneg d0 (by decide : (3 : Int) ≠ 0); omega)
    have hn3 : nn ≤ 3 := by have := Int.emod_lt_of_pos d0 (by decide : (0 : Int) < 3); omega
    rw [hnn]
    refine w_rng (n := nn) (fun k σ H' => ∃ bh xs bd o7 o8 o9 o10 o11 o12 o13 o14, σ = [some (.ref dl), some (.ref nl), some (.int b), some (.ref cl), some (.bl lp), some (.ref fl), some (.ref bh), o7, o8, o9, o10, o11, o12, o13, o14] ∧
        Same H1 H' ∧ H' bh = some (.lst xs) ∧ H1 bh = none ∧ BdV H' xs bd ∧ xs.length ≤ 2 * k ∧ Sm names b cs bd (31 * k) 3)
      (by omega) ⟨bh0, [], .nil, none, none, none, none, none, none, none, none, rfl, s2, h2, n2, rfl, Nat.zero_le _, ⟨trivial, Nat.le_refl _, Nat.zero_le _⟩⟩ (fun k σ H3 hk h => ?_) (fun σ H3 h => ?_)
    · obtain ⟨bh, xs, bd, o7, o8, o9, o10, o11, o12, o13, o14, rfl, s3, hbh, hb1, hbv, hxl, hsm⟩ := h
      have hk3 : k < 3 := by omega
      have s03 := s1.trans s3
      have fin : ∀ (H4 : Hp) (v : V) (bd2 : Body), Same H3 H4 → BdV H4 [v] bd2 → Sm names b cs bd2 31 3 → Same H1 (upd H4 bh (.lst (xs ++ [v]))) ∧ (upd H4 bh (.lst (xs ++ [v]))) bh = some (.lst (xs ++ [v])) ∧ H1 bh = none ∧ BdV (upd H4 bh (.lst (xs ++ [v]))) (xs ++ [v]) (bd.app bd2) ∧
          (xs ++ [v]).length ≤ 2 * (k + 1) ∧ Sm names b cs (bd.app bd2) (31 * (k + 1)) 3 := fun H4 v bd2 s4 h2 h3 => by
        have i4 : Im H4 (upd H4 bh (.lst (xs ++ [v]))) := Im.upd fun zs z => by rw [s4 _ _ hbh] at z; cases z
        exact ⟨(s3.trans s4).mut hb1, upd_same, hb1, ((hbv.mono (Im.of s4)).app h2).mono i4, by rw [List.length_append, List.length_singleton]; omega, (hsm.app h3).mono (by omega) (by omega)⟩
      tm_at "a"
      refine w_mull (by decide) (by decide) ?_
      tm_at "a"
      refine w_dr (hdr.mono s03) (by omega) (by omega) (fun d1 hd1 => ?_)
      tm_at "a"
      refine ⟨dl, fl, cl, _, _, b, fixed, cs, rfl, hdr.mono s03, s3 _ _ hfl, s03 _ _ hc, hfne, hf6, by omega, by omega, Int.emod_nonneg _ (by decide), by have := Int.emod_lt_of_pos d1 (by decide : (0 : Int) < 3); omega, hb, fun H4 v1 A1 s4 hv1 sm1 => ?_⟩
      obtain ⟨pa, xa, rfl, ha1, ha2⟩ := hv1
      have s04 := s03.trans s4
      tm_at "a"
      refine w_dr (hdr.mono s04) (by omega) (by omega) (fun d2 hd2 => ?_)
      tm_at "a"
      refine ⟨dl, fl, cl, _, _, b, fixed, cs, rfl, hdr.mono s04, s4 _ _ (s3 _ _ hfl), s04 _ _ hc, hfne, hf6, by omega, by omega, Int.emod_nonneg _ (by decide), by have := Int.emod_lt_of_pos d2 (by decide : (0 : Int) < 3); omega, hb, fun H5 v2 B1 s5 hv2 sm2 => ?_⟩
      obtain ⟨pb, xb, rfl, hb1', hb2'⟩ := hv2
      have s05 := s04.trans s5
      have s35 := s4.trans s5
      have ha1 := s5 _ _ ha1
      have ha2 := ha2.mono (Im.of s5)
      have sm1 := sm1.vmono hfm
      have sm2 := sm2.vmono hfm
      have lxa : xa.length ≤ 2 := Nat.le_trans ha2.len_sc sm1.sc
      have lxb : xb.length ≤ 2 := Nat.le_trans hb2'.len_sc sm2.sc
      tm_at "a"
      refine w_dr (hdr.mono s05) (by omega) (by omega) (fun d3 hd3 => ?_)
      tm_at "a"
      refine w_b (fun e0 => ?_) (fun e0 => ?_)
      · tm_at "a"
        refine w_listT ha1 fun ll H6 s6 n6 h6 => ?_
        tm_at "a"
        have s36 := s35.trans s6
        refine w_lcat (s36 _ _ hbh) h6 (by omega) fun bh2 H7 s7 n7 h7 => ?_
        have s37 := s36.trans s7
        have i57 := Im.of (s6.trans s7)
        refine ⟨bh2, _, bd.app A1, _, _, _, _, _, _, _, _, rfl, s3.trans s37, h7, (s3.trans s36).free n7, (hbv.mono (Im.of s37)).app (ha2.mono i57), by rw [List.length_append]; omega, (hsm.app sm1).mono (by omega) (by omega)⟩
      · tm_at "a"
        refine ⟨dl, pa, pb, nl, _, b, lp, names, cs, xa, xb, A1, B1, 2, 0, rfl, hdr.mono s05, s05 _ _ hn, hne, by omega, by omega, hb, ha1, ha2, hb1', hb2', sm1, sm2, by decide, fun H6 w1 bs1 s6 hw1 sb1 => ?_⟩
        have s36 := s35.trans s6
        have s06 := s05.trans s6
        tm_at "a"
        refine w_dr (hdr.mono s06) (by omega) (by omega) (fun d4 hd4 => ?_)
        tm_at "a"
        refine w_b2 (fun e1 => ?_) (fun e1 => ?_)
        · tm_at "a"
          refine w_tyL (s36 _ _ hbh) ?_
          tm_at "a"
          refine w_append (s36 _ _ hbh) (by omega) ?_
          tm_at "a"
          exact ⟨bh, _, bd.app bs1, _, _, _, _, _, _, _, _, rfl, fin _ _ bs1 s36 hw1 (sb1.mono (by decide) (by decide))⟩
        · have ha1 := s6 _ _ ha1
          have ha2 := ha2.mono (Im.of s6)
          have hb1' := s6 _ _ hb1'
          have hb2' := hb2'.mono (Im.of s6)
          tm_at "a"
          -- ((inner,) + first[:1], second)
          refine w_lay (by show 1 ≤ 100000; decide) fun r1 G1 t1 m1 g1 => ?_
          tm_at "a"
          refine w_slT (k := 1) (t1 _ _ ha1) fun r2 G2 t2 g2 => ?_
          refine w_catG (t2 _ _ g1) g2 (by rw [List.length_take, List.length_singleton]; omega) fun r3 G3 t3 g3 => ?_
          tm_at "a"
          refine w_lay (by show 2 ≤ 100000; decide) fun r4 G4 t4 m4 g4 => ?_
          have u4 := ((t1.trans t2).trans t3).trans t4
          tm_at "a"
          -- (first[:1] + (inner,), second)
          refine w_slT (k := 1) (u4 _ _ ha1) fun r5 G5 t5 g5 => ?_
          tm_at "a"
          refine w_lay (by show 1 ≤ 100000; decide) fun r6 G6 t6 m6 g6 => ?_
          refine w_catG (t6 _ _ g5) g6 (by rw [List.length_take, List.length_singleton]; omega) fun r7 G7 t7 g7 => ?_
          tm_at "a"
          refine w_lay (by show 2 ≤ 100000; decide) fun r8 G8 t8 m8 g8 => ?_
          have u48 := ((t5.trans t6).trans t7).trans t8
          have u8 := u4.trans u48
          tm_at "a"
          -- (first, (inner,) + second[:1])
          refine w_lay (by show 1 ≤ 100000; decide) fun r9 G9 t9 m9 g9 => ?_
          tm_at "a"
          refine w_slT (k := 1) (t9 _ _ (u8 _ _ hb1')) fun r10 G10 t10 g10 => ?_
          refine w_catG (t10 _ _ g9) g10 (by rw [List.length_take, List.length_singleton]; omega) fun r11 G11 t11 g11 => ?_
          tm_at "a"
          refine w_lay (by show 2 ≤ 100000; decide) fun r12 G12 t12 m12 g12 => ?_
          have u8C := ((t9.trans t10).trans t11).trans t12
          have uC := u8.trans u8C
          tm_at "a"
          refine w_lay (by show 3 ≤ 100000; decide) fun ol G13 t13 m13 g13 => ?_
          have uD := uC.trans t13
          have iD := Im.of uD
          have p1 : PrA G13 (.ref r4) names b cs 7 1 :=
            ⟨r4, r3, pb, _, xb, bs1.app (tk1 A1), B1, rfl, t13 _ _ (u8C _ _ (u48 _ _ g4)), t13 _ _ (u8C _ _ (u48 _ _ (t4 _ _ g3))), (hw1.mono iD).app (tk1_bd (ha2.mono iD)), uD _ _ hb1', hb2'.mono iD, (sb1.app sm1.tk1).mono (by decide) (by decide), sm2.mono (by decide) (by decide)⟩
          have p2 : PrA G13 (.ref r8) names b cs 7 1 :=
            ⟨r8, r7, pb, _, xb, (tk1 A1).app bs1, B1, rfl, t13 _ _ (u8C _ _ g8), t13 _ _ (u8C _ _ (t8 _ _ g7)), (tk1_bd (ha2.mono iD)).app (hw1.mono iD), uD _ _ hb1', hb2'.mono iD, (sm1.tk1.app sb1).mono (by decide) (by decide), sm2.mono (by decide) (by decide)⟩
          have p3 : PrA G13 (.ref r12) names b cs 7 1 :=
            ⟨r12, pa, r11, xa, _, A1, bs1.app (tk1 B1), rfl, t13 _ _ g12, uD _ _ ha1, ha2.mono iD, t13 _ _ (t12 _ _ g11), (hw1.mono iD).app (tk1_bd (hb2'.mono iD)), sm1.mono (by decide) (by decide), (sb1.app sm2.tk1).mono (by decide) (by decide)⟩
          tm_at "a"
          refine w_pick g13 (Int.emod_nonneg _ (by decide)) (by show _ < (3 : Int); exact Int.emod_lt_of_pos _ (by decide)) (fun v hv => ?_)
          have pv : PrA G13 v names b cs 7 1 := by
            simp only [List.mem_cons, List.not_mem_nil, or_false] at hv
            rcases hv with z | z | z <;> subst z
            · exact p1
            · exact p2
            · exact p3
          obtain ⟨ro, qa, qb, ya, yb, A2, B2, rfl, k1, k2, k3, k4, k5, k6, k7⟩ := pv
          have s0D := s06.trans uD
          tm_at "a"
          refine w_ixT k1 (atI_nat (j := 0) rfl) ?_
          tm_at "a"
          refine w_ixT k1 (atI_nat (j := 1) rfl) ?_
          tm_at "a"
          refine ⟨dl, qa, qb, nl, _, b, lp, names, cs, ya, yb, A2, B2, 7, 1, rfl, hdr.mono s0D, s0D _ _ hn, hne, by omega, by omega, hb, k2, k3, k4, k5, k6, k7, by decide, fun H7 w2 bs2 s7 hw2 sb2 => ?_⟩
          have u7 := uD.trans s7
          have s07 := s0D.trans s7
          have s37 := s36.trans u7
          have ha1 := u7 _ _ ha1
          have ha2 := ha2.mono (Im.of u7)
          have hb1' := u7 _ _ hb1'
          have hb2' := hb2'.mono (Im.of u7)
          tm_at "a"
          refine w_b2 (fun e2 => ?_) (fun e2 => ?_)
          · tm_at "a"
            refine w_tyL (s37 _ _ hbh) ?_
            tm_at "a"
            refine w_append (s37 _ _ hbh) (by omega) ?_
            tm_at "a"
            exact ⟨bh, _, bd.app bs2, _, _, _, _, _, _, _, _, rfl, fin _ _ bs2 s37 hw2 (sb2.mono (by decide) (by decide))⟩
          · tm_at "a"
            refine w_lay (by show 1 ≤ 100000; decide) fun x1 F1 v1 m1' f1 => ?_
            tm_at "a"
            refine w_slT (k := 1) (v1 _ _ hb1') fun x2 F2 v2 f2 => ?_
            tm_at "a"
            refine w_lay (by show 2 ≤ 100000; decide) fun x3 F3 v3 m3' f3 => ?_
            have z3 := (v1.trans v2).trans v3
            tm_at "a"
            refine w_slT (k := 1) (z3 _ _ ha1) fun x4 F4 v4 f4 => ?_
            tm_at "a"
            refine w_lay (by show 1 ≤ 100000; decide) fun x5 F5 v5 m5' f5 => ?_
            tm_at "a"
            refine w_lay (by show 2 ≤ 100000; decide) fun x6 F6 v6 m6' f6 => ?_
            tm_at "a"
            have z36 := (v4.trans v5).trans v6
            refine w_lay (by show 2 ≤ 100000; decide) fun x7 F7 v7 m7' f7 => ?_
            have z37 := z36.trans v7
            have z7 := z3.trans z37
            have i7 := Im.of z7
            have p1 : PrA F7 (.ref x3) names b cs 15 2 :=
              ⟨x3, x1, x2, _, _, bs2, tk1 B1, rfl, z37 _ _ f3, z37 _ _ (v3 _ _ (v2 _ _ f1)), hw2.mono i7, z37 _ _ (v3 _ _ f2), tk1_bd (hb2'.mono i7), sb2.mono (by decide) (by decide), sm2.tk1.mono (by decide) (by decide)⟩
            have p2 : PrA F7 (.ref x6) names b cs 15 2 :=
              ⟨x6, x4, x5, _, _, tk1 A1, bs2, rfl, v7 _ _ f6, v7 _ _ (v6 _ _ (v5 _ _ f4)), tk1_bd (ha2.mono i7), v7 _ _ (v6 _ _ f5), hw2.mono i7, sm1.tk1.mono (by decide) (by decide), sb2.mono (by decide) (by decide)⟩
            tm_at "a"
            refine w_pick f7 (Int.emod_nonneg _ (by decide)) (by show _ < (2 : Int); exact Int.emod_lt_of_pos _ (by decide)) (fun v hv => ?_)
            have pv : PrA F7 v names b cs 15 2 := by
              simp only [List.mem_cons, List.not_mem_nil, or_false] at hv
              rcases hv with z | z <;> subst z
              · exact p1
              · exact p2
            obtain ⟨ro, qa, qb, ya, yb, A2, B2, rfl, k1, k2, k3, k4, k5, k6, k7⟩ := pv
            have s0F := s07.trans z7
            tm_at "a"
            refine w_ixT k1 (atI_nat (j := 0) rfl) ?_
            tm_at "a"
            refine w_ixT k1 (atI_nat (j := 1) rfl) ?_
            tm_at "a"
            refine ⟨dl, qa, qb, nl, _, b, lp, names, cs, ya, yb, A2, B2, 15, 2, rfl, hdr.mono s0F, s0F _ _ hn, hne, by omega, by omega, hb, k2, k3, k4, k5, k6, k7, by decide, fun H8 w3 bs3 s8 hw3 sb3 => ?_⟩
            have s38 := (s37.trans z7).trans s8
            tm_at "a"
            refine w_tyL (s38 _ _ hbh) ?_
            tm_at "a"
            refine w_append (s38 _ _ hbh) (by omega) ?_
            tm_at "a"
            exact ⟨bh, _, bd.app bs3, _, _, _, _, _, _, _, _, rfl, fin _ _ bs3 s38 hw3 sb3⟩
    · obtain ⟨bh, xs, bd, o7, o8, o9, o10, o11, o12, o13, o14, rfl, s3, hbh, _, hbv, hxl, hsm⟩ := h
      tm_at "a"
      refine w_tupL hbh fun r H4 s4 n4 h4 => ?_
      exact q H4 _ bd ((s1.trans s3).trans s4) ⟨r, xs, rfl, h4, hbv.mono (Im.of s4)⟩ (hsm.mono (by omega) (Nat.le_refl _))
end
end Kt
end -- KGm
section -- KGp
set_option Elab.async false
set_option linter.all false
set_option maxRecDepth 100000
set_option maxHeartbeats 4000000
/-! KGp: the law's program, store, the program around. -/
namespace Kt
open PySem L2
/-- a told program -/
structure TldOk (w : Nat) (vars ks cn : List Str) (R : Str → Body) : Prop where
  w1 : 1 ≤ w
  w8 : w ≤ 8
  v1 : 1 ≤ vars.length
  v6 : vars.length ≤ 6
  vn : ∀ x ∈ vars, x ∈ nameL
  vd : vars.Nodup
  kd : ks.Nodup
  k3 : ks.length ≤ 3
  kn : ∀ x ∈ ks, x ∈ nameL ∧ x ≠ "zz"
  main : ("main" : Str) ∈ ks
  cno : ∀ q ∈ cn, q ∈ ks ∧ q ≠ "main"
  bok : ∀ k ∈ ks, Sm vars (2 ^ w) cn (R k) 60 10 ∨ (k = "main" ∧ Sm vars (2 ^ w) cn (R k) 93 10)
  sm : ((ks.map R).map sc).sum ≤ 150
def ToldA (H : Hp) (v : V) (w : Nat) (vars ks cn : List Str) (R : Str → Body) : Prop := ∃ r vt dt kvs, v = .ref r ∧ H r = some (.tup [.int (w : Nat), .ref vt, .ref dt]) ∧ H vt = some (.tup (vars.map V.str)) ∧ H dt = some (.dK kvs) ∧ PrP H kvs ks R
theorem ToldA.mono {H H' : Hp} (s : Same H H') {v : V} {w : Nat} {vars ks cn : List Str} {R : Str → Body} (h : ToldA H v w vars ks cn R) : ToldA H' v w vars ks cn R :=
  let ⟨r, vt, dt, kvs, e, h1, h2, h3, h4⟩ := h
  ⟨r, vt, dt, kvs, e, s _ _ h1, s _ _ h2, s _ _ h3, h4.mono (Im.of s)⟩
theorem TldOk.bok2 {w : Nat} {vars ks cn : List Str} {R : Str → Body} (h : TldOk w vars ks cn R) {k : Str} (hk : k ∈ ks) : BOk vars (2 ^ w) cn (R k) ∧ dp (R k) ≤ 10 := by
  rcases h.bok k hk with z | ⟨_, z⟩
  · exact ⟨z.ok, z.dp⟩
  · exact ⟨z.ok, z.dp⟩
theorem TldOk.pg {w : Nat} {vars ks cn : List Str} {R : Str → Body} (h : TldOk w vars ks cn R) : PgOk w vars ks cn R :=
  ⟨h.w1, h.w8, h.v1, h.v6, h.vn, h.vd, Nat.le_trans h.k3 (by decide), fun x hx => (h.kn x hx).1, h.main, h.cno, fun k hk => h.bok2 hk, Nat.le_trans h.sm (by decide)⟩
def powL : List V := [.int 1, .int 2, .int 4, .int 8, .int 16, .int 32, .int 64, .int 128, .int 256]
theorem pow_at {w : Nat} (h : w ≤ 8) : atI powL ((w : Nat) : Int) = some (.int (2 ^ w)) := by
  have : w = 0 ∨ w = 1 ∨ w = 2 ∨ w = 3 ∨ w = 4 ∨ w = 5 ∨ w = 6 ∨ w = 7 ∨ w = 8 := by omega
  rcases this with e | e | e | e | e | e | e | e | e <;> subst e <;> rfl
def nm6 : List Str := ["a", "b", "cc", "d", "eeeeeeee", "ff"]
def pq : List Str := ["p", "q"]
theorem nm6_in : ∀ x ∈ nm6, x ∈ nameL := by decide +kernel
theorem nm6_nd : nm6.Nodup := by decide +kernel
theorem pq_nd : pq.Nodup := by decide +kernel
theorem pq_in : ∀ x ∈ pq ++ [("main" : Str)], x ∈ nameL ∧ x ≠ "zz" := by decide +kernel
theorem pq_main : ∀ x ∈ pq, x ≠ "main" := by decide +kernel
theorem pqm_nd : (pq ++ [("main" : Str)]).Nodup := by decide +kernel
theorem sum_le {R : Str → Body} {m : Nat} : ∀ l : List Str, (∀ x ∈ l, sc (R x) ≤ m) → ((l.map R).map sc).sum ≤ m * l.length
  | [], _ => Nat.zero_le _
  | x :: r, h => by
    have h1 := h x (List.mem_cons_self ..)
    have h2 := sum_le r fun y hy => h y (List.mem_cons_of_mem _ hy)
    simp only [List.map_cons, List.sum_cons, List.length_cons, Nat.mul_succ]
    omega
theorem Sm.cmono {vars : List Str} {n : Int} {cn cn' : List Str} {b : Body} {k d : Nat} (h : ∀ x ∈ cn, x ∈ cn') (s : Sm vars n cn b k d) : Sm vars n cn' b k d := ⟨s.ok.mono h, s.sc, s.dp⟩
def spLProg : Sp := fun vs H Q _ => ∃ (dl : Addr) (lp : Bool), vs = [.ref dl, .bl lp] ∧ DrA H dl ∧ ∀ H' v w vars ks cn R, Same H H' → ToldA H' v w vars ks cn R → TldOk w vars ks cn R → Q v H'
def spLStore : Sp := fun vs H Q _ => ∃ (dl : Addr) (at_ : Int) (tv : V) (w : Nat) (vars ks cn : List Str) (R : Str → Body), vs = [.ref dl, .int at_, tv] ∧ DrA H dl ∧ 0 ≤ at_ ∧ at_ ≤ 120 ∧ ToldA H tv w vars ks cn R ∧ TldOk w vars ks cn R ∧
  ∀ H' sa st, Same H H' → StA H' sa st → StOk vars (2 ^ w) st → Q (.ref sa) H'
def arR (R : Str → Body) (m : Body) : Str → Body := setR (setR R "zz" (R "main")) "main" m
def spLAround (a : Ad) : Sp := fun vs H Q _ => ∃ (tv mv : V) (w : Nat) (vars ks cn : List Str) (R : Str → Body) (m : Body), vs = [tv, mv] ∧ ToldA H tv w vars ks cn R ∧ TldOk w vars ks cn R ∧ BdT H mv m ∧ BOk vars (2 ^ w) (cn ++ [("zz" : Str)]) m ∧ sc m ≤ 2 ∧ dp m = 0 ∧
  ∀ H' r ns, Same H H' → ns.Perm (ks ++ [("zz" : Str)]) → PgA a H' r ⟨w, vars, ns, arR R m⟩ → PgOk w vars (ks ++ [("zz" : Str)]) (cn ++ [("zz" : Str)]) (arR R m) → Q (.ref r) H'
section
variable {P : Program} {w : World} {K : PySem.W.Frag} {mg : Str → Option Value} {base : Heap} {a : Ad}
local macro_rules | `(tactic| tm_at "a") => `(tactic| repeat (first
  | with_reducible refine w_seq ?_ | with_reducible refine w_if ?_ | with_reducible refine w_tB ?_ | with_reducible refine w_tTest ?_ | with_reducible refine w_asg ?_ | with_reducible refine w_name ?_
  | with_reducible refine w_ret ?_ | with_reducible refine w_next ?_ | with_reducible refine w_op ?_ | with_reducible refine w_c ?_ | with_reducible refine w_cb ?_ | with_reducible refine w_call ?_ | with_reducible refine w_cons ?_ | with_reducible refine w_nil ?_
  | with_reducible refine w_var (by with_unfolding_all rfl) ?_
  | with_reducible refine w_rI0 ?_ | with_reducible refine w_eq (by with_unfolding_all rfl) ?_ | with_reducible refine w_ne (by with_unfolding_all rfl) ?_
  | with_reducible refine w_test ?_ | with_reducible refine w_T ?_ | with_reducible refine w_F ?_ | with_reducible refine w_T0 ?_ | with_reducible refine w_F0 ?_
  | with_reducible refine w_and ?_ | with_reducible refine w_or ?_ | with_reducible refine w_not ?_ | with_reducible refine w_ifE ?_ | with_reducible refine w_drop ?_
  | with_reducible refine w_andV ?_ | with_reducible refine w_orV ?_ | with_reducible refine w_notV ?_ | with_reducible refine w_dget ?_ | with_reducible refine w_din ?_ | with_reducible refine w_dnin ?_ | with_reducible refine w_fld ?_
  | with_reducible refine w_ttup ?_ | with_reducible refine w_tlst ?_ | with_reducible refine w_un ?_ | with_reducible refine w_rU ?_ | with_reducible refine w_gcons ?_ | with_reducible refine w_gnil ?_ | with_reducible refine w_sub ?_ | with_reducible refine w_sl ?_ | with_reducible refine w_nopart ?_ | with_reducible refine w_part ?_ | with_reducible refine w_int ?_ | with_reducible refine w_meth ?_
  | with_reducible refine w_make ?_ | with_reducible refine w_dput ?_ | with_reducible refine w_sfld ?_ | with_reducible refine w_bm ?_ | with_reducible refine w_bm0 ?_ | with_reducible refine w_isN ?_ | with_reducible refine w_notT ?_ | with_reducible refine w_forR ?_ | with_reducible refine w_forL ?_ | with_reducible refine w_forT ?_ | with_reducible refine w_fldaug ?_ | with_reducible refine w_radd ?_ | with_reducible refine w_par ?_ | with_reducible refine w_pair ?_
  | with_reducible refine w_lcR ?_ | with_reducible refine w_dcR ?_ | with_reducible refine w_lcL ?_ | with_reducible refine w_lcT ?_ | with_reducible refine w_dcT ?_ | with_reducible refine w_yes ?_ | with_reducible refine w_chain ?_
  | with_reducible refine w_modc (by decide) ?_ | with_reducible refine w_divc (by decide) (by decide) ?_ | with_reducible refine w_mulr (by decide) (by decide) ?_))
theorem sc_law_program : FnScope ["_law_draws_here", "_law_loops", "_law_width", "_law_bound", "_law_names", "_law_procedures", "_law_callees", "_law_k", "_law_name"] ["_law_draws_here", "_law_loops"] (defScope s_law_program) := ⟨rfl, rfl, rfl, by decide +kernel, rfl, by decide +kernel, by decide +kernel⟩
theorem ok_lprog (T : Tx w K mg a) : FnOk P w K mg base CX0 5 a.f_law_program a.d_law_program ["_law_draws_here", "_law_loops"] spLProg := by
  have G_law_body : FnOk P w K mg base CX0 3 _ _ _ spLBody := ok_lbody T
  have G_law_main : FnOk P w K mg base CX0 4 _ _ _ spLMain := ok_lmain T
  refine T.F_law_program.ok sc_law_program (fun vs H Q E h => ?_) (fun cdv A outer s H vs Q E hr h => ?_)
  · obtain ⟨dl, lp, rfl, _⟩ := h
    rfl
  · obtain ⟨dl, lp, rfl, hdr, q⟩ := h
    have hu := hu_of hr
    refine ⟨_, (pss_cons (ps_set (i := 2) sc_law_program.nd rfl (Or.inl rfl) (pe_op op_add pe_int (pe_op op_mod (pe_ix ix_list (pv 0) pe_int (fun _ _ => rfl)) pe_int)))
    (pss_cons (ps_set (i := 3) sc_law_program.nd rfl (Or.inl rfl) (pe_ix ix_list (pe_lst (pa_cons pe_int (pa_cons pe_int (pa_cons pe_int (pa_cons pe_int (pa_cons pe_int (pa_cons pe_int (pa_cons pe_int (pa_cons pe_int (pa_cons pe_int pa_nil)))))))))) (pv 2) (fun _ _ => rfl)))
    (pss_cons (ps_set (i := 4) sc_law_program.nd rfl (Or.inl rfl) (pe_slice sl_list (pe_lst (pa_cons pe_str (pa_cons pe_str (pa_cons pe_str (pa_cons pe_str (pa_cons pe_str (pa_cons pe_str pa_nil))))))) po_none (po_some (pe_op op_add pe_int (pe_op op_mod (pe_ix ix_list (pv 0) pe_int (fun _ _ => rfl)) pe_int)))))
    (pss_cons (ps_set (i := 5) sc_law_program.nd rfl (Or.inl rfl) pe_dnewK)
    (pss_cons (ps_set (i := 6) sc_law_program.nd rfl (Or.inl rfl) (pe_lst pa_nil))
    (pss_cons (ps_for PassesOwn.never rfl (pi_range1 rfl T.z_range (pa_cons (pe_op op_mod (pe_ix ix_list (pv 0) pe_int (fun _ _ => rfl)) pe_int) pa_nil)) (pg_name (i := 7) sc_law_program.nd rfl (Or.inl rfl))
      (pss_cons (ps_set (i := 8) sc_law_program.nd rfl (Or.inl rfl) (pe_ix ix_list (pe_lst (pa_cons pe_str (pa_cons pe_str pa_nil))) (pv 7) (fun _ _ => rfl)))
    (pss_cons (ps_dput hu (pv 5) (pv 8) (pe_call G_law_body (hr.mono (by decide)) rfl T.g_law_body T.F_law_body.kp T.b_law_body .nil pass0 (pa_cons (pv 0) (pa_cons (pe_op op_add pe_int (pe_op op_mul pe_int (pv 7))) (pa_cons (pe_op op_mod (pe_ix ix_list (pv 0) (pe_op op_add pe_int (pe_op op_mul pe_int (pv 7))) (fun _ _ => rfl)) pe_int) (pa_cons (pv 4) (pa_cons (pv 3) (pa_cons (pv 6) pa_nil))))))) rfl)
    (pss_one (ps_set (i := 6) sc_law_program.nd rfl (Or.inl rfl) (pe_op op_cat (pv 6) (pe_lst (pa_cons (pv 8) pa_nil))))))))
    (pss_cons (ps_dput hu (pv 5) pe_str (pe_call G_law_main (hr.mono (by decide)) rfl T.g_law_main T.F_law_main.kp T.b_law_main .nil pass0 (pa_cons (pv 0) (pa_cons (pv 4) (pa_cons (pv 3) (pa_cons (pv 6) (pa_cons (pv 1) pa_nil)))))) rfl)
    (pss_cons (ps_if (pt_cmpR op_eq (pe_op op_mod (pe_ix ix_list (pv 0) pe_int (fun _ _ => rfl)) pe_int) pe_int (nomark _)) (pss_one (ps_dput hu (pv 5) pe_str (pe_tup pa_nil) rfl)) pss_nil)
    (pss_one (ps_ret (pe_tup (pa_cons (pv 2) (pa_cons (pe_callTy cl_tup (by rfl) T.z_tuple (by decide +kernel) (pa_cons (pv 4) pa_nil)) (pa_cons (pv 5) pa_nil)))))))))))))), ?_⟩
    tm_at "a"
    refine w_dr hdr (by decide) (by decide) (fun d1 hd1 => ?_)
    tm_at "a"
    obtain ⟨wd, hwd⟩ : ∃ wd : Nat, 1 + d1 % 8 = (wd : Int) := Int.eq_ofNat_of_zero_le (by have := Int.emod_nonneg d1 (by decide : (8 : Int) ≠ 0); omega)
    have hw1 : 1 ≤ wd := by have := Int.emod_nonneg d1 (by decide : (8 : Int) ≠ 0); omega
    have hw8 : wd ≤ 8 := by have := Int.emod_lt_of_pos d1 (by decide : (0 : Int) < 8); omega
    rw [hwd]
    refine w_lay (by show 9 ≤ 100000; decide) fun bl H1 s1 n1 h1 => ?_
    tm_at "a"
    refine w_ixL h1 (pow_at hw8) ?_
    have hb2 : (2 : Int) ≤ 2 ^ wd := by
      obtain ⟨k, rfl⟩ : ∃ k, wd = k + 1 := ⟨wd - 1, by omega⟩
      have := pow_pos k
      rw [Int.pow_succ]
      omega
    tm_at "a"
    refine w_lay (by show 6 ≤ 100000; decide) fun nl0 H2 s2 n2 h2 => ?_
    have s02 := s1.trans s2
    tm_at "a"
    refine w_dr (hdr.mono s02) (by decide) (by decide) (fun d2 hd2 => ?_)
    tm_at "a"
    obtain ⟨nv, hnv⟩ : ∃ nv : Nat, 1 + d2 % 6 = (nv : Int) := Int.eq_ofNat_of_zero_le (by have := Int.emod_nonneg d2 (by decide : (6 : Int) ≠ 0); omega)
    have hnv1 : 1 ≤ nv := by have := Int.emod_nonneg d2 (by decide : (6 : Int) ≠ 0); omega
    have hnv6 : nv ≤ 6 := by have := Int.emod_lt_of_pos d2 (by decide : (0 : Int) < 6); omega
    rw [hnv]
    refine w_slL (SqL.of h2) fun nl H3 s3 n3 h3 => ?_
    obtain ⟨names, hnames⟩ : ∃ names, names = nm6.take nv := ⟨_, rfl⟩
    have e3 : cutV [V.str "a", .str "b", .str "cc", .str "d", .str "eeeeeeee", .str "ff"] none (some ((nv : Nat) : Int)) = names.map V.str := by
      rw [cut_take, hnames, List.map_take]
      rfl
    rw [e3] at h3
    have hnl : names.length = nv := by rw [hnames, List.length_take]; show min nv 6 = nv; omega
    have hne : names ≠ [] := fun z => by rw [z] at hnl; simp at hnl; omega
    have s03 := s02.trans s3
    tm_at "a"
    refine w_dnew fun dt H4 s4 n4 h4 => ?_
    tm_at "a"
    refine w_lay (by show 0 ≤ 100000; decide) fun cl0 H5 s5 n5 h5 => ?_
    have s05 := (s03.trans s4).trans s5
    have s35 := s4.trans s5
    have ndt : H3 dt = none := n4
    tm_at "a"
    refine w_dr (hdr.mono s05) (by decide) (by decide) (fun d3 hd3 => ?_)
    tm_at "a"
    obtain ⟨np, hnp⟩ : ∃ np : Nat, d3 % 3 = (np : Int) := Int.eq_ofNat_of_zero_le (Int.emod_nonneg d3 (by decide : (3 : Int) ≠ 0))
    have hnp2 : np ≤ 2 := by have := Int.emod_lt_of_pos d3 (by decide : (0 : Int) < 3); omega
    rw [hnp]
    refine w_rng (n := np) (fun k σ H' => ∃ o7 o8 cl kvs R, σ = [some (.ref dl), some (.bl lp), some (.int (wd : Nat)), some (.int (2 ^ wd)), some (.ref nl), some (.ref dt), some (.ref cl), o7, o8] ∧ Same H3 H' ∧ H' dt = some (.dK kvs) ∧ PrP H' kvs (pq.take k) R ∧ NmA H' cl (pq.take k) ∧ H3 cl = none ∧ cl ≠ dt ∧
        (∀ x ∈ pq.take k, Sm names (2 ^ wd) (pq.take k) (R x) 2 0))
      (by omega) ⟨none, none, cl0, [], fun _ => .nil, rfl, s35, s5 _ _ h4, .nil, h5, s4.free n5, (fun z => by rw [z, h4] at n5; cases n5), fun x hx => by simp at hx⟩ (fun k σ H6 hk h => ?_) (fun σ H6 h => ?_)
    · obtain ⟨o7, o8, cl, kvs, R, rfl, s6, hdt, hpr, hcl, hcn, hcd, hsm⟩ := h
      have s06 := s03.trans s6
      have hk2 : k < pq.length := by show k < 2; omega
      have hget : pq[k]? = some pq[k] := List.getElem?_eq_getElem hk2
      have htk := take_snoc hget
      have hnew : pq[k] ∉ pq.take k := fun z => by
        have nd := pq_nd
        rw [← List.take_append_drop (k + 1) pq, htk, List.append_assoc] at nd
        exact (List.nodup_append.mp nd).2.2 pq[k] z pq[k] (List.mem_append_left _ (List.mem_singleton_self _)) rfl
      tm_at "a"
      refine w_lay (by show 2 ≤ 100000; decide) fun pl H7 s7 n7 h7 => ?_
      tm_at "a"
      refine w_ixL h7 (v := .str pq[k]) (atI_nat (by
        have e : ([V.str "p", .str "q"] : List V) = pq.map V.str := rfl
        rw [e, List.getElem?_map, hget]
        rfl)) ?_
      have s07 := s06.trans s7
      have s37 := s6.trans s7
      tm_at "a"
      refine w_mull (by decide) (by decide) ?_
      tm_at "a"
      refine w_mull (by decide) (by decide) ?_
      tm_at "a"
      refine w_dr (hdr.mono s07) (by omega) (by omega) (fun d4 hd4 => ?_)
      tm_at "a"
      refine ⟨dl, nl, cl, _, _, _, names, pq.take k, rfl, hdr.mono s07, s37 _ _ h3, s7 _ _ hcl, hne, by omega, by omega, by omega, Int.emod_nonneg _ (by decide), by have := Int.emod_lt_of_pos d4 (by decide : (0 : Int) < 3); omega, hb2, fun H8 v bd s8 hv hs => ?_⟩
      tm_at "a"
      have hdt8 := s8 _ _ (s7 _ _ hdt)
      have hkl : kvs.length = (pq.take k).length := Paired.length hpr
      refine w_dpS hdt8 (by rw [hkl, List.length_take]; omega) ?_
      obtain ⟨H9, hH9⟩ : ∃ H9, H9 = upd H8 dt (.dK (putK kvs (.inr pq[k]) v)) := ⟨_, rfl⟩
      rw [← hH9]
      have i89 : Im H8 H9 := by rw [hH9]; exact Im.upd fun zs z => by rw [hdt8] at z; cases z
      have i69 := ((Im.of s7).trans (Im.of s8)).trans i89
      have hcl9 : H9 cl = some (.lst ((pq.take k).map V.str)) := by rw [hH9, upd_ne hcd]; exact s8 _ _ (s7 _ _ hcl)
      have s39 : Same H3 H9 := by rw [hH9]; exact (s37.trans s8).mut ndt
      tm_at "a"
      refine w_lay (by show 1 ≤ 100000; decide) fun l1 H10 s10 n10 h10 => ?_
      tm_at "a"
      refine w_lcat (s10 _ _ hcl9) h10 (by rw [List.length_map, List.length_take, List.length_singleton]; omega) fun cl2 H11 s11 n11 h11 => ?_
      have s9B := s10.trans s11
      have i9B := Im.of s9B
      have hdt9 : H9 dt = some (.dK (putK kvs (.inr pq[k]) v)) := by rw [hH9]; exact upd_same
      have hsub : ∀ y ∈ pq.take k, y ∈ pq.take (k + 1) := fun y hy => by rw [htk]; exact List.mem_append_left _ hy
      have hR0 : setR R pq[k] bd pq[k] = bd := if_pos rfl
      refine ⟨_, _, cl2, _, setR R pq[k] bd, rfl, s39.trans s9B, s9B _ _ hdt9, ?_, ?_, (s39.trans s10).free n11, (fun z => by rw [z, s10 _ _ hdt9] at n11; cases n11), fun x hx => ?_⟩
      · rw [htk]
        have w1 : PrP H11 kvs (pq.take k) (setR R pq[k] bd) := (hpr.mono (i69.trans i9B)).weak fun y hy => by
          unfold setR
          rw [if_neg (fun z => hnew (by rw [← z]; exact hy))]
        exact w1.new hnew (by rw [hR0]; exact hv.mono (i89.trans i9B))
      · show H11 cl2 = some (.lst ((pq.take (k + 1)).map V.str))
        rw [htk, List.map_append]
        exact h11
      · rw [htk] at hx
        rcases List.mem_append.mp hx with z | z
        · have e : setR R pq[k] bd x = R x := if_neg (fun z2 => hnew (by rw [← z2]; exact z))
          rw [e]
          exact (hsm x z).cmono hsub
        · rw [List.mem_singleton] at z
          rw [z, hR0]
          exact hs.cmono hsub
    · obtain ⟨o7, o8, cl, kvs, R, rfl, s6, hdt, hpr, hcl, hcn, hcd, hsm⟩ := h
      have s06 := s03.trans s6
      have hcm : ∀ y ∈ pq.take np, y ≠ "main" := fun y hy => pq_main y (List.mem_of_mem_take hy)
      have hkl : kvs.length = (pq.take np).length := Paired.length hpr
      tm_at "a"
      refine ⟨dl, nl, cl, _, lp, names, pq.take np, rfl, hdr.mono s06, s6 _ _ h3, hcl, hne, by omega, hb2, fun H7 v bd s7 hv hs => ?_⟩
      tm_at "a"
      refine w_dpS (s7 _ _ hdt) (by rw [hkl, List.length_take]; omega) ?_
      obtain ⟨H8, hH8⟩ : ∃ H8, H8 = upd H7 dt (.dK (putK kvs (.inr "main") v)) := ⟨_, rfl⟩
      rw [← hH8]
      have i78 : Im H7 H8 := by rw [hH8]; exact Im.upd fun zs z => by rw [s7 _ _ hdt] at z; cases z
      have s38 : Same H3 H8 := by rw [hH8]; exact (s6.trans s7).mut ndt
      have hdt8 : H8 dt = some (.dK (putK kvs (.inr "main") v)) := by rw [hH8]; exact upd_same
      have hmn : ("main" : Str) ∉ pq.take np := fun z => hcm _ z rfl
      have hpr8 : PrP H8 (putK kvs (.inr "main") v) (pq.take np ++ [("main" : Str)]) (setR R "main" bd) := by
        have w1 : PrP H8 kvs (pq.take np) (setR R "main" bd) := (hpr.mono ((Im.of s7).trans i78)).weak fun y hy => by
          unfold setR
          rw [if_neg (hcm y hy)]
        exact w1.new hmn (by have e : setR R "main" bd "main" = bd := if_pos rfl; rw [e]; exact hv.mono i78)
      have okR : ∀ b2 : Body, Sm names (2 ^ wd) (pq.take np) b2 93 3 → TldOk wd names (pq.take np ++ [("main" : Str)]) (pq.take np) (setR R "main" b2) := fun b2 hb2' => by
        have hsub : ∀ y ∈ pq.take np ++ [("main" : Str)], y ∈ pq ++ [("main" : Str)] := fun y hy => by
          rcases List.mem_append.mp hy with z | z
          · exact List.mem_append_left _ (List.mem_of_mem_take z)
          · exact List.mem_append_right _ z
        have eo : ∀ y ∈ pq.take np, setR R "main" b2 y = R y := fun y hy => if_neg (hcm y hy)
        have em : setR R "main" b2 "main" = b2 := if_pos rfl
        refine ⟨hw1, hw8, by omega, by omega, fun x hx => nm6_in x (by rw [hnames] at hx; exact List.mem_of_mem_take hx), ?_, ?_, ?_, fun x hx => pq_in x (hsub x hx), by simp, fun y hy => ⟨List.mem_append_left _ hy, hcm y hy⟩, fun y hy => ?_, ?_⟩
        · rw [hnames]
          exact nm6_nd.sublist (List.take_sublist _ _)
        · exact pqm_nd.sublist (List.Sublist.append (List.take_sublist _ _) (List.Sublist.refl _))
        · rw [List.length_append, List.length_take, List.length_singleton]
          show min np 2 + 1 ≤ 3
          omega
        · rcases List.mem_append.mp hy with z | z
          · rw [eo y z]
            exact .inl ((hsm y z).mono (by decide) (by decide))
          · rw [List.mem_singleton] at z
            rw [z, em]
            exact .inr ⟨rfl, hb2'.mono (by decide) (by decide)⟩
        · rw [List.map_append, List.map_append, List.sum_append]
          have z1 := sum_le (R := setR R "main" b2) (m := 2) (pq.take np) fun y hy => by rw [eo y hy]; exact (hsm y hy).sc
          have z2 : (([("main" : Str)].map (setR R "main" b2)).map sc).sum = sc b2 := by
            simp only [List.map_cons, List.map_nil, List.sum_cons, List.sum_nil, em, Nat.add_zero]
          have z3 := hb2'.sc
          have z4 : (pq.take np).length ≤ 2 := by rw [List.length_take]; show min np 2 ≤ 2; omega
          rw [z2]
          omega
      have s08 := s03.trans s38
      tm_at "a"
      refine w_dr (hdr.mono s08) (by decide) (by decide) (fun d5 hd5 => ?_)
      tm_at "a"
      refine w_b (fun e => ?_) (fun e => ?_)
      · tm_at "a"
        refine w_lay (by show 0 ≤ 100000; decide) fun et H9 s9 n9 h9 => ?_
        tm_at "a"
        refine w_dpS (s9 _ _ hdt8) (by have := putK_len' kvs (Sum.inr "main") v; rw [hkl, List.length_take] at this; omega) ?_
        obtain ⟨H10, hH10⟩ : ∃ H10, H10 = upd H9 dt (.dK (putK (putK kvs (.inr "main") v) (.inr "main") (.ref et))) := ⟨_, rfl⟩
        rw [← hH10]
        have i9A : Im H9 H10 := by rw [hH10]; exact Im.upd fun zs z => by rw [s9 _ _ hdt8] at z; cases z
        have s3A : Same H3 H10 := by rw [hH10]; exact (s38.trans s9).mut ndt
        have hdtA : H10 dt = some (.dK (putK (putK kvs (.inr "main") v) (.inr "main") (.ref et))) := by rw [hH10]; exact upd_same
        have hprA := (hpr8.mono ((Im.of s9).trans i9A)).repl (k := "main") (v := .ref et) (b := .nil) (by simp) ⟨et, [], rfl, i9A _ _ h9, rfl⟩
        tm_at "a"
        refine w_tupL (s3A _ _ h3) fun vt H11 s11 n11 h11 => ?_
        tm_at "a"
        refine w_lay (by show 3 ≤ 100000; decide) fun r H12 s12 n12 h12 => ?_
        have sAC := s11.trans s12
        have e : setR (setR R "main" bd) "main" .nil = setR R "main" .nil := by
          funext y
          unfold setR
          split <;> rfl
        rw [e] at hprA
        exact q H12 _ wd names _ (pq.take np) _ ((s03.trans s3A).trans sAC) ⟨r, vt, dt, _, rfl, h12, s12 _ _ h11, sAC _ _ hdtA, hprA.mono (Im.of sAC)⟩ (okR .nil ⟨trivial, Nat.zero_le _, Nat.zero_le _⟩)
      · tm_at "a"
        refine w_tupL (s38 _ _ h3) fun vt H11 s11 n11 h11 => ?_
        tm_at "a"
        refine w_lay (by show 3 ≤ 100000; decide) fun r H12 s12 n12 h12 => ?_
        have sAC := s11.trans s12
        exact q H12 _ wd names _ (pq.take np) _ (s08.trans sAC) ⟨r, vt, dt, _, rfl, h12, s12 _ _ h11, sAC _ _ hdt8, hpr8.mono (Im.of sAC)⟩ (okR bd hs)
end
end Kt
end -- KGp
section -- KGq
set_option Elab.async false
set_option linter.all false
set_option maxRecDepth 100000
set_option maxHeartbeats 4000000
/-! KGq: the law's store, the program around. -/
namespace Kt
open PySem L2
theorem w_setN {H : Hp} {v : V} {p : Addr} {xs : List V} {QH : Hp → Prop} (h : H p = some (.lst xs)) (hl : 0 < xs.length) (q : QH (upd H p (.lst (xs.set (xs.length - 1) v)))) : rSetL (.ref p) (.int (-1)) v H QH := by
  refine ⟨p, xs, -1, xs.length - 1, rfl, rfl, h, ?_, q⟩
  unfold ixN
  rw [if_neg (by decide), if_pos (by omega)]
  congr 1
  omega
theorem zz_in : ("zz" : Str) ∈ nameL := by decide +kernel
theorem mem_set {α : Type} {l : List α} {i : Nat} {x y : α} (h : y ∈ l.set i x) : y ∈ l ∨ y = x := by
  rcases List.mem_or_eq_of_mem_set h with z | z
  · exact .inl z
  · exact .inr z
section
variable {P : Program} {w : World} {K : PySem.W.Frag} {mg : Str → Option Value} {base : Heap} {a : Ad}
local macro_rules | `(tactic| tm_at "a") => `(tactic| repeat (first
  | with_reducible refine w_seq ?_ | with_reducible refine w_if ?_ | with_reducible refine w_tB ?_ | with_reducible refine w_tTest ?_ | with_reducible refine w_asg ?_ | with_reducible refine w_name ?_
  | with_reducible refine w_ret ?_ | with_reducible refine w_next ?_ | with_reducible refine w_op ?_ | with_reducible refine w_c ?_ | with_reducible refine w_cb ?_ | with_reducible refine w_call ?_ | with_reducible refine w_cons ?_ | with_reducible refine w_nil ?_
  | with_reducible refine w_var (by with_unfolding_all rfl) ?_
  | with_reducible refine w_rI0 ?_ | with_reducible refine w_eq (by with_unfolding_all rfl) ?_ | with_reducible refine w_ne (by with_unfolding_all rfl) ?_
  | with_reducible refine w_test ?_ | with_reducible refine w_T ?_ | with_reducible refine w_F ?_ | with_reducible refine w_T0 ?_ | with_reducible refine w_F0 ?_
  | with_reducible refine w_and ?_ | with_reducible refine w_or ?_ | with_reducible refine w_not ?_ | with_reducible refine w_ifE ?_ | with_reducible refine w_drop ?_
  | with_reducible refine w_andV ?_ | with_reducible refine w_orV ?_ | with_reducible refine w_notV ?_ | with_reducible refine w_dget ?_ | with_reducible refine w_din ?_ | with_reducible refine w_dnin ?_ | with_reducible refine w_fld ?_
  | with_reducible refine w_ttup ?_ | with_reducible refine w_tlst ?_ | with_reducible refine w_un ?_ | with_reducible refine w_rU ?_ | with_reducible refine w_gcons ?_ | with_reducible refine w_gnil ?_ | with_reducible refine w_sub ?_ | with_reducible refine w_sl ?_ | with_reducible refine w_nopart ?_ | with_reducible refine w_part ?_ | with_reducible refine w_int ?_ | with_reducible refine w_meth ?_
  | with_reducible refine w_make ?_ | with_reducible refine w_dput ?_ | with_reducible refine w_sfld ?_ | with_reducible refine w_bm ?_ | with_reducible refine w_bm0 ?_ | with_reducible refine w_isN ?_ | with_reducible refine w_notT ?_ | with_reducible refine w_forR ?_ | with_reducible refine w_forL ?_ | with_reducible refine w_forT ?_ | with_reducible refine w_fldaug ?_ | with_reducible refine w_radd ?_ | with_reducible refine w_par ?_ | with_reducible refine w_pair ?_
  | with_reducible refine w_lcR ?_ | with_reducible refine w_dcR ?_ | with_reducible refine w_lcL ?_ | with_reducible refine w_lcT ?_ | with_reducible refine w_dcT ?_ | with_reducible refine w_yes ?_ | with_reducible refine w_chain ?_
  | with_reducible refine w_modc (by decide) ?_ | with_reducible refine w_divc (by decide) (by decide) ?_ | with_reducible refine w_mulr (by decide) (by decide) ?_))
theorem sc_law_store : FnScope ["_law_draws_here", "_law_at", "_law_told", "_law_bound", "_law_values", "_law_k"] ["_law_draws_here", "_law_at", "_law_told"] (defScope s_law_store) := ⟨rfl, rfl, rfl, by decide +kernel, rfl, by decide +kernel, by decide +kernel⟩
theorem ok_lstore (T : Tx w K mg a) : FnOk P w K mg base CX0 1 a.f_law_store a.d_law_store ["_law_draws_here", "_law_at", "_law_told"] spLStore := by
  refine T.F_law_store.ok sc_law_store (fun vs H Q E h => ?_) (fun cdv A outer s H vs Q E hr h => ?_)
  · obtain ⟨dl, at_, tv, wd, vars, ks, cn, R, rfl, _⟩ := h
    rfl
  · obtain ⟨dl, at_, tv, wd, vars, ks, cn, R, rfl, hdr, ha0, ha1, ht, hok, q⟩ := h
    have hu := hu_of hr
    obtain ⟨r, vt, dt, kvs, rfl, hr1, hvt, hdt, hpr⟩ := ht
    have v1 := hok.v1
    have v6 := hok.v6
    have hpos := pow_pos wd
    refine ⟨_, (pss_cons (ps_set (i := 3) sc_law_store.nd rfl (by first | exact Or.inl rfl | exact Or.inr rfl) (pe_ix ix_list (pe_lst (pa_cons pe_int (pa_cons pe_int (pa_cons pe_int (pa_cons pe_int (pa_cons pe_int (pa_cons pe_int (pa_cons pe_int (pa_cons pe_int (pa_cons pe_int pa_nil)))))))))) (pe_ix ix_tup (pv 2) pe_int (fun _ _ => rfl)) (fun _ _ => rfl)))
    (pss_cons (ps_setLc (i := 4) (own := [("_law_k", 5)]) (g := gName 5) (tt := tYes) rfl sc_law_store.nd rfl rfl (sw_true rfl rfl rfl (by decide +kernel)) (pi_range1 rfl T.z_range (pa_cons (pe_callB cl_len (by rfl) T.z_len PySem.boot_len (pa_cons (pe_ix ix_tup (pv 2) pe_int (fun _ _ => rfl)) pa_nil)) pa_nil)) (blkOk_by (own := [("_law_k", 5)]) (N := ["_law_draws_here", "_law_at", "_law_told", "_law_bound", "_law_values", "_law_k"]) (sc := defScope s_law_store) (by decide +kernel)) (fun _ _ _ _ _ => pg_name (i := 5) sc_law_store.nd rfl (Or.inl rfl)) (fun _ _ _ _ _ => pts_nil) (fun _ _ _ _ _ => by exact (by exact (pe_op op_mod (by exact (pe_ix (r := rIxL K) ix_list (by exact (pv 0)) (by exact (pe_op op_add (by exact (pv 1)) (by exact (pv 5)))) (fun _ _ => rfl))) (by exact (pv 3))))))
    (pss_cons (ps_if (pt_cmpR op_gt (pe_op op_mod (pe_ix ix_list (pv 0) (pe_op op_add (pv 1) pe_int) (fun _ _ => rfl)) pe_int) pe_int (nomark _)) (pss_one (ps_asg pe_int (pg_sub (pv 4) (pe_un un_neg pe_int) set_list))) pss_nil)
    (pss_one (ps_ret (pe_callTy cl_tup (by rfl) T.z_tuple (by decide +kernel) (pa_cons (pv 4) pa_nil))))))), ?_⟩
    tm_at "a"
    refine w_lay (by show 9 ≤ 100000; decide) fun bl H1 s1 n1 h1 => ?_
    tm_at "a"
    refine w_ixT (s1 _ _ hr1) (atI_nat (j := 0) rfl) ?_
    refine w_ixL h1 (pow_at hok.w8) ?_
    tm_at "a"
    refine w_ixT (s1 _ _ hr1) (atI_nat (j := 1) rfl) ?_
    tm_at "a"
    refine w_lenT (s1 _ _ hvt) ?_
    tm_at "a"
    rw [List.length_map]
    refine w_lcrng (n := vars.length) (by omega) fun D hD => ⟨fun i H' => ∃ st : List Int, Same H1 H' ∧ H' D = some (.lst (st.map V.int)) ∧ st.length = i ∧ ∀ x ∈ st, 0 ≤ x ∧ x < 2 ^ wd, ⟨[], Same.new hD, upd_same, rfl, fun x hx => by cases hx⟩, fun i H' hi h => ?_, fun H2 h => ?_⟩
    · obtain ⟨st, s2, h2, hl, hst⟩ := h
      tm_at "a"
      refine ⟨rfl, ?_⟩
      tm_at "a"
      refine w_dr (hdr.mono (s1.trans s2)) (by omega) (by omega) (fun d hd => ?_)
      tm_at "a"
      refine w_modc (by omega) ?_
      refine w_acc h2 (by rw [List.length_map]; omega) ?_
      refine ⟨st ++ [d % 2 ^ wd], s2.mut hD, by rw [List.map_append]; exact upd_same, by rw [List.length_append, List.length_singleton, hl], fun x hx => ?_⟩
      rcases List.mem_append.mp hx with z | z
      · exact hst x z
      · rw [List.mem_singleton] at z
        subst z
        exact ⟨Int.emod_nonneg _ (by omega), Int.emod_lt_of_pos _ hpos⟩
    · obtain ⟨st, s2, h2, hl, hst⟩ := h
      tm_at "a"
      refine w_dr (hdr.mono (s1.trans s2)) (by omega) (by omega) (fun d hd => ?_)
      tm_at "a"
      refine w_b (fun e => ?_) (fun e => ?_)
      · tm_at "a"
        refine w_setN h2 (by rw [List.length_map]; omega) ?_
        tm_at "a"
        refine w_tupL upd_same fun rt H3 s3 n3 h3 => ?_
        have e1 : (st.map V.int).set ((st.map V.int).length - 1) (.int 0) = (st.set (st.length - 1) 0).map V.int := by
          rw [List.map_set, List.length_map]
        rw [e1] at h3
        refine q H3 rt (st.set (st.length - 1) 0) ((s1.trans (s2.mut hD)).trans s3) h3 ⟨by rw [List.length_set, hl], fun x hx => ?_⟩
        rcases mem_set hx with z | z
        · exact hst x z
        · subst z
          exact ⟨Int.le_refl _, hpos⟩
      · tm_at "a"
        refine w_tupL h2 fun rt H3 s3 n3 h3 => ?_
        exact q H3 rt st ((s1.trans s2).trans s3) h3 ⟨hl, hst⟩
theorem sc_law_around : FnScope ["_law_told", "_law_main_here", "_law_procedures"] ["_law_told", "_law_main_here"] (defScope s_law_around) := ⟨rfl, rfl, rfl, by decide +kernel, rfl, by decide +kernel, by decide +kernel⟩
theorem ok_laround (T : Tx w K mg a) : FnOk P w K mg base CX0 9 a.f_law_around a.d_law_around ["_law_told", "_law_main_here"] (spLAround a) := by
  have G_Program_init : FnOk P w K mg base CX0 7 _ _ _ (spPgInit a) := ok_pginit T
  refine T.F_law_around.ok sc_law_around (fun vs H Q E h => ?_) (fun cdv A outer s H vs Q E hr h => ?_)
  · obtain ⟨tv, mv, wd, vars, ks, cn, R, m, rfl, _⟩ := h
    rfl
  · obtain ⟨tv, mv, wd, vars, ks, cn, R, m, rfl, ht, hok, hmv, hmok, hmsc, hmdp, q⟩ := h
    have hu := hu_of hr
    obtain ⟨r, vt, dt, kvs, rfl, hr1, hvt, hdt, hpr⟩ := ht
    obtain ⟨vm, hvm, hbm⟩ := hpr.get _ hok.main
    have hkl : kvs.length = ks.length := Paired.length hpr
    have k3 := hok.k3
    refine ⟨_, (pss_cons (ps_set (i := 2) sc_law_around.nd rfl (Or.inl rfl) (pe_callTy cl_dictD (by rfl) T.z_dict (by decide +kernel) (pa_cons (pe_ix ix_tup (pv 0) pe_int (fun _ _ => rfl)) pa_nil)))
    (pss_cons (ps_dput hu (pv 2) pe_str (pe_dget hu (pe_ix ix_tup (pv 0) pe_int (fun _ _ => rfl)) pe_str (fun _ _ => rfl)) rfl)
    (pss_cons (ps_dput hu (pv 2) pe_str (pv 1) rfl)
    (pss_one (ps_ret (pe_make T.mk_Program G_Program_init (hr.mono (by decide)) rfl T.g_Program T.b_Program_init .nil pass0 (pa_cons (pe_ix ix_tup (pv 0) pe_int (fun _ _ => rfl)) (pa_cons (pe_ix ix_tup (pv 0) pe_int (fun _ _ => rfl)) (pa_cons (pv 2) pa_nil))))))))), ?_⟩
    tm_at "a"
    refine w_ixT hr1 (atI_nat (j := 2) rfl) ?_
    tm_at "a"
    refine w_dictD hdt fun nd H1 s1 n1 h1 => ?_
    tm_at "a"
    refine w_ixT (s1 _ _ hr1) (atI_nat (j := 2) rfl) ?_
    tm_at "a"
    refine w_dgS (s1 _ _ hdt) hvm ?_
    tm_at "a"
    refine w_dpS h1 (by omega) ?_
    tm_at "a"
    refine w_dpS upd_same (by have := putK_len' kvs (Sum.inr "zz") vm; omega) ?_
    rw [upd_upd]
    obtain ⟨H2, hH2⟩ : ∃ H2, H2 = upd H1 nd (.dK (putK (putK kvs (.inr "zz") vm) (.inr "main") mv)) := ⟨_, rfl⟩
    rw [← hH2]
    have s02 : Same H H2 := by rw [hH2]; exact s1.mut n1
    have i02 := Im.of s02
    have hnd2 : H2 nd = some (.dK (putK (putK kvs (.inr "zz") vm) (.inr "main") mv)) := by rw [hH2]; exact upd_same
    have hzz : ("zz" : Str) ∉ ks := fun z => (hok.kn _ z).2 rfl
    have p1 : PrP H2 (putK kvs (.inr "zz") vm) (ks ++ [("zz" : Str)]) (setR R "zz" (R "main")) := by
      have w1 : PrP H2 kvs ks (setR R "zz" (R "main")) := (hpr.mono i02).weak fun y hy => by
        unfold setR
        rw [if_neg (hok.kn y hy).2]
      exact w1.new hzz (by have e : setR R "zz" (R "main") "zz" = R "main" := if_pos rfl; rw [e]; exact hbm.mono i02)
    have hmem : ("main" : Str) ∈ ks ++ [("zz" : Str)] := List.mem_append_left _ hok.main
    have p2 : PrP H2 (putK (putK kvs (.inr "zz") vm) (.inr "main") mv) (ks ++ [("zz" : Str)]) (arR R m) := p1.repl hmem (hmv.mono i02)
    have hnd : (ks ++ [("zz" : Str)]).Nodup := by
      rw [List.nodup_append]
      exact ⟨hok.kd, by simp, fun x hx y hy z => by rw [List.mem_singleton] at hy; rw [z, hy] at hx; exact hzz hx⟩
    have eM : arR R m "main" = m := by unfold arR setR; rw [if_pos rfl]
    have nzm : ("zz" : Str) ≠ "main" := by decide +kernel
    have eZ : arR R m "zz" = R "main" := by unfold arR setR; rw [if_neg nzm, if_pos rfl]
    have eO : ∀ k, k ∈ ks → k ≠ "main" → arR R m k = R k := fun k hk hn => by
      unfold arR setR
      rw [if_neg hn, if_neg (hok.kn k hk).2]
    have hcm : ∀ y ∈ cn, y ∈ cn ++ [("zz" : Str)] := fun y hy => List.mem_append_left _ hy
    have hpg : PgOk wd vars (ks ++ [("zz" : Str)]) (cn ++ [("zz" : Str)]) (arR R m) := by
      refine ⟨hok.w1, hok.w8, hok.v1, hok.v6, hok.vn, hok.vd, by rw [List.length_append, List.length_singleton]; omega, fun x hx => ?_, hmem, fun y hy => ?_, fun k hk => ?_, ?_⟩
      · rcases List.mem_append.mp hx with z | z
        · exact (hok.kn x z).1
        · rw [List.mem_singleton] at z
          subst z
          exact zz_in
      · rcases List.mem_append.mp hy with z | z
        · exact ⟨List.mem_append_left _ (hok.cno y z).1, (hok.cno y z).2⟩
        · rw [List.mem_singleton] at z
          subst z
          exact ⟨by simp, nzm⟩
      · by_cases e : k = "main"
        · subst e
          rw [eM, hmdp]
          exact ⟨hmok, Nat.zero_le _⟩
        · rcases List.mem_append.mp hk with z | z
          · rw [eO k z e]
            have := hok.bok2 z
            exact ⟨this.1.mono hcm, this.2⟩
          · rw [List.mem_singleton] at z
            subst z
            rw [eZ]
            have := hok.bok2 hok.main
            exact ⟨this.1.mono hcm, this.2⟩
      · rw [List.map_append, List.map_append, List.sum_append]
        have z2 : (([("zz" : Str)].map (arR R m)).map sc).sum = sc (R "main") := by
          simp only [List.map_cons, List.map_nil, List.sum_cons, List.sum_nil, eZ, Nat.add_zero]
        rw [z2]
        have key : ∀ l : List Str, (∀ k ∈ l, k ∈ ks) → l.Nodup → ("main" : Str) ∈ l → ((l.map (arR R m)).map sc).sum + sc (R "main") = ((l.map R).map sc).sum + sc m := fun l => by
          induction l with
          | nil => intro _ _ h; cases h
          | cons x t ih =>
            intro hl hn hm
            have hn' := List.nodup_cons.mp hn
            by_cases e : x = "main"
            · have he : ∀ y ∈ t, arR R m y = R y := fun y hy => eO y (hl y (List.mem_cons_of_mem _ hy)) (fun z => hn'.1 (by rw [e, ← z]; exact hy))
              have hm2 : t.map (arR R m) = t.map R := List.map_congr_left he
              simp only [List.map_cons, List.sum_cons]
              rw [hm2, e, eM]
              omega
            · have hm' : ("main" : Str) ∈ t := by
                rcases List.mem_cons.mp hm with z | z
                · exact absurd z.symm e
                · exact z
              have := ih (fun k hk => hl k (List.mem_cons_of_mem _ hk)) hn'.2 hm'
              have e2 := eO x (hl x (List.mem_cons_self ..)) e
              simp only [List.map_cons, List.sum_cons]
              rw [e2]
              omega
        have z3 := key ks (fun _ h => h) hok.kd hok.main
        have z4 := hok.sm
        omega
    tm_at "a"
    refine w_ixT (s02 _ _ hr1) (atI_nat (j := 0) rfl) ?_
    tm_at "a"
    refine w_ixT (s02 _ _ hr1) (atI_nat (j := 1) rfl) ?_
    tm_at "a"
    intro x dx nx ndx nex
    have s3 : Same H2 (upd (upd H2 dx (.own x)) x (.ins a.c_Program dx [])) := fun b o e => by
      rw [upd_ne (ne_of_none e nx), upd_ne (ne_of_none e ndx)]
      exact e
    refine ⟨x, dx, vt, nd, wd, vars, _, _, _, _, rfl, upd_same, s3 _ _ (s02 _ _ hvt), s3 _ _ hnd2, (p2.mono (Im.of s3)).d hnd, hpg, fun H4 ns k4 hperm hpa => ⟨rfl, ?_⟩⟩
    have s4 : Same H H4 := fun b o e => k4 b o (s3 b o (s02 b o e)) (by simpa using ne_of_none (s02 b o e) nx)
    exact q H4 x ns s4 hperm hpa hpg
end
end Kt
end -- KGq
section -- KMu
set_option Elab.async false
set_option linter.all false
set_option maxRecDepth 100000
set_option maxHeartbeats 4000000
/-! KMu: a tuple times 0 or 1. -/
namespace Kt
open PySem PySem.Spec PyProof.Rows L2
theorem tuple_mul1 (l : Addr) (items : Array Value) (n : Nat) (dd : Option Addr) (sl : Array (Option Value)) (u : Tok) :
    Meets (Builtin.«tuple.__mul__» ⟨[.ref l, .int 1 u], []⟩) (fun _ R s => s.heap.get? l = some { cls := .type "tuple", dict := dd, data := .seq items n, slots := sl } ∧ R (.ok (.ret (Value.ref l))) s) :=
  .of_wp fun prog w A R s h => by
    obtain ⟨hp, g, d, tk, os⟩ := s
    obtain ⟨hl, h⟩ := h
    have f1 := AutoSeq1.idx_int
    have c0 : (decide ((1 : Int) < -(2 ^ 63)) || decide ((1 : Int) ≥ 2 ^ 63)) = false := by decide
    have c1 : (items.isEmpty || (1 : Int) == 1) = true := by rw [show ((1 : Int) == 1) = true from rfl, Bool.or_true]
    have hT : Shared.TypeIs ⟨hp, g, d, tk, os⟩ (.ref l) "tuple" := ⟨_, hl, rfl⟩
    wp_walk using wpAny_loadPart' hl
    repeat (first
      | (refine wpAny_ite_false (decide_eq_false (by rw [c0]; exact Bool.false_ne_true)) ?_; wp_walk using wpAny_loadPart' hl)
      | (refine wpAny_ite_true (decide_eq_true (by rw [c1])) ?_; wp_walk using wpAny_loadPart' hl, wpAny_typeOf hT))
    exact ⟨_, rfl, h⟩
theorem tuple_mul0 (l : Addr) (items : Array Value) (n : Nat) (dd : Option Addr) (sl : Array (Option Value)) (u : Tok) (hi : items.isEmpty = false) :
    Meets (Builtin.«tuple.__mul__» ⟨[.ref l, .int 0 u], []⟩) (fun _ R s => s.heap.get? l = some { cls := .type "tuple", dict := dd, data := .seq items n, slots := sl } ∧
      R (.ok (.ret (Value.ref s.heap.objs.size))) { s with heap := s.heap.push { cls := Value.type "tuple", data := Data.seq #[] }, toks := s.toks }) :=
  .of_wp fun prog w A R s h => by
    obtain ⟨hp, g, d, tk, os⟩ := s
    obtain ⟨hl, h⟩ := h
    have f1 := AutoSeq1.idx_int
    have c0 : (decide ((0 : Int) < -(2 ^ 63)) || decide ((0 : Int) ≥ 2 ^ 63)) = false := by decide
    have c1 : (items.isEmpty || (0 : Int) == 1) = false := by rw [hi]; rfl
    have c2 : (decide ((0 : Int) ≤ 0) || items.isEmpty) = true := by rw [hi]; rfl
    wp_walk using wpAny_loadPart' hl
    repeat (first
      | (refine wpAny_ite_false (decide_eq_false (by rw [c0]; exact Bool.false_ne_true)) ?_; wp_walk using wpAny_loadPart' hl)
      | (refine wpAny_ite_false (decide_eq_false (by rw [c1]; exact Bool.false_ne_true)) ?_; wp_walk using wpAny_loadPart' hl)
      | (refine wpAny_ite_true (decide_eq_true (by rw [c2])) ?_; wp_walk using wpAny_loadPart' hl))
    exact ⟨_, rfl, h⟩
/-- a tuple of something, times 0 or 1 -/
def rRep01 : R2 := fun x y H Q => ∃ l k xs, x = .ref l ∧ y = .int k ∧ H l = some (.tup xs) ∧ xs ≠ [] ∧ ((k = 1 ∧ Q (.ref l) H) ∨ (k = 0 ∧ ∀ p, H p = none → Q (.ref p) (upd H p (.tup []))))
section
variable {X : Cx}
theorem op_rep01 : OpR X (binaryOp .Mult) rRep01 := by
  intro pins s σ H x y v u Q I rx ry h
  obtain ⟨l, k, xs, rfl, rfl, hT, hne, h⟩ := h
  cases rx
  obtain ⟨t, rfl⟩ := ry
  obtain ⟨its, r, ⟨⟨cls, dd, data, sl⟩, ho, hc, n, hd⟩, hs⟩ := I.tuple (SqT.of hT)
  simp only at hc hd
  subst hc hd
  have hle : its.length = xs.length := r.length.symm
  have hn : its ≠ [] := fun e => hne (by
    rw [e] at hle
    exact List.eq_nil_of_length_eq_zero hle.symm)
  have hi : its.toArray.isEmpty = false := by
    cases its with
    | nil => exact absurd rfl hn
    | cons a b => rfl
  rcases h with ⟨rfl, q⟩ | ⟨rfl, q⟩
  · refine wpAny_binaryOp_repeat_ref (T := "tuple") (U := "int") (by decide) ⟨_, ho, rfl⟩ (fun s' => typeIs_int s' 1 t) noFill_tuple_mul F.fills_int_mul F.slot_int_rmul repeat_tuple F.slot_int_index.lookup
      (call_meets F.slot_int_rmul (typeIs_int s 1 t) F.entry_int_rmul (F.args_int_rmul_2 _ _) (int_rmul_tuple 1 t l its.toArray n dd sl)
        ⟨ho, rfl, ⟨_, ho, rfl⟩, call_meets F.slot_tuple_mul ⟨_, ho, rfl⟩ F.entry_tuple_mul (F.args_tuple_mul_2 _ _) (tuple_mul1 l its.toArray n dd sl t) ⟨ho, ?_⟩⟩)
    exact ⟨.ref l, H, I, rfl, q⟩
  · refine wpAny_binaryOp_repeat_ref (T := "tuple") (U := "int") (by decide) ⟨_, ho, rfl⟩ (fun s' => typeIs_int s' 0 t) noFill_tuple_mul F.fills_int_mul F.slot_int_rmul repeat_tuple F.slot_int_index.lookup
      (call_meets F.slot_int_rmul (typeIs_int s 0 t) F.entry_int_rmul (F.args_int_rmul_2 _ _) (int_rmul_tuple 0 t l its.toArray n dd sl)
        ⟨ho, rfl, ⟨_, ho, rfl⟩, call_meets F.slot_tuple_mul ⟨_, ho, rfl⟩ F.entry_tuple_mul (F.args_tuple_mul_2 _ _) (tuple_mul0 l its.toArray n dd sl t hi) ⟨ho, ?_⟩⟩)
    exact ⟨.ref s.heap.objs.size, upd H s.heap.objs.size (.tup []), I.laid (t' := s.toks) (o := .tup []) (fun b ob q => Heap.get?_push_of_some _ q) (Nat.le_refl _) ⟨Nat.zero_le _, [], .nil, IsTup.new _ _⟩, rfl, q _ (I.hok.fresh (Nat.le_refl _))⟩
end
end Kt
end -- KMu
section -- KGr
set_option Elab.async false
set_option linter.all false
set_option maxRecDepth 100000
set_option maxHeartbeats 4000000
/-! KGr: the law's recursive program. -/
namespace Kt
open PySem L2
def ab : List Str := ["a", "b"]
theorem ab_a : ("a" : Str) ∈ ab := by decide +kernel
theorem ab_b : ("b" : Str) ∈ ab := by decide +kernel
theorem ab_ne : ("a" : Str) ≠ "b" := by decide +kernel
theorem ab_in : ∀ x ∈ ab, x ∈ nameL := by decide +kernel
theorem ab_nd : ab.Nodup := by decide +kernel
theorem lt_rel : ("<" : Str) ∈ relsL := by decide +kernel
theorem mi_chg : ("-=" : Str) ∈ chgL := by decide +kernel
def c1 : Cd := ⟨"<", .num 0, .var "a"⟩
def c2 : Cd := ⟨"<", .num 0, .var "b"⟩
def iB (sg : Bool) (n : Str) (e : Int) : Body := .pr ⟨"-=", "a", .at_ (.num 1)⟩ (.cl sg n (.pr ⟨"+=", "b", .at_ (.num e)⟩ .nil))
def swB (k : Bool) : Body := if k then .pr ⟨"swap", "a", .at_ (.var "b")⟩ .nil else .nil
def spLRec : Sp := fun vs H Q _ => ∃ (dl : Addr) (wd : Nat), vs = [.ref dl, .int (wd : Nat)] ∧ DrA H dl ∧ 1 ≤ wd ∧ wd ≤ 8 ∧ ∀ H' v w vars ks cn R, Same H H' → ToldA H' v w vars ks cn R → TldOk w vars ks cn R → Q v H'
def DispEnd (p : Addr) (x y : V) (H2 : Hp) (Q : VK) : Prop := H2 p = some (.dK []) ∧ ∃ kvs : List (Key × V), [(x, y)] = kvs.map (fun kv => (kV kv.1, kv.2)) ∧ kvs.length ≤ 15 ∧ Q (.ref p) (upd H2 p (.dK (mergeK [] kvs)))
theorem w_disp {tk tv : TE} {σ : L2.St} {H : Hp} {Q : VK} (h : ∀ p, H p = none → tk σ (upd H p (.dK [])) fun x H1 => tv σ H1 fun y H2 => DispEnd p x y H2 Q) : tDisp [(tk, tv)] σ H Q := h
theorem w_dispE {p : Addr} {k : Str} {y : V} {H2 : Hp} {Q : VK} (g : H2 p = some (.dK [])) (q : Q (.ref p) (upd H2 p (.dK [(.inr k, y)]))) : DispEnd p (.str k) y H2 Q := ⟨g, [(.inr k, y)], rfl, by show 1 ≤ 15; decide, q⟩
theorem w_rep01 {H : Hp} {Q : VK} {p : Addr} {xs : List V} {k : Int} (h : H p = some (.tup xs)) (hx : xs ≠ []) (hk : k = 0 ∨ k = 1) (q : ∀ r H' (b : Bool), Same H H' → H' r = some (.tup (if b then xs else [])) → Q (.ref r) H') : rRep01 (.ref p) (.int k) H Q := by
  refine ⟨p, k, xs, rfl, rfl, h, hx, ?_⟩
  rcases hk with e | e
  · exact .inr ⟨e, w_new fun r H' s _ g => q r H' false s g⟩
  · exact .inl ⟨e, q p H true (Same.refl H) h⟩
def recR (bp bq m : Body) : Str → Body := fun n => if n = "main" then m else if n = "q" then bq else bp
theorem recM {bp bq m : Body} : recR bp bq m "main" = m := by unfold recR; rw [if_pos rfl]
theorem qm_ne : ("q" : Str) ≠ "main" := by decide +kernel
theorem pm_ne : ("p" : Str) ≠ "main" := by decide +kernel
theorem pq_ne : ("p" : Str) ≠ "q" := by decide +kernel
theorem recQ {bp bq m : Body} : recR bp bq m "q" = bq := by unfold recR; rw [if_neg qm_ne, if_pos rfl]
theorem recP {bp bq m : Body} : recR bp bq m "p" = bp := by unfold recR; rw [if_neg pm_ne, if_neg pq_ne]
section
variable {wd : Nat} {cn : List Str}
theorem c1_ok (hb : (2 : Int) ≤ 2 ^ wd) : c1.ok ab (2 ^ wd) := ⟨lt_rel, ⟨by omega, by omega⟩, ab_a⟩
theorem c2_ok (hb : (2 : Int) ≤ 2 ^ wd) : c2.ok ab (2 ^ wd) := ⟨lt_rel, ⟨by omega, by omega⟩, ab_b⟩
theorem iB_ok (hb : (2 : Int) ≤ 2 ^ wd) {sg : Bool} {n : Str} {e : Int} (he : 0 ≤ e ∧ e < 2 ^ wd) (hn : n ∈ cn) : BOk ab (2 ^ wd) cn (iB sg n e) :=
  ⟨⟨ab_a, .inl ⟨mi_chg, ⟨by omega, by omega⟩, trivial⟩⟩, hn, ⟨ab_b, .inl ⟨plusC, he, trivial⟩⟩, trivial⟩
theorem swB_ok {k : Bool} : BOk ab (2 ^ wd) cn (swB k) := by
  cases k
  · trivial
  · exact ⟨⟨ab_a, .inr ⟨rfl, "b", ab_b, rfl, ab_ne⟩⟩, trivial⟩
theorem p_sm (hb : (2 : Int) ≤ 2 ^ wd) {sg : Bool} {n : Str} (hn : n ∈ cn) : Sm ab (2 ^ wd) cn (.ite c1 c2 (iB sg n 1) .nil .nil) 60 10 :=
  ⟨⟨c1_ok hb, c2_ok hb, iB_ok hb ⟨by omega, by omega⟩ hn, trivial, trivial⟩, by simp only [iB, sc]; omega, by simp only [iB, dp]; omega⟩
theorem q_sm (hb : (2 : Int) ≤ 2 ^ wd) {ev : Int} {k : Bool} (he : 0 ≤ ev ∧ ev < 2 ^ wd) (hn : ("p" : Str) ∈ cn) : Sm ab (2 ^ wd) cn (.ite c1 c2 (iB true "p" ev) (swB k) .nil) 60 10 :=
  ⟨⟨c1_ok hb, c2_ok hb, iB_ok hb he hn, swB_ok, trivial⟩, by cases k <;> simp only [iB, swB, sc] <;> decide, by cases k <;> simp only [iB, swB, dp] <;> decide⟩
theorem m_sm {sm : Bool} (hn : ("p" : Str) ∈ cn) : Sm ab (2 ^ wd) cn (.cl sm "p" .nil) 60 10 := ⟨⟨hn, trivial⟩, by simp only [sc]; omega, by simp only [dp]; omega⟩
theorem tld_p (hw1 : 1 ≤ wd) (hw8 : wd ≤ 8) (hb : (2 : Int) ≤ 2 ^ wd) {sg sm : Bool} : TldOk wd ab ([("p" : Str)] ++ [("main" : Str)]) ["p"] (recR (.ite c1 c2 (iB sg "p" 1) .nil .nil) .nil (.cl sm "p" .nil)) := by
  have hp : ("p" : Str) ∈ (["p"] : List Str) := List.mem_singleton_self _
  refine ⟨hw1, hw8, by decide, by decide, ab_in, ab_nd, by decide +kernel, by decide, by decide +kernel, by decide +kernel, by decide +kernel, fun kx hk => ?_, ?_⟩
  · rcases List.mem_append.mp hk with z | z
    · rw [List.mem_singleton] at z
      rw [z, recP]
      exact .inl (p_sm hb hp)
    · rw [List.mem_singleton] at z
      rw [z, recM]
      exact .inl (m_sm hp)
  · simp only [List.cons_append, List.nil_append, List.map_cons, List.map_nil, List.sum_cons, List.sum_nil, recP, recM, iB, sc]
    decide
theorem tld_q (hw1 : 1 ≤ wd) (hw8 : wd ≤ 8) (hb : (2 : Int) ≤ 2 ^ wd) {sg sm k : Bool} {ev : Int} (he : 0 ≤ ev ∧ ev < 2 ^ wd) : TldOk wd ab ([("p" : Str)] ++ [("q" : Str)] ++ [("main" : Str)]) ["p", "q"] (recR (.ite c1 c2 (iB sg "q" 1) .nil .nil) (.ite c1 c2 (iB true "p" ev) (swB k) .nil) (.cl sm "p" .nil)) := by
  have hp : ("p" : Str) ∈ (["p", "q"] : List Str) := List.mem_cons_self ..
  have hq : ("q" : Str) ∈ (["p", "q"] : List Str) := List.mem_cons_of_mem _ (List.mem_singleton_self _)
  refine ⟨hw1, hw8, by decide, by decide, ab_in, ab_nd, by decide +kernel, by decide, by decide +kernel, by decide +kernel, by decide +kernel, fun kx hk => ?_, ?_⟩
  · rcases List.mem_append.mp hk with z | z
    · rcases List.mem_append.mp z with z | z
      · rw [List.mem_singleton] at z
        rw [z, recP]
        exact .inl (p_sm hb hq)
      · rw [List.mem_singleton] at z
        rw [z, recQ]
        exact .inl (q_sm hb he hp)
    · rw [List.mem_singleton] at z
      rw [z, recM]
      exact .inl (m_sm hp)
  · simp only [List.cons_append, List.nil_append, List.map_cons, List.map_nil, List.sum_cons, List.sum_nil, recP, recQ, recM, iB, sc]
    cases k <;> simp only [swB, sc] <;> decide
end
section
variable {P : Program} {w : World} {K : PySem.W.Frag} {mg : Str → Option Value} {base : Heap} {a : Ad}
local macro_rules | `(tactic| tm_at "a") => `(tactic| repeat (first
  | with_reducible refine w_seq ?_ | with_reducible refine w_if ?_ | with_reducible refine w_tB ?_ | with_reducible refine w_tTest ?_ | with_reducible refine w_asg ?_ | with_reducible refine w_name ?_
  | with_reducible refine w_ret ?_ | with_reducible refine w_next ?_ | with_reducible refine w_op ?_ | with_reducible refine w_c ?_ | with_reducible refine w_cb ?_ | with_reducible refine w_call ?_ | with_reducible refine w_cons ?_ | with_reducible refine w_nil ?_
  | with_reducible refine w_var (by with_unfolding_all rfl) ?_
  | with_reducible refine w_rI0 ?_ | with_reducible refine w_eq (by with_unfolding_all rfl) ?_ | with_reducible refine w_ne (by with_unfolding_all rfl) ?_
  | with_reducible refine w_test ?_ | with_reducible refine w_T ?_ | with_reducible refine w_F ?_ | with_reducible refine w_T0 ?_ | with_reducible refine w_F0 ?_
  | with_reducible refine w_and ?_ | with_reducible refine w_or ?_ | with_reducible refine w_not ?_ | with_reducible refine w_ifE ?_ | with_reducible refine w_drop ?_
  | with_reducible refine w_andV ?_ | with_reducible refine w_orV ?_ | with_reducible refine w_notV ?_ | with_reducible refine w_dget ?_ | with_reducible refine w_din ?_ | with_reducible refine w_dnin ?_ | with_reducible refine w_fld ?_
  | with_reducible refine w_ttup ?_ | with_reducible refine w_tlst ?_ | with_reducible refine w_un ?_ | with_reducible refine w_rU ?_ | with_reducible refine w_gcons ?_ | with_reducible refine w_gnil ?_ | with_reducible refine w_sub ?_ | with_reducible refine w_sl ?_ | with_reducible refine w_nopart ?_ | with_reducible refine w_part ?_ | with_reducible refine w_int ?_ | with_reducible refine w_meth ?_
  | with_reducible refine w_make ?_ | with_reducible refine w_dput ?_ | with_reducible refine w_sfld ?_ | with_reducible refine w_bm ?_ | with_reducible refine w_bm0 ?_ | with_reducible refine w_isN ?_ | with_reducible refine w_notT ?_ | with_reducible refine w_forR ?_ | with_reducible refine w_forL ?_ | with_reducible refine w_forT ?_ | with_reducible refine w_fldaug ?_ | with_reducible refine w_radd ?_ | with_reducible refine w_par ?_ | with_reducible refine w_pair ?_
  | with_reducible refine w_lcR ?_ | with_reducible refine w_dcR ?_ | with_reducible refine w_lcL ?_ | with_reducible refine w_lcT ?_ | with_reducible refine w_dcT ?_ | with_reducible refine w_yes ?_ | with_reducible refine w_chain ?_
  | with_reducible refine w_modc (by decide) ?_ | with_reducible refine w_divc (by decide) (by decide) ?_ | with_reducible refine w_mulr (by decide) (by decide) ?_))
theorem sc_law_recursive : FnScope ["_law_draws_here", "_law_width", "_law_bound", "_law_names", "_law_other", "_law_inner", "_law_procedures", "_law_back"] ["_law_draws_here", "_law_width"] (defScope s_law_recursive) := ⟨rfl, rfl, rfl, by decide +kernel, rfl, by decide +kernel, by decide +kernel⟩
theorem ok_lrec (T : Tx w K mg a) : FnOk P w K mg base CX0 1 a.f_law_recursive a.d_law_recursive ["_law_draws_here", "_law_width"] spLRec := by
  refine T.F_law_recursive.ok sc_law_recursive (fun vs H Q E h => ?_) (fun cdv A outer s H vs Q E hr h => ?_)
  · obtain ⟨dl, wd, rfl, _⟩ := h
    rfl
  · obtain ⟨dl, wd, rfl, hdr, hw1, hw8, q⟩ := h
    have hu := hu_of hr
    have hpos := pow_pos wd
    have hb2 : (2 : Int) ≤ 2 ^ wd := by
      obtain ⟨k, rfl⟩ : ∃ k, wd = k + 1 := ⟨wd - 1, by omega⟩
      have := pow_pos k
      rw [Int.pow_succ]
      omega
    refine ⟨_, (pss_cons (ps_set (i := 2) sc_law_recursive.nd rfl (Or.inl rfl) (pe_ix ix_list (pe_lst (pa_cons pe_int (pa_cons pe_int (pa_cons pe_int (pa_cons pe_int (pa_cons pe_int (pa_cons pe_int (pa_cons pe_int (pa_cons pe_int (pa_cons pe_int pa_nil)))))))))) (pv 1) (fun _ _ => rfl)))
    (pss_cons (ps_set (i := 3) sc_law_recursive.nd rfl (Or.inl rfl) (pe_tup (pa_cons pe_str (pa_cons pe_str pa_nil))))
    (pss_cons (ps_set (i := 4) sc_law_recursive.nd rfl (Or.inl rfl) (pe_ix ix_list (pe_lst (pa_cons pe_str (pa_cons pe_str pa_nil))) (pe_op op_mod (pe_ix ix_list (pv 0) pe_int (fun _ _ => rfl)) pe_int) (fun _ _ => rfl)))
    (pss_cons (ps_set (i := 5) sc_law_recursive.nd rfl (Or.inl rfl) (pe_tup (pa_cons (pe_tup (pa_cons pe_str (pa_cons pe_str (pa_cons pe_int pa_nil)))) (pa_cons (pe_tup (pa_cons (pe_ix ix_list (pe_lst (pa_cons pe_str (pa_cons pe_str (pa_cons pe_str (pa_cons pe_str pa_nil))))) (pe_op op_mod (pe_ix ix_list (pv 0) pe_int (fun _ _ => rfl)) pe_int) (fun _ _ => rfl)) (pa_cons (pv 4) pa_nil))) (pa_cons (pe_tup (pa_cons pe_str (pa_cons pe_str (pa_cons pe_int pa_nil)))) pa_nil)))))
    (pss_cons (ps_set (i := 6) sc_law_recursive.nd rfl (Or.inl rfl) (pe_disp (pps_cons pe_str (pe_tup (pa_cons (pe_tup (pa_cons pe_str (pa_cons (pe_tup (pa_cons pe_str (pa_cons pe_int (pa_cons pe_str pa_nil)))) (pa_cons (pv 5) (pa_cons (pe_tup pa_nil) (pa_cons (pe_tup (pa_cons pe_str (pa_cons pe_int (pa_cons pe_str pa_nil)))) pa_nil)))))) pa_nil)) pps_nil) (by rfl) (by rfl) (fun z => by cases z) (by decide)))
    (pss_cons (ps_if (pt_cmpR op_eq (pv 4) pe_str (nomark _)) (pss_cons (ps_set (i := 7) sc_law_recursive.nd rfl (Or.inl rfl) (pe_tup (pa_cons (pe_tup (pa_cons pe_str (pa_cons pe_str (pa_cons pe_int pa_nil)))) (pa_cons (pe_tup (pa_cons pe_str (pa_cons pe_str pa_nil))) (pa_cons (pe_tup (pa_cons pe_str (pa_cons pe_str (pa_cons (pe_op op_mod (pe_callTy cl_int (by rfl) T.z_int (by decide +kernel) (pa_cons (pe_op op_add pe_int (pe_op op_mul (pe_op op_mod (pe_ix ix_list (pv 0) pe_int (fun _ _ => rfl)) pe_int) (pe_ix ix_list (pv 0) pe_int (fun _ _ => rfl)))) pa_nil)) (pv 2)) pa_nil)))) pa_nil)))))
    (pss_one (ps_dput hu (pv 6) pe_str (pe_tup (pa_cons (pe_tup (pa_cons pe_str (pa_cons (pe_tup (pa_cons pe_str (pa_cons pe_int (pa_cons pe_str pa_nil)))) (pa_cons (pv 7) (pa_cons (pe_op op_rep01 (pe_tup (pa_cons (pe_tup (pa_cons pe_str (pa_cons pe_str (pa_cons pe_str pa_nil)))) pa_nil)) (pe_op op_mod (pe_ix ix_list (pv 0) pe_int (fun _ _ => rfl)) pe_int)) (pa_cons (pe_tup (pa_cons pe_str (pa_cons pe_int (pa_cons pe_str pa_nil)))) pa_nil)))))) pa_nil)) rfl))) pss_nil)
    (pss_cons (ps_dput hu (pv 6) pe_str (pe_tup (pa_cons (pe_tup (pa_cons (pe_ix ix_list (pe_lst (pa_cons pe_str (pa_cons pe_str (pa_cons pe_str pa_nil)))) (pe_op op_mod (pe_ix ix_list (pv 0) pe_int (fun _ _ => rfl)) pe_int) (fun _ _ => rfl)) (pa_cons pe_str pa_nil))) pa_nil)) rfl)
    (pss_one (ps_ret (pe_tup (pa_cons (pv 1) (pa_cons (pv 3) (pa_cons (pv 6) pa_nil))))))))))))), ?_⟩
    tm_at "a"
    refine w_lay (by show 9 ≤ 100000; decide) fun bl H1 s1 n1 h1 => ?_
    tm_at "a"
    refine w_ixL h1 (pow_at hw8) ?_
    tm_at "a"
    refine w_lay (by show 2 ≤ 100000; decide) fun vt H2 s2 n2 h2 => ?_
    tm_at "a"
    refine w_lay (by show 2 ≤ 100000; decide) fun ol H3 s3 n3 h3 => ?_
    have s03 := (s1.trans s2).trans s3
    tm_at "a"
    refine w_dr (hdr.mono s03) (by decide) (by decide) (fun d1 hd1 => ?_)
    tm_at "a"
    refine w_pick h3 (Int.emod_nonneg _ (by decide)) (by show _ < (2 : Int); exact Int.emod_lt_of_pos _ (by decide)) (fun v hv => ?_)
    have ho : ∃ o : Str, v = .str o ∧ (o = "p" ∨ o = "q") := by
      simp only [List.mem_cons, List.not_mem_nil, or_false] at hv
      rcases hv with z | z
      · exact ⟨_, z, .inl rfl⟩
      · exact ⟨_, z, .inr rfl⟩
    obtain ⟨ot, rfl, hot⟩ := ho
    tm_at "a"
    refine w_lay (by show 3 ≤ 100000; decide) fun i1 H4 s4 n4 h4 => ?_
    tm_at "a"
    refine w_lay (by show 4 ≤ 100000; decide) fun cl H5 s5 n5 h5 => ?_
    have s05 := (s03.trans s4).trans s5
    tm_at "a"
    refine w_dr (hdr.mono s05) (by decide) (by decide) (fun d2 hd2 => ?_)
    tm_at "a"
    refine w_pick h5 (Int.emod_nonneg _ (by decide)) (by show _ < (4 : Int); exact Int.emod_lt_of_pos _ (by decide)) (fun v hv => ?_)
    have hsg : ∃ sg : Bool, v = .str (if sg then ("call" : Str) else "uncall") := by
      simp only [List.mem_cons, List.not_mem_nil, or_false] at hv
      rcases hv with z | z | z | z
      · exact ⟨true, z⟩
      · exact ⟨true, z⟩
      · exact ⟨true, z⟩
      · exact ⟨false, z⟩
    obtain ⟨sg, rfl⟩ := hsg
    tm_at "a"
    refine w_lay (by show 2 ≤ 100000; decide) fun i2 H6 s6 n6 h6 => ?_
    tm_at "a"
    refine w_lay (by show 3 ≤ 100000; decide) fun i3 H7 s7 n7 h7 => ?_
    tm_at "a"
    refine w_lay (by show 3 ≤ 100000; decide) fun it H8 s8 n8 h8 => ?_
    have s47 := (s5.trans s6).trans s7
    have hit : BdT H8 (.ref it) (iB sg ot 1) := ⟨it, _, rfl, h8, .ref i1, _, rfl, ⟨i1, .int 1, rfl, s8 _ _ (s47 _ _ h4), rfl⟩, i2, _, rfl, s8 _ _ (s7 _ _ h6), .ref i3, _, rfl, ⟨i3, .int 1, rfl, s8 _ _ h7, rfl⟩, rfl⟩
    have s08 := ((s05.trans s6).trans s7).trans s8
    tm_at "a"
    refine w_disp fun dt hdt0 => ?_
    tm_at "a"
    refine w_lay (by show 3 ≤ 100000; decide) fun k1 H9 s9 n9 h9 => ?_
    tm_at "a"
    refine w_lay (by show 0 ≤ 100000; decide) fun k0 H10 s10 n10 h10 => ?_
    tm_at "a"
    refine w_lay (by show 3 ≤ 100000; decide) fun k2 H11 s11 n11 h11 => ?_
    tm_at "a"
    refine w_lay (by show 5 ≤ 100000; decide) fun k3 H12 s12 n12 h12 => ?_
    tm_at "a"
    refine w_lay (by show 1 ≤ 100000; decide) fun k4 H13 s13 n13 h13 => ?_
    have u := ((s9.trans s10).trans (s11.trans s12)).trans s13
    refine w_dispE (u _ _ upd_same) ?_
    obtain ⟨HD, hHD⟩ : ∃ HD, HD = upd H13 dt (.dK [(.inr "p", .ref k4)]) := ⟨_, rfl⟩
    rw [← hHD]
    have iD : Im H13 HD := by rw [hHD]; exact Im.upd fun zs z => by rw [u _ _ upd_same] at z; cases z
    have s8D : Same H8 HD := by rw [hHD]; exact ((Same.new hdt0).trans u).mut hdt0
    have hdD : HD dt = some (.dK [(.inr "p", .ref k4)]) := by rw [hHD]; exact upd_same
    have hbp : BdT HD (.ref k4) (.ite c1 c2 (iB sg ot 1) .nil .nil) := by
      obtain ⟨pi, xi, e, g1, g2⟩ := hit.mono (Im.of s8D)
      injection e with e
      subst e
      exact ⟨k4, _, rfl, iD _ _ h13, k3, [], .ref k1, .ref k2, it, xi, k0, [], rfl, iD _ _ (s13 _ _ h12), ⟨k1, rfl, iD _ _ (s13 _ _ (s12 _ _ (s11 _ _ (s10 _ _ h9))))⟩, ⟨k2, rfl, iD _ _ (s13 _ _ (s12 _ _ h11))⟩, g1, g2, iD _ _ (s13 _ _ (s12 _ _ (s11 _ _ h10))), rfl, rfl⟩
    have s0D := s08.trans s8D
    have hvtD : HD vt = some (.tup (ab.map V.str)) := s8D _ _ (s8 _ _ (s7 _ _ (s6 _ _ (s5 _ _ (s4 _ _ (s3 _ _ h2))))))
    tm_at "a"
    refine w_b (fun e => ?_) (fun e => ?_)
    · have eo : ot = "q" := by
        have z := of_decide_eq_true e
        injection z
      subst eo
      tm_at "a"
      refine w_lay (by show 3 ≤ 100000; decide) fun b1 G1 t1 m1 g1 => ?_
      tm_at "a"
      refine w_lay (by show 2 ≤ 100000; decide) fun b2 G2 t2 m2 g2 => ?_
      have t02 := t1.trans t2
      tm_at "a"
      refine w_dr (hdr.mono (s0D.trans t02)) (by decide) (by decide) (fun d3 hd3 => ?_)
      tm_at "a"
      refine w_dr (hdr.mono (s0D.trans t02)) (by decide) (by decide) (fun d4 hd4 => ?_)
      refine w_mull (by have := Int.emod_nonneg d3 (by decide : (2 : Int) ≠ 0); omega) (by have := Int.emod_lt_of_pos d3 (by decide : (0 : Int) < 2); omega) ?_
      tm_at "a"
      refine w_intI ?_
      tm_at "a"
      refine w_modc (by omega) ?_
      obtain ⟨ev, hev⟩ : ∃ ev : Int, ev = (1 + d3 % 2 * d4) % 2 ^ wd := ⟨_, rfl⟩
      have hev0 : 0 ≤ ev ∧ ev < 2 ^ wd := by rw [hev]; exact ⟨Int.emod_nonneg _ (by omega), Int.emod_lt_of_pos _ hpos⟩
      rw [← hev]
      tm_at "a"
      refine w_lay (by show 3 ≤ 100000; decide) fun b3 G3 t3 m3 g3 => ?_
      tm_at "a"
      refine w_lay (by show 3 ≤ 100000; decide) fun bt G4 t4 m4 g4 => ?_
      have t24 := t3.trans t4
      have t04 := t02.trans t24
      have hbt : BdT G4 (.ref bt) (iB true "p" ev) := ⟨bt, _, rfl, g4, .ref b1, _, rfl, ⟨b1, .int 1, rfl, t24 _ _ (t2 _ _ g1), rfl⟩, b2, _, rfl, t24 _ _ g2, .ref b3, _, rfl, ⟨b3, .int ev, rfl, t4 _ _ g3, rfl⟩, rfl⟩
      tm_at "a"
      refine w_lay (by show 3 ≤ 100000; decide) fun l1 G5 t5 m5 g5 => ?_
      tm_at "a"
      refine w_lay (by show 3 ≤ 100000; decide) fun x1 G6 t6 m6 g6 => ?_
      tm_at "a"
      refine w_lay (by show 1 ≤ 100000; decide) fun x2 G7 t7 m7 g7 => ?_
      have t47 := (t5.trans t6).trans t7
      tm_at "a"
      refine w_dr (hdr.mono ((s0D.trans t04).trans t47)) (by decide) (by decide) (fun d5 hd5 => ?_)
      tm_at "a"
      refine w_rep01 g7 (by simp) (by have := Int.emod_nonneg d5 (by decide : (2 : Int) ≠ 0); have := Int.emod_lt_of_pos d5 (by decide : (0 : Int) < 2); omega) fun sw G8 ksw t8 hsw => ?_
      have hsb : ∃ xs, G8 sw = some (.tup xs) ∧ BdV G8 xs (swB ksw) := by
        cases ksw
        · exact ⟨[], hsw, rfl⟩
        · exact ⟨_, hsw, .ref x1, [], rfl, ⟨x1, .str "b", rfl, t8 _ _ (t7 _ _ g6), rfl⟩, rfl⟩
      obtain ⟨xsw, hsw1, hsw2⟩ := hsb
      tm_at "a"
      refine w_lay (by show 3 ≤ 100000; decide) fun l2 G9 t9 m9 g9 => ?_
      tm_at "a"
      refine w_lay (by show 5 ≤ 100000; decide) fun l3 G10 t10 m10 g10 => ?_
      tm_at "a"
      refine w_lay (by show 1 ≤ 100000; decide) fun l4 G11 t11 m11 g11 => ?_
      have t8B := (t9.trans t10).trans t11
      have t4B := (t47.trans t8).trans t8B
      have t0B := t04.trans t4B
      have hbq : BdT G11 (.ref l4) (.ite c1 c2 (iB true "p" ev) (swB ksw) .nil) := by
        obtain ⟨pi, xi, e, g1', g2'⟩ := hbt.mono (Im.of t4B)
        injection e with e
        subst e
        exact ⟨l4, _, rfl, g11, l3, [], .ref l1, .ref l2, bt, xi, sw, xsw, rfl, t11 _ _ g10, ⟨l1, rfl, t8B _ _ (t8 _ _ (t7 _ _ (t6 _ _ g5)))⟩, ⟨l2, rfl, t11 _ _ (t10 _ _ g9)⟩, g1', g2', t8B _ _ hsw1, hsw2.mono (Im.of t8B), rfl⟩
      tm_at "a"
      refine w_dpS (t0B _ _ hdD) (by show 1 ≤ 100000; decide) ?_
      obtain ⟨GD, hGD⟩ : ∃ GD, GD = upd G11 dt (.dK (putK [(.inr "p", .ref k4)] (.inr "q") (.ref l4))) := ⟨_, rfl⟩
      rw [← hGD]
      have iG : Im G11 GD := by rw [hGD]; exact Im.upd fun zs z => by rw [t0B _ _ hdD] at z; cases z
      have s8G : Same H8 GD := by rw [hGD]; exact (s8D.trans t0B).mut hdt0
      have hdG : GD dt = some (.dK (putK [(.inr "p", .ref k4)] (.inr "q") (.ref l4))) := by rw [hGD]; exact upd_same
      have prq : ∀ m : Body, PrP GD (putK [(.inr "p", .ref k4)] (.inr "q") (.ref l4)) ([("p" : Str)] ++ [("q" : Str)]) (recR (.ite c1 c2 (iB sg "q" 1) .nil .nil) (.ite c1 c2 (iB true "p" ev) (swB ksw) .nil) m) := fun m => by
        have z0 : PrP GD [(.inr "p", .ref k4)] ["p"] (recR (.ite c1 c2 (iB sg "q" 1) .nil .nil) (.ite c1 c2 (iB true "p" ev) (swB ksw) .nil) m) := .cons ⟨rfl, by rw [recP]; exact (hbp.mono (Im.of t0B)).mono iG⟩ .nil
        exact z0.new (k := "q") (by decide +kernel) (by rw [recQ]; exact hbq.mono iG)
      tm_at "a"
      refine w_lay (by show 3 ≤ 100000; decide) fun ml F1 Fs1 Fn1 Fh1 => ?_
      tm_at "a"
      refine w_dr (hdr.mono ((s08.trans s8G).trans Fs1)) (by decide) (by decide) (fun d9 hd9 => ?_)
      tm_at "a"
      refine w_pick Fh1 (Int.emod_nonneg _ (by decide)) (by show _ < (3 : Int); exact Int.emod_lt_of_pos _ (by decide)) (fun v hv => ?_)
      have hsm : ∃ sm : Bool, v = .str (if sm then ("call" : Str) else "uncall") := by
        simp only [List.mem_cons, List.not_mem_nil, or_false] at hv
        rcases hv with z | z | z
        · exact ⟨true, z⟩
        · exact ⟨true, z⟩
        · exact ⟨false, z⟩
      obtain ⟨sm, rfl⟩ := hsm
      tm_at "a"
      refine w_lay (by show 2 ≤ 100000; decide) fun m1 F2 Fs2 Fn2 Fh2 => ?_
      tm_at "a"
      refine w_lay (by show 1 ≤ 100000; decide) fun m2 F3 Fs3 Fn3 Fh3 => ?_
      have Fs := (Fs1.trans Fs2).trans Fs3
      tm_at "a"
      refine w_dpS (Fs _ _ hdG) (Nat.le_trans (putK_len' _ _ _) (by show 1 + 1 ≤ 100000; decide)) ?_
      obtain ⟨F4, Fe⟩ : ∃ F4, F4 = upd F3 dt (.dK (putK (putK [(.inr "p", .ref k4)] (.inr "q") (.ref l4)) (.inr "main") (.ref m2))) := ⟨_, rfl⟩
      rw [← Fe]
      have Fi : Im F3 F4 := by rw [Fe]; exact Im.upd fun zs z => by rw [Fs _ _ hdG] at z; cases z
      have Ff : Same H8 F4 := by rw [Fe]; exact (s8G.trans Fs).mut hdt0
      have Fd : F4 dt = some (.dK (putK (putK [(.inr "p", .ref k4)] (.inr "q") (.ref l4)) (.inr "main") (.ref m2))) := by rw [Fe]; exact upd_same
      tm_at "a"
      refine w_lay (by show 3 ≤ 100000; decide) fun r F5 Fs5 Fn5 Fh5 => ?_
      have pr := ((prq (.cl sm "p" .nil)).mono ((Im.of Fs).trans Fi)).new (k := "main") (v := .ref m2) (by decide +kernel) (by rw [recM]; exact ⟨m2, _, rfl, Fi _ _ Fh3, m1, [], rfl, Fi _ _ (Fs3 _ _ Fh2), rfl⟩)
      exact q F5 _ wd ab _ ["p", "q"] _ ((s08.trans Ff).trans Fs5) ⟨r, vt, dt, _, rfl, Fh5, Fs5 _ _ (Ff _ _ (s8 _ _ (s7 _ _ (s6 _ _ (s5 _ _ (s4 _ _ (s3 _ _ h2))))))), Fs5 _ _ Fd, pr.mono (Im.of Fs5)⟩ (tld_q hw1 hw8 hb2 hev0)
    · have eo : ot = "p" := by
        rcases hot with z | z
        · exact z
        · subst z
          exact absurd rfl (of_decide_eq_false e)
      subst eo
      tm_at "a"
      have prp : ∀ m : Body, PrP HD [(.inr "p", .ref k4)] ["p"] (recR (.ite c1 c2 (iB sg "p" 1) .nil .nil) .nil m) := fun m => .cons ⟨rfl, by rw [recP]; exact hbp⟩ .nil
      refine w_lay (by show 3 ≤ 100000; decide) fun ml F1 Fs1 Fn1 Fh1 => ?_
      tm_at "a"
      refine w_dr (hdr.mono (s0D.trans Fs1)) (by decide) (by decide) (fun d9 hd9 => ?_)
      tm_at "a"
      refine w_pick Fh1 (Int.emod_nonneg _ (by decide)) (by show _ < (3 : Int); exact Int.emod_lt_of_pos _ (by decide)) (fun v hv => ?_)
      have hsm : ∃ sm : Bool, v = .str (if sm then ("call" : Str) else "uncall") := by
        simp only [List.mem_cons, List.not_mem_nil, or_false] at hv
        rcases hv with z | z | z
        · exact ⟨true, z⟩
        · exact ⟨true, z⟩
        · exact ⟨false, z⟩
      obtain ⟨sm, rfl⟩ := hsm
      tm_at "a"
      refine w_lay (by show 2 ≤ 100000; decide) fun m1 F2 Fs2 Fn2 Fh2 => ?_
      tm_at "a"
      refine w_lay (by show 1 ≤ 100000; decide) fun m2 F3 Fs3 Fn3 Fh3 => ?_
      have Fs := (Fs1.trans Fs2).trans Fs3
      tm_at "a"
      refine w_dpS (Fs _ _ hdD) (by show 1 ≤ 100000; decide) ?_
      obtain ⟨F4, Fe⟩ : ∃ F4, F4 = upd F3 dt (.dK (putK [(.inr "p", .ref k4)] (.inr "main") (.ref m2))) := ⟨_, rfl⟩
      rw [← Fe]
      have Fi : Im F3 F4 := by rw [Fe]; exact Im.upd fun zs z => by rw [Fs _ _ hdD] at z; cases z
      have Ff : Same H8 F4 := by rw [Fe]; exact (s8D.trans Fs).mut hdt0
      have Fd : F4 dt = some (.dK (putK [(.inr "p", .ref k4)] (.inr "main") (.ref m2))) := by rw [Fe]; exact upd_same
      tm_at "a"
      refine w_lay (by show 3 ≤ 100000; decide) fun r F5 Fs5 Fn5 Fh5 => ?_
      have pr := ((prp (.cl sm "p" .nil)).mono ((Im.of Fs).trans Fi)).new (k := "main") (v := .ref m2) (by decide +kernel) (by rw [recM]; exact ⟨m2, _, rfl, Fi _ _ Fh3, m1, [], rfl, Fi _ _ (Fs3 _ _ Fh2), rfl⟩)
      exact q F5 _ wd ab _ ["p"] _ ((s08.trans Ff).trans Fs5) ⟨r, vt, dt, _, rfl, Fh5, Fs5 _ _ (Ff _ _ (s8 _ _ (s7 _ _ (s6 _ _ (s5 _ _ (s4 _ _ (s3 _ _ h2))))))), Fs5 _ _ Fd, pr.mono (Im.of Fs5)⟩ (tld_p hw1 hw8 hb2)
end
end Kt
end -- KGr
section -- KLw
set_option Elab.async false
set_option linter.all false
set_option maxRecDepth 100000
set_option maxHeartbeats 4000000
/-! KLw: the law. -/
namespace Kt
open PySem L2
/-! ### the plain law -/
abbrev mainS : Str := "main"
abbrev zzS : Str := "zz"
/-- what the body of main answers, called (v) or uncalled -/
def rv (w : Nat) (vars : List Str) (R : Str → Body) (st : List Int) (v : Bool) : Rs := Bk.ares (PM vars w) R 300 [.bd (Bk.way (PM vars w) v (R "main"))] st
section
variable {w : Nat} {vars ks cn ns : List Str} {R : Str → Body} {st : List Int}
theorem way_ok (h : BOk vars (2 ^ w) cn (R "main")) (v : Bool) : BOk vars (2 ^ w) cn (Bk.way (PM vars w) v (R "main")) := by
  cases v
  · exact h.inv
  · exact h
theorem other_R {R' : Str → Body} (hok : TldOk w vars ks cn R) (he : ∀ n ∈ cn, R n = R' n) (k : Nat) {b : Body} (hb : BOk vars (2 ^ w) cn b) : Bk.ares (PM vars w) R k [.bd b] st = Bk.ares (PM vars w) R' k [.bd b] st :=
  Bk.ares_other (q := (· ∈ cn)) he (fun n hn => (hok.bok2 (hok.cno n hn).1).1.all) k (fun x hx => by
    rw [List.mem_singleton] at hx
    subst hx
    exact hb.all)
theorem ans_call (hok : TldOk w vars ks cn R) (hs : StOk vars (2 ^ w) st) (hm : ("main" : Str) ∈ ns) : Answers ⟨w, vars, ns, R⟩ st 300 (rv w vars R st true) := fun T E hR => Bk.ans_eq hR hm hs 300
theorem ans_uncall (hok : TldOk w vars ks cn R) (hs : StOk vars (2 ^ w) st) (hm : ("main" : Str) ∈ ns) : Answers ⟨w, vars, ns, setR R "main" (inv (R "main"))⟩ st 300 (rv w vars R st false) := fun T E hR => by
  rw [Bk.ans_eq hR hm hs 300]
  have e : setR R "main" (inv (R "main")) "main" = inv (R "main") := if_pos rfl
  show Bk.ares (PM vars w) (setR R "main" (inv (R "main"))) 300 [.bd (setR R "main" (inv (R "main")) "main")] st = _
  rw [e]
  exact (other_R hok (fun n hn => by
    unfold setR
    rw [if_neg (hok.cno n hn).2]) 300 (hok.bok2 hok.main).1.inv).symm
theorem arR_main {m : Body} : arR R m "main" = m := by unfold arR setR; rw [if_pos rfl]
theorem zz_main : ("zz" : Str) ≠ "main" := by decide +kernel
theorem arR_zz {m : Body} : arR R m "zz" = R "main" := by unfold arR setR; rw [if_neg zz_main, if_pos rfl]
theorem ares_ar (hok : TldOk w vars ks cn R) (m : Body) (v : Bool) : Bk.ares (PM vars w) (arR R m) 300 [.bd (Bk.way (PM vars w) v (arR R m "zz"))] st = rv w vars R st v := by
  rw [arR_zz]
  refine (other_R hok (fun n hn => ?_) 300 (way_ok (hok.bok2 hok.main).1 v)).symm
  unfold arR setR
  rw [if_neg (hok.cno n hn).2, if_neg (hok.kn n (hok.cno n hn).1).2]
theorem ans_once (hok : TldOk w vars ks cn R) (hs : StOk vars (2 ^ w) st) (hm : ("main" : Str) ∈ ns) (hz : ("zz" : Str) ∈ ns) (v : Bool) (hn : rv w vars R st v ≠ .long) : Answers ⟨w, vars, ns, arR R (.cl v "zz" .nil)⟩ st 700 (rv w vars R st v).once := fun T E hR =>
  Bk.once_ans hR hm (z := "zz") hz (v := v) (arR_main (R := R) (m := .cl v "zz" .nil)) hs (k := 300) (by decide) (ares_ar hok _ v) hn
theorem ans_both (hok : TldOk w vars ks cn R) (hs : StOk vars (2 ^ w) st) (hm : ("main" : Str) ∈ ns) (hz : ("zz" : Str) ∈ ns) (v : Bool) (hn : rv w vars R st v ≠ .long) : Answers ⟨w, vars, ns, arR R (.cl v "zz" (.cl (!v) "zz" .nil))⟩ st 700 ((rv w vars R st v).both st) := fun T E hR =>
  Bk.both_ans hR hm (z := "zz") hz (v := v) (arR_main (R := R) (m := .cl v "zz" (.cl (!v) "zz" .nil))) hs (k := 300) (by decide) (ares_ar hok _ v) hn
end
/-! ### the answers as data -/
def stD (s : List Int) : PyData := .tuple (s.map PyData.int)
def resD : Rs → PyData
  | .done s n => .tuple [stD s, .int (n : Nat)]
  | .refused n s => .tuple [.str "refused", .int (n : Nat), stD s]
  | .long => .tuple [.str "long"]
theorem ints_lay : ∀ s : List Int, PyData.canLayAll0 (s.map PyData.int) = true
  | [] => by simp [PyData.canLayAll0]
  | x :: r => by
    have := ints_lay r
    simp only [List.map_cons, PyData.canLayAll0, PyData.canLay0, Bool.true_and]
    exact this
theorem ints_dep : ∀ s : List Int, PyData.depthAll (s.map PyData.int) = 0
  | [] => by simp [PyData.depthAll]
  | x :: r => by
    have := ints_dep r
    simp only [List.map_cons, PyData.depthAll, PyData.depth]
    omega
theorem stD_lay (s : List Int) : (stD s).canLay0 = true := by simp only [stD, PyData.canLay0]; exact ints_lay s
theorem stD_dep (s : List Int) : (stD s).depth = 1 := by simp only [stD, PyData.depth]; rw [ints_dep]
theorem ok_ref : PyData.strOk ("refused" : Str) = true := by decide +kernel
theorem ok_long : PyData.strOk ("long" : Str) = true := by decide +kernel
theorem resD_lay (r : Rs) : (resD r).canLay0 = true := by
  cases r <;> simp [resD, PyData.canLay0, PyData.canLayAll0, stD_lay, ok_ref, ok_long]
theorem resD_dep (r : Rs) : (resD r).depth ≤ 2 := by
  cases r <;> simp [resD, PyData.depth, PyData.depthAll, stD_dep]
theorem shaped_of {d : PyData} (h1 : d.canLay0 = true) (h2 : d.depth ≤ 64) : SeqAt.shaped d = true := by
  show (d.canLay0 && decide (d.depth ≤ 64)) = true
  rw [h1, decide_eq_true h2]
  rfl
theorem resD_sh (r : Rs) : SeqAt.shaped (resD r) = true := shaped_of (resD_lay r) (Nat.le_trans (resD_dep r) (by decide))
theorem stD_sh (s : List Int) : SeqAt.shaped (stD s) = true := shaped_of (stD_lay s) (by rw [stD_dep]; decide)
theorem refD_sh : SeqAt.shaped (.str "refused") = true := shaped_of (by simp [PyData.canLay0, ok_ref]) (by simp [PyData.depth])
section
variable {K : PySem.W.Frag} {H : Hp}
theorem dp_ints : ∀ s : List Int, DpAll K H (s.map V.int) (s.map PyData.int)
  | [] => .nil
  | x :: r => .cons (.int x) (dp_ints r)
theorem dp_st {a : Addr} {s : List Int} (h : StA H a s) : Dp K H (.ref a) (stD s) := .tup (SqT.of h) (dp_ints s)
theorem dp_res {v : V} {r : Rs} (h : AnsV H v r) : Dp K H v (resD r) := by
  cases r with
  | done s n => obtain ⟨r, sa, rfl, h1, h2, _⟩ := h; exact .tup (SqT.of h1) (.cons (dp_st h2) (.cons (.int _) .nil))
  | refused n s => obtain ⟨r, sa, rfl, h1, h2, _⟩ := h; exact .tup (SqT.of h1) (.cons (.str _) (.cons (.int _) (.cons (dp_st h2) .nil)))
  | long => obtain ⟨r, rfl, h1⟩ := h; exact .tup (SqT.of h1) (.cons (.str _) .nil)
end
theorem eqv_same (r : Rs) : PyData.eqv (resD r) (resD r) = true := SeqAt.eqv_refl _ (resD_lay r)
theorem eqv_long (r : Rs) : PyData.eqv (resD r) (.tuple [.str "long"]) = match r with | .long => true | _ => false := by
  cases r with
  | done s n => simp [resD, stD, PyData.eqv, PyData.eqvAll]
  | refused n s => simp [resD, PyData.eqv, PyData.eqvAll]
  | long => exact eqv_same .long

theorem u65_of {A : Around} {k : Nat} (hr : Room k A) : A.units + 65 < cLine := by have := hr.un; omega
theorem u64_of {A : Around} {k : Nat} (hr : Room k A) : A.units + 64 < cLine := by have := hr.un; omega
theorem cutV' {A : V → Hp → Prop} {C : V → Hp → Prop} {B : Prop} (f : (∀ x H, C x H → A x H) → B) (h : ∀ x H, C x H → A x H) : B := f h
/-- one of the two turns -/
def TurnA (H : Hp) (x : V) (rr : Bool → Rs) : Prop := ∃ (b : Bool) (t : Addr) (v : V), x = .ref t ∧ H t = some (.tup [.str (if b then ("call" : Str) else "uncall"), v]) ∧ AnsV H v (rr b)
def spLaw (K : PySem.W.Frag) : Sp := fun vs H Q _ => ∃ (l : Addr) (ns : List Int), vs = [.ref l] ∧ SqL K H l (ns.map V.int) ∧ ∀ H', Q (.bl true) H'
section
variable {P : Program} {w : World} {K : PySem.W.Frag} {mg : Str → Option Value} {base : Heap} {a : Ad} {fdR : FuncData}
local macro_rules | `(tactic| tm_at "a") => `(tactic| repeat (first
  | with_reducible refine w_seq ?_ | with_reducible refine w_if ?_ | with_reducible refine w_tB ?_ | with_reducible refine w_tTest ?_ | with_reducible refine w_asg ?_ | with_reducible refine w_name ?_
  | with_reducible refine w_ret ?_ | with_reducible refine w_next ?_ | with_reducible refine w_op ?_ | with_reducible refine w_c ?_ | with_reducible refine w_cb ?_ | with_reducible refine w_call ?_ | with_reducible refine w_cons ?_ | with_reducible refine w_nil ?_
  | with_reducible refine w_var (by with_unfolding_all rfl) ?_
  | with_reducible refine w_rI0 ?_ | with_reducible refine w_eq (by with_unfolding_all rfl) ?_ | with_reducible refine w_ne (by with_unfolding_all rfl) ?_
  | with_reducible refine w_test ?_ | with_reducible refine w_T ?_ | with_reducible refine w_F ?_ | with_reducible refine w_T0 ?_ | with_reducible refine w_F0 ?_
  | with_reducible refine w_and ?_ | with_reducible refine w_or ?_ | with_reducible refine w_not ?_ | with_reducible refine w_ifE ?_ | with_reducible refine w_drop ?_
  | with_reducible refine w_andV ?_ | with_reducible refine w_orV ?_ | with_reducible refine w_notV ?_ | with_reducible refine w_dget ?_ | with_reducible refine w_din ?_ | with_reducible refine w_dnin ?_ | with_reducible refine w_fld ?_
  | with_reducible refine w_ttup ?_ | with_reducible refine w_tlst ?_ | with_reducible refine w_un ?_ | with_reducible refine w_rU ?_ | with_reducible refine w_gcons ?_ | with_reducible refine w_gnil ?_ | with_reducible refine w_sub ?_ | with_reducible refine w_sl ?_ | with_reducible refine w_nopart ?_ | with_reducible refine w_part ?_ | with_reducible refine w_int ?_ | with_reducible refine w_meth ?_
  | with_reducible refine w_make ?_ | with_reducible refine w_dput ?_ | with_reducible refine w_sfld ?_ | with_reducible refine w_bm ?_ | with_reducible refine w_bm0 ?_ | with_reducible refine w_isN ?_ | with_reducible refine w_notT ?_ | with_reducible refine w_forR ?_ | with_reducible refine w_forL ?_ | with_reducible refine w_forT ?_ | with_reducible refine w_fldaug ?_ | with_reducible refine w_radd ?_ | with_reducible refine w_par ?_ | with_reducible refine w_pair ?_
  | with_reducible refine w_lcR ?_ | with_reducible refine w_dcR ?_ | with_reducible refine w_lcL ?_ | with_reducible refine w_lcT ?_ | with_reducible refine w_dcT ?_ | with_reducible refine w_yes ?_ | with_reducible refine w_chain ?_
  | with_reducible refine w_modc (by decide) ?_ | with_reducible refine w_divc (by decide) (by decide) ?_ | with_reducible refine w_mulr (by decide) (by decide) ?_))
theorem sc_law : FnScope ["_law_script", "_law_draws_here", "_law_told", "_law_store_here", "_law_program_here", "_law_plain_here", "_law_turned", "_law_word", "_law_found", "_law_other", "_law_once", "_law_both"] ["_law_script"] (defScope s_law) := ⟨rfl, rfl, rfl, by decide +kernel, rfl, by decide +kernel, by decide +kernel⟩
theorem ok_law (T : Tx w K mg a) (Y : Xx K mg P a fdR) : FnOk P w K mg base CX0 14 a.f_law a.d_law ["_law_script"] (spLaw K) := by
  have G_law_draws : FnOk P w K mg base CX0 1 _ _ _ (spDraws K) := ok_draws T
  have G_law_program : FnOk P w K mg base CX0 5 _ _ _ spLProg := ok_lprog T
  have G_law_recursive : FnOk P w K mg base CX0 1 _ _ _ spLRec := ok_lrec T
  have G_law_store : FnOk P w K mg base CX0 1 _ _ _ spLStore := ok_lstore T
  have G_Program_init : FnOk P w K mg base CX0 7 _ _ _ (spPgInit a) := ok_pginit T
  have G_law_answer : FnOk P w K mg base CX0 12 _ _ _ (spLAns a) := ok_law_answer T Y
  have G_inverse_program : FnOk P w K mg base CX0 9 _ _ _ (spInvP a) := ok_inv_prog T
  have G_law_around : FnOk P w K mg base CX0 9 _ _ _ (spLAround a) := ok_laround T
  refine T.F_law.ok sc_law (fun vs H Q E h => ?_) (fun cdv A outer s H vs Q E hr h => ?_)
  · obtain ⟨l, ns, rfl, _⟩ := h
    rfl
  · obtain ⟨l, ns, rfl, hl, q⟩ := h
    have hu := hu_of hr
    have hu65 := u65_of hr
    have hu64 := u64_of hr
    refine ⟨_, (pss_cons (ps_set (i := 1) sc_law.nd rfl (Or.inl rfl) (pe_call G_law_draws (hr.mono (by decide)) rfl T.g_law_draws T.F_law_draws.kp T.b_law_draws .nil pass0 (pa_cons (pv 0) (pa_cons pe_int pa_nil))))
    (pss_cons (ps_set (i := 2) sc_law.nd rfl (Or.inl rfl) (pe_call G_law_program (hr.mono (by decide)) rfl T.g_law_program T.F_law_program.kp T.b_law_program .nil pass0 (pa_cons (pv 1) (pa_cons pe_bl pa_nil))))
    (pss_cons (ps_if (pt_cmpR op_eq (pe_op op_mod (pe_ix ix_list (pv 1) pe_int (fun _ _ => rfl)) pe_int) pe_int (nomark _)) (pss_one (ps_set (i := 2) sc_law.nd rfl (Or.inl rfl) (pe_call G_law_recursive (hr.mono (by decide)) rfl T.g_law_recursive T.F_law_recursive.kp T.b_law_recursive .nil pass0 (pa_cons (pv 1) (pa_cons (pe_ix ix_tup (pv 2) pe_int (fun _ _ => rfl)) pa_nil))))) pss_nil)
    (pss_cons (ps_set (i := 3) sc_law.nd rfl (Or.inl rfl) (pe_call G_law_store (hr.mono (by decide)) rfl T.g_law_store T.F_law_store.kp T.b_law_store .nil pass0 (pa_cons (pv 1) (pa_cons pe_int (pa_cons (pv 2) pa_nil)))))
    (pss_cons (ps_set (i := 4) sc_law.nd rfl (Or.inl rfl) (pe_make T.mk_Program G_Program_init (hr.mono (by decide)) rfl T.g_Program T.b_Program_init .nil pass0 (pa_cons (pe_ix ix_tup (pv 2) pe_int (fun _ _ => rfl)) (pa_cons (pe_ix ix_tup (pv 2) pe_int (fun _ _ => rfl)) (pa_cons (pe_ix ix_tup (pv 2) pe_int (fun _ _ => rfl)) pa_nil)))))
    (pss_cons (ps_par (i := 5) (j := 6) rfl sc_law.nd rfl rfl (by decide) rfl rfl (pa_cons (pe_call G_law_answer (hr.mono (by decide)) rfl T.g_law_answer T.F_law_answer.kp T.b_law_answer .nil pass0 (pa_cons (pv 4) (pa_cons (pv 3) (pa_cons pe_int pa_nil)))) (pa_cons (pe_call G_law_answer (hr.mono (by decide)) rfl T.g_law_answer T.F_law_answer.kp T.b_law_answer .nil pass0 (pa_cons (pe_call G_inverse_program (hr.mono (by decide)) rfl T.g_inverse_program T.F_inverse_program.kp T.b_inverse_program .nil pass0 (pa_cons (pv 4) pa_nil)) (pa_cons (pv 3) (pa_cons pe_int pa_nil)))) pa_nil)) (by rfl))
    (pss_cons (ps_if (pt_cmpR (op_inD hu65) (pe_tup (pa_cons pe_str pa_nil)) (pe_lst (pa_cons (pv 5) (pa_cons (pv 6) pa_nil))) rfl) (pss_one (ps_ret pe_bl)) pss_nil)
    (pss_cons (ps_for PassesOwn.never rfl (pi_list (pe_lst (pa_cons (pe_tup (pa_cons pe_str (pa_cons (pv 5) pa_nil))) (pa_cons (pe_tup (pa_cons pe_str (pa_cons (pv 6) pa_nil))) pa_nil)))) (pg_tup rfl (pgs_cons (pg_name (i := 7) sc_law.nd rfl (Or.inl rfl)) (pgs_cons (pg_name (i := 8) sc_law.nd rfl (Or.inl rfl)) pgs_nil)))
      (pss_cons (ps_set (i := 9) sc_law.nd rfl (Or.inl rfl) (pe_ix ix_list (pe_lst (pa_cons pe_str (pa_cons pe_str pa_nil))) (pe_callTy cl_int (by rfl) T.z_int (by decide +kernel) (pa_cons (pe_cmpR op_eq (pv 7) pe_str (nomark _)) pa_nil)) (fun _ _ => rfl)))
    (pss_cons (ps_set (i := 10) sc_law.nd rfl (Or.inl rfl) (pe_call G_law_answer (hr.mono (by decide)) rfl T.g_law_answer T.F_law_answer.kp T.b_law_answer .nil pass0 (pa_cons (pe_call G_law_around (hr.mono (by decide)) rfl T.g_law_around T.F_law_around.kp T.b_law_around .nil pass0 (pa_cons (pv 2) (pa_cons (pe_tup (pa_cons (pe_tup (pa_cons (pv 7) (pa_cons pe_str pa_nil))) pa_nil)) pa_nil))) (pa_cons (pv 3) (pa_cons pe_int pa_nil)))))
    (pss_cons (ps_set (i := 11) sc_law.nd rfl (Or.inl rfl) (pe_call G_law_answer (hr.mono (by decide)) rfl T.g_law_answer T.F_law_answer.kp T.b_law_answer .nil pass0 (pa_cons (pe_call G_law_around (hr.mono (by decide)) rfl T.g_law_around T.F_law_around.kp T.b_law_around .nil pass0 (pa_cons (pv 2) (pa_cons (pe_tup (pa_cons (pe_tup (pa_cons (pv 7) (pa_cons pe_str pa_nil))) (pa_cons (pe_tup (pa_cons (pv 9) (pa_cons pe_str pa_nil))) pa_nil))) pa_nil))) (pa_cons (pv 3) (pa_cons pe_int pa_nil)))))
    (pss_one (ps_if (pt_cmpR (op_eqD hu64) (pe_ix ix_tup (pv 8) pe_int (fun _ _ => rfl)) pe_str (nomark _)) (pss_one (ps_if (PW.pt (pw_or (pt_cmpR (op_neD hu64) (pv 10) (pe_tup (pa_cons pe_str (pa_cons (pe_op op_add (pe_ix ix_tup (pv 8) pe_int (fun _ _ => rfl)) pe_int) (pa_cons (pe_ix ix_tup (pv 8) pe_int (fun _ _ => rfl)) pa_nil)))) (nomark _)) (pw_or1 (pt_cmpR (op_neD hu64) (pv 11) (pv 10) (nomark _))))) (pss_one (ps_ret pe_bl)) pss_nil)) (pss_one (ps_if (PW.pt (pw_or (pt_cmpR (op_neD hu64) (pv 10) (pe_tup (pa_cons (pe_ix ix_tup (pv 8) pe_int (fun _ _ => rfl)) (pa_cons (pe_op op_add (pe_ix ix_tup (pv 8) pe_int (fun _ _ => rfl)) pe_int) pa_nil))) (nomark _)) (pw_or1 (pt_cmpR (op_neD hu64) (pv 11) (pe_tup (pa_cons (pv 3) (pa_cons (pe_op op_add (pe_op op_mul pe_int (pe_ix ix_tup (pv 8) pe_int (fun _ _ => rfl))) pe_int) pa_nil))) (nomark _))))) (pss_one (ps_ret pe_bl)) pss_nil))))))))
    (pss_one (ps_ret pe_bl)))))))))), ?_⟩
    tm_at "a"
    refine ⟨l, ns, rfl, hl, fun H1 dl s1 hdr => ?_⟩
    tm_at "a"
    refine ⟨dl, true, rfl, hdr, fun H2 tv w1 vars1 ks1 cn1 R1 s2 htold1 hok1 => ?_⟩
    tm_at "a"
    have hdr2 := hdr.mono s2
    refine w_dr hdr2 (by decide) (by decide) (fun d0 hd0 => ?_)
    obtain ⟨r1, vt1, dt1, kvs1, rfl, g1, g2, g3, g4⟩ := id htold1
    tm_at "a"
    refine cutV' (A := ?T1) (C := fun v H3 => Same H2 H3 ∧ ∃ w1 vars ks cn R, ToldA H3 v w1 vars ks cn R ∧ TldOk w1 vars ks cn R) (fun tail => ?m1) ?t1
    case m1 =>
      refine w_b (fun e => ?_) (fun e => ?_)
      · tm_at "a"
        refine w_ixT g1 (atI_nat (j := 0) rfl) ?_
        tm_at "a"
        refine ⟨dl, w1, rfl, hdr2, hok1.w1, hok1.w8, fun H3 v w2 vars ks cn R s3 htold hok => ?_⟩
        tm_at "a"
        exact tail v H3 ⟨s3, w2, vars, ks, cn, R, htold, hok⟩
      · tm_at "a"
        exact tail (.ref r1) H2 ⟨Same.refl _, w1, vars1, ks1, cn1, R1, htold1, hok1⟩
    intro tv3 H3 ⟨s3, wd, vars, ks, cn, R, htold, hok⟩
    have hdr3 := hdr2.mono s3
    tm_at "a"
    refine ⟨dl, 110, tv3, wd, vars, ks, cn, R, rfl, hdr3, by decide, by decide, htold, hok, fun H4 sa st s4 hsa hst => ?_⟩
    obtain ⟨rt, vt, dt, kvs, rfl, t1, t2, t3, t4⟩ := id htold
    have htold4 := htold.mono s4
    tm_at "a"
    refine w_ixT (s4 _ _ t1) (atI_nat (j := 0) rfl) ?_
    tm_at "a"
    refine w_ixT (s4 _ _ t1) (atI_nat (j := 1) rfl) ?_
    tm_at "a"
    refine w_ixT (s4 _ _ t1) (atI_nat (j := 2) rfl) ?_
    tm_at "a"
    intro x dx nx ndx nex
    have s5 : Same H4 (upd (upd H4 dx (.own x)) x (.ins a.c_Program dx [])) := fun b o e => by
      rw [upd_ne (ne_of_none e nx), upd_ne (ne_of_none e ndx)]
      exact e
    refine ⟨x, dx, vt, dt, wd, vars, ks, cn, R, kvs, rfl, upd_same, s5 _ _ (s4 _ _ t2), s5 _ _ (s4 _ _ t3), (t4.mono ((Im.of s4).trans (Im.of s5))).d hok.kd, hok.pg, fun H6 ns0 k6 hperm hpg => ⟨rfl, ?_⟩⟩
    have s46 : Same H4 H6 := fun b o e => k6 b o (s5 b o e) (by simpa using ne_of_none e nx)
    have hns0 : ns0.Nodup := hperm.nodup_iff.mpr hok.kd
    have hmain0 : ("main" : Str) ∈ ns0 := hperm.mem_iff.mpr hok.main
    tm_at "a"
    refine ⟨x, sa, ⟨wd, vars, ns0, R⟩, st, 300, _, rfl, hpg, hok.pg.pd hok.kd hperm, hok.vd, s46 _ _ hsa, hst, by decide, ans_call hok hst hmain0, fun H7 v1 s7 hv1 => ?_⟩
    have s47 := s46.trans s7
    tm_at "a"
    refine ⟨x, ⟨wd, vars, ns0, R⟩, cn, rfl, hpg.mono s7, hok.pg.perm hperm, hns0, fun H8 r8 ns8 s8 hperm8 hpg8 => ?_⟩
    have s48 := s47.trans s8
    have pI : PgOk wd vars ns8 cn (setR R "main" (inv (R "main"))) := (hok.pg.perm hperm).inv.perm hperm8
    have hns8 : ns8.Nodup := hperm8.nodup_iff.mpr hns0
    tm_at "a"
    refine ⟨r8, sa, ⟨wd, vars, ns8, setR R "main" (inv (R "main"))⟩, st, 300, _, rfl, hpg8, (hok.pg.perm hperm).inv.pd hns0 hperm8, hok.vd, s48 _ _ hsa, hst, by decide, ans_uncall hok hst (hperm8.mem_iff.mpr hmain0), fun H9 v2 s9 hv2 => ?_⟩
    have s49 := s48.trans s9
    have hv1 := hv1.mono (Im.of (s8.trans s9))
    tm_at "a"
    refine w_lay (by show 1 ≤ 100000; decide) fun lt H10 s10 n10 h10 => ?_
    tm_at "a"
    refine w_lay (by show 2 ≤ 100000; decide) fun ll H11 s11 n11 h11 => ?_
    have s9B := s10.trans s11
    have hv1 := hv1.mono (Im.of s9B)
    have hv2 := hv2.mono (Im.of s9B)
    refine ⟨.tuple [.str "long"], [resD (rv wd vars R st true), resD (rv wd vars R st false)], .tup (SqT.of (s11 _ _ h10)) (.cons (.str _) .nil), .lst (SqL.of h11) (.cons (dp_res hv1) (.cons (dp_res hv2) .nil)), resD_sh .long, shaped_of ?_ ?_, ?_⟩
    · simp [PyData.canLay0, PyData.canLayAll0, resD_lay]
    · have z1 := resD_dep (rv wd vars R st true)
      have z2 := resD_dep (rv wd vars R st false)
      simp only [PyData.depth, PyData.depthAll]
      omega
    have s4B := s49.trans s9B
    refine w_test ?_
    refine w_b (fun e => ?_) (fun e => ?_)
    · tm_at "a"
      exact q _
    · have hnl : ∀ b : Bool, rv wd vars R st b ≠ .long := fun b z => by
        have e1 : ([resD (rv wd vars R st true), resD (rv wd vars R st false)].any fun z => PyData.eqv z (.tuple [.str "long"])) = true := by
          cases b
          · simp only [List.any_cons, eqv_long, z, List.any_nil, Bool.or_false, Bool.or_true]
          · simp only [List.any_cons, eqv_long, z, Bool.true_or]
        rw [e1] at e
        cases e
      tm_at "a"
      refine w_lay (by show 2 ≤ 100000; decide) fun i1 H12 s12 n12 h12 => ?_
      tm_at "a"
      refine w_lay (by show 2 ≤ 100000; decide) fun i2 H13 s13 n13 h13 => ?_
      tm_at "a"
      refine w_lay (by show 2 ≤ 100000; decide) fun fl H14 s14 n14 h14 => ?_
      have sBE := (s12.trans s13).trans s14
      have s4E := s4B.trans sBE
      have htoldE := htold4.mono s4E
      have hsaE := s4E _ _ hsa
      have hit : ∀ i x, ([V.ref i1, V.ref i2] : List V)[i]? = some x → TurnA H14 x (rv wd vars R st) := fun i x hx => by
        have hx' : x = .ref i1 ∨ x = .ref i2 := by
          have z := List.mem_of_getElem? hx
          simpa using z
        rcases hx' with z | z
        · exact ⟨true, i1, v1, z, s14 _ _ (s13 _ _ h12), hv1.mono (Im.of sBE)⟩
        · exact ⟨false, i2, v2, z, s14 _ _ h13, hv2.mono (Im.of sBE)⟩
      refine w_lst (xs := [V.ref i1, V.ref i2]) (fun i σ H' => ∃ o7 o8 o9 o10 o11, σ = [some (.ref l), some (.ref dl), some (.ref rt), some (.ref sa), some (.ref x), some v1, some v2, o7, o8, o9, o10, o11] ∧ Same H14 H')
        ⟨none, none, none, none, none, rfl, Same.refl _⟩ (fun i σ H' hi h => ?_) (fun i x' σ H' hx h => ?_) (fun σ H' h => ?_)
      · obtain ⟨_, _, _, _, _, _, s'⟩ := h
        exact s' _ _ h14
      · obtain ⟨o7, o8, o9, o10, o11, rfl, sE'⟩ := h
        obtain ⟨b, t, fv, rfl, ht, hfv⟩ := hit i x' hx
        have ht := sE' _ _ ht
        have hfv := hfv.mono (Im.of sE')
        have htold' := htoldE.mono sE'
        have hsa' := sE' _ _ hsaE
        refine w_tup ht rfl ?_
        tm_at "a"
        refine w_lay (by show 2 ≤ 100000; decide) fun ol G1 u1 m1 g1 => ?_
        tm_at "a"
        refine w_intB ?_
        have e1 : atI [V.str "call", V.str "uncall"] (if decide (V.str (if b then ("call" : Str) else "uncall") = V.str "call") then 1 else 0) = some (.str (if !b then ("call" : Str) else "uncall")) := by
          cases b <;> decide +kernel
        refine w_ixL g1 e1 ?_
        tm_at "a"
        -- once
        refine w_lay (by show 2 ≤ 100000; decide) fun p1 G2 u2 m2 g2 => ?_
        tm_at "a"
        refine w_lay (by show 1 ≤ 100000; decide) fun p2 G3 u3 m3 g3 => ?_
        have u13 := (u1.trans u2).trans u3
        have zzc : ("zz" : Str) ∈ cn ++ [("zz" : Str)] := List.mem_append_right _ (List.mem_singleton_self _)
        tm_at "a"
        refine ⟨.ref rt, .ref p2, wd, vars, ks, cn, R, .cl b "zz" .nil, rfl, htold'.mono u13, hok, ⟨p2, _, rfl, g3, p1, [], rfl, u3 _ _ g2, rfl⟩, ⟨zzc, trivial⟩, by simp only [sc]; omega, rfl, fun G4 rp nsA u4 hpA hgA hkA => ?_⟩
        have u14 := u13.trans u4
        have hmA : ("main" : Str) ∈ nsA := hpA.mem_iff.mpr (List.mem_append_left _ hok.main)
        have hzA : ("zz" : Str) ∈ nsA := hpA.mem_iff.mpr (List.mem_append_right _ (List.mem_singleton_self _))
        have ndz : (ks ++ [("zz" : Str)]).Nodup := by
          rw [List.nodup_append]
          exact ⟨hok.kd, by simp, fun x hx y hy z => by rw [List.mem_singleton] at hy; rw [z, hy] at hx; exact (hok.kn _ hx).2 rfl⟩
        tm_at "a"
        refine ⟨rp, sa, ⟨wd, vars, nsA, arR R (.cl b "zz" .nil)⟩, st, 700, _, rfl, hgA, hkA.pd ndz hpA, hok.vd, u14 _ _ hsa', hst, by decide, ans_once hok hst hmA hzA b (hnl b), fun G5 vo u5 hvo => ?_⟩
        have u15 := u14.trans u5
        tm_at "a"
        -- both
        refine w_lay (by show 2 ≤ 100000; decide) fun p3 G6 u6 m6 g6 => ?_
        tm_at "a"
        refine w_lay (by show 2 ≤ 100000; decide) fun p4 G7 u7 m7 g7 => ?_
        tm_at "a"
        refine w_lay (by show 2 ≤ 100000; decide) fun p5 G8 u8 m8 g8 => ?_
        have u58 := (u6.trans u7).trans u8
        have u18 := u15.trans u58
        tm_at "a"
        refine ⟨.ref rt, .ref p5, wd, vars, ks, cn, R, .cl b "zz" (.cl (!b) "zz" .nil), rfl, htold'.mono u18, hok, ⟨p5, _, rfl, g8, p3, _, rfl, u8 _ _ (u7 _ _ g6), p4, [], rfl, u8 _ _ g7, rfl⟩, ⟨zzc, zzc, trivial⟩, by simp only [sc]; omega, rfl, fun G9 rq nsB u9 hpB hgB hkB => ?_⟩
        have u19 := u18.trans u9
        have hmB : ("main" : Str) ∈ nsB := hpB.mem_iff.mpr (List.mem_append_left _ hok.main)
        have hzB : ("zz" : Str) ∈ nsB := hpB.mem_iff.mpr (List.mem_append_right _ (List.mem_singleton_self _))
        tm_at "a"
        refine ⟨rq, sa, ⟨wd, vars, nsB, arR R (.cl b "zz" (.cl (!b) "zz" .nil))⟩, st, 700, _, rfl, hgB, hkB.pd ndz hpB, hok.vd, u19 _ _ hsa', hst, by decide, ans_both hok hst hmB hzB b (hnl b), fun G10 vb uA hvb => ?_⟩
        have u1A := u19.trans uA
        have hvo := hvo.mono (Im.of ((u58.trans u9).trans uA))
        have hfv := hfv.mono (Im.of u1A)
        have hsaA := u1A _ _ hsa'
        tm_at "a"
        cases er : rv wd vars R st b with
        | long => exact absurd er (hnl b)
        | done s n =>
          rw [er] at hfv hvo hvb
          obtain ⟨rf, sf, rfl, f1, f2, _⟩ := hfv
          refine w_ixT f1 (atI_nat (j := 0) rfl) ?_
          tm_at "a"
          refine ⟨stD s, .str "refused", dp_st f2, .str _, stD_sh s, refD_sh, ?_⟩
          have e2 : PyData.eqv (stD s) (.str "refused") = false := by simp [stD, PyData.eqv]
          rw [e2]
          tm_at "a"
          refine w_ixT f1 (atI_nat (j := 0) rfl) ?_
          tm_at "a"
          refine w_ixT f1 (atI_nat (j := 1) rfl) ?_
          tm_at "a"
          refine w_lay (by show 2 ≤ 100000; decide) fun q1 G11 uB m11 g11 => ?_
          have en : ((n : Nat) : Int) + 2 = ((n + 2 : Nat) : Int) := by omega
          rw [en] at g11
          refine ⟨resD (.done s (n + 2)), resD (.done s (n + 2)), dp_res (hvo.mono (Im.of uB)), .tup (SqT.of g11) (.cons (dp_st (uB _ _ f2)) (.cons (.int _) .nil)), resD_sh _, resD_sh _, ?_⟩
          rw [eqv_same]
          tm_at "a"
          refine w_ixT (uB _ _ f1) (atI_nat (j := 1) rfl) ?_
          refine w_mull (by decide) (by decide) ?_
          tm_at "a"
          refine w_lay (by show 2 ≤ 100000; decide) fun q2 G12 uC m12 g12 => ?_
          have en2 : 2 * ((n : Nat) : Int) + 4 = ((2 * n + 4 : Nat) : Int) := by omega
          rw [en2] at g12
          have uBC := uB.trans uC
          refine ⟨resD (.done st (2 * n + 4)), resD (.done st (2 * n + 4)), dp_res (hvb.mono (Im.of uBC)), .tup (SqT.of g12) (.cons (dp_st (uBC _ _ hsaA)) (.cons (.int _) .nil)), resD_sh _, resD_sh _, ?_⟩
          rw [eqv_same]
          tm_at "a"
          exact ⟨_, _, _, _, _, rfl, (sE'.trans u1A).trans uBC⟩
        | refused n s =>
          rw [er] at hfv hvo hvb
          obtain ⟨rf, sf, rfl, f1, f2, _⟩ := hfv
          refine w_ixT f1 (atI_nat (j := 0) rfl) ?_
          tm_at "a"
          refine ⟨.str "refused", .str "refused", .str _, .str _, refD_sh, refD_sh, ?_⟩
          have e2 : PyData.eqv (.str "refused") (.str "refused") = true := by simp [PyData.eqv]
          rw [e2]
          tm_at "a"
          refine w_ixT f1 (atI_nat (j := 1) rfl) ?_
          tm_at "a"
          refine w_ixT f1 (atI_nat (j := 2) rfl) ?_
          tm_at "a"
          refine w_lay (by show 3 ≤ 100000; decide) fun q1 G11 uB m11 g11 => ?_
          have en : ((n : Nat) : Int) + 1 = ((n + 1 : Nat) : Int) := by omega
          rw [en] at g11
          refine ⟨resD (.refused (n + 1) s), resD (.refused (n + 1) s), dp_res (hvo.mono (Im.of uB)), .tup (SqT.of g11) (.cons (.str _) (.cons (.int _) (.cons (dp_st (uB _ _ f2)) .nil))), resD_sh _, resD_sh _, ?_⟩
          rw [eqv_same]
          tm_at "a"
          refine ⟨resD (.refused (n + 1) s), resD (.refused (n + 1) s), dp_res (hvb.mono (Im.of uB)), dp_res (hvo.mono (Im.of uB)), resD_sh _, resD_sh _, ?_⟩
          rw [eqv_same]
          tm_at "a"
          exact ⟨_, _, _, _, _, rfl, (sE'.trans u1A).trans uB⟩
      · obtain ⟨_, _, _, _, _, rfl, _⟩ := h
        tm_at "a"
        exact q _
end
end Kt
end -- KLw
section -- KEnd
set_option Elab.async false
set_option linter.all false
set_option maxRecDepth 100000
set_option maxHeartbeats 4000000
/-! KEnd: how the facts of the head are laid: one lemma a def, a class, a table. Printed in part by genend.py. -/
namespace Kt
open PySem L2
section
variable {R : Prop} {K : PySem.W.Frag} {h : Heap} {mg : Str → Option Value} {w : World}
theorem gdef {x : Str} {st : Stmt} {f : Addr} {od an : Option Addr} {sl : Array (Option Value)} {oc kV dc pm cd ct : Value} (X : K.In h) (G : h.Ns mainGlobals mg) (a : PySem.W.nsIn K mainGlobals x = some (some (.ref f)))
    (l : K.lookup f = some ⟨oc, od, .func (PySem.W.fnOf x x (defArgs st) (defBody st) (defScope st) .none kV dc pm an cd ct), sl⟩) (c : PySem.W.codeIn K cd x = true) (k : PySem.W.keepIn K (.ref f) = true)
    (rest : ∀ f d, mg x = some (.ref f) → Fun K x x st f d → R) : R := rest f _ (PySem.W.mg_of X G a) (fun_mk l c k)
theorem gint {x : Str} {v : Int} {t : Tok} (X : K.In h) (G : h.Ns mainGlobals mg) (a : PySem.W.nsIn K mainGlobals x = some (some (.int v t))) (rest : (∃ t, mg x = some (.int v t)) → R) : R := rest ⟨t, PySem.W.mg_of X G a⟩
theorem gstr {x v : Str} {t : Tok} (X : K.In h) (G : h.Ns mainGlobals mg) (a : PySem.W.nsIn K mainGlobals x = some (some (.str v t))) (rest : (∃ t, mg x = some (.str v t)) → R) : R := rest ⟨t, PySem.W.mg_of X G a⟩
theorem gnone {x : Str} (X : K.In h) (G : h.Ns mainGlobals mg) (a : PySem.W.nsIn K mainGlobals x = some none) (rest : mg x = none → R) : R := rest (PySem.W.mg_none_of X G a)
theorem gtup {x : Str} {xs : List Str} {k : Addr} {od : Option Addr} {its : Array Value} {n : Nat} {sl : Array (Option Value)} (X : K.In h) (G : h.Ns mainGlobals mg) (a : PySem.W.nsIn K mainGlobals x = some (some (.ref k)))
    (l : K.lookup k = some ⟨.type "tuple", od, .seq its n, sl⟩) (s : its.size ≤ sizeLine) (v : Vals (xs.map V.str) its.toList) (rest : ∀ k, mg x = some (.ref k) → (∀ H, SqT K H k (xs.map V.str)) → R) : R :=
  rest k (PySem.W.mg_of X G a) fun H => .inr ⟨_, its, n, l, rfl, rfl, s, v⟩
theorem vs_nil : Vals ([] : List V) [] := .nil
theorem vs_str {x : Str} {t : Tok} {xs : List V} {us : List Value} (h : Vals xs us) : Vals (.str x :: xs) (.str x t :: us) := .cons ⟨t, rfl⟩ h
theorem kl_nil {P : Params} : PySem.W.KeysLit P [] := trivial
theorem kl_cons {P : Params} {e : DictEntry} {r : List DictEntry} {x : Str} {t : Tok} (h1 : e.key = .str x t) (h2 : e.hash = PyData.keyHash P x) (h : PySem.W.KeysLit P r) : PySem.W.KeysLit P (e :: r) := ⟨⟨x, t, h1, h2⟩, h⟩
theorem kd {k : Addr} {es : Array DictEntry} {n : Nat} {x y : Str} {t : Tok} (l : K.lookup k = some ⟨.type "dict", none, .dict es n, #[]⟩) (kl : PySem.W.KeysLit w.params es.toList) (e : PySem.W.nsIn K k x = some (some (.str y t))) : KDct K w k x (.str y) :=
  ⟨es, n, _, l, kl, e, t, rfl⟩
theorem gd_UNDONE {k : Addr} {es : Array DictEntry} {n : Nat} {t0 t1 t2 t3 : Tok} (X : K.In h) (G : h.Ns mainGlobals mg) (a : PySem.W.nsIn K mainGlobals "UNDONE" = some (some (.ref k)))
    (l : K.lookup k = some ⟨.type "dict", none, .dict es n, #[]⟩) (kl : PySem.W.KeysLit w.params es.toList) (n0 : PySem.W.nsIn K k "+=" = some (some (.str "-=" t0))) (n1 : PySem.W.nsIn K k "-=" = some (some (.str "+=" t1))) (n2 : PySem.W.nsIn K k "^=" = some (some (.str "^=" t2)))
    (n3 : PySem.W.nsIn K k "swap" = some (some (.str "swap" t3))) (rest : ∀ k, mg "UNDONE" = some (.ref k) → KDct K w k "+=" (.str "-=") → KDct K w k "-=" (.str "+=") → KDct K w k "^=" (.str "^=") → KDct K w k "swap" (.str "swap") → R) : R :=
  rest k (PySem.W.mg_of X G a) (kd l kl n0) (kd l kl n1) (kd l kl n2) (kd l kl n3)
theorem gd_OPPOSITES {k : Addr} {es : Array DictEntry} {n : Nat} {t0 t1 t2 t3 t4 t5 : Tok} (X : K.In h) (G : h.Ns mainGlobals mg) (a : PySem.W.nsIn K mainGlobals "OPPOSITES" = some (some (.ref k)))
    (l : K.lookup k = some ⟨.type "dict", none, .dict es n, #[]⟩) (kl : PySem.W.KeysLit w.params es.toList) (n0 : PySem.W.nsIn K k "+=" = some (some (.str "-=" t0))) (n1 : PySem.W.nsIn K k "-=" = some (some (.str "+=" t1))) (n2 : PySem.W.nsIn K k "^=" = some (some (.str "^=" t2)))
    (n3 : PySem.W.nsIn K k "swap" = some (some (.str "swap" t3))) (n4 : PySem.W.nsIn K k "call" = some (some (.str "uncall" t4))) (n5 : PySem.W.nsIn K k "uncall" = some (some (.str "call" t5)))
    (rest : ∀ k, mg "OPPOSITES" = some (.ref k) → KDct K w k "+=" (.str "-=") → KDct K w k "-=" (.str "+=") → KDct K w k "^=" (.str "^=") → KDct K w k "swap" (.str "swap") → KDct K w k "call" (.str "uncall") → KDct K w k "uncall" (.str "call") → R) : R :=
  rest k (PySem.W.mg_of X G a) (kd l kl n0) (kd l kl n1) (kd l kl n2) (kd l kl n3) (kd l kl n4) (kd l kl n5)
/-- which class an except names: from how the two classes stand -/
theorem exm_is {S U : Addr} {b : Bool} (h1 : PySem.W.subIn K (.ref U) (.type "BaseException") = some true) (h1' : PySem.W.subIn K (.ref S) (.type "BaseException") = some true) (h2 : PySem.W.isClsIn K S = true) (h3 : PySem.W.typeIn K (.ref S) = some (.type "type")) (g2 : PySem.W.isClsIn K U = true) (g3 : PySem.W.typeIn K (.ref U) = some (.type "type"))
    (h4 : PySem.W.subIn K (.ref S) (.ref U) = some b) : PySem.W.exmOne K (.ref S) (.ref U) = some b := by
  have e0 : (PySem.W.subIn K (.ref S) (.type "BaseException") == some true) = true := by rw [h1'] <;> rfl
  have e1 : (PySem.W.subIn K (.ref U) (.type "BaseException") == some true) = true := by rw [h1] <;> rfl
  have h2' : (PySem.W.clsIn K S).isSome = true := h2
  have g2' : (PySem.W.clsIn K U).isSome = true := g2
  have e2 : ((PySem.W.clsIn K S).isSome && PySem.W.typeIn K (.ref S) == some (.type "type")) = true := by rw [h2', h3] <;> rfl
  have e3 : ((PySem.W.clsIn K U).isSome && PySem.W.typeIn K (.ref U) == some (.type "type")) = true := by rw [g2', g3] <;> rfl
  show (if (PySem.W.subIn K (.ref U) (.type "BaseException") == some true) = true then (if ((PySem.W.clsIn K U).isSome && PySem.W.typeIn K (.ref U) == some (.type "type")) = true then PySem.W.subIn K (.ref S) (.ref U) else none) else none) = some b
  rw [if_pos e1, if_pos e3]
  exact h4
/-- the two exceptions that the law meets -/
theorem gexc {P : Program} {C T f : Addr} {nm q : Str} {N : Addr} {bs bm : List Value} {sn : List Str} {sub : List Value} {ab : Bool} {col : Option Bool} {dd : Option Addr} {m0 m1 m2 m3 m5 : Option Value}
    {oc kV doc pm ct : Value} {od an : Option Addr} {osl : Array (Option Value)} {cda cc : Addr} {vs : Array Value} {file : Str} {tf : Tok} {ccl cl : Value} {cdd cld : Option Addr} {ccs csl : Array (Option Value)} (X : K.In h) (G : h.Ns mainGlobals mg)
    (aC : PySem.W.nsIn K mainGlobals "Refused" = some (some (.ref C))) (aT : PySem.W.nsIn K mainGlobals "TooLong" = some (some (.ref T)))
    (xL : K.lookup C = some (excClassObj nm q C N bs bm true sn sub ab col dd m0 m1 m2 m3 m5 "ValueError.__new__")) (vb : PySem.HandSPX.refsVE bm = true) (sa : PySem.W.findIn K (.ref C) "__setattr__" = some (some (.builtin "object.__setattr__")))
    (eC : PySem.W.subIn K (.ref C) (.type "BaseException") = some true) (tC : PySem.W.typeIn K (.ref C) = some (.type "type")) (kC : PySem.W.keepIn K (.ref C) = true) (iC : PySem.W.isClsIn K C = true)
    (a1 : PySem.W.findIn K (.ref C) "__init__" = some (some (.ref f))) (t1 : PySem.W.typeIn K (.ref f) = some (.type "function")) (n1 : PySem.W.findIn K (.ref C) "steps" = some none) (n2 : PySem.W.findIn K (.ref C) "store" = some none)
    (l1 : K.lookup f = some ⟨oc, od, .func (PySem.W.ksFn "__init__" "Refused.__init__" (defArgs s_Refused_init) (defBody s_Refused_init) (defScope s_Refused_init) .none kV doc pm an (.ref cda) ct cc), osl⟩) (c1 : PySem.W.codeIn K (.ref cda) "Refused.__init__" = true)
    (d1 : K.lookup cda = some ⟨ccl, cdd, .fields vs, ccs⟩) (e1 : vs[2]? = some (.str file tf)) (g1 : ((P.main.file : Str) == file) = true) (h1 : K.lookup cc = some ⟨cl, cld, .cell (some (.ref C)), csl⟩) (mr : PySem.W.mroIn K C (.ref C) = some true)
    (st : PySem.W.nsIn K PySem.cStatics "thirdparty.any" = some none) (su : PySem.W.ks_superIn K C C "__init__" = some (some (.builtin "ValueError.__init__"))) (sv : PySem.W.subIn K (.ref C) (.type "ValueError") = some true)
    (z1 : PySem.W.nsIn K mainGlobals "super" = some none) (z2 : PySem.W.nsIn K mainGlobals "str" = some none) (tp : (P.main.scope.names.lookup ("super" : Str)).isSome = false)
    (ga : PySem.W.findIn K (.ref C) "__getattribute__" = some (some (.builtin "BaseException.__getattribute__"))) (gg : PySem.W.findIn K (.ref C) "__getattr__" = some none) (hC : PySem.W.hasDictIn K C = true)
    (xT : PySem.W.excIn K T [.type "ValueError", .type "Exception", .type "BaseException", .type "object"] "ValueError.__new__" = true) (kT : PySem.W.keepIn K (.ref T) = true) (eT : PySem.W.subIn K (.ref T) (.type "BaseException") = some true) (tT : PySem.W.typeIn K (.ref T) = some (.type "type")) (iT : PySem.W.isClsIn K T = true)
    (sR : PySem.W.subIn K (.ref C) (.ref C) = some true) (sT : PySem.W.subIn K (.ref T) (.ref T) = some true) (sTR : PySem.W.subIn K (.ref T) (.ref C) = some false)
    (rest : ∀ C T f fdR, (∀ a : Ad, a.c_Refused = C → a.c_TooLong = T → a.f_Refused_init = f → Xx K mg P a fdR) → R) : R := by
  refine rest C T f (PySem.W.ksFn "__init__" "Refused.__init__" (defArgs s_Refused_init) (defBody s_Refused_init) (defScope s_Refused_init) .none kV doc pm an (.ref cda) ct cc) fun a q1 q2 q3 => ?_
  subst q1
  subst q2
  subst q3
  exact {
    RF := {
      ox := ⟨⟨nm, q, N, bs, bm, sn, sub, ab, col, dd, m0, m1, m2, m3, m5, xL, vb⟩, sa, eC, tC, kC⟩, gC := PySem.W.mg_of X G aC, iC := a1, tI := t1, no_steps := n1, no_store := n2,
      fn := ⟨oc, .none, kV, doc, pm, ct, od, an, osl, cda, cc, vs, file, tf, ccl, cl, cdd, cld, ccs, csl, rfl, l1, c1, d1, e1, g1, h1⟩,
      sub := mr, stat := st, sup := su, subVE := sv, z_super := PySem.W.mg_none_of X G z1, z_str := PySem.W.mg_none_of X G z2, top := tp },
    bR := .all fun us hl => match us, hl with | [_, _, _], _ => rfl,
    ex_TooLong := xT, g_TooLong := PySem.W.mg_of X G aT, k_TooLong := kT, sx_TooLong := eT, tx_TooLong := tT,
    mR := exm_is eC eC iC tC iC tC sR, mTR := exm_is eC eT iT tT iC tC sTR, mT := exm_is eT eT iT tT iT tT sT,
    xf := ⟨ga, gg, eC, hC⟩ }
end
theorem gc_Checker {R : Prop} {K : PySem.W.Frag} {h : Heap} {mg : Str → Option Value} {C : Addr} {f0 : Addr} {od0 an0 : Option Addr} {sl0 : Array (Option Value)} {oc0 kV0 dc0 pm0 cd0 ct0 : Value} {f1 : Addr} {od1 an1 : Option Addr} {sl1 : Array (Option Value)} {oc1 kV1 dc1 pm1 cd1 ct1 : Value} {f2 : Addr} {od2 an2 : Option Addr} {sl2 : Array (Option Value)} {oc2 kV2 dc2 pm2 cd2 ct2 : Value} {f3 : Addr} {od3 an3 : Option Addr} {sl3 : Array (Option Value)} {oc3 kV3 dc3 pm3 cd3 ct3 : Value} {f4 : Addr} {od4 an4 : Option Addr} {sl4 : Array (Option Value)} {oc4 kV4 dc4 pm4 cd4 ct4 : Value} {f5 : Addr} {od5 an5 : Option Addr} {sl5 : Array (Option Value)} {oc5 kV5 dc5 pm5 cd5 ct5 : Value} (X : K.In h) (G : h.Ns mainGlobals mg)
    (aC : PySem.W.nsIn K mainGlobals "Checker" = some (some (.ref C))) (pg : PySem.W.plainGet K C Str.empty = true) (hd : PySem.W.hasDictIn K C = true) (po : PySem.W.plainOver K C = true) (sa : PySem.W.findIn K (.ref C) "__setattr__" = some (some (.builtin "object.__setattr__"))) (mk : PySem.W.makesIn K C = true) (kc : PySem.W.keepIn K (.ref C) = true)
    (n0 : PySem.W.findIn K (.ref C) "_bound" = some none)
    (n1 : PySem.W.findIn K (.ref C) "_variables" = some none)
    (n2 : PySem.W.findIn K (.ref C) "_names" = some none)
    (a0 : PySem.W.findIn K (.ref C) "__init__" = some (some (.ref f0))) (i0 : PySem.W.isFn K (.ref f0) = true) (l0 : K.lookup f0 = some ⟨oc0, od0, .func (PySem.W.fnOf "__init__" "Checker.__init__" (defArgs s_Checker_init) (defBody s_Checker_init) (defScope s_Checker_init) .none kV0 dc0 pm0 an0 cd0 ct0), sl0⟩) (c0 : PySem.W.codeIn K cd0 "Checker.__init__" = true) (k0 : PySem.W.keepIn K (.ref f0) = true)
    (a1 : PySem.W.findIn K (.ref C) "_is_atom" = some (some (.ref f1))) (i1 : PySem.W.isFn K (.ref f1) = true) (l1 : K.lookup f1 = some ⟨oc1, od1, .func (PySem.W.fnOf "_is_atom" "Checker._is_atom" (defArgs s_Checker__is_atom) (defBody s_Checker__is_atom) (defScope s_Checker__is_atom) .none kV1 dc1 pm1 an1 cd1 ct1), sl1⟩) (c1 : PySem.W.codeIn K cd1 "Checker._is_atom" = true) (k1 : PySem.W.keepIn K (.ref f1) = true)
    (a2 : PySem.W.findIn K (.ref C) "_is_pair" = some (some (.ref f2))) (i2 : PySem.W.isFn K (.ref f2) = true) (l2 : K.lookup f2 = some ⟨oc2, od2, .func (PySem.W.fnOf "_is_pair" "Checker._is_pair" (defArgs s_Checker__is_pair) (defBody s_Checker__is_pair) (defScope s_Checker__is_pair) .none kV2 dc2 pm2 an2 cd2 ct2), sl2⟩) (c2 : PySem.W.codeIn K cd2 "Checker._is_pair" = true) (k2 : PySem.W.keepIn K (.ref f2) = true)
    (a3 : PySem.W.findIn K (.ref C) "_is_change" = some (some (.ref f3))) (i3 : PySem.W.isFn K (.ref f3) = true) (l3 : K.lookup f3 = some ⟨oc3, od3, .func (PySem.W.fnOf "_is_change" "Checker._is_change" (defArgs s_Checker__is_change) (defBody s_Checker__is_change) (defScope s_Checker__is_change) .none kV3 dc3 pm3 an3 cd3 ct3), sl3⟩) (c3 : PySem.W.codeIn K cd3 "Checker._is_change" = true) (k3 : PySem.W.keepIn K (.ref f3) = true)
    (a4 : PySem.W.findIn K (.ref C) "_is_variable" = some (some (.ref f4))) (i4 : PySem.W.isFn K (.ref f4) = true) (l4 : K.lookup f4 = some ⟨oc4, od4, .func (PySem.W.fnOf "_is_variable" "Checker._is_variable" (defArgs s_Checker__is_variable) (defBody s_Checker__is_variable) (defScope s_Checker__is_variable) .none kV4 dc4 pm4 an4 cd4 ct4), sl4⟩) (c4 : PySem.W.codeIn K cd4 "Checker._is_variable" = true) (k4 : PySem.W.keepIn K (.ref f4) = true)
    (a5 : PySem.W.findIn K (.ref C) "is_statement" = some (some (.ref f5))) (i5 : PySem.W.isFn K (.ref f5) = true) (l5 : K.lookup f5 = some ⟨oc5, od5, .func (PySem.W.fnOf "is_statement" "Checker.is_statement" (defArgs s_Checker_is_statement) (defBody s_Checker_is_statement) (defScope s_Checker_is_statement) .none kV5 dc5 pm5 an5 cd5 ct5), sl5⟩) (c5 : PySem.W.codeIn K cd5 "Checker.is_statement" = true) (k5 : PySem.W.keepIn K (.ref f5) = true)
    (rest : ∀ (C : Addr) (f0 : Addr) (d0 : FuncData) (f1 : Addr) (d1 : FuncData) (f2 : Addr) (d2 : FuncData) (f3 : Addr) (d3 : FuncData) (f4 : Addr) (d4 : FuncData) (f5 : Addr) (d5 : FuncData), Cls K C → mg "Checker" = some (.ref C) → Mk K C f0 → NoAttr K C "_bound" → NoAttr K C "_variables" → NoAttr K C "_names" → Fun K "__init__" "Checker.__init__" s_Checker_init f0 d0 → Fun K "_is_atom" "Checker._is_atom" s_Checker__is_atom f1 d1 → Meth K C "_is_atom" f1 → Fun K "_is_pair" "Checker._is_pair" s_Checker__is_pair f2 d2 → Meth K C "_is_pair" f2 → Fun K "_is_change" "Checker._is_change" s_Checker__is_change f3 d3 → Meth K C "_is_change" f3 → Fun K "_is_variable" "Checker._is_variable" s_Checker__is_variable f4 d4 → Meth K C "_is_variable" f4 → Fun K "is_statement" "Checker.is_statement" s_Checker_is_statement f5 d5 → Meth K C "is_statement" f5 → R) : R :=
  rest C f0 _ f1 _ f2 _ f3 _ f4 _ f5 _ ⟨pg, hd, po, sa⟩ (PySem.W.mg_of X G aC) ⟨mk, a0, i0, kc⟩ n0 n1 n2 (fun_mk (st := s_Checker_init) l0 c0 k0) (fun_mk (st := s_Checker__is_atom) l1 c1 k1) ⟨a1, i1, k1⟩ (fun_mk (st := s_Checker__is_pair) l2 c2 k2) ⟨a2, i2, k2⟩ (fun_mk (st := s_Checker__is_change) l3 c3 k3) ⟨a3, i3, k3⟩ (fun_mk (st := s_Checker__is_variable) l4 c4 k4) ⟨a4, i4, k4⟩ (fun_mk (st := s_Checker_is_statement) l5 c5 k5) ⟨a5, i5, k5⟩
theorem gc_Program {R : Prop} {K : PySem.W.Frag} {h : Heap} {mg : Str → Option Value} {C : Addr} {f0 : Addr} {od0 an0 : Option Addr} {sl0 : Array (Option Value)} {oc0 kV0 dc0 pm0 cd0 ct0 : Value} {f1 : Addr} {od1 an1 : Option Addr} {sl1 : Array (Option Value)} {oc1 kV1 dc1 pm1 cd1 ct1 : Value} (X : K.In h) (G : h.Ns mainGlobals mg)
    (aC : PySem.W.nsIn K mainGlobals "Program" = some (some (.ref C))) (pg : PySem.W.plainGet K C Str.empty = true) (hd : PySem.W.hasDictIn K C = true) (po : PySem.W.plainOver K C = true) (sa : PySem.W.findIn K (.ref C) "__setattr__" = some (some (.builtin "object.__setattr__"))) (mk : PySem.W.makesIn K C = true) (kc : PySem.W.keepIn K (.ref C) = true)
    (n0 : PySem.W.findIn K (.ref C) "width" = some none)
    (n1 : PySem.W.findIn K (.ref C) "variables" = some none)
    (n2 : PySem.W.findIn K (.ref C) "names" = some none)
    (n3 : PySem.W.findIn K (.ref C) "_bodies" = some none)
    (a0 : PySem.W.findIn K (.ref C) "__init__" = some (some (.ref f0))) (i0 : PySem.W.isFn K (.ref f0) = true) (l0 : K.lookup f0 = some ⟨oc0, od0, .func (PySem.W.fnOf "__init__" "Program.__init__" (defArgs s_Program_init) (defBody s_Program_init) (defScope s_Program_init) .none kV0 dc0 pm0 an0 cd0 ct0), sl0⟩) (c0 : PySem.W.codeIn K cd0 "Program.__init__" = true) (k0 : PySem.W.keepIn K (.ref f0) = true)
    (a1 : PySem.W.findIn K (.ref C) "body" = some (some (.ref f1))) (i1 : PySem.W.isFn K (.ref f1) = true) (l1 : K.lookup f1 = some ⟨oc1, od1, .func (PySem.W.fnOf "body" "Program.body" (defArgs s_Program_body) (defBody s_Program_body) (defScope s_Program_body) .none kV1 dc1 pm1 an1 cd1 ct1), sl1⟩) (c1 : PySem.W.codeIn K cd1 "Program.body" = true) (k1 : PySem.W.keepIn K (.ref f1) = true)
    (rest : ∀ (C : Addr) (f0 : Addr) (d0 : FuncData) (f1 : Addr) (d1 : FuncData), Cls K C → mg "Program" = some (.ref C) → Mk K C f0 → NoAttr K C "width" → NoAttr K C "variables" → NoAttr K C "names" → NoAttr K C "_bodies" → Fun K "__init__" "Program.__init__" s_Program_init f0 d0 → Fun K "body" "Program.body" s_Program_body f1 d1 → Meth K C "body" f1 → R) : R :=
  rest C f0 _ f1 _ ⟨pg, hd, po, sa⟩ (PySem.W.mg_of X G aC) ⟨mk, a0, i0, kc⟩ n0 n1 n2 n3 (fun_mk (st := s_Program_init) l0 c0 k0) (fun_mk (st := s_Program_body) l1 c1 k1) ⟨a1, i1, k1⟩
theorem gc_Points {R : Prop} {K : PySem.W.Frag} {h : Heap} {mg : Str → Option Value} {C : Addr} {f0 : Addr} {od0 an0 : Option Addr} {sl0 : Array (Option Value)} {oc0 kV0 dc0 pm0 cd0 ct0 : Value} {f1 : Addr} {od1 an1 : Option Addr} {sl1 : Array (Option Value)} {oc1 kV1 dc1 pm1 cd1 ct1 : Value} {f2 : Addr} {od2 an2 : Option Addr} {sl2 : Array (Option Value)} {oc2 kV2 dc2 pm2 cd2 ct2 : Value} {f3 : Addr} {od3 an3 : Option Addr} {sl3 : Array (Option Value)} {oc3 kV3 dc3 pm3 cd3 ct3 : Value} {f4 : Addr} {od4 an4 : Option Addr} {sl4 : Array (Option Value)} {oc4 kV4 dc4 pm4 cd4 ct4 : Value} {f5 : Addr} {od5 an5 : Option Addr} {sl5 : Array (Option Value)} {oc5 kV5 dc5 pm5 cd5 ct5 : Value} (X : K.In h) (G : h.Ns mainGlobals mg)
    (aC : PySem.W.nsIn K mainGlobals "Points" = some (some (.ref C))) (pg : PySem.W.plainGet K C Str.empty = true) (hd : PySem.W.hasDictIn K C = true) (po : PySem.W.plainOver K C = true) (sa : PySem.W.findIn K (.ref C) "__setattr__" = some (some (.builtin "object.__setattr__"))) (mk : PySem.W.makesIn K C = true) (kc : PySem.W.keepIn K (.ref C) = true)
    (n0 : PySem.W.findIn K (.ref C) "_count" = some none)
    (n1 : PySem.W.findIn K (.ref C) "pieces" = some none)
    (n2 : PySem.W.findIn K (.ref C) "leaving" = some none)
    (n3 : PySem.W.findIn K (.ref C) "arriving" = some none)
    (n4 : PySem.W.findIn K (.ref C) "ends" = some none)
    (a0 : PySem.W.findIn K (.ref C) "__init__" = some (some (.ref f0))) (i0 : PySem.W.isFn K (.ref f0) = true) (l0 : K.lookup f0 = some ⟨oc0, od0, .func (PySem.W.fnOf "__init__" "Points.__init__" (defArgs s_Points_init) (defBody s_Points_init) (defScope s_Points_init) .none kV0 dc0 pm0 an0 cd0 ct0), sl0⟩) (c0 : PySem.W.codeIn K cd0 "Points.__init__" = true) (k0 : PySem.W.keepIn K (.ref f0) = true)
    (a1 : PySem.W.findIn K (.ref C) "_point" = some (some (.ref f1))) (i1 : PySem.W.isFn K (.ref f1) = true) (l1 : K.lookup f1 = some ⟨oc1, od1, .func (PySem.W.fnOf "_point" "Points._point" (defArgs s_Points__point) (defBody s_Points__point) (defScope s_Points__point) .none kV1 dc1 pm1 an1 cd1 ct1), sl1⟩) (c1 : PySem.W.codeIn K cd1 "Points._point" = true) (k1 : PySem.W.keepIn K (.ref f1) = true)
    (a2 : PySem.W.findIn K (.ref C) "_ends" = some (some (.ref f2))) (i2 : PySem.W.isFn K (.ref f2) = true) (l2 : K.lookup f2 = some ⟨oc2, od2, .func (PySem.W.fnOf "_ends" "Points._ends" (defArgs s_Points__ends) (defBody s_Points__ends) (defScope s_Points__ends) .none kV2 dc2 pm2 an2 cd2 ct2), sl2⟩) (c2 : PySem.W.codeIn K cd2 "Points._ends" = true) (k2 : PySem.W.keepIn K (.ref f2) = true)
    (a3 : PySem.W.findIn K (.ref C) "_add" = some (some (.ref f3))) (i3 : PySem.W.isFn K (.ref f3) = true) (l3 : K.lookup f3 = some ⟨oc3, od3, .func (PySem.W.fnOf "_add" "Points._add" (defArgs s_Points__add) (defBody s_Points__add) (defScope s_Points__add) .none kV3 dc3 pm3 an3 cd3 ct3), sl3⟩) (c3 : PySem.W.codeIn K cd3 "Points._add" = true) (k3 : PySem.W.keepIn K (.ref f3) = true)
    (a4 : PySem.W.findIn K (.ref C) "_lay" = some (some (.ref f4))) (i4 : PySem.W.isFn K (.ref f4) = true) (l4 : K.lookup f4 = some ⟨oc4, od4, .func (PySem.W.fnOf "_lay" "Points._lay" (defArgs s_Points__lay) (defBody s_Points__lay) (defScope s_Points__lay) .none kV4 dc4 pm4 an4 cd4 ct4), sl4⟩) (c4 : PySem.W.codeIn K cd4 "Points._lay" = true) (k4 : PySem.W.keepIn K (.ref f4) = true)
    (a5 : PySem.W.findIn K (.ref C) "_place" = some (some (.ref f5))) (i5 : PySem.W.isFn K (.ref f5) = true) (l5 : K.lookup f5 = some ⟨oc5, od5, .func (PySem.W.fnOf "_place" "Points._place" (defArgs s_Points__place) (defBody s_Points__place) (defScope s_Points__place) .none kV5 dc5 pm5 an5 cd5 ct5), sl5⟩) (c5 : PySem.W.codeIn K cd5 "Points._place" = true) (k5 : PySem.W.keepIn K (.ref f5) = true)
    (rest : ∀ (C : Addr) (f0 : Addr) (d0 : FuncData) (f1 : Addr) (d1 : FuncData) (f2 : Addr) (d2 : FuncData) (f3 : Addr) (d3 : FuncData) (f4 : Addr) (d4 : FuncData) (f5 : Addr) (d5 : FuncData), Cls K C → mg "Points" = some (.ref C) → Mk K C f0 → NoAttr K C "_count" → NoAttr K C "pieces" → NoAttr K C "leaving" → NoAttr K C "arriving" → NoAttr K C "ends" → Fun K "__init__" "Points.__init__" s_Points_init f0 d0 → Fun K "_point" "Points._point" s_Points__point f1 d1 → Meth K C "_point" f1 → Fun K "_ends" "Points._ends" s_Points__ends f2 d2 → Meth K C "_ends" f2 → Fun K "_add" "Points._add" s_Points__add f3 d3 → Meth K C "_add" f3 → Fun K "_lay" "Points._lay" s_Points__lay f4 d4 → Meth K C "_lay" f4 → Fun K "_place" "Points._place" s_Points__place f5 d5 → Meth K C "_place" f5 → R) : R :=
  rest C f0 _ f1 _ f2 _ f3 _ f4 _ f5 _ ⟨pg, hd, po, sa⟩ (PySem.W.mg_of X G aC) ⟨mk, a0, i0, kc⟩ n0 n1 n2 n3 n4 (fun_mk (st := s_Points_init) l0 c0 k0) (fun_mk (st := s_Points__point) l1 c1 k1) ⟨a1, i1, k1⟩ (fun_mk (st := s_Points__ends) l2 c2 k2) ⟨a2, i2, k2⟩ (fun_mk (st := s_Points__add) l3 c3 k3) ⟨a3, i3, k3⟩ (fun_mk (st := s_Points__lay) l4 c4 k4) ⟨a4, i4, k4⟩ (fun_mk (st := s_Points__place) l5 c5 k5) ⟨a5, i5, k5⟩
theorem gc_Machine {R : Prop} {K : PySem.W.Frag} {h : Heap} {mg : Str → Option Value} {C : Addr} {f0 : Addr} {od0 an0 : Option Addr} {sl0 : Array (Option Value)} {oc0 kV0 dc0 pm0 cd0 ct0 : Value} {f1 : Addr} {od1 an1 : Option Addr} {sl1 : Array (Option Value)} {oc1 kV1 dc1 pm1 cd1 ct1 : Value} {f2 : Addr} {od2 an2 : Option Addr} {sl2 : Array (Option Value)} {oc2 kV2 dc2 pm2 cd2 ct2 : Value} {f3 : Addr} {od3 an3 : Option Addr} {sl3 : Array (Option Value)} {oc3 kV3 dc3 pm3 cd3 ct3 : Value} {f4 : Addr} {od4 an4 : Option Addr} {sl4 : Array (Option Value)} {oc4 kV4 dc4 pm4 cd4 ct4 : Value} {f5 : Addr} {od5 an5 : Option Addr} {sl5 : Array (Option Value)} {oc5 kV5 dc5 pm5 cd5 ct5 : Value} {f6 : Addr} {od6 an6 : Option Addr} {sl6 : Array (Option Value)} {oc6 kV6 dc6 pm6 cd6 ct6 : Value} {f7 : Addr} {od7 an7 : Option Addr} {sl7 : Array (Option Value)} {oc7 kV7 dc7 pm7 cd7 ct7 : Value} (X : K.In h) (G : h.Ns mainGlobals mg)
    (aC : PySem.W.nsIn K mainGlobals "Machine" = some (some (.ref C))) (pg : PySem.W.plainGet K C Str.empty = true) (hd : PySem.W.hasDictIn K C = true) (po : PySem.W.plainOver K C = true) (sa : PySem.W.findIn K (.ref C) "__setattr__" = some (some (.builtin "object.__setattr__"))) (mk : PySem.W.makesIn K C = true) (kc : PySem.W.keepIn K (.ref C) = true)
    (n0 : PySem.W.findIn K (.ref C) "_program" = some none)
    (n1 : PySem.W.findIn K (.ref C) "_points" = some none)
    (n2 : PySem.W.findIn K (.ref C) "_places" = some none)
    (a0 : PySem.W.findIn K (.ref C) "__init__" = some (some (.ref f0))) (i0 : PySem.W.isFn K (.ref f0) = true) (l0 : K.lookup f0 = some ⟨oc0, od0, .func (PySem.W.fnOf "__init__" "Machine.__init__" (defArgs s_Machine_init) (defBody s_Machine_init) (defScope s_Machine_init) .none kV0 dc0 pm0 an0 cd0 ct0), sl0⟩) (c0 : PySem.W.codeIn K cd0 "Machine.__init__" = true) (k0 : PySem.W.keepIn K (.ref f0) = true)
    (a1 : PySem.W.findIn K (.ref C) "begin" = some (some (.ref f1))) (i1 : PySem.W.isFn K (.ref f1) = true) (l1 : K.lookup f1 = some ⟨oc1, od1, .func (PySem.W.fnOf "begin" "Machine.begin" (defArgs s_Machine_begin) (defBody s_Machine_begin) (defScope s_Machine_begin) .none kV1 dc1 pm1 an1 cd1 ct1), sl1⟩) (c1 : PySem.W.codeIn K cd1 "Machine.begin" = true) (k1 : PySem.W.keepIn K (.ref f1) = true)
    (a2 : PySem.W.findIn K (.ref C) "stopped" = some (some (.ref f2))) (i2 : PySem.W.isFn K (.ref f2) = true) (l2 : K.lookup f2 = some ⟨oc2, od2, .func (PySem.W.fnOf "stopped" "Machine.stopped" (defArgs s_Machine_stopped) (defBody s_Machine_stopped) (defScope s_Machine_stopped) .none kV2 dc2 pm2 an2 cd2 ct2), sl2⟩) (c2 : PySem.W.codeIn K cd2 "Machine.stopped" = true) (k2 : PySem.W.keepIn K (.ref f2) = true)
    (a3 : PySem.W.findIn K (.ref C) "step" = some (some (.ref f3))) (i3 : PySem.W.isFn K (.ref f3) = true) (l3 : K.lookup f3 = some ⟨oc3, od3, .func (PySem.W.fnOf "step" "Machine.step" (defArgs s_Machine_step) (defBody s_Machine_step) (defScope s_Machine_step) .none kV3 dc3 pm3 an3 cd3 ct3), sl3⟩) (c3 : PySem.W.codeIn K cd3 "Machine.step" = true) (k3 : PySem.W.keepIn K (.ref f3) = true)
    (a4 : PySem.W.findIn K (.ref C) "_done" = some (some (.ref f4))) (i4 : PySem.W.isFn K (.ref f4) = true) (l4 : K.lookup f4 = some ⟨oc4, od4, .func (PySem.W.fnOf "_done" "Machine._done" (defArgs s_Machine__done) (defBody s_Machine__done) (defScope s_Machine__done) .none kV4 dc4 pm4 an4 cd4 ct4), sl4⟩) (c4 : PySem.W.codeIn K cd4 "Machine._done" = true) (k4 : PySem.W.keepIn K (.ref f4) = true)
    (a5 : PySem.W.findIn K (.ref C) "_next_point" = some (some (.ref f5))) (i5 : PySem.W.isFn K (.ref f5) = true) (l5 : K.lookup f5 = some ⟨oc5, od5, .func (PySem.W.fnOf "_next_point" "Machine._next_point" (defArgs s_Machine__next_point) (defBody s_Machine__next_point) (defScope s_Machine__next_point) .none kV5 dc5 pm5 an5 cd5 ct5), sl5⟩) (c5 : PySem.W.codeIn K cd5 "Machine._next_point" = true) (k5 : PySem.W.keepIn K (.ref f5) = true)
    (a6 : PySem.W.findIn K (.ref C) "_returned" = some (some (.ref f6))) (i6 : PySem.W.isFn K (.ref f6) = true) (l6 : K.lookup f6 = some ⟨oc6, od6, .func (PySem.W.fnOf "_returned" "Machine._returned" (defArgs s_Machine__returned) (defBody s_Machine__returned) (defScope s_Machine__returned) .none kV6 dc6 pm6 an6 cd6 ct6), sl6⟩) (c6 : PySem.W.codeIn K cd6 "Machine._returned" = true) (k6 : PySem.W.keepIn K (.ref f6) = true)
    (a7 : PySem.W.findIn K (.ref C) "run" = some (some (.ref f7))) (i7 : PySem.W.isFn K (.ref f7) = true) (l7 : K.lookup f7 = some ⟨oc7, od7, .func (PySem.W.fnOf "run" "Machine.run" (defArgs s_Machine_run) (defBody s_Machine_run) (defScope s_Machine_run) .none kV7 dc7 pm7 an7 cd7 ct7), sl7⟩) (c7 : PySem.W.codeIn K cd7 "Machine.run" = true) (k7 : PySem.W.keepIn K (.ref f7) = true)
    (rest : ∀ (C : Addr) (f0 : Addr) (d0 : FuncData) (f1 : Addr) (d1 : FuncData) (f2 : Addr) (d2 : FuncData) (f3 : Addr) (d3 : FuncData) (f4 : Addr) (d4 : FuncData) (f5 : Addr) (d5 : FuncData) (f6 : Addr) (d6 : FuncData) (f7 : Addr) (d7 : FuncData), Cls K C → mg "Machine" = some (.ref C) → Mk K C f0 → NoAttr K C "_program" → NoAttr K C "_points" → NoAttr K C "_places" → Fun K "__init__" "Machine.__init__" s_Machine_init f0 d0 → Fun K "begin" "Machine.begin" s_Machine_begin f1 d1 → Meth K C "begin" f1 → Fun K "stopped" "Machine.stopped" s_Machine_stopped f2 d2 → Meth K C "stopped" f2 → Fun K "step" "Machine.step" s_Machine_step f3 d3 → Meth K C "step" f3 → Fun K "_done" "Machine._done" s_Machine__done f4 d4 → Meth K C "_done" f4 → Fun K "_next_point" "Machine._next_point" s_Machine__next_point f5 d5 → Meth K C "_next_point" f5 → Fun K "_returned" "Machine._returned" s_Machine__returned f6 d6 → Meth K C "_returned" f6 → Fun K "run" "Machine.run" s_Machine_run f7 d7 → Meth K C "run" f7 → R) : R :=
  rest C f0 _ f1 _ f2 _ f3 _ f4 _ f5 _ f6 _ f7 _ ⟨pg, hd, po, sa⟩ (PySem.W.mg_of X G aC) ⟨mk, a0, i0, kc⟩ n0 n1 n2 (fun_mk (st := s_Machine_init) l0 c0 k0) (fun_mk (st := s_Machine_begin) l1 c1 k1) ⟨a1, i1, k1⟩ (fun_mk (st := s_Machine_stopped) l2 c2 k2) ⟨a2, i2, k2⟩ (fun_mk (st := s_Machine_step) l3 c3 k3) ⟨a3, i3, k3⟩ (fun_mk (st := s_Machine__done) l4 c4 k4) ⟨a4, i4, k4⟩ (fun_mk (st := s_Machine__next_point) l5 c5 k5) ⟨a5, i5, k5⟩ (fun_mk (st := s_Machine__returned) l6 c6 k6) ⟨a6, i6, k6⟩ (fun_mk (st := s_Machine_run) l7 c7 k7) ⟨a7, i7, k7⟩
theorem walk {l : PySem.W.OpenLaw} {q : Program} {loose : List Str} {XP : (Str → Option Value) → Heap → Prop} {YP : World → Heap → Prop} {d : DefRec} {K : Params → PySem.W.Frag} (hn : l.most = some 63) (hdf : d.params.defaults = [])
    (hY : ∀ (w : World) (h : Heap), YP w h → (K w.params).In h)
    (F : ∀ (w : World) (mg : Str → Option Value) (fa : Addr) (h : Heap), (K w.params).In h → h.Ns mainGlobals mg → mg d.name = some (.ref fa) →
      ∃ fd : FuncData, (∀ (s : Shared) (u : Value), BindsTo s fd ⟨[u], []⟩ [("_law_script", u)]) ∧ ∀ base : Heap, (K w.params).In base → base.Ns mainGlobals mg → FnOk l.prog w (K w.params) mg base CX0 14 fa fd ["_law_script"] (spLaw (K w.params))) :
    PySem.W.WalkO q loose XP YP l.row.toRowW d [] (fun f vs => PySem.call f vs) :=
  L2.walk_of (n := 63) (k := 14) (x := "_law_script") (CX := fun _ => CX0) (sp := fun w => spLaw (K w.params)) hn (by decide) hdf ⟨rfl, by decide, by decide⟩ hY F (fun _ _ a ns hl _ hS => ⟨a, ns, rfl, hS, fun _ => rfl⟩) fun _ _ _ _ _ z => z
/-- the law's def, as the head wants it -/
theorem law_fd {K : PySem.W.Frag} {f : Addr} {fd : FuncData} (F : Fun K "law" "law" s_law f fd) (s : Shared) (u : Value) : BindsTo s fd ⟨[u], []⟩ [("_law_script", u)] := by
  obtain ⟨oc, od, kV, doc, pm, an, cdv, ct, osl, rfl, lk, hcd⟩ := F.ex
  exact .of_eq rfl
end Kt
end -- KEnd
section -- KFin
set_option Elab.async false
set_option linter.all false
set_option maxRecDepth 100000
open PySem PySem.W PyProof.Rows in
set_option maxHeartbeats 0 in
theorem PySem.Challenge.cw_backstair_k37_whole_calls_and_uncalls_holds : PySem.Challenge.rw_backstair_k37_whole_calls_and_uncalls.Holds := by
  w_on; o_law; k_head; (case hw => w_witness2)
  k_fill
  refine Kt.walk (l := PySem.Challenge.rw_backstair_k37_whole_calls_and_uncalls) rfl rfl (fun w h Y => PySem.W.kIn_of Y) ?F
  case F =>
    intro w mg fa h KX G hmg
    refine' Kt.gdef (x := "is_number") (st := Kt.s_is_number) KX G ?a_1 ?l_1 ?c_1 ?k_1 ?rest_1
    (case a_1 => k_is)
    (case l_1 => k_is)
    (case c_1 => k_is)
    (case k_1 => k_is)
    intro f_is_number d_is_number g_is_number F_is_number
    have b_is_number := F_is_number.binds (ps := ["value", "bound"]) fun _ _ _ _ _ _ us hl => match us, hl with | [_, _], _ => rfl
    refine' Kt.gdef (x := "is_name") (st := Kt.s_is_name) KX G ?a_2 ?l_2 ?c_2 ?k_2 ?rest_2
    (case a_2 => k_is)
    (case l_2 => k_is)
    (case c_2 => k_is)
    (case k_2 => k_is)
    intro f_is_name d_is_name g_is_name F_is_name
    have b_is_name := F_is_name.binds (ps := ["value"]) fun _ _ _ _ _ _ us hl => match us, hl with | [_], _ => rfl
    refine' Kt.gdef (x := "atoms_of") (st := Kt.s_atoms_of) KX G ?a_3 ?l_3 ?c_3 ?k_3 ?rest_3
    (case a_3 => k_is)
    (case l_3 => k_is)
    (case c_3 => k_is)
    (case k_3 => k_is)
    intro f_atoms_of d_atoms_of g_atoms_of F_atoms_of
    have b_atoms_of := F_atoms_of.binds (ps := ["expression"]) fun _ _ _ _ _ _ us hl => match us, hl with | [_], _ => rfl
    refine' Kt.gdef (x := "count_statements") (st := Kt.s_count_statements) KX G ?a_4 ?l_4 ?c_4 ?k_4 ?rest_4
    (case a_4 => k_is)
    (case l_4 => k_is)
    (case c_4 => k_is)
    (case k_4 => k_is)
    intro f_count_statements d_count_statements g_count_statements F_count_statements
    have b_count_statements := F_count_statements.binds (ps := ["checker", "bodies"]) fun _ _ _ _ _ _ us hl => match us, hl with | [_, _], _ => rfl
    refine' Kt.gdef (x := "atom_value") (st := Kt.s_atom_value) KX G ?a_5 ?l_5 ?c_5 ?k_5 ?rest_5
    (case a_5 => k_is)
    (case l_5 => k_is)
    (case c_5 => k_is)
    (case k_5 => k_is)
    intro f_atom_value d_atom_value g_atom_value F_atom_value
    have b_atom_value := F_atom_value.binds (ps := ["atom", "places", "store"]) fun _ _ _ _ _ _ us hl => match us, hl with | [_, _, _], _ => rfl
    refine' Kt.gdef (x := "expression_value") (st := Kt.s_expression_value) KX G ?a_6 ?l_6 ?c_6 ?k_6 ?rest_6
    (case a_6 => k_is)
    (case l_6 => k_is)
    (case c_6 => k_is)
    (case k_6 => k_is)
    intro f_expression_value d_expression_value g_expression_value F_expression_value
    have b_expression_value := F_expression_value.binds (ps := ["expression", "places", "store", "width"]) fun _ _ _ _ _ _ us hl => match us, hl with | [_, _, _, _], _ => rfl
    refine' Kt.gdef (x := "holds") (st := Kt.s_holds) KX G ?a_7 ?l_7 ?c_7 ?k_7 ?rest_7
    (case a_7 => k_is)
    (case l_7 => k_is)
    (case c_7 => k_is)
    (case k_7 => k_is)
    intro f_holds d_holds g_holds F_holds
    have b_holds := F_holds.binds (ps := ["condition", "places", "store"]) fun _ _ _ _ _ _ us hl => match us, hl with | [_, _, _], _ => rfl
    refine' Kt.gdef (x := "changed") (st := Kt.s_changed) KX G ?a_8 ?l_8 ?c_8 ?k_8 ?rest_8
    (case a_8 => k_is)
    (case l_8 => k_is)
    (case c_8 => k_is)
    (case k_8 => k_is)
    intro f_changed d_changed g_changed F_changed
    have b_changed := F_changed.binds (ps := ["statement", "places", "store", "width"]) fun _ _ _ _ _ _ us hl => match us, hl with | [_, _, _, _], _ => rfl
    refine' Kt.gdef (x := "check_store") (st := Kt.s_check_store) KX G ?a_9 ?l_9 ?c_9 ?k_9 ?rest_9
    (case a_9 => k_is)
    (case l_9 => k_is)
    (case c_9 => k_is)
    (case k_9 => k_is)
    intro f_check_store d_check_store g_check_store F_check_store
    have b_check_store := F_check_store.binds (ps := ["program", "store"]) fun _ _ _ _ _ _ us hl => match us, hl with | [_, _], _ => rfl
    refine' Kt.gdef (x := "answer") (st := Kt.s_answer) KX G ?a_10 ?l_10 ?c_10 ?k_10 ?rest_10
    (case a_10 => k_is)
    (case l_10 => k_is)
    (case c_10 => k_is)
    (case k_10 => k_is)
    intro f_answer d_answer g_answer F_answer
    have b_answer := F_answer.binds (ps := ["program", "store", "most"]) fun _ _ _ _ _ _ us hl => match us, hl with | [_, _, _], _ => rfl
    refine' Kt.gdef (x := "nested") (st := Kt.s_nested) KX G ?a_11 ?l_11 ?c_11 ?k_11 ?rest_11
    (case a_11 => k_is)
    (case l_11 => k_is)
    (case c_11 => k_is)
    (case k_11 => k_is)
    intro f_nested d_nested g_nested F_nested
    have b_nested := F_nested.binds (ps := ["body"]) fun _ _ _ _ _ _ us hl => match us, hl with | [_], _ => rfl
    refine' Kt.gdef (x := "inverse_of") (st := Kt.s_inverse_of) KX G ?a_12 ?l_12 ?c_12 ?k_12 ?rest_12
    (case a_12 => k_is)
    (case l_12 => k_is)
    (case c_12 => k_is)
    (case k_12 => k_is)
    intro f_inverse_of d_inverse_of g_inverse_of F_inverse_of
    have b_inverse_of := F_inverse_of.binds (ps := ["body"]) fun _ _ _ _ _ _ us hl => match us, hl with | [_], _ => rfl
    refine' Kt.gdef (x := "inverse_program") (st := Kt.s_inverse_program) KX G ?a_13 ?l_13 ?c_13 ?k_13 ?rest_13
    (case a_13 => k_is)
    (case l_13 => k_is)
    (case c_13 => k_is)
    (case k_13 => k_is)
    intro f_inverse_program d_inverse_program g_inverse_program F_inverse_program
    have b_inverse_program := F_inverse_program.binds (ps := ["program"]) fun _ _ _ _ _ _ us hl => match us, hl with | [_], _ => rfl
    refine' Kt.gdef (x := "_law_draws") (st := Kt.s_law_draws) KX G ?a_14 ?l_14 ?c_14 ?k_14 ?rest_14
    (case a_14 => k_is)
    (case l_14 => k_is)
    (case c_14 => k_is)
    (case k_14 => k_is)
    intro f_law_draws d_law_draws g_law_draws F_law_draws
    have b_law_draws := F_law_draws.binds (ps := ["_law_script", "_law_many"]) fun _ _ _ _ _ _ us hl => match us, hl with | [_, _], _ => rfl
    refine' Kt.gdef (x := "_law_atom") (st := Kt.s_law_atom) KX G ?a_15 ?l_15 ?c_15 ?k_15 ?rest_15
    (case a_15 => k_is)
    (case l_15 => k_is)
    (case c_15 => k_is)
    (case k_15 => k_is)
    intro f_law_atom d_law_atom g_law_atom F_law_atom
    have b_law_atom := F_law_atom.binds (ps := ["_law_draw", "_law_names", "_law_bound"]) fun _ _ _ _ _ _ us hl => match us, hl with | [_, _, _], _ => rfl
    refine' Kt.gdef (x := "_law_plain") (st := Kt.s_law_plain) KX G ?a_16 ?l_16 ?c_16 ?k_16 ?rest_16
    (case a_16 => k_is)
    (case l_16 => k_is)
    (case c_16 => k_is)
    (case k_16 => k_is)
    intro f_law_plain d_law_plain g_law_plain F_law_plain
    have b_law_plain := F_law_plain.binds (ps := ["_law_draw", "_law_more", "_law_names", "_law_bound", "_law_callees"]) fun _ _ _ _ _ _ us hl => match us, hl with | [_, _, _, _, _], _ => rfl
    refine' Kt.gdef (x := "_law_condition") (st := Kt.s_law_condition) KX G ?a_17 ?l_17 ?c_17 ?k_17 ?rest_17
    (case a_17 => k_is)
    (case l_17 => k_is)
    (case c_17 => k_is)
    (case k_17 => k_is)
    intro f_law_condition d_law_condition g_law_condition F_law_condition
    have b_law_condition := F_law_condition.binds (ps := ["_law_draw", "_law_names", "_law_bound"]) fun _ _ _ _ _ _ us hl => match us, hl with | [_, _, _], _ => rfl
    refine' Kt.gdef (x := "_law_body") (st := Kt.s_law_body) KX G ?a_18 ?l_18 ?c_18 ?k_18 ?rest_18
    (case a_18 => k_is)
    (case l_18 => k_is)
    (case c_18 => k_is)
    (case k_18 => k_is)
    intro f_law_body d_law_body g_law_body F_law_body
    have b_law_body := F_law_body.binds (ps := ["_law_draws_here", "_law_at", "_law_many", "_law_names", "_law_bound", "_law_callees"]) fun _ _ _ _ _ _ us hl => match us, hl with | [_, _, _, _, _, _], _ => rfl
    refine' Kt.gdef (x := "_law_compound") (st := Kt.s_law_compound) KX G ?a_19 ?l_19 ?c_19 ?k_19 ?rest_19
    (case a_19 => k_is)
    (case l_19 => k_is)
    (case c_19 => k_is)
    (case k_19 => k_is)
    intro f_law_compound d_law_compound g_law_compound F_law_compound
    have b_law_compound := F_law_compound.binds (ps := ["_law_draws_here", "_law_at", "_law_first", "_law_second", "_law_names", "_law_bound", "_law_loops"]) fun _ _ _ _ _ _ us hl => match us, hl with | [_, _, _, _, _, _, _], _ => rfl
    refine' Kt.gdef (x := "_law_main") (st := Kt.s_law_main) KX G ?a_20 ?l_20 ?c_20 ?k_20 ?rest_20
    (case a_20 => k_is)
    (case l_20 => k_is)
    (case c_20 => k_is)
    (case k_20 => k_is)
    intro f_law_main d_law_main g_law_main F_law_main
    have b_law_main := F_law_main.binds (ps := ["_law_draws_here", "_law_names", "_law_bound", "_law_callees", "_law_loops"]) fun _ _ _ _ _ _ us hl => match us, hl with | [_, _, _, _, _], _ => rfl
    refine' Kt.gdef (x := "_law_program") (st := Kt.s_law_program) KX G ?a_21 ?l_21 ?c_21 ?k_21 ?rest_21
    (case a_21 => k_is)
    (case l_21 => k_is)
    (case c_21 => k_is)
    (case k_21 => k_is)
    intro f_law_program d_law_program g_law_program F_law_program
    have b_law_program := F_law_program.binds (ps := ["_law_draws_here", "_law_loops"]) fun _ _ _ _ _ _ us hl => match us, hl with | [_, _], _ => rfl
    refine' Kt.gdef (x := "_law_recursive") (st := Kt.s_law_recursive) KX G ?a_22 ?l_22 ?c_22 ?k_22 ?rest_22
    (case a_22 => k_is)
    (case l_22 => k_is)
    (case c_22 => k_is)
    (case k_22 => k_is)
    intro f_law_recursive d_law_recursive g_law_recursive F_law_recursive
    have b_law_recursive := F_law_recursive.binds (ps := ["_law_draws_here", "_law_width"]) fun _ _ _ _ _ _ us hl => match us, hl with | [_, _], _ => rfl
    refine' Kt.gdef (x := "_law_store") (st := Kt.s_law_store) KX G ?a_23 ?l_23 ?c_23 ?k_23 ?rest_23
    (case a_23 => k_is)
    (case l_23 => k_is)
    (case c_23 => k_is)
    (case k_23 => k_is)
    intro f_law_store d_law_store g_law_store F_law_store
    have b_law_store := F_law_store.binds (ps := ["_law_draws_here", "_law_at", "_law_told"]) fun _ _ _ _ _ _ us hl => match us, hl with | [_, _, _], _ => rfl
    refine' Kt.gdef (x := "_law_answer") (st := Kt.s_law_answer) KX G ?a_24 ?l_24 ?c_24 ?k_24 ?rest_24
    (case a_24 => k_is)
    (case l_24 => k_is)
    (case c_24 => k_is)
    (case k_24 => k_is)
    intro f_law_answer d_law_answer g_law_answer F_law_answer
    have b_law_answer := F_law_answer.binds (ps := ["_law_program_here", "_law_store_here", "_law_most"]) fun _ _ _ _ _ _ us hl => match us, hl with | [_, _, _], _ => rfl
    refine' Kt.gdef (x := "_law_around") (st := Kt.s_law_around) KX G ?a_25 ?l_25 ?c_25 ?k_25 ?rest_25
    (case a_25 => k_is)
    (case l_25 => k_is)
    (case c_25 => k_is)
    (case k_25 => k_is)
    intro f_law_around d_law_around g_law_around F_law_around
    have b_law_around := F_law_around.binds (ps := ["_law_told", "_law_main_here"]) fun _ _ _ _ _ _ us hl => match us, hl with | [_, _], _ => rfl
    refine' Kt.gdef (x := "law") (st := Kt.s_law) KX G ?a_26 ?l_26 ?c_26 ?k_26 ?rest_26
    (case a_26 => k_is)
    (case l_26 => k_is)
    (case c_26 => k_is)
    (case k_26 => k_is)
    intro f_law d_law g_law F_law
    have b_law := F_law.binds (ps := ["_law_script"]) fun _ _ _ _ _ _ us hl => match us, hl with | [_], _ => rfl
    refine' Kt.gc_Checker KX G ?aC_27 ?pg_27 ?hd_27 ?po_27 ?sa_27 ?mk_27 ?kc_27 ?n0_27 ?n1_27 ?n2_27 ?a0_27 ?i0_27 ?l0_27 ?c0_27 ?k0_27 ?a1_27 ?i1_27 ?l1_27 ?c1_27 ?k1_27 ?a2_27 ?i2_27 ?l2_27 ?c2_27 ?k2_27 ?a3_27 ?i3_27 ?l3_27 ?c3_27 ?k3_27 ?a4_27 ?i4_27 ?l4_27 ?c4_27 ?k4_27 ?a5_27 ?i5_27 ?l5_27 ?c5_27 ?k5_27 ?rest_27
    (case aC_27 => k_is)
    (case pg_27 => k_is)
    (case hd_27 => k_is)
    (case po_27 => k_is)
    (case sa_27 => k_is)
    (case mk_27 => k_is)
    (case kc_27 => k_is)
    (case n0_27 => k_is)
    (case n1_27 => k_is)
    (case n2_27 => k_is)
    (case a0_27 => k_is)
    (case i0_27 => k_is)
    (case l0_27 => k_is)
    (case c0_27 => k_is)
    (case k0_27 => k_is)
    (case a1_27 => k_is)
    (case i1_27 => k_is)
    (case l1_27 => k_is)
    (case c1_27 => k_is)
    (case k1_27 => k_is)
    (case a2_27 => k_is)
    (case i2_27 => k_is)
    (case l2_27 => k_is)
    (case c2_27 => k_is)
    (case k2_27 => k_is)
    (case a3_27 => k_is)
    (case i3_27 => k_is)
    (case l3_27 => k_is)
    (case c3_27 => k_is)
    (case k3_27 => k_is)
    (case a4_27 => k_is)
    (case i4_27 => k_is)
    (case l4_27 => k_is)
    (case c4_27 => k_is)
    (case k4_27 => k_is)
    (case a5_27 => k_is)
    (case i5_27 => k_is)
    (case l5_27 => k_is)
    (case c5_27 => k_is)
    (case k5_27 => k_is)
    intro c_Checker f_Checker_init d_Checker_init f_Checker__is_atom d_Checker__is_atom f_Checker__is_pair d_Checker__is_pair f_Checker__is_change d_Checker__is_change f_Checker__is_variable d_Checker__is_variable f_Checker_is_statement d_Checker_is_statement cl_Checker g_Checker mk_Checker na_Checker__bound na_Checker__variables na_Checker__names F_Checker_init F_Checker__is_atom m_Checker__is_atom F_Checker__is_pair m_Checker__is_pair F_Checker__is_change m_Checker__is_change F_Checker__is_variable m_Checker__is_variable F_Checker_is_statement m_Checker_is_statement
    have b_Checker_init := F_Checker_init.binds (ps := ["self", "width", "variables", "names"]) fun _ _ _ _ _ _ us hl => match us, hl with | [_, _, _, _], _ => rfl
    have b_Checker__is_atom := F_Checker__is_atom.binds (ps := ["self", "value"]) fun _ _ _ _ _ _ us hl => match us, hl with | [_, _], _ => rfl
    have b_Checker__is_pair := F_Checker__is_pair.binds (ps := ["self", "value", "signs"]) fun _ _ _ _ _ _ us hl => match us, hl with | [_, _, _], _ => rfl
    have b_Checker__is_change := F_Checker__is_change.binds (ps := ["self", "statement"]) fun _ _ _ _ _ _ us hl => match us, hl with | [_, _], _ => rfl
    have b_Checker__is_variable := F_Checker__is_variable.binds (ps := ["self", "value"]) fun _ _ _ _ _ _ us hl => match us, hl with | [_, _], _ => rfl
    have b_Checker_is_statement := F_Checker_is_statement.binds (ps := ["self", "statement"]) fun _ _ _ _ _ _ us hl => match us, hl with | [_, _], _ => rfl
    refine' Kt.gc_Program KX G ?aC_28 ?pg_28 ?hd_28 ?po_28 ?sa_28 ?mk_28 ?kc_28 ?n0_28 ?n1_28 ?n2_28 ?n3_28 ?a0_28 ?i0_28 ?l0_28 ?c0_28 ?k0_28 ?a1_28 ?i1_28 ?l1_28 ?c1_28 ?k1_28 ?rest_28
    (case aC_28 => k_is)
    (case pg_28 => k_is)
    (case hd_28 => k_is)
    (case po_28 => k_is)
    (case sa_28 => k_is)
    (case mk_28 => k_is)
    (case kc_28 => k_is)
    (case n0_28 => k_is)
    (case n1_28 => k_is)
    (case n2_28 => k_is)
    (case n3_28 => k_is)
    (case a0_28 => k_is)
    (case i0_28 => k_is)
    (case l0_28 => k_is)
    (case c0_28 => k_is)
    (case k0_28 => k_is)
    (case a1_28 => k_is)
    (case i1_28 => k_is)
    (case l1_28 => k_is)
    (case c1_28 => k_is)
    (case k1_28 => k_is)
    intro c_Program f_Program_init d_Program_init f_Program_body d_Program_body cl_Program g_Program mk_Program na_Program_width na_Program_variables na_Program_names na_Program__bodies F_Program_init F_Program_body m_Program_body
    have b_Program_init := F_Program_init.binds (ps := ["self", "width", "variables", "procedures"]) fun _ _ _ _ _ _ us hl => match us, hl with | [_, _, _, _], _ => rfl
    have b_Program_body := F_Program_body.binds (ps := ["self", "name"]) fun _ _ _ _ _ _ us hl => match us, hl with | [_, _], _ => rfl
    refine' Kt.gc_Points KX G ?aC_29 ?pg_29 ?hd_29 ?po_29 ?sa_29 ?mk_29 ?kc_29 ?n0_29 ?n1_29 ?n2_29 ?n3_29 ?n4_29 ?a0_29 ?i0_29 ?l0_29 ?c0_29 ?k0_29 ?a1_29 ?i1_29 ?l1_29 ?c1_29 ?k1_29 ?a2_29 ?i2_29 ?l2_29 ?c2_29 ?k2_29 ?a3_29 ?i3_29 ?l3_29 ?c3_29 ?k3_29 ?a4_29 ?i4_29 ?l4_29 ?c4_29 ?k4_29 ?a5_29 ?i5_29 ?l5_29 ?c5_29 ?k5_29 ?rest_29
    (case aC_29 => k_is)
    (case pg_29 => k_is)
    (case hd_29 => k_is)
    (case po_29 => k_is)
    (case sa_29 => k_is)
    (case mk_29 => k_is)
    (case kc_29 => k_is)
    (case n0_29 => k_is)
    (case n1_29 => k_is)
    (case n2_29 => k_is)
    (case n3_29 => k_is)
    (case n4_29 => k_is)
    (case a0_29 => k_is)
    (case i0_29 => k_is)
    (case l0_29 => k_is)
    (case c0_29 => k_is)
    (case k0_29 => k_is)
    (case a1_29 => k_is)
    (case i1_29 => k_is)
    (case l1_29 => k_is)
    (case c1_29 => k_is)
    (case k1_29 => k_is)
    (case a2_29 => k_is)
    (case i2_29 => k_is)
    (case l2_29 => k_is)
    (case c2_29 => k_is)
    (case k2_29 => k_is)
    (case a3_29 => k_is)
    (case i3_29 => k_is)
    (case l3_29 => k_is)
    (case c3_29 => k_is)
    (case k3_29 => k_is)
    (case a4_29 => k_is)
    (case i4_29 => k_is)
    (case l4_29 => k_is)
    (case c4_29 => k_is)
    (case k4_29 => k_is)
    (case a5_29 => k_is)
    (case i5_29 => k_is)
    (case l5_29 => k_is)
    (case c5_29 => k_is)
    (case k5_29 => k_is)
    intro c_Points f_Points_init d_Points_init f_Points__point d_Points__point f_Points__ends d_Points__ends f_Points__add d_Points__add f_Points__lay d_Points__lay f_Points__place d_Points__place cl_Points g_Points mk_Points na_Points__count na_Points_pieces na_Points_leaving na_Points_arriving na_Points_ends F_Points_init F_Points__point m_Points__point F_Points__ends m_Points__ends F_Points__add m_Points__add F_Points__lay m_Points__lay F_Points__place m_Points__place
    have b_Points_init := F_Points_init.binds (ps := ["self", "program"]) fun _ _ _ _ _ _ us hl => match us, hl with | [_, _], _ => rfl
    have b_Points__point := F_Points__point.binds (ps := ["self"]) fun _ _ _ _ _ _ us hl => match us, hl with | [_], _ => rfl
    have b_Points__ends := F_Points__ends.binds (ps := ["self", "body"]) fun _ _ _ _ _ _ us hl => match us, hl with | [_, _], _ => rfl
    have b_Points__add := F_Points__add.binds (ps := ["self", "piece", "sources", "targets"]) fun _ _ _ _ _ _ us hl => match us, hl with | [_, _, _, _], _ => rfl
    have b_Points__lay := F_Points__lay.binds (ps := ["self", "body"]) fun _ _ _ _ _ _ us hl => match us, hl with | [_, _], _ => rfl
    have b_Points__place := F_Points__place.binds (ps := ["self", "statement", "here", "after"]) fun _ _ _ _ _ _ us hl => match us, hl with | [_, _, _, _], _ => rfl
    refine' Kt.gc_Machine KX G ?aC_30 ?pg_30 ?hd_30 ?po_30 ?sa_30 ?mk_30 ?kc_30 ?n0_30 ?n1_30 ?n2_30 ?a0_30 ?i0_30 ?l0_30 ?c0_30 ?k0_30 ?a1_30 ?i1_30 ?l1_30 ?c1_30 ?k1_30 ?a2_30 ?i2_30 ?l2_30 ?c2_30 ?k2_30 ?a3_30 ?i3_30 ?l3_30 ?c3_30 ?k3_30 ?a4_30 ?i4_30 ?l4_30 ?c4_30 ?k4_30 ?a5_30 ?i5_30 ?l5_30 ?c5_30 ?k5_30 ?a6_30 ?i6_30 ?l6_30 ?c6_30 ?k6_30 ?a7_30 ?i7_30 ?l7_30 ?c7_30 ?k7_30 ?rest_30
    (case aC_30 => k_is)
    (case pg_30 => k_is)
    (case hd_30 => k_is)
    (case po_30 => k_is)
    (case sa_30 => k_is)
    (case mk_30 => k_is)
    (case kc_30 => k_is)
    (case n0_30 => k_is)
    (case n1_30 => k_is)
    (case n2_30 => k_is)
    (case a0_30 => k_is)
    (case i0_30 => k_is)
    (case l0_30 => k_is)
    (case c0_30 => k_is)
    (case k0_30 => k_is)
    (case a1_30 => k_is)
    (case i1_30 => k_is)
    (case l1_30 => k_is)
    (case c1_30 => k_is)
    (case k1_30 => k_is)
    (case a2_30 => k_is)
    (case i2_30 => k_is)
    (case l2_30 => k_is)
    (case c2_30 => k_is)
    (case k2_30 => k_is)
    (case a3_30 => k_is)
    (case i3_30 => k_is)
    (case l3_30 => k_is)
    (case c3_30 => k_is)
    (case k3_30 => k_is)
    (case a4_30 => k_is)
    (case i4_30 => k_is)
    (case l4_30 => k_is)
    (case c4_30 => k_is)
    (case k4_30 => k_is)
    (case a5_30 => k_is)
    (case i5_30 => k_is)
    (case l5_30 => k_is)
    (case c5_30 => k_is)
    (case k5_30 => k_is)
    (case a6_30 => k_is)
    (case i6_30 => k_is)
    (case l6_30 => k_is)
    (case c6_30 => k_is)
    (case k6_30 => k_is)
    (case a7_30 => k_is)
    (case i7_30 => k_is)
    (case l7_30 => k_is)
    (case c7_30 => k_is)
    (case k7_30 => k_is)
    intro c_Machine f_Machine_init d_Machine_init f_Machine_begin d_Machine_begin f_Machine_stopped d_Machine_stopped f_Machine_step d_Machine_step f_Machine__done d_Machine__done f_Machine__next_point d_Machine__next_point f_Machine__returned d_Machine__returned f_Machine_run d_Machine_run cl_Machine g_Machine mk_Machine na_Machine__program na_Machine__points na_Machine__places F_Machine_init F_Machine_begin m_Machine_begin F_Machine_stopped m_Machine_stopped F_Machine_step m_Machine_step F_Machine__done m_Machine__done F_Machine__next_point m_Machine__next_point F_Machine__returned m_Machine__returned F_Machine_run m_Machine_run
    have b_Machine_init := F_Machine_init.binds (ps := ["self", "program"]) fun _ _ _ _ _ _ us hl => match us, hl with | [_, _], _ => rfl
    have b_Machine_begin := F_Machine_begin.binds (ps := ["self", "store"]) fun _ _ _ _ _ _ us hl => match us, hl with | [_, _], _ => rfl
    have b_Machine_stopped := F_Machine_stopped.binds (ps := ["self", "configuration"]) fun _ _ _ _ _ _ us hl => match us, hl with | [_, _], _ => rfl
    have b_Machine_step := F_Machine_step.binds (ps := ["self", "configuration"]) fun _ _ _ _ _ _ us hl => match us, hl with | [_, _], _ => rfl
    have b_Machine__done := F_Machine__done.binds (ps := ["self", "piece", "configuration"]) fun _ _ _ _ _ _ us hl => match us, hl with | [_, _, _], _ => rfl
    have b_Machine__next_point := F_Machine__next_point.binds (ps := ["self", "piece", "point", "heading", "store"]) fun _ _ _ _ _ _ us hl => match us, hl with | [_, _, _, _, _], _ => rfl
    have b_Machine__returned := F_Machine__returned.binds (ps := ["self", "configuration"]) fun _ _ _ _ _ _ us hl => match us, hl with | [_, _], _ => rfl
    have b_Machine_run := F_Machine_run.binds (ps := ["self", "configuration", "steps"]) fun _ _ _ _ _ _ us hl => match us, hl with | [_, _, _], _ => rfl
    refine' Kt.gint (x := "MOST_WIDTH") (v := 8) KX G ?a_31 ?rest_31
    (case a_31 => k_is)
    intro g_MOST_WIDTH
    refine' Kt.gint (x := "MOST_VARIABLES") (v := 6) KX G ?a_32 ?rest_32
    (case a_32 => k_is)
    intro g_MOST_VARIABLES
    refine' Kt.gint (x := "MOST_PROCEDURES") (v := 8) KX G ?a_33 ?rest_33
    (case a_33 => k_is)
    intro g_MOST_PROCEDURES
    refine' Kt.gint (x := "MOST_STATEMENTS") (v := 200) KX G ?a_34 ?rest_34
    (case a_34 => k_is)
    intro g_MOST_STATEMENTS
    refine' Kt.gint (x := "MOST_DEPTH") (v := 10) KX G ?a_35 ?rest_35
    (case a_35 => k_is)
    intro g_MOST_DEPTH
    refine' Kt.gint (x := "LONGEST_NAME") (v := 8) KX G ?a_36 ?rest_36
    (case a_36 => k_is)
    intro g_LONGEST_NAME
    refine' Kt.gstr (x := "LETTERS") (v := "abcdefghijklmnopqrstuvwxyz") KX G ?a_37 ?rest_37
    (case a_37 => k_is)
    intro g_LETTERS
    refine' Kt.gtup (x := "WORDS") (xs := ["add", "call", "do", "else", "end", "fi", "from", "if", "loop", "proc", "swap", "then", "uncall", "until"]) KX G ?a_38 ?l_38 ?s_38 ?v_38 ?rest_38
    (case a_38 => k_is)
    (case l_38 => k_is)
    (case s_38 => first | decide | decide +kernel)
    (case v_38 => repeat (first | exact Kt.vs_nil | refine Kt.vs_str ?_))
    intro k_WORDS g_WORDS v_WORDS
    refine' Kt.gtup (x := "MORE_WORDS") (xs := ["vars", "width"]) KX G ?a_39 ?l_39 ?s_39 ?v_39 ?rest_39
    (case a_39 => k_is)
    (case l_39 => k_is)
    (case s_39 => first | decide | decide +kernel)
    (case v_39 => repeat (first | exact Kt.vs_nil | refine Kt.vs_str ?_))
    intro k_MORE_WORDS g_MORE_WORDS v_MORE_WORDS
    refine' Kt.gtup (x := "CHANGES") (xs := ["+=", "-=", "^="]) KX G ?a_40 ?l_40 ?s_40 ?v_40 ?rest_40
    (case a_40 => k_is)
    (case l_40 => k_is)
    (case s_40 => first | decide | decide +kernel)
    (case v_40 => repeat (first | exact Kt.vs_nil | refine Kt.vs_str ?_))
    intro k_CHANGES g_CHANGES v_CHANGES
    refine' Kt.gtup (x := "OPERATORS") (xs := ["+", "-", "*", "&", "|", "^"]) KX G ?a_41 ?l_41 ?s_41 ?v_41 ?rest_41
    (case a_41 => k_is)
    (case l_41 => k_is)
    (case s_41 => first | decide | decide +kernel)
    (case v_41 => repeat (first | exact Kt.vs_nil | refine Kt.vs_str ?_))
    intro k_OPERATORS g_OPERATORS v_OPERATORS
    refine' Kt.gtup (x := "RELATIONS") (xs := ["==", "!=", "<"]) KX G ?a_42 ?l_42 ?s_42 ?v_42 ?rest_42
    (case a_42 => k_is)
    (case l_42 => k_is)
    (case s_42 => first | decide | decide +kernel)
    (case v_42 => repeat (first | exact Kt.vs_nil | refine Kt.vs_str ?_))
    intro k_RELATIONS g_RELATIONS v_RELATIONS
    refine' Kt.gd_UNDONE (w := w) KX G ?a_43 ?l_43 ?kl_43 ?n0_43 ?n1_43 ?n2_43 ?n3_43 ?rest_43
    (case a_43 => k_is)
    (case l_43 => k_is)
    (case kl_43 => (repeat (first | exact Kt.kl_nil | refine Kt.kl_cons rfl rfl ?_)))
    (case n0_43 => k_is)
    (case n1_43 => k_is)
    (case n2_43 => k_is)
    (case n3_43 => k_is)
    intro k_UNDONE g_UNDONE v_UNDONE_add v_UNDONE_sub v_UNDONE_xor v_UNDONE_swap
    refine' Kt.gd_OPPOSITES (w := w) KX G ?a_44 ?l_44 ?kl_44 ?n0_44 ?n1_44 ?n2_44 ?n3_44 ?n4_44 ?n5_44 ?rest_44
    (case a_44 => k_is)
    (case l_44 => k_is)
    (case kl_44 => (repeat (first | exact Kt.kl_nil | refine Kt.kl_cons rfl rfl ?_)))
    (case n0_44 => k_is)
    (case n1_44 => k_is)
    (case n2_44 => k_is)
    (case n3_44 => k_is)
    (case n4_44 => k_is)
    (case n5_44 => k_is)
    intro k_OPPOSITES g_OPPOSITES v_OPPOSITES_add v_OPPOSITES_sub v_OPPOSITES_xor v_OPPOSITES_swap v_OPPOSITES_call v_OPPOSITES_uncall
    refine' Kt.gnone (x := "isinstance") KX G ?a_45 ?rest_45
    (case a_45 => k_is)
    intro z_isinstance
    refine' Kt.gnone (x := "int") KX G ?a_46 ?rest_46
    (case a_46 => k_is)
    intro z_int
    refine' Kt.gnone (x := "bool") KX G ?a_47 ?rest_47
    (case a_47 => k_is)
    intro z_bool
    refine' Kt.gnone (x := "str") KX G ?a_48 ?rest_48
    (case a_48 => k_is)
    intro z_str
    refine' Kt.gnone (x := "len") KX G ?a_49 ?rest_49
    (case a_49 => k_is)
    intro z_len
    refine' Kt.gnone (x := "all") KX G ?a_50 ?rest_50
    (case a_50 => k_is)
    intro z_all
    refine' Kt.gnone (x := "tuple") KX G ?a_51 ?rest_51
    (case a_51 => k_is)
    intro z_tuple
    refine' Kt.gnone (x := "list") KX G ?a_52 ?rest_52
    (case a_52 => k_is)
    intro z_list
    refine' Kt.gnone (x := "sorted") KX G ?a_53 ?rest_53
    (case a_53 => k_is)
    intro z_sorted
    refine' Kt.gnone (x := "dict") KX G ?a_54 ?rest_54
    (case a_54 => k_is)
    intro z_dict
    refine' Kt.gnone (x := "range") KX G ?a_55 ?rest_55
    (case a_55 => k_is)
    intro z_range
    refine' Kt.gnone (x := "abs") KX G ?a_56 ?rest_56
    (case a_56 => k_is)
    intro z_abs
    refine' Kt.gnone (x := "super") KX G ?a_57 ?rest_57
    (case a_57 => k_is)
    intro z_super
    refine' Kt.gexc (P := PySem.Challenge.rw_backstair_k37_whole_calls_and_uncalls.prog) KX G ?aC_x ?aT_x ?xL_x ?vb_x ?sa_x ?eC_x ?tC_x ?kC_x ?iC_x ?a1_x ?t1_x ?n1_x ?n2_x ?l1_x ?c1_x ?d1_x ?e1_x ?g1_x ?h1_x ?mr_x ?st_x ?su_x ?sv_x ?z1_x ?z2_x ?tp_x ?ga_x ?gg_x ?hC_x ?xT_x ?kT_x ?eT_x ?tT_x ?iT_x ?sR_x ?sT_x ?sTR_x ?rest_x
    (case aC_x => k_is)
    (case aT_x => k_is)
    (case xL_x => k_is)
    (case vb_x => first | rfl | decide +kernel)
    (case sa_x => k_is)
    (case eC_x => k_is)
    (case tC_x => k_is)
    (case kC_x => k_is)
    (case iC_x => k_is)
    (case a1_x => k_is)
    (case t1_x => k_is)
    (case n1_x => k_is)
    (case n2_x => k_is)
    (case l1_x => k_is)
    (case c1_x => k_is)
    (case d1_x => k_is)
    (case e1_x => rfl)
    (case g1_x => first | rfl | decide +kernel)
    (case h1_x => k_is)
    (case mr_x => k_is)
    (case st_x => k_is)
    (case su_x => ks_is)
    (case sv_x => k_is)
    (case z1_x => k_is)
    (case z2_x => k_is)
    (case tp_x => first | rfl | decide +kernel)
    (case ga_x => k_is)
    (case gg_x => k_is)
    (case hC_x => k_is)
    (case xT_x => k_exc)
    (case kT_x => k_is)
    (case eT_x => k_is)
    (case tT_x => k_is)
    (case iT_x => k_is)
    (case sR_x => first | rfl | k_is)
    (case sT_x => first | rfl | k_is)
    (case sTR_x => first | rfl | k_is)
    intro c_Refused c_TooLong f_Refused_init fdR Xk
    obtain rfl : fa = f_law := by
      have e := hmg.symm.trans g_law
      exact Value.ref.inj (Option.some.inj e)
    let a : Kt.Ad := { f_is_number := f_is_number, d_is_number := d_is_number, f_is_name := f_is_name, d_is_name := d_is_name, f_atoms_of := f_atoms_of, d_atoms_of := d_atoms_of, f_count_statements := f_count_statements, d_count_statements := d_count_statements, f_atom_value := f_atom_value, d_atom_value := d_atom_value, f_expression_value := f_expression_value, d_expression_value := d_expression_value, f_holds := f_holds, d_holds := d_holds, f_changed := f_changed, d_changed := d_changed, f_check_store := f_check_store, d_check_store := d_check_store, f_answer := f_answer, d_answer := d_answer, f_nested := f_nested, d_nested := d_nested, f_inverse_of := f_inverse_of, d_inverse_of := d_inverse_of, f_inverse_program := f_inverse_program, d_inverse_program := d_inverse_program, f_law_draws := f_law_draws, d_law_draws := d_law_draws, f_law_atom := f_law_atom, d_law_atom := d_law_atom, f_law_plain := f_law_plain, d_law_plain := d_law_plain, f_law_condition := f_law_condition, d_law_condition := d_law_condition, f_law_body := f_law_body, d_law_body := d_law_body, f_law_compound := f_law_compound, d_law_compound := d_law_compound, f_law_main := f_law_main, d_law_main := d_law_main, f_law_program := f_law_program, d_law_program := d_law_program, f_law_recursive := f_law_recursive, d_law_recursive := d_law_recursive, f_law_store := f_law_store, d_law_store := d_law_store, f_law_answer := f_law_answer, d_law_answer := d_law_answer, f_law_around := f_law_around, d_law_around := d_law_around, f_law := fa, d_law := d_law, c_Checker := c_Checker, f_Checker_init := f_Checker_init, d_Checker_init := d_Checker_init, f_Checker__is_atom := f_Checker__is_atom, d_Checker__is_atom := d_Checker__is_atom, f_Checker__is_pair := f_Checker__is_pair, d_Checker__is_pair := d_Checker__is_pair, f_Checker__is_change := f_Checker__is_change, d_Checker__is_change := d_Checker__is_change, f_Checker__is_variable := f_Checker__is_variable, d_Checker__is_variable := d_Checker__is_variable, f_Checker_is_statement := f_Checker_is_statement, d_Checker_is_statement := d_Checker_is_statement, c_Program := c_Program, f_Program_init := f_Program_init, d_Program_init := d_Program_init, f_Program_body := f_Program_body, d_Program_body := d_Program_body, c_Points := c_Points, f_Points_init := f_Points_init, d_Points_init := d_Points_init, f_Points__point := f_Points__point, d_Points__point := d_Points__point, f_Points__ends := f_Points__ends, d_Points__ends := d_Points__ends, f_Points__add := f_Points__add, d_Points__add := d_Points__add, f_Points__lay := f_Points__lay, d_Points__lay := d_Points__lay, f_Points__place := f_Points__place, d_Points__place := d_Points__place, c_Machine := c_Machine, f_Machine_init := f_Machine_init, d_Machine_init := d_Machine_init, f_Machine_begin := f_Machine_begin, d_Machine_begin := d_Machine_begin, f_Machine_stopped := f_Machine_stopped, d_Machine_stopped := d_Machine_stopped, f_Machine_step := f_Machine_step, d_Machine_step := d_Machine_step, f_Machine__done := f_Machine__done, d_Machine__done := d_Machine__done, f_Machine__next_point := f_Machine__next_point, d_Machine__next_point := d_Machine__next_point, f_Machine__returned := f_Machine__returned, d_Machine__returned := d_Machine__returned, f_Machine_run := f_Machine_run, d_Machine_run := d_Machine_run, k_WORDS := k_WORDS, k_MORE_WORDS := k_MORE_WORDS, k_CHANGES := k_CHANGES, k_OPERATORS := k_OPERATORS, k_RELATIONS := k_RELATIONS, k_UNDONE := k_UNDONE, k_OPPOSITES := k_OPPOSITES, c_TooLong := c_TooLong, c_Refused := c_Refused, c_BackError := c_TooLong, f_Refused_init := f_Refused_init }
    have T : Kt.Tx w _ mg a := { F_is_number := F_is_number, g_is_number := g_is_number, b_is_number := b_is_number, F_is_name := F_is_name, g_is_name := g_is_name, b_is_name := b_is_name, F_atoms_of := F_atoms_of, g_atoms_of := g_atoms_of, b_atoms_of := b_atoms_of, F_count_statements := F_count_statements, g_count_statements := g_count_statements, b_count_statements := b_count_statements, F_atom_value := F_atom_value, g_atom_value := g_atom_value, b_atom_value := b_atom_value, F_expression_value := F_expression_value, g_expression_value := g_expression_value, b_expression_value := b_expression_value, F_holds := F_holds, g_holds := g_holds, b_holds := b_holds, F_changed := F_changed, g_changed := g_changed, b_changed := b_changed, F_check_store := F_check_store, g_check_store := g_check_store, b_check_store := b_check_store, F_answer := F_answer, g_answer := g_answer, b_answer := b_answer, F_nested := F_nested, g_nested := g_nested, b_nested := b_nested, F_inverse_of := F_inverse_of, g_inverse_of := g_inverse_of, b_inverse_of := b_inverse_of, F_inverse_program := F_inverse_program, g_inverse_program := g_inverse_program, b_inverse_program := b_inverse_program, F_law_draws := F_law_draws, g_law_draws := g_law_draws, b_law_draws := b_law_draws, F_law_atom := F_law_atom, g_law_atom := g_law_atom, b_law_atom := b_law_atom, F_law_plain := F_law_plain, g_law_plain := g_law_plain, b_law_plain := b_law_plain, F_law_condition := F_law_condition, g_law_condition := g_law_condition, b_law_condition := b_law_condition, F_law_body := F_law_body, g_law_body := g_law_body, b_law_body := b_law_body, F_law_compound := F_law_compound, g_law_compound := g_law_compound, b_law_compound := b_law_compound, F_law_main := F_law_main, g_law_main := g_law_main, b_law_main := b_law_main, F_law_program := F_law_program, g_law_program := g_law_program, b_law_program := b_law_program, F_law_recursive := F_law_recursive, g_law_recursive := g_law_recursive, b_law_recursive := b_law_recursive, F_law_store := F_law_store, g_law_store := g_law_store, b_law_store := b_law_store, F_law_answer := F_law_answer, g_law_answer := g_law_answer, b_law_answer := b_law_answer, F_law_around := F_law_around, g_law_around := g_law_around, b_law_around := b_law_around, F_law := F_law, g_law := g_law, b_law := b_law, cl_Checker := cl_Checker, g_Checker := g_Checker, mk_Checker := mk_Checker, na_Checker__bound := na_Checker__bound, na_Checker__variables := na_Checker__variables, na_Checker__names := na_Checker__names, F_Checker_init := F_Checker_init, b_Checker_init := b_Checker_init, F_Checker__is_atom := F_Checker__is_atom, b_Checker__is_atom := b_Checker__is_atom, m_Checker__is_atom := m_Checker__is_atom, F_Checker__is_pair := F_Checker__is_pair, b_Checker__is_pair := b_Checker__is_pair, m_Checker__is_pair := m_Checker__is_pair, F_Checker__is_change := F_Checker__is_change, b_Checker__is_change := b_Checker__is_change, m_Checker__is_change := m_Checker__is_change, F_Checker__is_variable := F_Checker__is_variable, b_Checker__is_variable := b_Checker__is_variable, m_Checker__is_variable := m_Checker__is_variable, F_Checker_is_statement := F_Checker_is_statement, b_Checker_is_statement := b_Checker_is_statement, m_Checker_is_statement := m_Checker_is_statement, cl_Program := cl_Program, g_Program := g_Program, mk_Program := mk_Program, na_Program_width := na_Program_width, na_Program_variables := na_Program_variables, na_Program_names := na_Program_names, na_Program__bodies := na_Program__bodies, F_Program_init := F_Program_init, b_Program_init := b_Program_init, F_Program_body := F_Program_body, b_Program_body := b_Program_body, m_Program_body := m_Program_body, cl_Points := cl_Points, g_Points := g_Points, mk_Points := mk_Points, na_Points__count := na_Points__count, na_Points_pieces := na_Points_pieces, na_Points_leaving := na_Points_leaving, na_Points_arriving := na_Points_arriving, na_Points_ends := na_Points_ends, F_Points_init := F_Points_init, b_Points_init := b_Points_init, F_Points__point := F_Points__point, b_Points__point := b_Points__point, m_Points__point := m_Points__point, F_Points__ends := F_Points__ends, b_Points__ends := b_Points__ends, m_Points__ends := m_Points__ends, F_Points__add := F_Points__add, b_Points__add := b_Points__add, m_Points__add := m_Points__add, F_Points__lay := F_Points__lay, b_Points__lay := b_Points__lay, m_Points__lay := m_Points__lay, F_Points__place := F_Points__place, b_Points__place := b_Points__place, m_Points__place := m_Points__place, cl_Machine := cl_Machine, g_Machine := g_Machine, mk_Machine := mk_Machine, na_Machine__program := na_Machine__program, na_Machine__points := na_Machine__points, na_Machine__places := na_Machine__places, F_Machine_init := F_Machine_init, b_Machine_init := b_Machine_init, F_Machine_begin := F_Machine_begin, b_Machine_begin := b_Machine_begin, m_Machine_begin := m_Machine_begin, F_Machine_stopped := F_Machine_stopped, b_Machine_stopped := b_Machine_stopped, m_Machine_stopped := m_Machine_stopped, F_Machine_step := F_Machine_step, b_Machine_step := b_Machine_step, m_Machine_step := m_Machine_step, F_Machine__done := F_Machine__done, b_Machine__done := b_Machine__done, m_Machine__done := m_Machine__done, F_Machine__next_point := F_Machine__next_point, b_Machine__next_point := b_Machine__next_point, m_Machine__next_point := m_Machine__next_point, F_Machine__returned := F_Machine__returned, b_Machine__returned := b_Machine__returned, m_Machine__returned := m_Machine__returned, F_Machine_run := F_Machine_run, b_Machine_run := b_Machine_run, m_Machine_run := m_Machine_run, g_MOST_WIDTH := g_MOST_WIDTH, g_MOST_VARIABLES := g_MOST_VARIABLES, g_MOST_PROCEDURES := g_MOST_PROCEDURES, g_MOST_STATEMENTS := g_MOST_STATEMENTS, g_MOST_DEPTH := g_MOST_DEPTH, g_LONGEST_NAME := g_LONGEST_NAME, g_LETTERS := g_LETTERS, g_WORDS := g_WORDS, v_WORDS := v_WORDS, g_MORE_WORDS := g_MORE_WORDS, v_MORE_WORDS := v_MORE_WORDS, g_CHANGES := g_CHANGES, v_CHANGES := v_CHANGES, g_OPERATORS := g_OPERATORS, v_OPERATORS := v_OPERATORS, g_RELATIONS := g_RELATIONS, v_RELATIONS := v_RELATIONS, g_UNDONE := g_UNDONE, v_UNDONE_add := v_UNDONE_add, v_UNDONE_sub := v_UNDONE_sub, v_UNDONE_xor := v_UNDONE_xor, v_UNDONE_swap := v_UNDONE_swap, g_OPPOSITES := g_OPPOSITES, v_OPPOSITES_add := v_OPPOSITES_add, v_OPPOSITES_sub := v_OPPOSITES_sub, v_OPPOSITES_xor := v_OPPOSITES_xor, v_OPPOSITES_swap := v_OPPOSITES_swap, v_OPPOSITES_call := v_OPPOSITES_call, v_OPPOSITES_uncall := v_OPPOSITES_uncall, z_isinstance := z_isinstance, z_int := z_int, z_bool := z_bool, z_str := z_str, z_len := z_len, z_all := z_all, z_tuple := z_tuple, z_list := z_list, z_sorted := z_sorted, z_dict := z_dict, z_range := z_range, z_abs := z_abs, z_super := z_super }
    have Y : Kt.Xx _ mg _ a fdR := Xk a rfl rfl rfl
    exact ⟨d_law, Kt.law_fd F_law, fun base _ _ => Kt.ok_law T Y⟩
end -- KFin
