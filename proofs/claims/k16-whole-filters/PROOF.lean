import PyProof.Rows.All
import Wide.All
import OpenK.AllK
import Wide.FinOn
import HandS.ForMost
import HandS.Deep
import HandS.Zip
import HandS.TupAny
import HandS.TupMul
import HandS.IsInst
import HandS.Style
import HandS.Conv
import HandS.Strs
import HandS.Exc
import HandS.Wide
import HandS.More
import HandS.AnyAll
import HandS.RaiseMore
import HandS.ExcOwn
import HandS.WordsExc
import HandS.Ends
import PySem.Challenge.RW_documenthall_k16_whole_filters_by_shape
set_option Elab.async false
set_option linter.all false
section
set_option maxRecDepth 100000
namespace PV
open PySem PySem.Spec PyProof.Rows L2
set_option autoImplicit false

abbrev D := PyData
abbrev Fg := PySem.W.Frag

/-! what a value tells: a datum; B: the lists that somebody may yet change -/
mutual
inductive Dn (K : Fg) (H : Hp) (B : Addr → Prop) : V → D → Prop
  | non : Dn K H B .non .none
  | bl (b : Bool) : Dn K H B (.bl b) (.bool b)
  | int (i : Int) : Dn K H B (.int i) (.int i)
  | str (x : Str) : Dn K H B (.str x) (.str x)
  | lst {a : Addr} {xs : List V} {ds : List D} : Rd H a (.lst xs) → ¬ B a → DnA K H B xs ds → Dn K H B (.ref a) (.list ds)
  | tup {a : Addr} {xs : List V} {ds : List D} : SqT K H a xs → DnA K H B xs ds → Dn K H B (.ref a) (.tuple ds)
inductive DnA (K : Fg) (H : Hp) (B : Addr → Prop) : List V → List D → Prop
  | nil : DnA K H B [] []
  | cons {v : V} {vs : List V} {d : D} {ds : List D} : Dn K H B v d → DnA K H B vs ds → DnA K H B (v :: vs) (d :: ds)
end

section
variable {K : Fg} {H H' : Hp} {B B' : Addr → Prop} {v : V} {d : D} {vs : List V} {ds : List D}

mutual
theorem Dn.dp : ∀ {v : V} {d : D}, Dn K H B v d → Dp K H v d
  | _, _, .non => .non
  | _, _, .bl b => .bl b
  | _, _, .int i => .int i
  | _, _, .str x => .str x
  | _, _, .lst r _ a => .lst (.inl r) (DnA.dp a)
  | _, _, .tup r a => .tup r (DnA.dp a)
theorem DnA.dp : ∀ {vs : List V} {ds : List D}, DnA K H B vs ds → DpAll K H vs ds
  | _, _, .nil => .nil
  | _, _, .cons a b => .cons a.dp b.dp
end

theorem DnA.len : ∀ {vs : List V} {ds : List D}, DnA K H B vs ds → vs.length = ds.length
  | _, _, .nil => rfl
  | _, _, .cons _ b => congrArg (· + 1) b.len

theorem DnA.get : ∀ {vs : List V} {ds : List D} {i : Nat} {d : D}, DnA K H B vs ds → ds[i]? = some d → ∃ v, vs[i]? = some v ∧ Dn K H B v d
  | _, _, _, _, .nil, e => by cases e
  | _, _, 0, _, .cons a _, e => by cases e; exact ⟨_, rfl, a⟩
  | _, _, i + 1, _, .cons _ b, e => b.get (i := i) e
theorem DnA.getV : ∀ {vs : List V} {ds : List D} {i : Nat} {v : V}, DnA K H B vs ds → vs[i]? = some v → ∃ d, ds[i]? = some d ∧ Dn K H B v d
  | _, _, _, _, .nil, e => by cases e
  | _, _, 0, _, .cons a _, e => by cases e; exact ⟨_, rfl, a⟩
  | _, _, i + 1, _, .cons _ b, e => b.getV (i := i) e
theorem DnA.app : ∀ {vs ws : List V} {ds es : List D}, DnA K H B vs ds → DnA K H B ws es → DnA K H B (vs ++ ws) (ds ++ es)
  | _, _, _, _, .nil, b => b
  | _, _, _, _, .cons x a, b => .cons x (a.app b)
theorem DnA.take : ∀ {vs : List V} {ds : List D} (n : Nat), DnA K H B vs ds → DnA K H B (vs.take n) (ds.take n)
  | _, _, 0, _ => .nil
  | _, _, _ + 1, .nil => .nil
  | _, _, n + 1, .cons x a => .cons x (a.take n)
theorem DnA.drop : ∀ {vs : List V} {ds : List D} (n : Nat), DnA K H B vs ds → DnA K H B (vs.drop n) (ds.drop n)
  | _, _, 0, a => a
  | _, _, _ + 1, .nil => .nil
  | _, _, n + 1, .cons _ a => a.drop n
theorem DnA.rep (h : Dn K H B v d) : ∀ n : Nat, DnA K H B (List.replicate n v) (List.replicate n d)
  | 0 => .nil
  | n + 1 => .cons h (DnA.rep h n)
theorem DnA.flatRep (h : DnA K H B vs ds) : ∀ n : Nat, DnA K H B (List.replicate n vs).flatten (List.replicate n ds).flatten
  | 0 => .nil
  | n + 1 => by
    rw [List.replicate_succ, List.replicate_succ, List.flatten_cons, List.flatten_cons]
    exact h.app (DnA.flatRep h n)
theorem DnA.set (h : Dn K H B v d) : ∀ {vs : List V} {ds : List D} (n : Nat), DnA K H B vs ds → DnA K H B (vs.set n v) (ds.set n d)
  | _, _, _, .nil => .nil
  | _, _, 0, .cons _ a => .cons h a
  | _, _, n + 1, .cons x a => .cons x (a.set h n)
theorem DnA.insertIdx (h : Dn K H B v d) : ∀ {vs : List V} {ds : List D} (n : Nat), DnA K H B vs ds → DnA K H B (vs.insertIdx n v) (ds.insertIdx n d)
  | _, _, 0, a => .cons h a
  | _, _, _ + 1, .nil => .nil
  | _, _, n + 1, .cons x a => .cons x (a.insertIdx h n)
theorem DnA.eraseIdx : ∀ {vs : List V} {ds : List D} (n : Nat), DnA K H B vs ds → DnA K H B (vs.eraseIdx n) (ds.eraseIdx n)
  | _, _, _, .nil => .nil
  | _, _, 0, .cons _ a => a
  | _, _, n + 1, .cons x a => .cons x (a.eraseIdx n)
theorem DnA.dropLast : ∀ {vs : List V} {ds : List D}, DnA K H B vs ds → DnA K H B vs.dropLast ds.dropLast
  | _, _, .nil => .nil
  | _, _, .cons _ .nil => .nil
  | _, _, .cons x (.cons y a) => .cons x (DnA.dropLast (.cons y a))

/-- the heap goes on: mu may be changed, the rest stays; what may be changed later is of mu, or new -/
structure Go (H : Hp) (mu : Addr → Prop) (H' : Hp) (mu' : Addr → Prop) : Prop where
  keep : ∀ a o, H a = some o → ¬ mu a → H' a = some o
  new : ∀ a, mu' a → mu a ∨ H a = none
  there : ∀ a, H a ≠ none → H' a ≠ none

theorem Go.refl (H : Hp) (mu : Addr → Prop) : Go H mu H mu := ⟨fun _ _ h _ => h, fun _ h => .inl h, fun _ h => h⟩
theorem Go.of_same {mu : Addr → Prop} (h : Same H H') : Go H mu H' mu := ⟨fun a o e _ => h a o e, fun _ h => .inl h, fun a e q => by
  cases z : H a with
  | none => exact e z
  | some o => rw [h a o z] at q; cases q⟩
theorem Go.trans {H1 : Hp} {mu mu1 mu' : Addr → Prop} (g : Go H mu H1 mu1) (g' : Go H1 mu1 H' mu') : Go H mu H' mu' := by
  refine ⟨fun a o e n => ?_, fun a m => ?_, fun a e => g'.there a (g.there a e)⟩
  · refine g'.keep a o (g.keep a o e n) fun m1 => ?_
    rcases g.new a m1 with m | z
    · exact n m
    · rw [e] at z; cases z
  · rcases g'.new a m with m1 | z
    · exact g.new a m1
    · cases e : H a with
      | none => exact .inr rfl
      | some o => exact absurd z (g.there a (by rw [e]; exact fun q => nomatch q))
theorem Go.less {mu mu' mu2 : Addr → Prop} (g : Go H mu H' mu') (h : ∀ a, mu2 a → mu' a) : Go H mu H' mu2 := ⟨g.keep, fun a m => g.new a (h a m), g.there⟩

/-- lists stand at mu -/
def Lsts (H : Hp) (mu : Addr → Prop) : Prop := ∀ a, mu a → ∃ xs, H a = some (.lst xs)

theorem SqT.go {mu mu' : Addr → Prop} {a : Addr} {xs : List V} (l : Lsts H mu) (g : Go H mu H' mu') (h : SqT K H a xs) : SqT K H' a xs := by
  rcases h with (h | ⟨o, h⟩) | h
  · exact .inl (.inl (g.keep _ _ h fun m => by obtain ⟨_, e⟩ := l _ m; rw [h] at e; cases e))
  · exact .inl (.inr ⟨o, g.keep _ _ h fun m => by obtain ⟨_, e⟩ := l _ m; rw [h] at e; cases e⟩)
  · exact .inr h
theorem Rd.go {mu mu' : Addr → Prop} {a : Addr} {xs : List V} (g : Go H mu H' mu') (n : ¬ mu a) (h : Rd H a (.lst xs)) : Rd H' a (.lst xs) ∧ ¬ mu' a := by
  refine ⟨?_, fun m => ?_⟩
  · rcases h with h | ⟨o, h⟩
    · exact .inl (g.keep _ _ h n)
    · exact .inr ⟨o, g.keep _ _ h n⟩
  · rcases g.new a m with m | z
    · exact n m
    · rcases h with h | ⟨o, h⟩ <;> (rw [h] at z; cases z)

mutual
theorem Dn.go {mu mu' fo : Addr → Prop} (l : Lsts H mu) (g : Go H mu H' mu') : ∀ {v : V} {d : D}, Dn K H (fun a => mu a ∨ fo a) v d → Dn K H' (fun a => mu' a ∨ fo a) v d
  | _, _, .non => .non
  | _, _, .bl b => .bl b
  | _, _, .int i => .int i
  | _, _, .str x => .str x
  | _, _, .lst r n a => by
    obtain ⟨r', n'⟩ := Rd.go g (fun m => n (.inl m)) r
    exact .lst r' (fun m => m.elim n' fun f => n (.inr f)) (DnA.go l g a)
  | _, _, .tup r a => .tup (SqT.go l g r) (DnA.go l g a)
theorem DnA.go {mu mu' fo : Addr → Prop} (l : Lsts H mu) (g : Go H mu H' mu') : ∀ {vs : List V} {ds : List D}, DnA K H (fun a => mu a ∨ fo a) vs ds → DnA K H' (fun a => mu' a ∨ fo a) vs ds
  | _, _, .nil => .nil
  | _, _, .cons x a => .cons (Dn.go l g x) (DnA.go l g a)
end
mutual
/-- the same, and what is foreign is more by what was not there -/
theorem Dn.go2 {mu mu' fo fo' : Addr → Prop} (l : Lsts H mu) (g : Go H mu H' mu') (f : ∀ a, fo' a → fo a ∨ H a = none) : ∀ {v : V} {d : D}, Dn K H (fun a => mu a ∨ fo a) v d → Dn K H' (fun a => mu' a ∨ fo' a) v d
  | _, _, .non => .non
  | _, _, .bl b => .bl b
  | _, _, .int i => .int i
  | _, _, .str x => .str x
  | _, _, .lst r n a => by
    obtain ⟨r', n'⟩ := Rd.go g (fun m => n (.inl m)) r
    refine .lst r' (fun m => m.elim n' fun q => ?_) (DnA.go2 l g f a)
    rcases f _ q with q | z
    · exact n (.inr q)
    · rcases r with r | ⟨o, r⟩ <;> (rw [r] at z; cases z)
  | _, _, .tup r a => .tup (SqT.go l g r) (DnA.go2 l g f a)
theorem DnA.go2 {mu mu' fo fo' : Addr → Prop} (l : Lsts H mu) (g : Go H mu H' mu') (f : ∀ a, fo' a → fo a ∨ H a = none) : ∀ {vs : List V} {ds : List D}, DnA K H (fun a => mu a ∨ fo a) vs ds → DnA K H' (fun a => mu' a ∨ fo' a) vs ds
  | _, _, .nil => .nil
  | _, _, .cons x a => .cons (Dn.go2 l g f x) (DnA.go2 l g f a)
end
mutual
theorem Dn.less (h : ∀ a, B' a → B a) : ∀ {v : V} {d : D}, Dn K H B v d → Dn K H B' v d
  | _, _, .non => .non
  | _, _, .bl b => .bl b
  | _, _, .int i => .int i
  | _, _, .str x => .str x
  | _, _, .lst r n a => .lst r (fun m => n (h _ m)) (DnA.less h a)
  | _, _, .tup r a => .tup r (DnA.less h a)
theorem DnA.less (h : ∀ a, B' a → B a) : ∀ {vs : List V} {ds : List D}, DnA K H B vs ds → DnA K H B' vs ds
  | _, _, .nil => .nil
  | _, _, .cons x a => .cons (Dn.less h x) (DnA.less h a)
end
mutual
/-- the heap grows; more may be changed, of what was not there -/
theorem Dn.grow (s : Same H H') (h : ∀ a, B' a → B a ∨ H a = none) : ∀ {v : V} {d : D}, Dn K H B v d → Dn K H' B' v d
  | _, _, .non => .non
  | _, _, .bl b => .bl b
  | _, _, .int i => .int i
  | _, _, .str x => .str x
  | _, _, .lst r n a => by
    refine .lst ?_ (fun m => ?_) (DnA.grow s h a)
    · rcases r with r | ⟨o, r⟩
      · exact .inl (s _ _ r)
      · exact .inr ⟨o, s _ _ r⟩
    · rcases h _ m with m | z
      · exact n m
      · rcases r with r | ⟨o, r⟩ <;> (rw [r] at z; cases z)
  | _, _, .tup r a => by
    refine .tup ?_ (DnA.grow s h a)
    rcases r with (r | ⟨o, r⟩) | r
    · exact .inl (.inl (s _ _ r))
    · exact .inl (.inr ⟨o, s _ _ r⟩)
    · exact .inr r
theorem DnA.grow (s : Same H H') (h : ∀ a, B' a → B a ∨ H a = none) : ∀ {vs : List V} {ds : List D}, DnA K H B vs ds → DnA K H' B' vs ds
  | _, _, .nil => .nil
  | _, _, .cons x a => .cons (Dn.grow s h x) (DnA.grow s h a)
end
theorem same_upd {p : Addr} {o : HO} (h : H p = none) : Same H (upd H p o) := fun b u e => by rw [upd_ne (ne_of_none e h)]; exact e

/-! the state of a def: its names' values -/
inductive Sl where
  | un
  | val (d : D)
  | own (ds : List D)
  | io (ds : List D)
abbrev Ta := List Sl

/-- slot i holds a list that may be changed, now ds -/
def OwnAt (τ : Ta) (i : Nat) (ds : List D) : Prop := τ[i]? = some (.own ds) ∨ τ[i]? = some (.io ds)
def IsOwn (τ : Ta) (i : Nat) : Prop := ∃ ds, OwnAt τ i ds
def Mu (ad : Nat → Addr) (τ : Ta) : Addr → Prop := fun a => ∃ i, IsOwn τ i ∧ ad i = a

structure Fr where
  H0 : Hp
  mu0 : Addr → Prop
  fo : Addr → Prop
  ioa : Nat → Addr

abbrev Bd (F : Fr) (ad : Nat → Addr) (τ : Ta) : Addr → Prop := fun a => Mu ad τ a ∨ F.fo a

structure Rep (K : Fg) (F : Fr) (ad : Nat → Addr) (σ : L2.St) (τ : Ta) (H : Hp) : Prop where
  val : ∀ (i : Nat) (d : D), τ[i]? = some (.val d) → ∃ v, σ[i]? = some (some v) ∧ Dn K H (Bd F ad τ) v d
  own : ∀ (i : Nat) (ds : List D), OwnAt τ i ds → σ[i]? = some (some (.ref (ad i))) ∧ ∃ xs, H (ad i) = some (.lst xs) ∧ DnA K H (Bd F ad τ) xs ds
  inj : ∀ (i j : Nat), IsOwn τ i → IsOwn τ j → ad i = ad j → i = j
  io : ∀ (i : Nat) (ds : List D), τ[i]? = some (.io ds) → ad i = F.ioa i
  len : σ.length = τ.length
  go : Go F.H0 F.mu0 H (Mu ad τ)
  fo : ∀ a, F.fo a → H a ≠ none
  nfo : ∀ i : Nat, IsOwn τ i → ¬ F.fo (ad i)

section
variable {F : Fr} {ad : Nat → Addr} {σ : L2.St} {τ τ' : Ta}
theorem Rep.lsts (R : Rep K F ad σ τ H) : Lsts H (Mu ad τ) := fun a ⟨i, ⟨ds, h⟩, e⟩ => by
  obtain ⟨_, xs, hx, _⟩ := R.own i ds h
  exact ⟨xs, by rw [← e]; exact hx⟩
theorem Rep.bthere (R : Rep K F ad σ τ H) : ∀ a, Bd F ad τ a → H a ≠ none := fun a h => by
  rcases h with h | h
  · obtain ⟨xs, e⟩ := R.lsts a h
    rw [e]; exact fun z => nomatch z
  · exact R.fo a h
/-- the frame taken anew from here -/
def Fr.here (F : Fr) (ad : Nat → Addr) (τ : Ta) (H : Hp) : Fr := ⟨H, Mu ad τ, F.fo, F.ioa⟩
theorem Rep.here (R : Rep K F ad σ τ H) : Rep K (F.here ad τ H) ad σ τ H := ⟨R.val, R.own, R.inj, R.io, R.len, Go.refl _ _, R.fo, R.nfo⟩
theorem Rep.back {ad' : Nat → Addr} {σ' : L2.St} (R : Rep K F ad σ τ H) (R' : Rep K (F.here ad τ H) ad' σ' τ' H') : Rep K F ad' σ' τ' H' := ⟨R'.val, R'.own, R'.inj, R'.io, R'.len, R.go.trans R'.go, R'.fo, R'.nfo⟩
/-- the heap grows -/
theorem Rep.same (R : Rep K F ad σ τ H) (s : Same H H') : Rep K F ad σ τ H' := by
  refine ⟨fun i d h => ?_, fun i ds h => ?_, R.inj, R.io, R.len, R.go.trans (Go.of_same s), fun a h z => ?_, R.nfo⟩
  · obtain ⟨v, h1, h2⟩ := R.val i d h
    exact ⟨v, h1, h2.grow s fun _ m => .inl m⟩
  · obtain ⟨h1, xs, h2, h3⟩ := R.own i ds h
    exact ⟨h1, xs, s _ _ h2, h3.grow s fun _ m => .inl m⟩
  · cases e : H a with
    | none => exact R.fo a h e
    | some o => rw [s a o e] at z; cases z
theorem Rep.carry {ad' : Nat → Addr} {σ' : L2.St} (R : Rep K F ad σ τ H) (R' : Rep K (F.here ad τ H) ad' σ' τ' H') (h : Dn K H (Bd F ad τ) v d) : Dn K H' (Bd F ad' τ') v d :=
  Dn.go R.lsts R'.go h
theorem Rep.carryA {ad' : Nat → Addr} {σ' : L2.St} (R : Rep K F ad σ τ H) (R' : Rep K (F.here ad τ H) ad' σ' τ' H') (h : DnA K H (Bd F ad τ) vs ds) : DnA K H' (Bd F ad' τ') vs ds :=
  DnA.go R.lsts R'.go h
end
end
end PV
end

section
set_option maxRecDepth 100000
namespace PV
open PySem PySem.Spec PyProof.Rows L2
set_option autoImplicit false

/-! what is wanted, over data -/
structure Xn where
  cls : Str
  args : List (Str × D)
abbrev XP := Xn → Ta → Prop
abbrev WE := Ta → XP → (D → Ta → Prop) → Prop
abbrev WT := Ta → XP → (Bool → Ta → Prop) → Prop
abbrev WA := Ta → XP → (List D → Ta → Prop) → Prop

structure PEn where
  nx : Ta → Prop
  rt : D → Ta → Prop
  rf : List D → Ta → Prop := fun _ _ => False
  bk : Ta → Prop := fun _ => False
  ct : Ta → Prop := fun _ => False
abbrev WS := PEn → XP → Ta → Prop

/-- what a derivation leans on: the written part, the wish of exceptions, the classes' addresses by name -/
structure LC where
  K : Fg
  W : WX
  cl : Str → Option Value

def XF (K : Fg) (H : Hp) (B : Addr → Prop) : Option Addr → List (Str × D) → Prop
  | none, fs => fs = []
  | some p, fs => ∃ vs : List (Str × V), H p = some (.xd vs) ∧ vs.map (·.1) = fs.map (·.1) ∧ DnA K H B (vs.map (·.2)) (fs.map (·.2))

def XOk (c : LC) (F : Fr) (X : XP) : Prop := ∀ (x : Xn) (τ : Ta) (ad : Nat → Addr) (σ : L2.St) (dx : Option Addr) (H : Hp) (v : Value),
  X x τ → Rep c.K F ad σ τ H → c.cl x.cls = some v → XF c.K H (Bd F ad τ) dx x.args → c.W v dx σ H

def liftE (c : LC) (w : WE) : TE := fun σ H Q => ∃ F ad τ X P, Rep c.K F ad σ τ H ∧ XOk c F X ∧ w τ X P ∧
  ∀ d τ' v H', P d τ' → Rep c.K F ad σ τ' H' → Dn c.K H' (Bd F ad τ') v d → Q v H'
def liftT (c : LC) (w : WT) : TT := fun σ H Q => ∃ F ad τ X P, Rep c.K F ad σ τ H ∧ XOk c F X ∧ w τ X P ∧
  ∀ b τ' H', P b τ' → Rep c.K F ad σ τ' H' → Q b H'
def liftA (c : LC) (w : WA) : TA := fun σ H Q => ∃ F ad τ X P, Rep c.K F ad σ τ H ∧ XOk c F X ∧ w τ X P ∧
  ∀ ds τ' vs H', P ds τ' → Rep c.K F ad σ τ' H' → DnA c.K H' (Bd F ad τ') vs ds → Q vs H'
/-- a new list, nobody else's -/
def liftF (c : LC) (w : WA) : TE := fun σ H Q => ∃ F ad τ X P, Rep c.K F ad σ τ H ∧ XOk c F X ∧ w τ X P ∧
  ∀ ds τ' p xs H', P ds τ' → Rep c.K { F with fo := fun a => F.fo a ∨ a = p } ad σ τ' H' → F.H0 p = none → ¬ F.fo p → H' p = some (.lst xs) →
    DnA c.K H' (Bd { F with fo := fun a => F.fo a ∨ a = p } ad τ') xs ds → Q (.ref p) H'

structure EOk (c : LC) (F : Fr) (E : PEn) (T : Ends) : Prop where
  nx : ∀ τ ad σ H, E.nx τ → Rep c.K F ad σ τ H → T.nx σ H
  rt : ∀ d τ ad σ v H, E.rt d τ → Rep c.K F ad σ τ H → Dn c.K H (Bd F ad τ) v d → T.rt v H
  rf : ∀ ds τ ad σ p xs H, E.rf ds τ → Rep c.K { F with fo := fun a => F.fo a ∨ a = p } ad σ τ H → F.H0 p = none → ¬ F.fo p → H p = some (.lst xs) →
    DnA c.K H (Bd { F with fo := fun a => F.fo a ∨ a = p } ad τ) xs ds → T.rt (.ref p) H
  bk : ∀ τ ad σ H, E.bk τ → Rep c.K F ad σ τ H → T.bk σ H
  ct : ∀ τ ad σ H, E.ct τ → Rep c.K F ad σ τ H → T.ct σ H
def liftS (c : LC) (w : WS) : TS := fun T σ H => ∃ F ad τ X E, Rep c.K F ad σ τ H ∧ XOk c F X ∧ w E X τ ∧ EOk c F E T

section
variable {c : LC} {F : Fr} {ad : Nat → Addr} {σ : L2.St} {τ : Ta} {H : Hp} {X : XP}
theorem XOk.here (R : Rep c.K F ad σ τ H) (x : XOk c F X) : XOk c (F.here ad τ H) X := fun y τ' ad' σ' dx H' v h R' hv f => x y τ' ad' σ' dx H' v h (R.back R') hv f
theorem useE {w : WE} {P : D → Ta → Prop} {Q : VK} (R : Rep c.K F ad σ τ H) (x : XOk c F X) (h : w τ X P)
    (k : ∀ d τ' v H', P d τ' → Rep c.K F ad σ τ' H' → Rep c.K (F.here ad τ H) ad σ τ' H' → Dn c.K H' (Bd F ad τ') v d → Q v H') : liftE c w σ H Q :=
  ⟨F.here ad τ H, ad, τ, X, P, R.here, x.here R, h, fun d τ' v H' p R' dn => k d τ' v H' p (R.back R') R' dn⟩
theorem useT {w : WT} {P : Bool → Ta → Prop} {Q : Bool → Hp → Prop} (R : Rep c.K F ad σ τ H) (x : XOk c F X) (h : w τ X P)
    (k : ∀ b τ' H', P b τ' → Rep c.K F ad σ τ' H' → Rep c.K (F.here ad τ H) ad σ τ' H' → Q b H') : liftT c w σ H Q :=
  ⟨F.here ad τ H, ad, τ, X, P, R.here, x.here R, h, fun d τ' H' p R' => k d τ' H' p (R.back R') R'⟩
theorem useA {w : WA} {P : List D → Ta → Prop} {Q : List V → Hp → Prop} (R : Rep c.K F ad σ τ H) (x : XOk c F X) (h : w τ X P)
    (k : ∀ ds τ' vs H', P ds τ' → Rep c.K F ad σ τ' H' → Rep c.K (F.here ad τ H) ad σ τ' H' → DnA c.K H' (Bd F ad τ') vs ds → Q vs H') : liftA c w σ H Q :=
  ⟨F.here ad τ H, ad, τ, X, P, R.here, x.here R, h, fun d τ' v H' p R' dn => k d τ' v H' p (R.back R') R' dn⟩
end

theorem PE.imp {X : Cx} {e : Expr} {t t' : TE} (h : PE X e t) (i : ∀ σ H Q, t' σ H Q → t σ H Q) : PE X e t' :=
  ⟨fun pins s σ H Q I q => h.run pins s σ H Q I (i σ H Q q)⟩
theorem PT.imp {X : Cx} {e : Expr} {t t' : TT} (h : PT X e t) (i : ∀ σ H Q, t' σ H Q → t σ H Q) : PT X e t' :=
  ⟨fun pins s σ H Q I q => h.run pins s σ H Q I (i σ H Q q)⟩
theorem PW.imp {X : Cx} {e : Expr} {t t' : TT} (h : PW X e t) (i : ∀ σ H Q, t' σ H Q → t σ H Q) : PW X e t' :=
  ⟨fun wh pins s σ H Q I q => h.run wh pins s σ H Q I (i σ H Q q)⟩
theorem PA.imp {X : Cx} {e : List Expr} {t t' : TA} (h : PA X e t) (i : ∀ σ H Q, t' σ H Q → t σ H Q) : PA X e t' :=
  ⟨fun pos pins s σ H Q I q => h.run pos pins s σ H Q I (i σ H Q q)⟩
theorem PS.imp {X : Cx} {e : Stmt} {t t' : TS} (h : PS X e t) (i : ∀ D σ H, t' D σ H → t D σ H) : PS X e t' :=
  ⟨fun pins s σ H D I q => h.run pins s σ H D I (i D σ H q)⟩
theorem PSs.imp {X : Cx} {e : List Stmt} {t t' : TS} (h : PSs X e t) (i : ∀ D σ H, t' D σ H → t D σ H) : PSs X e t' :=
  ⟨fun pins s σ H D I q => h.run pins s σ H D I (i D σ H q)⟩

/-! ### names, constants -/
def wVar (i : Nat) : WE := fun τ _ P => ∃ d, τ[i]? = some (.val d) ∧ P d τ
def wC (d : D) : WE := fun τ _ P => P d τ
/-- a list that might have been changed is let go -/
def wFrz (i : Nat) : WE := fun τ _ P => ∃ ds, τ[i]? = some (.own ds) ∧ P (.list ds) (τ.set i (.val (.list ds)))

section
variable {X : Cx} {c : LC} {pos : Pos}

theorem ppe_var {i : Nat} {x : Str} (hN : X.N[i]? = some x := by rfl) (hv : Vis X.env.scope x := by first | exact Or.inl rfl | exact Or.inr (Or.inl rfl) | exact Or.inr (Or.inr rfl))
    (hd : (x == ("__debug__" : Str)) = false := by decide) (hcd : (x == ("__classdict__" : Str)) = false := by decide) : PE X (.Name x pos) (liftE c (wVar i)) :=
  PE.imp (pe_var hN hv hd hcd) fun σ H Q ⟨F, ad, τ, Xp, P, R, x, ⟨d, h1, h2⟩, k⟩ => by
    obtain ⟨v, e, dn⟩ := R.val i d h1
    exact ⟨v, e, k d τ v H h2 R dn⟩

theorem set_own_iff {τ : Ta} {i : Nat} {d : D} {j : Nat} : IsOwn (τ.set i (.val d)) j ↔ (IsOwn τ j ∧ j ≠ i) := by
  by_cases hj : j = i
  · subst hj
    refine ⟨fun ⟨ds, h⟩ => ?_, fun h => absurd rfl h.2⟩
    exfalso
    rcases h with h | h <;>
    · by_cases hl : j < τ.length
      · rw [List.getElem?_set_self hl] at h; cases h
      · rw [List.getElem?_eq_none (by rw [List.length_set]; omega)] at h; cases h
  · refine ⟨fun ⟨ds, h⟩ => ⟨⟨ds, ?_⟩, hj⟩, fun ⟨⟨ds, h⟩, _⟩ => ⟨ds, ?_⟩⟩
    · unfold OwnAt at h ⊢; rwa [List.getElem?_set_ne (Ne.symm hj)] at h
    · unfold OwnAt at h ⊢; rwa [List.getElem?_set_ne (Ne.symm hj)]
theorem mu_set {τ : Ta} {i : Nat} {d : D} {ad : Nat → Addr} : ∀ a, Mu ad (τ.set i (.val d)) a → Mu ad τ a := fun a ⟨j, h, e⟩ => ⟨j, (set_own_iff.mp h).1, e⟩

theorem ppe_frz {i : Nat} {x : Str} (hN : X.N[i]? = some x := by rfl) (hv : Vis X.env.scope x := by first | exact Or.inl rfl | exact Or.inr (Or.inl rfl) | exact Or.inr (Or.inr rfl))
    (hd : (x == ("__debug__" : Str)) = false := by decide) (hcd : (x == ("__classdict__" : Str)) = false := by decide) : PE X (.Name x pos) (liftE c (wFrz i)) :=
  PE.imp (pe_var hN hv hd hcd) fun σ H Q ⟨F, ad, τ, Xp, P, R, x, ⟨ds, h1, h2⟩, k⟩ => by
    obtain ⟨e, xs, hx, dn⟩ := R.own i ds (.inl h1)
    have hi : i < τ.length := (List.getElem?_eq_some_iff.mp h1).1
    have hno : ¬ Bd F ad (τ.set i (.val (.list ds))) (ad i) := by
      rintro (⟨j, hj, ej⟩ | hf)
      · obtain ⟨h3, h4⟩ := set_own_iff.mp hj
        exact h4 (R.inj j i h3 ⟨ds, .inl h1⟩ ej)
      · exact R.nfo i ⟨ds, .inl h1⟩ hf
    have less : ∀ a, Bd F ad (τ.set i (.val (.list ds))) a → Bd F ad τ a := fun a h => h.elim (fun m => .inl (mu_set a m)) .inr
    have dl : Dn c.K H (Bd F ad (τ.set i (.val (.list ds)))) (.ref (ad i)) (.list ds) := .lst (.inl hx) hno (dn.less less)
    refine ⟨.ref (ad i), e, k _ _ _ H h2 ⟨fun j d hj => ?_, fun j es hj => ?_, fun j l hj hl => ?_, fun j es hj => ?_, by rw [List.length_set]; exact R.len, R.go.less fun a => mu_set a, R.fo, fun j hj => R.nfo j (set_own_iff.mp hj).1⟩ dl⟩
    · by_cases e2 : j = i
      · subst e2
        rw [List.getElem?_set_self hi] at hj
        cases hj
        exact ⟨_, e, dl⟩
      · rw [List.getElem?_set_ne (Ne.symm e2)] at hj
        obtain ⟨v, h3, h4⟩ := R.val j d hj
        exact ⟨v, h3, h4.less less⟩
    · have hne : j ≠ i := (set_own_iff.mp ⟨es, hj⟩).2
      have hj' : OwnAt τ j es := by unfold OwnAt at hj ⊢; rwa [List.getElem?_set_ne (Ne.symm hne)] at hj
      obtain ⟨h3, ys, h4, h5⟩ := R.own j es hj'
      exact ⟨h3, ys, h4, h5.less less⟩
    · exact R.inj j l (set_own_iff.mp hj).1 (set_own_iff.mp hl).1
    · have hne : j ≠ i := (set_own_iff.mp ⟨es, .inr hj⟩).2
      rw [List.getElem?_set_ne (Ne.symm hne)] at hj
      exact R.io j es hj

theorem ppe_c {e : Expr} {v : V} {d : D} (h : PE X e (tC v)) (hd : ∀ H B, Dn c.K H B v d) : PE X e (liftE c (wC d)) :=
  PE.imp h fun σ H Q ⟨F, ad, τ, Xp, P, R, x, h2, k⟩ => k d τ v H h2 R (hd _ _)
theorem ppe_int {i : Int} {j : Nat} : PE X (.Constant (.int i) j pos) (liftE c (wC (.int i))) := ppe_c pe_int fun _ _ => .int i
theorem ppe_bl {b : Bool} {j : Nat} : PE X (.Constant (.bool b) j pos) (liftE c (wC (.bool b))) := ppe_c pe_bl fun _ _ => .bl b
theorem ppe_non {j : Nat} : PE X (.Constant .none j pos) (liftE c (wC .none)) := ppe_c pe_non fun _ _ => .non
theorem ppe_str {x : Str} {j : Nat} : PE X (.Constant (.str x) j pos) (liftE c (wC (.str x))) := ppe_c pe_str fun _ _ => .str x

/-! ### argument lists, displays -/
def wNil : WA := fun τ _ P => P [] τ
def wCons (a : WE) (r : WA) : WA := fun τ X P => a τ X fun d τ1 => r τ1 X fun ds τ2 => P (d :: ds) τ2
theorem ppa_nil : PA X [] (liftA c wNil) := PA.imp pa_nil fun σ H Q ⟨F, ad, τ, Xp, P, R, x, h, k⟩ => k [] τ [] H h R .nil
theorem ppa_cons {e : Expr} {es : List Expr} {a : WE} {r : WA} (ha : PE X e (liftE c a)) (hr : PA X es (liftA c r)) (hs : starEach (e :: es) X.env = (false, eval e X.env) :: starEach es X.env := by rfl) :
    PA X (e :: es) (liftA c (wCons a r)) :=
  PA.imp (pa_cons ha hr hs) fun σ H Q ⟨F, ad, τ, Xp, P, R, x, h, k⟩ =>
    useE R x h fun d τ1 v H1 h1 R1 _ dn1 => useA R1 x h1 fun ds τ2 vs H2 h2 R2 R2' dn2 =>
      k _ τ2 _ H2 h2 R2 (.cons (R1.carry R2' dn1) dn2)
end

section
variable {X : Cx} {c : LC} {pos : Pos} {K : Fg} {F : Fr} {ad : Nat → Addr} {σ : L2.St} {τ : Ta} {H : Hp}
/-- a new tuple is laid -/
theorem Rep.newT {p : Addr} {xs : List V} {ds : List D} (R : Rep K F ad σ τ H) (h : H p = none) (dn : DnA K H (Bd F ad τ) xs ds) :
    Rep K F ad σ τ (upd H p (.tup xs)) ∧ Dn K (upd H p (.tup xs)) (Bd F ad τ) (.ref p) (.tuple ds) :=
  ⟨R.same (same_upd h), .tup (.inl (.inl upd_same)) (dn.grow (same_upd h) fun _ m => .inl m)⟩
/-- a new list is laid, to stay as it is -/
theorem Rep.newL {p : Addr} {xs : List V} {ds : List D} (R : Rep K F ad σ τ H) (h : H p = none) (dn : DnA K H (Bd F ad τ) xs ds) :
    Rep K F ad σ τ (upd H p (.lst xs)) ∧ Dn K (upd H p (.lst xs)) (Bd F ad τ) (.ref p) (.list ds) :=
  ⟨R.same (same_upd h), .lst (.inl upd_same) (fun m => R.bthere p m h) (dn.grow (same_upd h) fun _ m => .inl m)⟩
/-- more is foreign: what was not there -/
theorem Rep.plus {p : Addr} {H' : Hp} (R : Rep K F ad σ τ H) (h : H p = none) (s : Same H H') (hp : H' p ≠ none) : Rep K { F with fo := fun a => F.fo a ∨ a = p } ad σ τ H' := by
  have R' := R.same s
  have le : ∀ a, Bd { F with fo := fun a => F.fo a ∨ a = p } ad τ a → Bd F ad τ a ∨ H a = none := fun a m => by
    rcases m with m | m | m
    · exact .inl (.inl m)
    · exact .inl (.inr m)
    · exact .inr (by rw [m]; exact h)
  refine ⟨fun i d hi => ?_, fun i ds hi => ?_, R.inj, R.io, R.len, R'.go, fun a m => ?_, fun i hi m => ?_⟩
  · obtain ⟨v, h1, h2⟩ := R.val i d hi
    exact ⟨v, h1, h2.grow s le⟩
  · obtain ⟨h1, xs, h2, h3⟩ := R.own i ds hi
    exact ⟨h1, xs, s _ _ h2, h3.grow s le⟩
  · rcases m with m | m
    · exact R'.fo a m
    · rw [m]; exact hp
  · rcases m with m | m
    · exact R.nfo i hi m
    · obtain ⟨xs, e⟩ := R.lsts (ad i) ⟨i, hi, rfl⟩
      rw [m, h] at e; cases e
theorem Rep.free0 {p : Addr} (R : Rep K F ad σ τ H) (h : H p = none) : F.H0 p = none := by
  cases e : F.H0 p with
  | none => rfl
  | some o => exact absurd h (R.go.there p (by rw [e]; exact fun z => nomatch z))
theorem Rep.freeF {p : Addr} (R : Rep K F ad σ τ H) (h : H p = none) : ¬ F.fo p := fun m => R.fo p m h
theorem Rep.minus {p : Addr} (R : Rep K { F with fo := fun a => F.fo a ∨ a = p } ad σ τ H) : Rep K F ad σ τ H := by
  have le : ∀ a, Bd F ad τ a → Bd { F with fo := fun a => F.fo a ∨ a = p } ad τ a := fun a m => m.elim .inl fun f => .inr (.inl f)
  refine ⟨fun i d hi => ?_, fun i ds hi => ?_, R.inj, R.io, R.len, R.go, fun a m => R.fo a (.inl m), fun i hi m => R.nfo i hi (.inl m)⟩
  · obtain ⟨v, h1, h2⟩ := R.val i d hi
    exact ⟨v, h1, h2.less le⟩
  · obtain ⟨h1, xs, h2, h3⟩ := R.own i ds hi
    exact ⟨h1, xs, h2, h3.less le⟩
/-- a new list of ours that is let go -/
theorem Rep.let {p : Addr} {xs : List V} {ds : List D} (R : Rep K { F with fo := fun a => F.fo a ∨ a = p } ad σ τ H) (hf : ¬ F.fo p) (hp : H p = some (.lst xs)) (dn : DnA K H (Bd { F with fo := fun a => F.fo a ∨ a = p } ad τ) xs ds) :
    Dn K H (Bd F ad τ) (.ref p) (.list ds) :=
  .lst (.inl hp) (fun m => m.elim (fun ⟨i, hi, e⟩ => R.nfo i hi (.inr e)) hf) (dn.less fun a m => m.elim .inl fun f => .inr (.inl f))
end

section
variable {X : Cx} {c : LC} {pos : Pos}
def wTup (a : WA) : WE := fun τ X P => a τ X fun ds τ' => ds.length ≤ sizeLine ∧ P (.tuple ds) τ'
def wLst (a : WA) : WE := fun τ X P => a τ X fun ds τ' => ds.length ≤ sizeLine ∧ P (.list ds) τ'
def wLstF (a : WA) : WA := fun τ X P => a τ X fun ds τ' => ds.length ≤ sizeLine ∧ P ds τ'
theorem ppe_tup {es : List Expr} {a : WA} {x1 : Nat} (h : PA X es (liftA c a)) : PE X (.Tuple es x1 pos) (liftE c (wTup a)) :=
  PE.imp (pe_tup h) fun σ H Q ⟨F, ad, τ, Xp, P, R, x, h, k⟩ => useA R x h fun ds τ1 vs H1 ⟨hl, h1⟩ R1 _ dn => by
    refine ⟨by rw [dn.len]; exact hl, fun p hp => ?_⟩
    obtain ⟨R2, d2⟩ := R1.newT hp dn
    exact k _ _ _ _ h1 R2 d2
theorem ppe_lst {es : List Expr} {a : WA} (h : PA X es (liftA c a)) : PE X (.List es pos) (liftE c (wLst a)) :=
  PE.imp (pe_lst h) fun σ H Q ⟨F, ad, τ, Xp, P, R, x, h, k⟩ => useA R x h fun ds τ1 vs H1 ⟨hl, h1⟩ R1 _ dn => by
    refine ⟨by rw [dn.len]; exact hl, fun p hp => ?_⟩
    obtain ⟨R2, d2⟩ := R1.newL hp dn
    exact k _ _ _ _ h1 R2 d2
theorem ppf_lst {es : List Expr} {a : WA} (h : PA X es (liftA c a)) : PE X (.List es pos) (liftF c (wLstF a)) :=
  PE.imp (pe_lst h) fun σ H Q ⟨F, ad, τ, Xp, P, R, x, h, k⟩ => useA R x h fun ds τ1 vs H1 ⟨hl, h1⟩ R1 _ dn => by
    refine ⟨by rw [dn.len]; exact hl, fun p hp => ?_⟩
    refine k ds τ1 p vs _ h1 (R1.plus hp (same_upd hp) (by rw [upd_same]; exact fun z => nomatch z)) (R1.free0 hp) (R1.freeF hp) upd_same (dn.grow (same_upd hp) fun a m => ?_)
    rcases m with m | m | m
    · exact .inl (.inl m)
    · exact .inl (.inr m)
    · exact .inr (by rw [m]; exact hp)

/-! ### operations by values -/
def rD (K : Fg) (f : D → D → Option D) : R2 := fun x y H Q => ∃ B d e r, (∀ a, B a → H a ≠ none) ∧ Dn K H B x d ∧ Dn K H B y e ∧ f d e = some r ∧ ∀ v H', Same H H' → Dn K H' B v r → Q v H'
def rU1 (K : Fg) (f : D → Option D) : V → Hp → VK → Prop := fun x H Q => ∃ B d r, (∀ a, B a → H a ≠ none) ∧ Dn K H B x d ∧ f d = some r ∧ ∀ v H', Same H H' → Dn K H' B v r → Q v H'
def rC (K : Fg) (f : List D → Option D) : List V → Hp → VK → Prop := fun xs H Q => ∃ B ds r, (∀ a, B a → H a ≠ none) ∧ DnA K H B xs ds ∧ f ds = some r ∧ ∀ v H', Same H H' → Dn K H' B v r → Q v H'
abbrev OpD (X : Cx) (f : Value → Value → Sem Value) (g : D → D → Option D) : Prop := OpR X f (rD X.K g)
abbrev CallD (X : Cx) (f : Value) (g : List D → Option D) : Prop := CallR X f (rC X.K g)

theorem OpR.imp {f : Value → Value → Sem Value} {r r' : R2} (h : OpR X f r) (i : ∀ x y H Q, r' x y H Q → r x y H Q) : OpR X f r' :=
  fun pins s σ H x y v u Q I rx ry q => h pins s σ H x y v u Q I rx ry (i x y H Q q)
theorem CallR.imp {f : Value} {r r' : List V → Hp → VK → Prop} (h : CallR X f r) (i : ∀ xs H Q, r' xs H Q → r xs H Q) : CallR X f r' :=
  fun pins s σ H xs us Q I rs q => h pins s σ H xs us Q I rs (i xs H Q q)

def wOp (f : D → D → Option D) (a b : WE) : WE := fun τ X P => a τ X fun d τ1 => b τ1 X fun e τ2 => ∃ r, f d e = some r ∧ P r τ2
def wUn (f : D → Option D) (a : WE) : WE := fun τ X P => a τ X fun d τ1 => ∃ r, f d = some r ∧ P r τ1
def wCall (f : List D → Option D) (a : WA) : WE := fun τ X P => a τ X fun ds τ1 => ∃ r, f ds = some r ∧ P r τ1
/-- a test of a truth value -/
def wTru (a : WE) : WT := fun τ X P => a τ X fun d τ1 => ∃ b, d = .bool b ∧ P b τ1
def wChain (f g : D → D → Option D) (a b e : WE) : WE := fun τ X P => a τ X fun d1 τ1 => b τ1 X fun d2 τ2 => ∃ k, f d1 d2 = some (.bool k) ∧
  if k = true then e τ2 X fun d3 τ3 => ∃ r, g d2 d3 = some r ∧ P r τ3 else P (.bool false) τ2

theorem rep_rD {K : Fg} {F : Fr} {ad : Nat → Addr} {σ : L2.St} {τ : Ta} {H : Hp} {f : D → D → Option D} {x y : V} {d e r : D} {Q : VK} (R : Rep K F ad σ τ H) (hx : Dn K H (Bd F ad τ) x d) (hy : Dn K H (Bd F ad τ) y e) (h : f d e = some r)
    (k : ∀ v H', Rep K F ad σ τ H' → Dn K H' (Bd F ad τ) v r → Same H H' → Q v H') : rD K f x y H Q :=
  ⟨Bd F ad τ, d, e, r, R.bthere, hx, hy, h, fun v H' s dn => k v H' (R.same s) dn s⟩

theorem ppe_op {op : Operator} {f : D → D → Option D} {a b : Expr} {wa wb : WE} (ho : OpD X (binaryOp op) f) (hK : c.K = X.K) (ha : PE X a (liftE c wa)) (hb : PE X b (liftE c wb)) : PE X (.BinOp a op b pos) (liftE c (wOp f wa wb)) :=
  PE.imp (pe_op ho ha hb) fun σ H Q ⟨F, ad, τ, Xp, P, R, x, h, k⟩ => useE R x h fun d τ1 v H1 h1 R1 _ dn1 => useE R1 x h1 fun e τ2 u H2 ⟨r, h2, p⟩ R2 R2' dn2 => by
    rw [← hK]
    exact rep_rD R2 (R1.carry R2' dn1) dn2 h2 fun v H' R3 dn _ => k _ _ _ _ p R3 dn
theorem ppe_cmp {op : CmpOp} {f : D → D → Option D} {a b : Expr} {wa wb : WE} (ho : OpD X (compareOp op) f) (hK : c.K = X.K) (ha : PE X a (liftE c wa)) (hb : PE X b (liftE c wb)) (hm : behindInMarks op b = false) : PE X (.Compare a [op] [b] pos) (liftE c (wOp f wa wb)) :=
  PE.imp (pe_cmpR ho ha hb hm) fun σ H Q ⟨F, ad, τ, Xp, P, R, x, h, k⟩ => useE R x h fun d τ1 v H1 h1 R1 _ dn1 => useE R1 x h1 fun e τ2 u H2 ⟨r, h2, p⟩ R2 R2' dn2 => by
    rw [← hK]
    exact rep_rD R2 (R1.carry R2' dn1) dn2 h2 fun v H' R3 dn _ => k _ _ _ _ p R3 dn
theorem dn_bool {K : Fg} {H : Hp} {B : Addr → Prop} {v : V} {b : Bool} (h : Dn K H B v (.bool b)) : v = .bl b := by cases h; rfl
theorem dn_int {K : Fg} {H : Hp} {B : Addr → Prop} {v : V} {b : Int} (h : Dn K H B v (.int b)) : v = .int b := by cases h; rfl
theorem dn_str {K : Fg} {H : Hp} {B : Addr → Prop} {v : V} {b : Str} (h : Dn K H B v (.str b)) : v = .str b := by cases h; rfl
theorem dn_none {K : Fg} {H : Hp} {B : Addr → Prop} {v : V} (h : Dn K H B v .none) : v = .non := by cases h; rfl
theorem ppt_cmp {op : CmpOp} {f : D → D → Option D} {a b : Expr} {wa wb : WE} (ho : OpD X (compareOp op) f) (hK : c.K = X.K) (ha : PE X a (liftE c wa)) (hb : PE X b (liftE c wb)) (hm : behindInMarks op b = false) : PT X (.Compare a [op] [b] pos) (liftT c (wTru (wOp f wa wb))) :=
  PT.imp (pt_cmpR ho ha hb hm) fun σ H Q ⟨F, ad, τ, Xp, P, R, x, h, k⟩ => useE R x h fun d τ1 v H1 h1 R1 _ dn1 => useE R1 x h1 fun e τ2 u H2 ⟨r, h2, z, ez, p⟩ R2 R2' dn2 => by
    rw [← hK]
    subst ez
    exact rep_rD R2 (R1.carry R2' dn1) dn2 h2 fun v H' R3 dn _ => ⟨z, dn_bool dn, k _ _ _ p R3⟩
theorem ppe_chain {op op' : CmpOp} {f g : D → D → Option D} {a b e : Expr} {wa wb we : WE} (ho : OpD X (compareOp op) f) (ho' : OpD X (compareOp op') g) (hK : c.K = X.K) (ha : PE X a (liftE c wa)) (hb : PE X b (liftE c wb)) (he : PE X e (liftE c we))
    (hm : lastMarks [op, op'] [b, e] = false := by with_unfolding_all rfl) : PE X (.Compare a [op, op'] [b, e] pos) (liftE c (wChain f g wa wb we)) :=
  PE.imp (pe_chain ho ho' ha hb he hm) fun σ H Q ⟨F, ad, τ, Xp, P, R, x, h, k⟩ => useE R x h fun d τ1 v H1 h1 R1 _ dn1 => useE R1 x h1 fun e τ2 u H2 ⟨z, h2, p⟩ R2 R2' dn2 => by
    rw [← hK]
    refine rep_rD R2 (R1.carry R2' dn1) dn2 h2 fun v H' R3 dn s3 => ⟨z, dn_bool dn, ?_⟩
    cases z with
    | false => exact k _ _ _ _ p R3 (.bl false)
    | true => exact useE R3 x p fun d4 τ4 v4 H4 ⟨r4, h4, p4⟩ R4 R4' dn4 => rep_rD R4 (R3.carry R4' (dn2.grow s3 fun _ m => .inl m)) dn4 h4 fun v5 H5 R5 dn5 _ => k _ _ _ _ p4 R5 dn5
theorem ppt_chain {op op' : CmpOp} {f g : D → D → Option D} {a b e : Expr} {wa wb we : WE} (ho : OpD X (compareOp op) f) (ho' : OpD X (compareOp op') g) (hK : c.K = X.K) (ha : PE X a (liftE c wa)) (hb : PE X b (liftE c wb)) (he : PE X e (liftE c we))
    (hm : lastMarks [op, op'] [b, e] = false := by with_unfolding_all rfl) : PT X (.Compare a [op, op'] [b, e] pos) (liftT c (wTru (wChain f g wa wb we))) :=
  PT.imp (pt_chain ho ho' ha hb he hm) fun σ H Q ⟨F, ad, τ, Xp, P, R, x, h, k⟩ => useE R x h fun d τ1 v H1 h1 R1 _ dn1 => useE R1 x h1 fun e τ2 u H2 ⟨z, h2, p⟩ R2 R2' dn2 => by
    rw [← hK]
    refine rep_rD R2 (R1.carry R2' dn1) dn2 h2 fun v H' R3 dn s3 => ⟨z, dn_bool dn, ?_⟩
    cases z with
    | false => obtain ⟨b, e, p⟩ := p; cases e; exact ⟨false, rfl, k _ _ _ p R3⟩
    | true => exact useE R3 x p fun d4 τ4 v4 H4 ⟨r4, h4, b, e, p4⟩ R4 R4' dn4 => by subst e; exact rep_rD R4 (R3.carry R4' (dn2.grow s3 fun _ m => .inl m)) dn4 h4 fun v5 H5 R5 dn5 _ => ⟨b, dn_bool dn5, k _ _ _ p4 R5⟩
theorem ppt_val {e : Expr} {w : WE} (h : PE X e (liftE c w)) (he : ∀ whole, isTrue e X.env whole = (do let v ← whole; standAt e.pos; holding [v] (truthy v)) := by intro _; rfl) : PT X e (liftT c (wTru w)) :=
  PT.imp (pt_val h he) fun σ H Q ⟨F, ad, τ, Xp, P, R, x, h, k⟩ => useE R x h fun d τ1 v H1 ⟨b, e, p⟩ R1 _ dn => by
    subst e
    exact ⟨b, dn_bool dn, k _ _ _ p R1⟩

/-! ### and, or, not, if -/
def wAnd (t u : WT) : WT := fun τ X P => t τ X fun b τ1 => if b = true then u τ1 X P else P false τ1
def wOr (t u : WT) : WT := fun τ X P => t τ X fun b τ1 => if b = true then P true τ1 else u τ1 X P
def wNot (t : WT) : WT := fun τ X P => t τ X fun b τ1 => P (!b) τ1
def wAndV (a b : WE) : WE := fun τ X P => a τ X fun d τ1 => ∃ k, d = .bool k ∧ if k = true then b τ1 X P else P (.bool false) τ1
def wOrV (a b : WE) : WE := fun τ X P => a τ X fun d τ1 => ∃ k, d = .bool k ∧ if k = true then P (.bool true) τ1 else b τ1 X P
def wNotV (a : WE) : WE := fun τ X P => a τ X fun d τ1 => ∃ k, d = .bool k ∧ P (.bool (!k)) τ1
def wIf (t : WT) (a b : WE) : WE := fun τ X P => t τ X fun k τ1 => if k = true then a τ1 X P else b τ1 X P
variable {a b e : Expr} {rest : List Expr} {wa wb we : WE} {ta tb : WT}
theorem ppw_and1 (ha : PT X a (liftT c ta)) : PW X (.BoolOp .And [a] pos) (liftT c ta) := pw_and1 ha
theorem ppw_or1 (ha : PT X a (liftT c ta)) : PW X (.BoolOp .Or [a] pos) (liftT c ta) := pw_or1 ha
theorem ppw_and (ha : PT X a (liftT c ta)) (hb : PW X (.BoolOp .And (b :: rest) pos) (liftT c tb)) : PW X (.BoolOp .And (a :: b :: rest) pos) (liftT c (wAnd ta tb)) :=
  PW.imp (pw_and ha hb) fun σ H Q ⟨F, ad, τ, Xp, P, R, x, h, k⟩ => useT R x h fun d τ1 H1 p R1 _ => by
    cases d with
    | false => exact k _ _ _ p R1
    | true => exact useT R1 x p fun d2 τ2 H2 p2 R2 _ => k _ _ _ p2 R2
theorem ppw_or (ha : PT X a (liftT c ta)) (hb : PW X (.BoolOp .Or (b :: rest) pos) (liftT c tb)) : PW X (.BoolOp .Or (a :: b :: rest) pos) (liftT c (wOr ta tb)) :=
  PW.imp (pw_or ha hb) fun σ H Q ⟨F, ad, τ, Xp, P, R, x, h, k⟩ => useT R x h fun d τ1 H1 p R1 _ => by
    cases d with
    | true => exact k _ _ _ p R1
    | false => exact useT R1 x p fun d2 τ2 H2 p2 R2 _ => k _ _ _ p2 R2
theorem ppt_w {t : WT} (h : PW X e (liftT c t)) : PT X e (liftT c t) := h.pt
theorem ppt_not (ha : PT X a (liftT c ta)) : PT X (.UnaryOp .Not a pos) (liftT c (wNot ta)) :=
  PT.imp (pt_not ha) fun σ H Q ⟨F, ad, τ, Xp, P, R, x, h, k⟩ => useT R x h fun d τ1 H1 p R1 _ => k _ _ _ p R1
theorem ppe_one {op : BoolOp} (h : PE X a (liftE c wa)) : PE X (.BoolOp op [a] pos) (liftE c wa) := pe_one h
theorem ppe_and (ha : PE X a (liftE c wa)) (hb : PE X (.BoolOp .And (b :: rest) pos) (liftE c wb)) : PE X (.BoolOp .And (a :: b :: rest) pos) (liftE c (wAndV wa wb)) :=
  PE.imp (pe_and ha hb) fun σ H Q ⟨F, ad, τ, Xp, P, R, x, h, k⟩ => useE R x h fun d τ1 v H1 ⟨z, ez, p⟩ R1 _ dn => by
    subst ez
    refine ⟨z, dn_bool dn, ?_⟩
    cases z with
    | false => exact k _ _ _ _ p R1 (.bl false)
    | true => exact useE R1 x p fun d2 τ2 v2 H2 p2 R2 _ dn2 => k _ _ _ _ p2 R2 dn2
theorem ppe_or (ha : PE X a (liftE c wa)) (hb : PE X (.BoolOp .Or (b :: rest) pos) (liftE c wb)) : PE X (.BoolOp .Or (a :: b :: rest) pos) (liftE c (wOrV wa wb)) :=
  PE.imp (pe_or ha hb) fun σ H Q ⟨F, ad, τ, Xp, P, R, x, h, k⟩ => useE R x h fun d τ1 v H1 ⟨z, ez, p⟩ R1 _ dn => by
    subst ez
    refine ⟨z, dn_bool dn, ?_⟩
    cases z with
    | true => exact k _ _ _ _ p R1 (.bl true)
    | false => exact useE R1 x p fun d2 τ2 v2 H2 p2 R2 _ dn2 => k _ _ _ _ p2 R2 dn2
theorem ppe_not (ha : PE X a (liftE c wa)) : PE X (.UnaryOp .Not a pos) (liftE c (wNotV wa)) :=
  PE.imp (pe_not ha) fun σ H Q ⟨F, ad, τ, Xp, P, R, x, h, k⟩ => useE R x h fun d τ1 v H1 ⟨z, ez, p⟩ R1 _ dn => by
    subst ez
    exact ⟨z, dn_bool dn, k _ _ _ _ p R1 (.bl _)⟩
theorem ppe_if {t : Expr} (ht : PT X t (liftT c ta)) (ha : PE X a (liftE c wa)) (hb : PE X b (liftE c wb)) : PE X (.IfExp t a b pos) (liftE c (wIf ta wa wb)) :=
  PE.imp (pe_ifExp ht ha hb) fun σ H Q ⟨F, ad, τ, Xp, P, R, x, h, k⟩ => useT R x h fun d τ1 H1 p R1 _ => by
    cases d with
    | true => exact useE R1 x p fun d2 τ2 v2 H2 p2 R2 _ dn2 => k _ _ _ _ p2 R2 dn2
    | false => exact useE R1 x p fun d2 τ2 v2 H2 p2 R2 _ dn2 => k _ _ _ _ p2 R2 dn2
/-- a fresh list used as any value -/
theorem ppe_of_fresh {w : WA} (h : PE X e (liftF c w)) : PE X e (liftE c (fun τ Xp P => w τ Xp fun ds τ' => P (.list ds) τ')) :=
  PE.imp h fun σ H Q ⟨F, ad, τ, Xp, P, R, x, h, k⟩ => ⟨F.here ad τ H, ad, τ, Xp, _, R.here, x.here R, h, fun ds τ' p xs H' p' R' hp hf hx dn => k _ _ _ _ p' (R.back R'.minus) (R'.let hf hx dn)⟩
end
end PV
end

section
set_option maxRecDepth 100000
namespace PV
open PySem PySem.Spec PyProof.Rows L2
set_option autoImplicit false

/-! ### what the operations are worth -/
def flat : D → Bool
  | .none => true | .bool _ => true | .int _ => true | .str _ => true | _ => false
def b2n (b : Bool) : Int := if b = true then 1 else 0
def addD : D → D → Option D
  | .int i, .int j => some (.int (i + j))
  | .int i, .bool b => some (.int (i + b2n b))
  | .str x, .str y => if x.length + y.length ≤ sizeLine then some (.str (x ++ y)) else none
  | .tuple x, .tuple y => if x.length + y.length ≤ sizeLine then some (.tuple (x ++ y)) else none
  | .list x, .list y => if x.length + y.length ≤ sizeLine then some (.list (x ++ y)) else none
  | _, _ => none
def subD : D → D → Option D
  | .int i, .int j => some (.int (i - j))
  | .bool a, .bool b => some (.int (b2n a - b2n b))
  | _, _ => none
def mulD : D → D → Option D
  | .int i, .int j => if (-(2 ^ 64) < i ∧ i < 2 ^ 64) ∨ (-(2 ^ 64) < j ∧ j < 2 ^ 64) then some (.int (i * j)) else none
  | .list x, .int k => if -(2 ^ 63) ≤ k ∧ k < 2 ^ 63 ∧ x.length * k.toNat ≤ sizeLine then some (.list (List.replicate k.toNat x).flatten) else none
  | _, _ => none
def fdivD : D → D → Option D
  | .int i, .int j => if 0 < j ∧ j.natAbs.log2 < 9000 then some (.int (i / j)) else none
  | _, _ => none
def modD : D → D → Option D
  | .int i, .int j => if 0 < j then some (.int (i % j)) else none
  | _, _ => none
def powD : D → D → Option D
  | .int i, .int j => if 0 ≤ j ∧ j ≤ 1000000 ∧ i.natAbs < 2 ^ 64 then some (.int (i ^ j.toNat)) else none
  | _, _ => none
def andD : D → D → Option D
  | .int i, .int j => some (.int (Builtin.bitAnd i j))
  | _, _ => none
def negD : D → Option D
  | .int i => some (.int (-i))
  | _ => none
/-- one of two rows is empty -/
def nilq : D → D → Bool
  | .list ds, .list es => ds.isEmpty || es.isEmpty
  | .tuple ds, .tuple es => ds.isEmpty || es.isEmpty
  | _, _ => false
def eqok (d e : D) : Bool := (flat d && flat e) || (SeqAt.shaped d && SeqAt.shaped e) || nilq d e
def eqD (d e : D) : Option D := if eqok d e = true then some (.bool (PyData.eqv d e)) else none
def neD (d e : D) : Option D := if eqok d e = true then some (.bool (!PyData.eqv d e)) else none
theorem eqv_nil : ∀ (ds es : List D), (ds.isEmpty || es.isEmpty) = true → PyData.eqvAll ds es = (ds.length == es.length)
  | [], [], _ => rfl
  | [], _ :: _, _ => rfl
  | _ :: _, [], _ => rfl
  | _ :: _, _ :: _, h => nomatch h
def ltD : D → D → Option D
  | .int i, .int j => some (.bool (decide (i < j)))
  | .str x, .str y => some (.bool (decide (x.cps.toList < y.cps.toList)))
  | .bool a, .bool b => some (.bool (decide (b2n a < b2n b)))
  | _, _ => none
def leD : D → D → Option D
  | .int i, .int j => some (.bool (decide (i ≤ j)))
  | .str x, .str y => some (.bool (!decide (y.cps.toList < x.cps.toList)))
  | _, _ => none
def gtD : D → D → Option D
  | .int i, .int j => some (.bool (decide (j < i)))
  | .str x, .str y => some (.bool (decide (y.cps.toList < x.cps.toList)))
  | _, _ => none
def geD : D → D → Option D
  | .int i, .int j => some (.bool (decide (j ≤ i)))
  | .str x, .str y => some (.bool (!decide (x.cps.toList < y.cps.toList)))
  | _, _ => none
def isN : D → Bool
  | .none => true | _ => false
def isD : D → D → Option D
  | d, .none => some (.bool (isN d))
  | .bool a, .bool b => some (.bool (decide (a = b)))
  | _, _ => none
def isnotD : D → D → Option D
  | d, .none => some (.bool (!isN d))
  | .bool a, .bool b => some (.bool (!decide (a = b)))
  | _, _ => none
def oneOf : List Nat → Option Nat
  | [s] => some s
  | _ => none
def inStr (c z : Str) : Option D := (oneOf c.cps.toList).map fun s => .bool (decide (s ∈ z.cps.toList))
def inD : D → D → Option D
  | .str c, .str z => inStr c z
  | d, .list es => if flat d && es.all flat then some (.bool (es.any fun y => PyData.eqv y d)) else if SeqAt.shaped d && SeqAt.shaped (.list es) then some (.bool (es.any fun y => PyData.eqv y d)) else none
  | d, .tuple es => if flat d && es.all flat then some (.bool (es.any fun y => PyData.eqv y d)) else none
  | _, _ => none
def notD : D → Option D
  | .bool b => some (.bool (!b))
  | _ => none
def notInD (d e : D) : Option D := (inD d e).bind notD
def idxD : D → D → Option D
  | .list ds, .int i => atI ds i
  | .tuple ds, .int i => atI ds i
  | .str z, .int i => if z.length ≤ sizeLine then (atI z.cps.toList i).map fun c => .str ⟨#[c]⟩ else none
  | _, _ => none

section
variable {X : Cx}
theorem pairs {H : Hp} {K : Fg} {B : Addr → Prop} {x : V} {d : D} (h : Dn K H B x d) : flat d = true → flatV x = true := by
  cases h <;> first | exact fun _ => rfl | exact fun h => nomatch h

theorem o_add : OpD X (binaryOp .Add) addD := by
  intro pins s σ H x y v u Q I rx ry ⟨B, d, e, r, hB, hx, hy, hf, k⟩
  cases hx with
  | int i => cases hy with
    | int j => cases hf; exact op_add pins s σ H _ _ v u Q I rx ry ⟨i, j, rfl, rfl, k _ _ (Same.refl _) (.int _)⟩
    | bl b => cases hf; exact op_add_ib pins s σ H _ _ v u Q I rx ry ⟨i, b, rfl, rfl, k _ _ (Same.refl _) (.int _)⟩
    | _ => simp [addD] at hf
  | str i => cases hy with
    | str j =>
      have hq : (if i.length + j.length ≤ sizeLine then some (PyData.str (i ++ j)) else none) = some r := hf
      split at hq <;> cases hq
      rename_i hl
      exact op_add_str pins s σ H _ _ v u Q I rx ry ⟨i, j, rfl, rfl, hl, k _ _ (Same.refl _) (.str _)⟩
    | _ => simp [addD] at hf
  | @tup a xs ds hs ha => cases hy with
    | @tup b ys es hs2 hb =>
      have hq : (if ds.length + es.length ≤ sizeLine then some (PyData.tuple (ds ++ es)) else none) = some r := hf
      split at hq <;> cases hq
      rename_i hl
      refine op_catA pins s σ H _ _ v u Q I rx ry ⟨a, b, xs, ys, rfl, rfl, hs, hs2, by rw [ha.len, hb.len]; exact hl, fun e => ?_, fun n e => ?_, fun n n2 p hp => ?_⟩
      · subst e; cases ha; exact k _ _ (Same.refl _) (.tup hs2 hb)
      · subst e; cases hb; exact k _ _ (Same.refl _) (by rw [List.append_nil]; exact .tup hs ha)
      · exact k _ _ (same_upd hp) (.tup (.inl (.inl upd_same)) ((ha.app hb).grow (same_upd hp) fun _ m => .inl m))
    | _ => simp [addD] at hf
  | @lst a xs ds hs na ha => cases hy with
    | @lst b ys es hs2 nb hb =>
      have hq : (if ds.length + es.length ≤ sizeLine then some (PyData.list (ds ++ es)) else none) = some r := hf
      split at hq <;> cases hq
      rename_i hl
      rw [← ha.len, ← hb.len] at hl
      cases rx
      cases ry
      obtain ⟨z, its, n, r1, e1⟩ := hs.ok I.hok
      obtain ⟨z2, its2, n2, r2, e2⟩ := hs2.ok I.hok
      have l1 := r1.length
      have l2 := r2.length
      refine PySem.P.add_list e1 e2 ?_ (by rw [List.size_toArray, List.size_toArray]; omega)
      have ea : its.toArray ++ its2.toArray = (its ++ its2).toArray := by simp
      rw [ea]
      exact ⟨.ref _, _, I.lnew (t' := s.toks) (r1.append r2) (by rw [List.length_append]; omega), rfl,
        k _ _ (same_upd I.fresh) (.lst (.inl upd_same) (fun m => hB _ m I.fresh) ((ha.app hb).grow (same_upd I.fresh) fun _ m => .inl m))⟩
    | _ => simp [addD] at hf
  | _ => cases hy <;> simp [addD] at hf

theorem o_sub : OpD X (binaryOp .Sub) subD := by
  intro pins s σ H x y v u Q I rx ry ⟨B, d, e, r, hB, hx, hy, hf, k⟩
  cases hx with
  | int i => cases hy with
    | int j => cases hf; exact op_sub pins s σ H _ _ v u Q I rx ry ⟨i, j, rfl, rfl, k _ _ (Same.refl _) (.int _)⟩
    | _ => simp [subD] at hf
  | bl i => cases hy with
    | bl j =>
      cases hf
      cases rx
      cases ry
      exact sub_bool ⟨.int _, H, I.tok _, ⟨_, rfl⟩, k _ _ (Same.refl _) (.int _)⟩
    | _ => simp [subD] at hf
  | _ => cases hy <;> simp [subD] at hf


theorem tuple_mul_none (l : Addr) (items : Array Value) (n : Nat) (dd : Option Addr) (sl : Array (Option Value)) (x : Int) (u : Tok)
    (c0 : (decide (x < -(2 ^ 63)) || decide (x ≥ 2 ^ 63)) = false) (c1 : (items.isEmpty || x == 1) = false) (c2 : (decide (x ≤ 0) || items.isEmpty) = true) :
    Meets (Builtin.«tuple.__mul__» ⟨[.ref l, .int x u], []⟩) (fun _ R s => s.heap.get? l = some { cls := .type "tuple", dict := dd, data := .seq items n, slots := sl } ∧
      R (.ok (.ret (Value.ref s.heap.objs.size))) { s with heap := s.heap.push { cls := Value.type "tuple", data := Data.seq #[] }, toks := s.toks }) :=
  .of_wp fun prog w A R s h => by
    obtain ⟨hp, g, d, tk, os⟩ := s
    obtain ⟨hl, h⟩ := h
    have f1 := AutoSeq1.idx_int
    have hz : (0 : Nat) ≤ sizeLine := Nat.zero_le _
    wp_walk using wpAny_loadPart' hl
    repeat (first
      | (refine wpAny_ite_false (decide_eq_false (by rw [c0]; exact Bool.false_ne_true)) ?_; wp_walk using wpAny_loadPart' hl)
      | (refine wpAny_ite_false (decide_eq_false (by rw [c1]; exact Bool.false_ne_true)) ?_; wp_walk using wpAny_loadPart' hl)
      | (refine wpAny_ite_true (decide_eq_true c2) ?_; wp_walk using wpAny_loadPart' hl))
    exact ⟨_, rfl, h⟩

theorem rep_list {l : Addr} {its : List Value} {n : Nat} {k : Int} {t : Tok} {pins : List (Addr × Obj)} {s : Shared} {σ : L2.St} {H : Hp} {Q : VK} {xs : List V} (I : Inv X pins σ H s)
    (e : s.heap.get? l = some { cls := .type "list", data := .seq its.toArray n }) (r : Vals xs its) (h1 : -(2 ^ 63) ≤ k) (h2 : k < 2 ^ 63) (hz : xs.length * k.toNat ≤ sizeLine)
    (q : ∀ p, H p = none → Q (.ref p) (upd H p (.lst (List.replicate k.toNat xs).flatten))) : wpAny (model X.prog X.w) X.A (binaryOp .Mult (.ref l) (.int k t)) (EP X pins σ Q) X.xe s := by
  have hl := r.length
  have z1 : its.toArray.size * k.toNat ≤ sizeLine := by
    rw [List.size_toArray, ← hl]
    exact hz
  have z2 : ¬ its.toArray.size * k.toNat > (2 ^ 63 - 1) / 8 := fun z => by
    have z3 : (sizeLine : Nat) ≤ (2 ^ 63 - 1) / 8 := by decide
    omega
  have z4 : ¬ (!Builtin.List.listFitsIndex k) = true := fun z => by
    rw [fitsIndex_both h1 h2] at z
    cases z
  have z5 : ¬ Builtin.List.listTooLong (its.toArray.size * k.toNat) = true := fun z => by
    rw [notLongL z1] at z
    cases z
  have z6 : ∀ m : Nat, List.foldl (fun x1 x2 => x1 ++ x2) #[] (List.replicate m its.toArray) = (List.replicate m its).flatten.toArray := fun m => by
    have z7 := foldl_rep its m []
    rwa [List.nil_append] at z7
  have z8 : List.foldl (fun x1 x2 => x1 ++ x2) #[] (List.replicate (if its.toArray.isEmpty = true then 0 else k.toNat) its.toArray) = (List.replicate k.toNat its).flatten.toArray := by
    rw [z6]
    cases its with
    | nil => simp
    | cons a r' => rw [if_neg (by simp)]
  refine wpAny_binaryOp_repeat_ref (T := "list") (U := "int") (by decide) ⟨_, e, rfl⟩
    (fun s' => typeIs_int s' k t) noFill_list_mul F.fills_int_mul F.slot_int_rmul repeat_list F.slot_int_index.lookup
    (call_meets F.slot_int_rmul (typeIs_int s k t) F.entry_int_rmul (F.args_int_rmul_2 _ _)
      (int___rmul___int_list k t l its.toArray n) ⟨e, rfl, ⟨_, e, rfl⟩,
      call_meets F.slot_list_mul ⟨_, e, rfl⟩ F.entry_list_mul (F.args_list_mul_2 _ _)
        (AutoListH.list___mul___list_int_3 l its.toArray n k t z4 z2 z5) ⟨e, ?_⟩⟩)
  rw [z8]
  refine ⟨.ref _, _, I.lnew (t' := s.toks) (r.rep k.toNat) ?_, rfl, q _ I.fresh⟩
  rw [PyProof.Rows.lm_len_rep_flat, Nat.mul_comm]
  exact hz

theorem o_mul : OpD X (binaryOp .Mult) mulD := by
  intro pins s σ H x y v u Q I rx ry ⟨B, d, e, r, hB, hx, hy, hf, k⟩
  cases hx with
  | int i => cases hy with
    | int j =>
      have hq : (if (-(2 ^ 64) < i ∧ i < 2 ^ 64) ∨ (-(2 ^ 64) < j ∧ j < 2 ^ 64) then some (PyData.int (i * j)) else none) = some r := hf
      split at hq <;> cases hq
      rename_i hl
      exact op_mul pins s σ H _ _ v u Q I rx ry ⟨i, j, rfl, rfl, hl, k _ _ (Same.refl _) (.int _)⟩
    | _ => simp [mulD] at hf
  | @lst a xs ds hs na ha => cases hy with
    | int j =>
      have hq : (if -(2 ^ 63) ≤ j ∧ j < 2 ^ 63 ∧ ds.length * j.toNat ≤ sizeLine then some (PyData.list (List.replicate j.toNat ds).flatten) else none) = some r := hf
      split at hq <;> cases hq
      rename_i hl
      cases rx
      obtain ⟨t, rfl⟩ := ry
      obtain ⟨z, its, n, r1, e1⟩ := hs.ok I.hok
      exact rep_list I e1 r1 hl.1 hl.2.1 (by rw [ha.len]; exact hl.2.2) fun p hp =>
        k _ _ (same_upd hp) (.lst (.inl upd_same) (fun m => hB _ m hp) ((ha.flatRep _).grow (same_upd hp) fun _ m => .inl m))
    | _ => simp [mulD] at hf
  | _ => cases hy <;> simp [mulD] at hf

/-- a tuple some times, of tuples told to be small -/
def tmulD : D → D → Option D
  | .tuple x, .int k => if x ≠ [] ∧ x.length ≤ 1000 ∧ k ≠ 1 ∧ k ≤ 1000 ∧ -(2 ^ 63) ≤ k then some (.tuple (List.replicate k.toNat x).flatten) else none
  | _, _ => none
theorem o_tmul : OpD X (binaryOp .Mult) tmulD := by
  intro pins s σ H x y v u Q I rx ry ⟨B, d, e, r, hB, hx, hy, hf, k⟩
  cases hx with
  | @tup a xs ds hs ha => cases hy with
    | int j =>
      have hq : (if ds ≠ [] ∧ ds.length ≤ 1000 ∧ j ≠ 1 ∧ j ≤ 1000 ∧ -(2 ^ 63) ≤ j then some (PyData.tuple (List.replicate j.toNat ds).flatten) else none) = some r := hf
      split at hq <;> cases hq
      rename_i hl
      obtain ⟨h1, h2, h3, h4, h5⟩ := hl
      have hne : xs ≠ [] := fun e => by
        subst e
        cases ha
        exact h1 rfl
      by_cases h2j : 2 ≤ j
      · exact op_repT pins s σ H _ _ v u Q I rx ry ⟨a, j, xs, rfl, rfl, hs, hne, h2j, h4, by rw [ha.len]; exact h2, fun p hp =>
          k _ _ (same_upd hp) (.tup (.inl (.inl upd_same)) ((ha.flatRep _).grow (same_upd hp) fun _ m => .inl m))⟩
      · have hj : j ≤ 0 := by omega
        have e0 : j.toNat = 0 := by omega
        cases rx
        obtain ⟨t, rfl⟩ := ry
        obtain ⟨its, r1, ⟨⟨cls, dd, data, sl⟩, ho, hc, n, hd⟩, _⟩ := I.tuple hs
        simp only at hc hd
        subst hc hd
        have hi : its.toArray.isEmpty = false := by
          cases r1 with
          | nil => exact absurd rfl hne
          | cons _ _ => rfl
        have g0 : (decide (j < -(2 ^ 63)) || decide (j ≥ 2 ^ 63)) = false := by
          rw [decide_eq_false (by omega), decide_eq_false (by omega)]
          rfl
        have g1 : (its.toArray.isEmpty || j == 1) = false := by
          rw [hi, Bool.false_or]
          exact beq_eq_false_iff_ne.mpr h3
        have g2 : (decide (j ≤ 0) || its.toArray.isEmpty) = true := by
          rw [decide_eq_true hj]
          rfl
        refine wpAny_binaryOp_repeat_ref (T := "tuple") (U := "int") (by decide) ⟨_, ho, rfl⟩ (fun s' => typeIs_int s' j t)
          noFill_tuple_mul F.fills_int_mul F.slot_int_rmul repeat_tuple F.slot_int_index.lookup
          (call_meets F.slot_int_rmul (typeIs_int s j t) F.entry_int_rmul (F.args_int_rmul_2 _ _)
            (int_rmul_tuple j t a its.toArray n dd sl) ⟨ho, rfl, ⟨_, ho, rfl⟩,
            call_meets F.slot_tuple_mul ⟨_, ho, rfl⟩ F.entry_tuple_mul (F.args_tuple_mul_2 _ _)
              (tuple_mul_none a its.toArray n dd sl j t g0 g1 g2) ⟨ho, ?_⟩⟩)
        have fr := I.hok.fresh (Nat.le_refl s.heap.objs.size)
        refine ⟨.ref s.heap.objs.size, _, I.laid (t' := s.toks) (o := .tup []) (fun b ob q => Heap.get?_push_of_some _ q) (Nat.le_refl _) ?_, rfl, ?_⟩
        · exact ⟨Nat.zero_le _, [], .nil, IsTup.new s.heap _⟩
        · rw [e0] at k
          exact k _ _ (same_upd fr) (.tup (.inl (.inl upd_same)) .nil)
    | _ => simp [tmulD] at hf
  | _ => cases hy <;> simp [tmulD] at hf

theorem o_fdiv : OpD X (binaryOp .FloorDiv) fdivD := by
  intro pins s σ H x y v u Q I rx ry ⟨B, d, e, r, hB, hx, hy, hf, k⟩
  cases hx with
  | int i => cases hy with
    | int j =>
      have hq : (if 0 < j ∧ j.natAbs.log2 < 9000 then some (PyData.int (i / j)) else none) = some r := hf
      split at hq <;> cases hq
      rename_i hl
      exact op_fdivW pins s σ H _ _ v u Q I rx ry ⟨i, j, rfl, rfl, hl, k _ _ (Same.refl _) (.int _)⟩
    | _ => simp [fdivD] at hf
  | _ => cases hy <;> simp [fdivD] at hf
theorem o_mod : OpD X (binaryOp .Mod) modD := by
  intro pins s σ H x y v u Q I rx ry ⟨B, d, e, r, hB, hx, hy, hf, k⟩
  cases hx with
  | int i => cases hy with
    | int j =>
      have hq : (if 0 < j then some (PyData.int (i % j)) else none) = some r := hf
      split at hq <;> cases hq
      rename_i hl
      exact op_mod pins s σ H _ _ v u Q I rx ry ⟨i, j, rfl, rfl, hl, k _ _ (Same.refl _) (.int _)⟩
    | _ => simp [modD] at hf
  | _ => cases hy <;> simp [modD] at hf
theorem o_pow : OpD X (binaryOp .Pow) powD := by
  intro pins s σ H x y v u Q I rx ry ⟨B, d, e, r, hB, hx, hy, hf, k⟩
  cases hx with
  | int i => cases hy with
    | int j =>
      have hq : (if 0 ≤ j ∧ j ≤ 1000000 ∧ i.natAbs < 2 ^ 64 then some (PyData.int (i ^ j.toNat)) else none) = some r := hf
      split at hq <;> cases hq
      rename_i hl
      exact op_pow pins s σ H _ _ v u Q I rx ry ⟨i, j, rfl, rfl, hl, k _ _ (Same.refl _) (.int _)⟩
    | _ => simp [powD] at hf
  | _ => cases hy <;> simp [powD] at hf
theorem o_and : OpD X (binaryOp .BitAnd) andD := by
  intro pins s σ H x y v u Q I rx ry ⟨B, d, e, r, hB, hx, hy, hf, k⟩
  cases hx with
  | int i => cases hy with
    | int j => cases hf; exact op_and pins s σ H _ _ v u Q I rx ry ⟨i, j, rfl, rfl, k _ _ (Same.refl _) (.int _)⟩
    | _ => simp [andD] at hf
  | _ => cases hy <;> simp [andD] at hf
theorem ppe_neg {c : LC} {pos : Pos} {a : Expr} {wa : WE} (ha : PE X a (liftE c wa)) : PE X (.UnaryOp .USub a pos) (liftE c (wUn negD wa)) :=
  PE.imp (pe_un un_neg ha) fun σ H Q ⟨F, ad, τ, Xp, P, R, x, h, k⟩ => useE R x h fun d τ1 v H1 ⟨r, h1, p⟩ R1 _ dn => by
    cases dn with
    | int i => cases h1; exact ⟨i, rfl, k _ _ _ _ p R1 (.int _)⟩
    | _ => simp [negD] at h1

/-! comparisons -/
theorem eq_core (hu : X.A.units + 64 < cLine) {pins : List (Addr × Obj)} {s : Shared} {σ : L2.St} {H : Hp} {x y : V} {v u : Value} {Q : VK} {B : Addr → Prop} {d e : D} (I : Inv X pins σ H s) (rx : RelV x v) (ry : RelV y u) (hx : Dn X.K H B x d) (hy : Dn X.K H B y e)
    (hf : eqok d e = true) (k : Q (.bl (PyData.eqv d e)) H) : wpAny (model X.prog X.w) X.A (compareOp .Eq v u) (EP X pins σ Q) X.xe s := by
  have hu0 : X.A.units < cLine := by omega
  by_cases hq : nilq d e = true
  · cases hx with
    | @lst a xs ds h1 _ ha => cases hy with
      | @lst b ys es h2 _ hb =>
        cases rx
        cases ry
        obtain ⟨its, r1, p1, _⟩ := I.list (.inl h1)
        obtain ⟨its2, r2, p2, _⟩ := I.list (.inl h2)
        have l1 := r1.length
        have l2 := r2.length
        have l3 := ha.len
        have l4 := hb.len
        have k' : Q (.bl (ds.length == es.length)) H := by rw [← eqv_nil ds es hq]; exact k
        by_cases hz : its.length = its2.length
        · have h0 : its = [] ∧ its2 = [] := by
            have h00 : (ds.isEmpty || es.isEmpty) = true := hq
            have : ds.length = 0 ∨ es.length = 0 := by
              cases ds <;> cases es <;> simp at h00 ⊢
            constructor <;> exact List.eq_nil_of_length_eq_zero (by omega)
          obtain ⟨e1, e2⟩ := h0
          subst e1 e2
          refine SeqAt.eq_listAt (e := fun _ => true) p1.isList p2.isList rfl hu0 (fun j h => absurd h (Nat.not_lt_zero _)) ⟨.bl true, H, I, rfl, ?_⟩
          have : (ds.length == es.length) = true := by rw [beq_iff_eq]; simp only [List.length_nil] at l1 l2; omega
          rw [this] at k'
          exact k'
        · refine SeqAt.eq_list_lengthsAt p1.isList p2.isList (by simpa using hz) hu0 ⟨.bl false, H, I, rfl, ?_⟩
          have : (ds.length == es.length) = false := by rw [beq_eq_false_iff_ne]; omega
          rw [this] at k'
          exact k'
      | _ => simp [nilq] at hq
    | @tup a xs ds h1 ha => cases hy with
      | @tup b ys es h2 hb =>
        cases rx
        cases ry
        obtain ⟨its, r1, p1, _⟩ := I.tuple h1
        obtain ⟨its2, r2, p2, _⟩ := I.tuple h2
        have l1 := r1.length
        have l2 := r2.length
        have l3 := ha.len
        have l4 := hb.len
        have k' : Q (.bl (ds.length == es.length)) H := by rw [← eqv_nil ds es hq]; exact k
        have h00 : (ds.isEmpty || es.isEmpty) = true := hq
        have h0 : ds.length = 0 ∨ es.length = 0 := by
          cases ds <;> cases es <;> simp at h00 ⊢
        refine SeqAt.eq_tupleAt (e := fun _ => true) p1 p2 hu0 (fun j h h' => absurd h (by simp only [List.size_toArray] at h h' ⊢; omega)) ⟨.bl _, H, I, rfl, ?_⟩
        have : ((List.range (min its.toArray.size its2.toArray.size)).all (fun _ => true) && its.toArray.size == its2.toArray.size) = (ds.length == es.length) := by
          simp only [List.size_toArray, ← l1, ← l2, l3, l4]
          simp
        rw [this]
        exact k'
      | _ => simp [nilq] at hq
    | _ => cases hy <;> simp [nilq] at hq
  replace hf : ((flat d && flat e) || (SeqAt.shaped d && SeqAt.shaped e)) = true := by
    unfold eqok at hf
    rw [Bool.or_eq_true] at hf
    exact hf.resolve_right hq
  by_cases hs : (SeqAt.shaped d && SeqAt.shaped e) = true
  · rw [Bool.and_eq_true] at hs
    exact op_eqD hu pins s σ H _ _ v u Q I rx ry ⟨d, e, hx.dp, hy.dp, hs.1, hs.2, k⟩
  · cases hx with
    | str i => cases hy with
      | str j => exact op_eq pins s σ H _ _ v u Q I rx ry ⟨rfl, by rw [show decide (V.str i = V.str j) = (i == j) from dec_str]; exact k⟩
      | non => exact op_eq pins s σ H _ _ v u Q I rx ry ⟨rfl, k⟩
      | int j => exact op_eq pins s σ H _ _ v u Q I rx ry ⟨rfl, k⟩
      | bl j => exact op_eq pins s σ H _ _ v u Q I rx ry ⟨rfl, k⟩
      | lst _ _ _ => exact absurd hf (by simp [flat, hs])
      | tup _ _ => exact absurd hf (by simp [flat, hs])
    | lst _ _ _ => exact absurd hf (by simp [flat, hs])
    | tup _ _ => exact absurd hf (by simp [flat, hs])
    | non => cases hy with
      | str j => exact op_eq pins s σ H _ _ v u Q I rx ry ⟨rfl, k⟩
      | lst _ _ _ => exact absurd hf (by simp [flat, hs])
      | tup _ _ => exact absurd hf (by simp [flat, hs])
      | _ => exact absurd hs (by simp [SeqAt.shaped, PyData.canLay0, PyData.depth])
    | int i => cases hy with
      | str j => exact op_eq pins s σ H _ _ v u Q I rx ry ⟨rfl, k⟩
      | lst _ _ _ => exact absurd hf (by simp [flat, hs])
      | tup _ _ => exact absurd hf (by simp [flat, hs])
      | _ => exact absurd hs (by simp [SeqAt.shaped, PyData.canLay0, PyData.depth])
    | bl i => cases hy with
      | str j => exact op_eq pins s σ H _ _ v u Q I rx ry ⟨rfl, k⟩
      | lst _ _ _ => exact absurd hf (by simp [flat, hs])
      | tup _ _ => exact absurd hf (by simp [flat, hs])
      | _ => exact absurd hs (by simp [SeqAt.shaped, PyData.canLay0, PyData.depth])
end
end PV
end

section
set_option maxRecDepth 100000
namespace PV
open PySem PySem.Spec PyProof.Rows L2
set_option autoImplicit false
section
variable {X : Cx}
theorem ne_core (hu : X.A.units + 64 < cLine) {pins : List (Addr × Obj)} {s : Shared} {σ : L2.St} {H : Hp} {x y : V} {v u : Value} {Q : VK} {B : Addr → Prop} {d e : D} (I : Inv X pins σ H s) (rx : RelV x v) (ry : RelV y u) (hx : Dn X.K H B x d) (hy : Dn X.K H B y e)
    (hf : eqok d e = true) (k : Q (.bl (!PyData.eqv d e)) H) : wpAny (model X.prog X.w) X.A (compareOp .NotEq v u) (EP X pins σ Q) X.xe s := by
  have hu0 : X.A.units < cLine := by omega
  by_cases hq : nilq d e = true
  · cases hx with
    | @lst a xs ds h1 _ ha => cases hy with
      | @lst b ys es h2 _ hb =>
        cases rx
        cases ry
        obtain ⟨its, r1, p1, _⟩ := I.list (.inl h1)
        obtain ⟨its2, r2, p2, _⟩ := I.list (.inl h2)
        have l1 := r1.length
        have l2 := r2.length
        have l3 := ha.len
        have l4 := hb.len
        have k' : Q (.bl (!(ds.length == es.length))) H := by rw [← eqv_nil ds es hq]; exact k
        by_cases hz : its.length = its2.length
        · have h0 : its = [] ∧ its2 = [] := by
            have h00 : (ds.isEmpty || es.isEmpty) = true := hq
            have : ds.length = 0 ∨ es.length = 0 := by
              cases ds <;> cases es <;> simp at h00 ⊢
            constructor <;> exact List.eq_nil_of_length_eq_zero (by omega)
          obtain ⟨e1, e2⟩ := h0
          subst e1 e2
          refine SeqAt.RcNeAt.lists (e := fun _ => true) p1.isList p2.isList rfl hu0 (fun j h => absurd h (Nat.not_lt_zero _)) _ _ _ _ ⟨.bl false, H, I, rfl, ?_⟩
          have : (ds.length == es.length) = true := by rw [beq_iff_eq]; simp only [List.length_nil] at l1 l2; omega
          rw [this] at k'
          exact k'
        · refine SeqAt.RcNeAt.lists_lengths p1.isList p2.isList (by simpa using hz) hu0 _ _ _ _ ⟨.bl true, H, I, rfl, ?_⟩
          have : (ds.length == es.length) = false := by rw [beq_eq_false_iff_ne]; omega
          rw [this] at k'
          exact k'
      | _ => simp [nilq] at hq
    | @tup a xs ds h1 ha => cases hy with
      | @tup b ys es h2 hb =>
        cases rx
        cases ry
        obtain ⟨its, r1, p1, _⟩ := I.tuple h1
        obtain ⟨its2, r2, p2, _⟩ := I.tuple h2
        have l1 := r1.length
        have l2 := r2.length
        have l3 := ha.len
        have l4 := hb.len
        have k' : Q (.bl (!(ds.length == es.length))) H := by rw [← eqv_nil ds es hq]; exact k
        have h00 : (ds.isEmpty || es.isEmpty) = true := hq
        have h0 : ds.length = 0 ∨ es.length = 0 := by
          cases ds <;> cases es <;> simp at h00 ⊢
        refine SeqAt.RcNeAt.tuples (e := fun _ => true) p1 p2 hu0 (fun j h h' => absurd h (by simp only [List.size_toArray] at h h' ⊢; omega)) _ _ _ _ ⟨.bl _, H, I, rfl, ?_⟩
        have : ((List.range (min its.toArray.size its2.toArray.size)).all (fun _ => true) && its.toArray.size == its2.toArray.size) = (ds.length == es.length) := by
          simp only [List.size_toArray, ← l1, ← l2, l3, l4]
          simp
        rw [this]
        exact k'
      | _ => simp [nilq] at hq
    | _ => cases hy <;> simp [nilq] at hq
  replace hf : ((flat d && flat e) || (SeqAt.shaped d && SeqAt.shaped e)) = true := by
    unfold eqok at hf
    rw [Bool.or_eq_true] at hf
    exact hf.resolve_right hq
  by_cases hs : (SeqAt.shaped d && SeqAt.shaped e) = true
  · rw [Bool.and_eq_true] at hs
    exact op_neD hu pins s σ H _ _ v u Q I rx ry ⟨d, e, hx.dp, hy.dp, hs.1, hs.2, k⟩
  · cases hx with
    | str i => cases hy with
      | str j => exact op_ne pins s σ H _ _ v u Q I rx ry ⟨rfl, by rw [show decide (V.str i = V.str j) = (i == j) from dec_str]; exact k⟩
      | non => exact op_ne pins s σ H _ _ v u Q I rx ry ⟨rfl, k⟩
      | int j => exact op_ne pins s σ H _ _ v u Q I rx ry ⟨rfl, k⟩
      | bl j => exact op_ne pins s σ H _ _ v u Q I rx ry ⟨rfl, k⟩
      | lst _ _ _ => exact absurd hf (by simp [flat, hs])
      | tup _ _ => exact absurd hf (by simp [flat, hs])
    | lst _ _ _ => exact absurd hf (by simp [flat, hs])
    | tup _ _ => exact absurd hf (by simp [flat, hs])
    | non => cases hy with
      | str j => exact op_ne pins s σ H _ _ v u Q I rx ry ⟨rfl, k⟩
      | lst _ _ _ => exact absurd hf (by simp [flat, hs])
      | tup _ _ => exact absurd hf (by simp [flat, hs])
      | _ => exact absurd hs (by simp [SeqAt.shaped, PyData.canLay0, PyData.depth])
    | int i => cases hy with
      | str j => exact op_ne pins s σ H _ _ v u Q I rx ry ⟨rfl, k⟩
      | lst _ _ _ => exact absurd hf (by simp [flat, hs])
      | tup _ _ => exact absurd hf (by simp [flat, hs])
      | _ => exact absurd hs (by simp [SeqAt.shaped, PyData.canLay0, PyData.depth])
    | bl i => cases hy with
      | str j => exact op_ne pins s σ H _ _ v u Q I rx ry ⟨rfl, k⟩
      | lst _ _ _ => exact absurd hf (by simp [flat, hs])
      | tup _ _ => exact absurd hf (by simp [flat, hs])
      | _ => exact absurd hs (by simp [SeqAt.shaped, PyData.canLay0, PyData.depth])
theorem o_eq (hu : X.A.units + 64 < cLine) : OpD X (compareOp .Eq) eqD := by
  intro pins s σ H x y v u Q I rx ry ⟨B, d, e, r, hB, hx, hy, hf, k⟩
  unfold eqD at hf
  split at hf
  · rename_i hc
    have hr := Option.some.inj hf
    exact eq_core hu I rx ry hx hy hc (k _ _ (Same.refl _) (by rw [← hr]; exact .bl _))
  · exact nomatch hf
theorem o_ne (hu : X.A.units + 64 < cLine) : OpD X (compareOp .NotEq) neD := by
  intro pins s σ H x y v u Q I rx ry ⟨B, d, e, r, hB, hx, hy, hf, k⟩
  unfold neD at hf
  split at hf
  · rename_i hc
    have hr := Option.some.inj hf
    exact ne_core hu I rx ry hx hy hc (k _ _ (Same.refl _) (by rw [← hr]; exact .bl _))
  · exact nomatch hf
theorem o_lt : OpD X (compareOp .Lt) ltD := by
  intro pins s σ H x y v u Q I rx ry ⟨B, d, e, r, hB, hx, hy, hf, k⟩
  cases hx with
  | int i => cases hy with
    | int j => cases hf; exact op_lt pins s σ H _ _ v u Q I rx ry ⟨i, j, rfl, rfl, k _ _ (Same.refl _) (.bl _)⟩
    | _ => simp [ltD] at hf
  | str i => cases hy with
    | str j => cases hf; exact op_lt_str pins s σ H _ _ v u Q I rx ry ⟨i, j, rfl, rfl, k _ _ (Same.refl _) (.bl _)⟩
    | _ => simp [ltD] at hf
  | bl i => cases hy with
    | bl j =>
      cases hf
      cases rx
      cases ry
      exact lt_bool ⟨.bl _, H, I, rfl, k _ _ (Same.refl _) (.bl _)⟩
    | _ => simp [ltD] at hf
  | _ => cases hy <;> simp [ltD] at hf
theorem o_le : OpD X (compareOp .LtE) leD := by
  intro pins s σ H x y v u Q I rx ry ⟨B, d, e, r, hB, hx, hy, hf, k⟩
  cases hx with
  | int i => cases hy with
    | int j => cases hf; exact op_le pins s σ H _ _ v u Q I rx ry ⟨i, j, rfl, rfl, k _ _ (Same.refl _) (.bl _)⟩
    | _ => simp [leD] at hf
  | str i => cases hy with
    | str j => cases hf; exact op_le_str pins s σ H _ _ v u Q I rx ry ⟨i, j, rfl, rfl, k _ _ (Same.refl _) (.bl _)⟩
    | _ => simp [leD] at hf
  | _ => cases hy <;> simp [leD] at hf
theorem o_gt : OpD X (compareOp .Gt) gtD := by
  intro pins s σ H x y v u Q I rx ry ⟨B, d, e, r, hB, hx, hy, hf, k⟩
  cases hx with
  | int i => cases hy with
    | int j => cases hf; exact op_gt pins s σ H _ _ v u Q I rx ry ⟨i, j, rfl, rfl, k _ _ (Same.refl _) (.bl _)⟩
    | _ => simp [gtD] at hf
  | str i => cases hy with
    | str j => cases hf; exact op_gt_str pins s σ H _ _ v u Q I rx ry ⟨i, j, rfl, rfl, k _ _ (Same.refl _) (.bl _)⟩
    | _ => simp [gtD] at hf
  | _ => cases hy <;> simp [gtD] at hf
theorem o_ge : OpD X (compareOp .GtE) geD := by
  intro pins s σ H x y v u Q I rx ry ⟨B, d, e, r, hB, hx, hy, hf, k⟩
  cases hx with
  | int i => cases hy with
    | int j => cases hf; exact op_ge pins s σ H _ _ v u Q I rx ry ⟨i, j, rfl, rfl, k _ _ (Same.refl _) (.bl _)⟩
    | _ => simp [geD] at hf
  | str i => cases hy with
    | str j => cases hf; exact op_ge_str pins s σ H _ _ v u Q I rx ry ⟨i, j, rfl, rfl, k _ _ (Same.refl _) (.bl _)⟩
    | _ => simp [geD] at hf
  | _ => cases hy <;> simp [geD] at hf
theorem isN_of {K : Fg} {H : Hp} {B : Addr → Prop} {x : V} {d : D} (h : Dn K H B x d) : decide (x = V.non) = isN d := by
  cases h <;> simp [isN]
theorem o_is : OpD X (compareOp .Is) isD := by
  intro pins s σ H x y v u Q I rx ry ⟨B, d, e, r, hB, hx, hy, hf, k⟩
  cases hy with
  | non =>
    have hr : isD d .none = some (.bool (isN d)) := by cases d <;> rfl
    rw [hr] at hf
    cases hf
    exact op_isN pins s σ H _ _ v u Q I rx ry ⟨rfl, by rw [isN_of hx]; exact k _ _ (Same.refl _) (.bl _)⟩
  | bl b => cases hx with
    | bl a => cases hf; exact op_isBl pins s σ H _ _ v u Q I rx ry ⟨a, b, rfl, rfl, k _ _ (Same.refl _) (.bl _)⟩
    | _ => simp [isD] at hf
  | _ => cases hx <;> simp [isD] at hf
theorem o_isnot : OpD X (compareOp .IsNot) isnotD := by
  intro pins s σ H x y v u Q I rx ry ⟨B, d, e, r, hB, hx, hy, hf, k⟩
  cases hy with
  | non =>
    have hr : isnotD d .none = some (.bool (!isN d)) := by cases d <;> rfl
    rw [hr] at hf
    cases hf
    exact op_notN pins s σ H _ _ v u Q I rx ry ⟨rfl, by rw [isN_of hx]; exact k _ _ (Same.refl _) (.bl _)⟩
  | bl b => cases hx with
    | bl a => cases hf; exact op_notBl pins s σ H _ _ v u Q I rx ry ⟨a, b, rfl, rfl, k _ _ (Same.refl _) (.bl _)⟩
    | _ => simp [isnotD] at hf
  | _ => cases hx <;> simp [isnotD] at hf

theorem flatV_of {K : Fg} {H : Hp} {B : Addr → Prop} {x : V} {d : D} (h : Dn K H B x d) (f : flat d = true) : flatV x = true := by
  cases h <;> first | rfl | exact nomatch f
theorem eqV_of {K : Fg} {H : Hp} {B : Addr → Prop} {x y : V} {d e : D} (h : Dn K H B x d) (g : Dn K H B y e) (f : flat d = true) (f2 : flat e = true) : eqV x y = PyData.eqv d e := by
  cases h with
  | non => cases g <;> first | rfl | exact nomatch f2
  | bl _ => cases g <;> first | rfl | exact nomatch f2
  | int _ => cases g <;> first | rfl | exact nomatch f2
  | str _ => cases g <;> first | rfl | exact nomatch f2
  | lst _ _ _ => exact nomatch f
  | tup _ _ => exact nomatch f
theorem flats_of {K : Fg} {H : Hp} {B : Addr → Prop} : ∀ {xs : List V} {ds : List D}, DnA K H B xs ds → ds.all flat = true → xs.all flatV = true
  | _, _, .nil, _ => rfl
  | _, _, .cons a b, f => by
    rw [List.all_cons, Bool.and_eq_true] at f ⊢
    exact ⟨flatV_of a f.1, flats_of b f.2⟩
theorem inV_of {K : Fg} {H : Hp} {B : Addr → Prop} {x : V} {d : D} (h : Dn K H B x d) (f : flat d = true) : ∀ {xs : List V} {ds : List D}, DnA K H B xs ds → ds.all flat = true → inV x xs = ds.any fun y => PyData.eqv y d
  | _, _, .nil, _ => rfl
  | _, _, .cons a b, g => by
    rw [List.all_cons, Bool.and_eq_true] at g
    have ih := inV_of h f b g.2
    unfold inV at ih ⊢
    rw [List.any_cons, List.any_cons, ih, eqV_of a h g.1 f]
theorem cps_one {c : Str} {s : Nat} (h : c.cps.toList = [s]) : c = ⟨#[s]⟩ := by
  obtain ⟨a⟩ := c
  congr 1
  exact Array.toList_inj.mp (by simpa using h)
theorem oneOf_some {l : List Nat} {q : Nat} (h : oneOf l = some q) : l = [q] := by
  match l, h with
  | [s], h => cases h; rfl
theorem o_in (hu : X.A.units + 65 < cLine) : OpD X (compareOp .In) inD := by
  intro pins s σ H x y v u Q I rx ry ⟨B, d, e, r, hB, hx, hy, hf, k⟩
  cases hy with
  | str z => cases hx with
    | str c =>
      obtain ⟨q, e1, e2⟩ := Option.map_eq_some_iff.mp (show inStr c z = some r from hf)
      subst e2
      have := cps_one (oneOf_some e1)
      subst this
      exact op_in_sign pins s σ H _ _ v u Q I rx ry ⟨q, z, rfl, rfl, k _ _ (Same.refl _) (.bl _)⟩
    | _ => simp [inD] at hf
  | @tup a ys es hs ha =>
    have hq : (if (flat d && es.all flat) = true then some (PyData.bool (es.any fun y => PyData.eqv y d)) else none) = some r := by
      cases d <;> exact hf
    split at hq <;> cases hq
    rename_i hc
    rw [Bool.and_eq_true] at hc
    exact op_in_seq pins s σ H _ _ v u Q I rx ry ⟨a, ys, rfl, .inr hs, flatV_of hx hc.1, flats_of ha hc.2, by
      rw [if_neg Bool.false_ne_true, inV_of hx hc.1 ha hc.2]; exact k _ _ (Same.refl _) (.bl _)⟩
  | @lst a ys es hs na ha =>
    have hq : (if (flat d && es.all flat) = true then some (PyData.bool (es.any fun y => PyData.eqv y d)) else if (SeqAt.shaped d && SeqAt.shaped (.list es)) = true then some (PyData.bool (es.any fun y => PyData.eqv y d)) else none) = some r := by
      cases d <;> exact hf
    split at hq
    · cases hq
      rename_i hc
      rw [Bool.and_eq_true] at hc
      exact op_in_seq pins s σ H _ _ v u Q I rx ry ⟨a, ys, rfl, .inl (.inl hs), flatV_of hx hc.1, flats_of ha hc.2, by
        rw [if_neg Bool.false_ne_true, inV_of hx hc.1 ha hc.2]; exact k _ _ (Same.refl _) (.bl _)⟩
    · split at hq <;> cases hq
      rename_i hc
      rw [Bool.and_eq_true] at hc
      exact op_inD hu pins s σ H _ _ v u Q I rx ry ⟨d, es, hx.dp, .lst (.inl hs) ha.dp, hc.1, hc.2, k _ _ (Same.refl _) (.bl _)⟩
  | _ => cases hx <;> simp [inD] at hf
theorem o_notin (hu : X.A.units + 65 < cLine) : OpD X (compareOp .NotIn) notInD := by
  intro pins s σ H x y v u Q I rx ry ⟨B, d, e, r, hB, hx, hy, hf, k⟩
  unfold notInD at hf
  cases hin : inD d e with
  | none => rw [hin] at hf; exact nomatch hf
  | some q =>
  rw [hin] at hf
  obtain ⟨b, rfl⟩ : ∃ b, q = .bool b := by
    cases q with
    | bool b => exact ⟨b, rfl⟩
    | _ => exact nomatch hf
  have hr : some (PyData.bool (!b)) = some r := hf
  cases hr
  cases hy with
  | str z => cases hx with
    | str c =>
      obtain ⟨q, e1, e2⟩ := Option.map_eq_some_iff.mp (show inStr c z = some (.bool b) from hin)
      cases e2
      have := cps_one (oneOf_some e1)
      subst this
      exact op_notIn_sign pins s σ H _ _ v u Q I rx ry ⟨q, z, rfl, rfl, k _ _ (Same.refl _) (.bl _)⟩
    | _ => simp [inD] at hin
  | @tup a ys es hs ha =>
    have hq : (if (flat d && es.all flat) = true then some (PyData.bool (es.any fun y => PyData.eqv y d)) else none) = some (.bool b) := by
      cases d <;> exact hin
    split at hq <;> cases hq
    rename_i hc
    rw [Bool.and_eq_true] at hc
    exact op_notIn_seq pins s σ H _ _ v u Q I rx ry ⟨a, ys, rfl, .inr hs, flatV_of hx hc.1, flats_of ha hc.2, by
      rw [if_pos rfl, inV_of hx hc.1 ha hc.2]; exact k _ _ (Same.refl _) (.bl _)⟩
  | @lst a ys es hs na ha =>
    have hq : (if (flat d && es.all flat) = true then some (PyData.bool (es.any fun y => PyData.eqv y d)) else if (SeqAt.shaped d && SeqAt.shaped (.list es)) = true then some (PyData.bool (es.any fun y => PyData.eqv y d)) else none) = some (.bool b) := by
      cases d <;> exact hin
    split at hq
    · cases hq
      rename_i hc
      rw [Bool.and_eq_true] at hc
      exact op_notIn_seq pins s σ H _ _ v u Q I rx ry ⟨a, ys, rfl, .inl (.inl hs), flatV_of hx hc.1, flats_of ha hc.2, by
        rw [if_pos rfl, inV_of hx hc.1 ha hc.2]; exact k _ _ (Same.refl _) (.bl _)⟩
    · split at hq <;> cases hq
      rename_i hc
      rw [Bool.and_eq_true] at hc
      exact op_notInD hu pins s σ H _ _ v u Q I rx ry ⟨d, es, hx.dp, .lst (.inl hs) ha.dp, hc.1, hc.2, k _ _ (Same.refl _) (.bl _)⟩
  | _ => cases hx <;> simp [inD] at hin

theorem atI_dn {K : Fg} {H : Hp} {B : Addr → Prop} {xs : List V} {ds : List D} {i : Int} {d : D} (h : DnA K H B xs ds) (e : atI ds i = some d) : ∃ v, atI xs i = some v ∧ Dn K H B v d := by
  unfold atI at e ⊢
  rw [h.len]
  cases q : ixN ds.length i with
  | none => rw [q] at e; exact nomatch e
  | some j =>
    rw [q] at e
    exact h.get (i := j) e
/-- a[i] -/
theorem ppe_idx {c : LC} {pos : Pos} {a b : Expr} {wa wb : WE} (hK : c.K = X.K) (ha : PE X a (liftE c wa)) (hb : PE X b (liftE c wb)) (hs : PlainIx b := by exact fun _ _ => rfl) : PE X (.Subscript a b pos) (liftE c (wOp idxD wa wb)) :=
  PE.imp (pe_ix ix_seq ha hb hs) fun σ H Q ⟨F, ad, τ, Xp, P, R, x, h, k⟩ => useE R x h fun d τ1 v H1 h1 R1 _ dn1 => useE R1 x h1 fun e τ2 u H2 ⟨r, h2, p⟩ R2 R2' dn2 => by
    rw [← hK]
    have dn1 := R1.carry R2' dn1
    cases dn2 with
    | int i => cases dn1 with
      | @lst a ys ds hs na hd =>
        obtain ⟨v, e1, e2⟩ := atI_dn hd (show atI ds i = some r from h2)
        exact .inl ⟨a, ys, i, v, rfl, rfl, .inl hs, e1, k _ _ _ _ p R2 e2⟩
      | @tup a ys ds hs hd =>
        obtain ⟨v, e1, e2⟩ := atI_dn hd (show atI ds i = some r from h2)
        exact .inr (.inl ⟨a, ys, i, v, rfl, rfl, hs, e1, k _ _ _ _ p R2 e2⟩)
      | str z =>
        have hq : (if z.length ≤ sizeLine then (atI z.cps.toList i).map (fun c => PyData.str ⟨#[c]⟩) else none) = some r := h2
        split at hq
        · obtain ⟨s, e1, e2⟩ := Option.map_eq_some_iff.mp hq
          subst e2
          rename_i hl
          exact .inr (.inr ⟨z, i, s, rfl, rfl, hl, e1, k _ _ _ _ p R2 (.str _)⟩)
        · exact nomatch hq
      | _ => simp [idxD] at h2
    | _ => cases dn1 <;> simp [idxD] at h2

/-! slices -/
def wPN : Ta → XP → (Option Int → Ta → Prop) → Prop := fun τ _ P => P none τ
def wPS (a : WE) : Ta → XP → (Option Int → Ta → Prop) → Prop := fun τ X P => a τ X fun d τ1 => ∃ i, d = .int i ∧ P (some i) τ1
def cutD (ds : List D) (lo hi : Option Int) : List D := (ds.drop (HT.sIx ds.length 0 lo)).take (HT.sIx ds.length ds.length hi - HT.sIx ds.length 0 lo)
def sliceD : D → Option Int → Option Int → Option D
  | .list ds, lo, hi => some (.list (cutD ds lo hi))
  | .tuple ds, lo, hi => some (.tuple (cutD ds lo hi))
  | .str z, lo, hi => if z.length ≤ sizeLine then some (.str (cutS z lo hi)) else none
  | _, _, _ => none
def wSlice (a : WE) (l h : Ta → XP → (Option Int → Ta → Prop) → Prop) : WE := fun τ X P => a τ X fun d τ1 => l τ1 X fun lo τ2 => h τ2 X fun hi τ3 => ∃ r, sliceD d lo hi = some r ∧ P r τ3
def liftO (c : LC) (w : Ta → XP → (Option Int → Ta → Prop) → Prop) : L2.St → Hp → (Option Int → Hp → Prop) → Prop := fun σ H Q => ∃ F ad τ X P, Rep c.K F ad σ τ H ∧ XOk c F X ∧ w τ X P ∧ ∀ b τ' H', P b τ' → Rep c.K F ad σ τ' H' → Q b H'
end
end PV
end

section
set_option maxRecDepth 100000
namespace PV
open PySem PySem.Spec PyProof.Rows L2
set_option autoImplicit false
section
variable {X : Cx} {c : LC} {pos : Pos}
/-! slices -/
theorem ppo_none : PO X none (liftO c wPN) := ⟨fun pins s σ H Q I ⟨F, ad, τ, Xp, P, R, x, h, k⟩ => po_none.run pins s σ H Q I (k none τ H h R)⟩
theorem ppo_some {e : Expr} {w : WE} (h : PE X e (liftE c w)) : PO X (some e) (liftO c (wPS w)) :=
  ⟨fun pins s σ H Q I ⟨F, ad, τ, Xp, P, R, x, hw, k⟩ => (po_some h).run pins s σ H Q I (useE R x hw fun d τ1 v H1 ⟨i, e, p⟩ R1 _ dn => by
    subst e
    exact ⟨i, dn_int dn, k _ _ _ p R1⟩)⟩
theorem useO {w : Ta → XP → (Option Int → Ta → Prop) → Prop} {F : Fr} {ad : Nat → Addr} {σ : L2.St} {τ : Ta} {H : Hp} {Xp : XP} {P : Option Int → Ta → Prop} {Q : Option Int → Hp → Prop} (R : Rep c.K F ad σ τ H) (x : XOk c F Xp) (h : w τ Xp P)
    (k : ∀ b τ' H', P b τ' → Rep c.K F ad σ τ' H' → Rep c.K (F.here ad τ H) ad σ τ' H' → Q b H') : liftO c w σ H Q :=
  ⟨F.here ad τ H, ad, τ, Xp, P, R.here, x.here R, h, fun d τ' H' p R' => k d τ' H' p (R.back R') R'⟩
theorem cut_dn {K : Fg} {H : Hp} {B : Addr → Prop} {xs : List V} {ds : List D} {lo hi : Option Int} (h : DnA K H B xs ds) : DnA K H B (cutV xs lo hi) (cutD ds lo hi) := by
  unfold cutV cutD
  rw [h.len]
  exact (h.drop _).take _
theorem cut_whole {ds : List D} {lo hi : Option Int} (h : HT.sIx ds.length 0 lo = 0 ∧ HT.sIx ds.length ds.length hi = ds.length) : cutD ds lo hi = ds := by
  unfold cutD
  rw [h.1, h.2]
  simp
theorem ppe_slice {e : Expr} {lo hi : Option Expr} {p2 : Pos} {w : WE} {wl wh : Ta → XP → (Option Int → Ta → Prop) → Prop} (hK : c.K = X.K) (he : PE X e (liftE c w)) (hl : PO X lo (liftO c wl)) (hh : PO X hi (liftO c wh)) :
    PE X (.Subscript e (.Slice lo hi none p2) pos) (liftE c (wSlice w wl wh)) :=
  PE.imp (pe_slice (sl_list.or (sl_tupA.or sl_str)) he hl hh) fun σ H Q ⟨F, ad, τ, Xp, P, R, x, hw, k⟩ => useE R x hw fun d τ1 v H1 h1 R1 _ dn1 =>
    useO R1 x h1 fun o1 τ2 H2 h2 R2 R2' => useO R2 x h2 fun o2 τ3 H3 ⟨r, h3, p⟩ R3 R3' => by
    rw [← hK]
    have dn3 := R2.carry R3' (R1.carry R2' dn1)
    cases dn3 with
    | @lst a ys ds hs na hd =>
      cases h3
      exact .inl ⟨a, ys, rfl, .inl hs, fun q hq => let z := R3.newL hq (cut_dn hd); k _ _ _ _ p z.1 z.2⟩
    | @tup a ys ds hs hd =>
      cases h3
      refine .inr (.inl ⟨a, ys, rfl, hs, fun hq => ?_, fun _ q hq => let z := R3.newT hq (cut_dn hd); k _ _ _ _ p z.1 z.2⟩)
      rw [hd.len] at hq
      rw [cut_whole hq] at p
      exact k _ _ _ _ p R3 (.tup hs hd)
    | str z =>
      have hq : (if z.length ≤ sizeLine then some (PyData.str (cutS z o1 o2)) else none) = some r := h3
      split at hq <;> cases hq
      rename_i hl
      exact .inr (.inr ⟨z, rfl, hl, k _ _ _ _ p R3 (.str _)⟩)
    | _ => simp [sliceD] at h3

/-! calls of built-ins, by values -/
theorem rep_rC {K : Fg} {F : Fr} {ad : Nat → Addr} {σ : L2.St} {τ : Ta} {H : Hp} {f : List D → Option D} {xs : List V} {ds : List D} {r : D} {Q : VK} (R : Rep K F ad σ τ H) (hx : DnA K H (Bd F ad τ) xs ds) (h : f ds = some r)
    (k : ∀ v H', Rep K F ad σ τ H' → Dn K H' (Bd F ad τ) v r → Q v H') : rC K f xs H Q :=
  ⟨Bd F ad τ, ds, r, R.bthere, hx, h, fun v H' s dn => k v H' (R.same s) dn⟩
theorem ppe_callB {e : Expr} {es : List Expr} {x : Str} {p : Pos} {id : String} {f : List D → Option D} {wa : WA} (hc : CallD X (.builtin id) f) (hK : c.K = X.K) (hg : Gl X x) (hm : X.mg x = none) (hv : bootBuiltins x = some (.builtin id)) (ha : PA X (e :: es) (liftA c wa))
    (hn : x ≠ "__name__" := by decide) (hdb : (x == ("__debug__" : Str)) = false := by decide)
    (he : starEach (e :: es) X.env = (false, eval e X.env) :: starEach es X.env := by rfl) (hpl : (backTo pos (starEach es X.env)).any (·.1) = false := by rfl) : PE X (.Call (.Name x p) (e :: es) [] pos) (liftE c (wCall f wa)) :=
  PE.imp (pe_callB hc hg hm hv ha hn hdb he hpl) fun σ H Q ⟨F, ad, τ, Xp, P, R, x, hw, k⟩ => useA R x hw fun ds τ1 vs H1 ⟨r, h1, p⟩ R1 _ dn => by
    rw [← hK]
    exact rep_rC R1 dn h1 fun v H' R2 dn2 => k _ _ _ _ p R2 dn2
theorem ppe_callTy {e : Expr} {es : List Expr} {x : Str} {p : Pos} {T : String} {f : List D → Option D} {wa : WA} (hc : CallD X (.type T) f) (hK : c.K = X.K) (hg : Gl X x) (hm : X.mg x = none) (hv : bootBuiltins x = some (.type T)) (ha : PA X (e :: es) (liftA c wa))
    (hn : x ≠ "__name__" := by decide) (hdb : (x == ("__debug__" : Str)) = false := by decide)
    (he : starEach (e :: es) X.env = (false, eval e X.env) :: starEach es X.env := by rfl) (hpl : (backTo pos (starEach es X.env)).any (·.1) = false := by rfl) : PE X (.Call (.Name x p) (e :: es) [] pos) (liftE c (wCall f wa)) :=
  PE.imp (pe_callTy hc hg hm hv ha hn hdb he hpl) fun σ H Q ⟨F, ad, τ, Xp, P, R, x, hw, k⟩ => useA R x hw fun ds τ1 vs H1 ⟨r, h1, p⟩ R1 _ dn => by
    rw [← hK]
    exact rep_rC R1 dn h1 fun v H' R2 dn2 => k _ _ _ _ p R2 dn2

def lenD : List D → Option D
  | [.list ds] => some (.int ds.length)
  | [.tuple ds] => some (.int ds.length)
  | [.str z] => if z.length ≤ sizeLine then some (.int z.length) else none
  | _ => none
def absD : List D → Option D
  | [.int i] => some (.int (if i < 0 then -i else i))
  | _ => none
def intD : List D → Option D
  | [.int i] => some (.int i)
  | [.bool b] => some (.int (if b then 1 else 0))
  | _ => none
def ordD : List D → Option D
  | [.str z] => if z.length = 1 then some (.int (z.cps.getD 0 0 : Nat)) else none
  | _ => none
def bools : List D → Option (List Bool)
  | [] => some []
  | .bool b :: r => (bools r).map (b :: ·)
  | _ :: _ => none
def anyD : List D → Option D
  | [.list ds] => (bools ds).map fun bs => .bool (bs.any id)
  | _ => none
def allD : List D → Option D
  | [.list ds] => (bools ds).map fun bs => .bool (bs.all id)
  | _ => none
def listD : List D → Option D
  | [.list ds] => some (.list ds)
  | [.tuple ds] => some (.list ds)
  | _ => none
def tupleD : List D → Option D
  | [.list ds] => some (.tuple ds)
  | [.tuple ds] => some (.tuple ds)
  | _ => none
def minmaxD (g : Int → Int → Int) : List D → Option D
  | [.int i, .int j] => some (.int (g i j))
  | _ => none
def reprD : List D → Option D
  | [d] => if PyData.showable d = true ∧ d.depth ≤ 100 ∧ d.shown.length ≤ sizeLine then some (.str d.shown) else none
  | _ => none
def strD : List D → Option D
  | [.int i] => if i.natAbs.log2 < 1920 then some (.str (toString i)) else none
  | [.str z] => some (.str z)
  | _ => none

theorem da1 {K : Fg} {H : Hp} {B : Addr → Prop} {xs : List V} {d : D} (h : DnA K H B xs [d]) : ∃ v, xs = [v] ∧ Dn K H B v d := by
  cases h with
  | cons a b => cases b; exact ⟨_, rfl, a⟩
theorem da2 {K : Fg} {H : Hp} {B : Addr → Prop} {xs : List V} {d e : D} (h : DnA K H B xs [d, e]) : ∃ v w, xs = [v, w] ∧ Dn K H B v d ∧ Dn K H B w e := by
  cases h with
  | cons a b => cases b with
    | cons b c => cases c; exact ⟨_, _, rfl, a, b⟩
theorem bools_dn {K : Fg} {H : Hp} {B : Addr → Prop} : ∀ {ds : List D} {bs : List Bool} {xs : List V}, bools ds = some bs → DnA K H B xs ds → xs = bs.map V.bl
  | [], _, _, h, a => by cases h; cases a; rfl
  | .bool b :: r, bs, _, h, a => by
    cases a with
    | cons x a =>
      cases hb : bools r with
      | none => rw [bools, hb] at h; cases h
      | some cs =>
        rw [bools, hb] at h
        cases h
        cases x
        rw [bools_dn hb a]
        rfl
  | .none :: _, _, _, h, _ => nomatch h
  | .int _ :: _, _, _, h, _ => nomatch h
  | .str _ :: _, _, _, h, _ => nomatch h
  | .list _ :: _, _, _, h, _ => nomatch h
  | .tuple _ :: _, _, _, h, _ => nomatch h
  | .dict _ :: _, _, _, h, _ => nomatch h

theorem c_len : CallD X (.builtin "len") lenD := by
  intro pins s σ H xs us Q I rs ⟨B, ds, r, hB, hx, hf, k⟩
  match ds, hf with
  | [.list es], hf =>
    cases hf
    obtain ⟨v, rfl, dn⟩ := da1 hx
    cases dn with
    | @lst a ys _ hs _ ha => exact call_len_seq pins s σ H _ us Q I rs ⟨a, ys, rfl, .inl (.inl hs), by rw [ha.len]; exact k _ _ (Same.refl _) (.int _)⟩
  | [.tuple es], hf =>
    cases hf
    obtain ⟨v, rfl, dn⟩ := da1 hx
    cases dn with
    | @tup a ys _ hs ha => exact call_len_seq pins s σ H _ us Q I rs ⟨a, ys, rfl, .inr hs, by rw [ha.len]; exact k _ _ (Same.refl _) (.int _)⟩
  | [.str z], hf =>
    have hq : (if z.length ≤ sizeLine then some (PyData.int z.length) else none) = some r := hf
    by_cases hl : z.length ≤ sizeLine
    case neg => rw [if_neg hl] at hq; cases hq
    rw [if_pos hl] at hq
    cases hq
    obtain ⟨v, rfl, dn⟩ := da1 hx
    cases dn
    exact call_len_str pins s σ H _ us Q I rs ⟨z, rfl, hl, k _ _ (Same.refl _) (.int _)⟩
theorem c_abs : CallD X (.builtin "abs") absD := by
  intro pins s σ H xs us Q I rs ⟨B, ds, r, hB, hx, hf, k⟩
  match ds, hf with
  | [.int i], hf =>
    cases hf
    obtain ⟨v, rfl, dn⟩ := da1 hx
    cases dn
    exact call_abs pins s σ H _ us Q I rs ⟨i, rfl, k _ _ (Same.refl _) (.int _)⟩
theorem c_int : CallD X (.type "int") intD := by
  intro pins s σ H xs us Q I rs ⟨B, ds, r, hB, hx, hf, k⟩
  match ds, hf with
  | [.int i], hf =>
    cases hf
    obtain ⟨v, rfl, dn⟩ := da1 hx
    cases dn
    exact call_int1 pins s σ H _ us Q I rs (.inl ⟨i, rfl, k _ _ (Same.refl _) (.int _)⟩)
  | [.bool b], hf =>
    cases hf
    obtain ⟨v, rfl, dn⟩ := da1 hx
    cases dn
    exact call_int1 pins s σ H _ us Q I rs (.inr ⟨b, rfl, k _ _ (Same.refl _) (.int _)⟩)
theorem c_ord : CallD X (.builtin "ord") ordD := by
  intro pins s σ H xs us Q I rs ⟨B, ds, r, hB, hx, hf, k⟩
  match ds, hf with
  | [.str z], hf =>
    have hq : (if z.length = 1 then some (PyData.int (z.cps.getD 0 0 : Nat)) else none) = some r := hf
    by_cases hl : z.length = 1
    case neg => rw [if_neg hl] at hq; cases hq
    rw [if_pos hl] at hq
    cases hq
    obtain ⟨v, rfl, dn⟩ := da1 hx
    cases dn
    exact call_ord pins s σ H _ us Q I rs ⟨z, rfl, hl, k _ _ (Same.refl _) (.int _)⟩
theorem c_any (hc : X.calm = true) : CallD X (.builtin "any") anyD := by
  intro pins s σ H xs us Q I rs ⟨B, ds, r, hB, hx, hf, k⟩
  match ds, hf with
  | [.list es], hf =>
    obtain ⟨bs, e1, e2⟩ := Option.map_eq_some_iff.mp (show (bools es).map (fun bs => PyData.bool (bs.any id)) = some r from hf)
    subst e2
    obtain ⟨v, rfl, dn⟩ := da1 hx
    cases dn with
    | @lst a ys _ hs _ ha =>
      have := bools_dn e1 ha
      subst this
      exact cr_any hc pins s σ H _ us Q I rs ⟨a, bs, rfl, .inl hs, k _ _ (Same.refl _) (.bl _)⟩
theorem c_all (hc : X.calm = true) : CallD X (.builtin "all") allD := by
  intro pins s σ H xs us Q I rs ⟨B, ds, r, hB, hx, hf, k⟩
  match ds, hf with
  | [.list es], hf =>
    obtain ⟨bs, e1, e2⟩ := Option.map_eq_some_iff.mp (show (bools es).map (fun bs => PyData.bool (bs.all id)) = some r from hf)
    subst e2
    obtain ⟨v, rfl, dn⟩ := da1 hx
    cases dn with
    | @lst a ys _ hs _ ha =>
      have := bools_dn e1 ha
      subst this
      exact cr_all hc pins s σ H _ us Q I rs ⟨a, bs, rfl, .inl hs, k _ _ (Same.refl _) (.bl _)⟩
theorem c_list : CallD X (.type "list") listD := by
  intro pins s σ H xs us Q I rs ⟨B, ds, r, hB, hx, hf, k⟩
  match ds, hf with
  | [.list es], hf =>
    cases hf
    obtain ⟨v, rfl, dn⟩ := da1 hx
    cases dn with
    | @lst a ys _ hs _ ha => exact call_list_of pins s σ H _ us Q I rs ⟨a, ys, rfl, .inl (.inl hs), fun l hl => k _ _ (same_upd hl) (.lst (.inl upd_same) (fun m => hB _ m hl) (ha.grow (same_upd hl) fun _ m => .inl m))⟩
  | [.tuple es], hf =>
    cases hf
    obtain ⟨v, rfl, dn⟩ := da1 hx
    cases dn with
    | @tup a ys _ hs ha => exact call_list_of pins s σ H _ us Q I rs ⟨a, ys, rfl, .inr hs, fun l hl => k _ _ (same_upd hl) (.lst (.inl upd_same) (fun m => hB _ m hl) (ha.grow (same_upd hl) fun _ m => .inl m))⟩
theorem c_tuple : CallD X (.type "tuple") tupleD := by
  intro pins s σ H xs us Q I rs ⟨B, ds, r, hB, hx, hf, k⟩
  match ds, hf with
  | [.list es], hf =>
    cases hf
    obtain ⟨v, rfl, dn⟩ := da1 hx
    cases dn with
    | @lst a ys _ hs _ ha => exact call_tuple_of pins s σ H _ us Q I rs ⟨a, ys, rfl, .inl ⟨.inl hs, fun l hl => k _ _ (same_upd hl) (.tup (.inl (.inl upd_same)) (ha.grow (same_upd hl) fun _ m => .inl m))⟩⟩
  | [.tuple es], hf =>
    cases hf
    obtain ⟨v, rfl, dn⟩ := da1 hx
    cases dn with
    | @tup a ys _ hs ha => exact call_tuple_of pins s σ H _ us Q I rs ⟨a, ys, rfl, .inr ⟨hs, k _ _ (Same.refl _) (.tup hs ha)⟩⟩
theorem c_max (hc : X.calm = true) : CallD X (.builtin "max") (minmaxD fun i j => if j > i then j else i) := by
  intro pins s σ H xs us Q I rs ⟨B, ds, r, hB, hx, hf, k⟩
  match ds, hf with
  | [.int i, .int j], hf =>
    cases hf
    obtain ⟨v, w, rfl, d1, d2⟩ := da2 hx
    cases d1
    cases d2
    exact call_max2 hc pins s σ H _ us Q I rs ⟨i, j, rfl, k _ _ (Same.refl _) (.int _)⟩
theorem c_min (hc : X.calm = true) : CallD X (.builtin "min") (minmaxD fun i j => if j < i then j else i) := by
  intro pins s σ H xs us Q I rs ⟨B, ds, r, hB, hx, hf, k⟩
  match ds, hf with
  | [.int i, .int j], hf =>
    cases hf
    obtain ⟨v, w, rfl, d1, d2⟩ := da2 hx
    cases d1
    cases d2
    exact call_min2 hc pins s σ H _ us Q I rs ⟨i, j, rfl, k _ _ (Same.refl _) (.int _)⟩
theorem c_str : CallD X (.type "str") strD := by
  intro pins s σ H xs us Q I rs ⟨B, ds, r, hB, hx, hf, k⟩
  match ds, hf with
  | [.int i], hf =>
    have hq : (if i.natAbs.log2 < 1920 then some (PyData.str (toString i)) else none) = some r := hf
    by_cases hl : i.natAbs.log2 < 1920
    case neg => rw [if_neg hl] at hq; cases hq
    rw [if_pos hl] at hq
    cases hq
    obtain ⟨v, rfl, dn⟩ := da1 hx
    cases dn
    exact call_str_int pins s σ H _ us Q I rs ⟨i, rfl, hl, k _ _ (Same.refl _) (.str _)⟩
  | [.str z], hf =>
    cases hf
    obtain ⟨v, rfl, dn⟩ := da1 hx
    cases dn
    exact SkE.call_str_str pins s σ H _ us Q I rs ⟨z, rfl, k _ _ (Same.refl _) (.str _)⟩

/-! repr: what a value shows -/
mutual
theorem nodict : ∀ {K : Fg} {H : Hp} {v : V} {d : D}, Dp K H v d → d.hasDict = false
  | _, _, _, _, .non => rfl
  | _, _, _, _, .bl _ => rfl
  | _, _, _, _, .int _ => rfl
  | _, _, _, _, .str _ => rfl
  | _, _, _, _, .lst _ a => nodictA a
  | _, _, _, _, .tup _ a => nodictA a
theorem nodictA : ∀ {K : Fg} {H : Hp} {vs : List V} {ds : List D}, DpAll K H vs ds → PyData.hasDictAll ds = false
  | _, _, _, _, .nil => rfl
  | _, _, _, _, .cons a b => by rw [PyData.hasDictAll, nodict a, nodictA b]; rfl
end
theorem c_repr (hg : X.A.guards = some []) (hu : X.A.units + 102 < cLine) : CallD X (.builtin "repr") reprD := by
  intro pins s σ H xs us Q I rs ⟨B, ds, r, hB, hx, hf, k⟩
  match ds, hf with
  | [d], hf =>
    have hq : (if PyData.showable d = true ∧ d.depth ≤ 100 ∧ d.shown.length ≤ sizeLine then some (PyData.str d.shown) else none) = some r := hf
    by_cases hl : PyData.showable d = true ∧ d.depth ≤ 100 ∧ d.shown.length ≤ sizeLine
    case neg => rw [if_neg hl] at hq; cases hq
    rw [if_pos hl] at hq
    cases hq
    obtain ⟨h1, h2, h3⟩ := hl
    obtain ⟨v, rfl, dn⟩ := da1 hx
    obtain ⟨u, rfl, ru⟩ := vals1 rs
    have fin : ∀ (h' : Heap) (t : Tok) (tk : Nat), (∀ b o, s.heap.get? b = some o → h'.get? b = some o) → EP X pins σ Q (.str d.shown t) { heap := h', gens := s.gens, drawn := s.drawn, toks := tk, os := s.os } := fun h' t tk hk =>
      ⟨.str _, H, I.kept hk, ⟨t, rfl⟩, k _ _ (Same.refl _) (.str _)⟩
    cases dn with
    | non => cases ru; exact PySem.P.repr_of_none (fin s.heap _ _ fun _ _ e => e)
    | bl b =>
      cases ru
      refine PySem.P.repr_of_bool (fin s.heap _ _ fun _ _ e => e)
    | int i =>
      obtain ⟨t, rfl⟩ := ru
      exact PySem.P.repr_of_int (of_decide_eq_true h1) (fin s.heap _ _ fun _ _ e => e)
    | str z =>
      obtain ⟨t, rfl⟩ := ru
      exact PySem.P.repr_of_str (fin s.heap _ _ fun _ _ e => e) h3
    | @lst a ys es hs na ha =>
      cases ru
      have dp : Dp X.K H (.ref a) (.list es) := .lst (.inl hs) ha.dp
      obtain ⟨as, r1⟩ := Dp.reads I _ _ _ dp rfl
      exact repr_of_reads' r1 h1 (fun z => by rw [nodict dp] at z; cases z) hg (by omega) (fun _ _ e => e) (fun h' t tk hk => fin h' t tk hk) h3
    | @tup a ys es hs ha =>
      cases ru
      have dp : Dp X.K H (.ref a) (.tuple es) := .tup hs ha.dp
      obtain ⟨as, r1⟩ := Dp.reads I _ _ _ dp rfl
      exact repr_of_reads' r1 h1 (fun z => by rw [nodict dp] at z; cases z) hg (by omega) (fun _ _ e => e) (fun h' t tk hk => fin h' t tk hk) h3

/-! isinstance -/
/-- the name of a datum's type -/
def tyD : D → String
  | .none => "NoneType" | .bool _ => "bool" | .int _ => "int" | .str _ => "str" | .list _ => "list" | .tuple _ => "tuple" | .dict _ => "dict"
def isiS (a b : String) : Bool := a == b || (a == "bool" && b == "int")
def wIsi (T : String) (a : WE) : WE := fun τ X P => a τ X fun d τ1 => P (.bool (isiS (tyD d) T)) τ1
theorem tyX_of {K : Fg} {H : Hp} {B : Addr → Prop} {v : V} {d : D} (h : Dn K H B v d) : TyX K H v (.type (tyD d)) := by
  cases h with
  | non => exact .base .non
  | bl b => exact .base (.bl b)
  | int i => exact .base (.int i)
  | str x => exact .base (.str x)
  | lst r _ _ =>
    rcases r with r | ⟨o, r⟩
    · exact .base (.lst r)
    · exact .base (.frz r)
  | tup r _ =>
    rcases r with (r | ⟨o, r⟩) | ⟨o, its, n, h1, h2, _⟩
    · exact .base (.tup r)
    · exact .fTuple r
    · exact .kTuple h1 h2
theorem kit_table : ∀ a ∈ ["NoneType", "bool", "int", "str", "list", "tuple", "dict"], ∀ b ∈ ["bool", "int", "str", "list", "tuple", "dict"], kitB a b = some (isiS a b) := by decide +kernel
theorem tyD_mem (d : D) : tyD d ∈ ["NoneType", "bool", "int", "str", "list", "tuple", "dict"] := by cases d <;> simp [tyD]
theorem ppe_isi {e : Expr} {p p2 : Pos} {T : Str} {t : String} {w : WE} (hK : c.K = X.K) (hg : Gl X "isinstance") (hm : X.mg "isinstance" = none) (hgT : Gl X T) (hmT : X.mg T = none) (hvT : bootBuiltins T = some (.type t)) (ht : t ∈ ["bool", "int", "str", "list", "tuple", "dict"])
    (he : PE X e (liftE c w)) (hn : T ≠ "__name__" := by decide) (hd : (T == ("__debug__" : Str)) = false := by decide)
    (hs : starEach [e, .Name T p2] X.env = (false, eval e X.env) :: starEach [.Name T p2] X.env := by rfl) (hs2 : starEach [.Name T p2] X.env = (false, eval (.Name T p2) X.env) :: starEach [] X.env := by rfl)
    (hpl : (backTo pos (starEach [.Name T p2] X.env)).any (·.1) = false := by rfl) :
    PE X (.Call (.Name "isinstance" p) [e, .Name T p2] [] pos) (liftE c (wIsi t w)) :=
  PE.imp (pe_callB call_isi hg hm PyProof.Rows.boot_isinstance (pa_cons he (pa_cons (pe_bltn (v := .ty t) hgT hmT hvT rfl hn hd) pa_nil hs2) hs) (by decide) (by decide) hs hpl) fun σ H Q ⟨F, ad, τ, Xp, P, R, x, hw, k⟩ =>
    useE R x hw fun d τ1 v H1 p R1 _ dn => by
      refine ⟨v, .ty t, .type (tyD d), .type t, isiS (tyD d) t, rfl, .ty t, ?_, kit_ty (kit_table _ (tyD_mem d) _ ht), k _ _ _ _ p R1 (.bl _)⟩
      rw [← hK]
      exact tyX_of dn
def wIsiT (T U : String) (a : WE) : WE := fun τ X P => a τ X fun d τ1 => P (.bool (isiS (tyD d) T || isiS (tyD d) U)) τ1
end
end PV
end

section
set_option maxRecDepth 100000
namespace PV
open PySem PySem.Spec PyProof.Rows L2
set_option autoImplicit false

/-! ### lists of ours -/
def getL (τ : Ta) (i : Nat) : Option (List D) := match τ[i]? with
  | some (.own ds) => some ds
  | some (.io ds) => some ds
  | _ => none
def setL (τ : Ta) (i : Nat) (ds : List D) : Ta := match τ[i]? with
  | some (.own _) => τ.set i (.own ds)
  | some (.io _) => τ.set i (.io ds)
  | _ => τ
theorem getL_own {τ : Ta} {i : Nat} {ds : List D} (h : getL τ i = some ds) : OwnAt τ i ds := by
  unfold getL at h
  split at h
  · rename_i e; cases h; exact .inl e
  · rename_i e; cases h; exact .inr e
  · cases h
theorem own_setL {τ : Ta} {i : Nat} {ds es : List D} (h : OwnAt τ i ds) {j : Nat} {fs : List D} : OwnAt (setL τ i es) j fs → (j = i ∧ fs = es) ∨ (j ≠ i ∧ OwnAt τ j fs) := by
  intro g
  have hi : i < τ.length := by
    rcases h with h | h <;> exact (List.getElem?_eq_some_iff.mp h).1
  by_cases hj : j = i
  · subst hj
    refine .inl ⟨rfl, ?_⟩
    unfold setL at g
    rcases h with h | h <;>
    · rw [h] at g
      unfold OwnAt at g
      simp only at g
      rw [List.getElem?_set_self hi] at g
      rcases g with g | g <;> cases g <;> rfl
  · refine .inr ⟨hj, ?_⟩
    unfold setL at g
    rcases h with h | h <;>
    · rw [h] at g
      unfold OwnAt at g ⊢
      simp only at g
      rwa [List.getElem?_set_ne (Ne.symm hj)] at g
theorem isown_setL {τ : Ta} {i : Nat} {ds es : List D} (h : OwnAt τ i ds) {j : Nat} : IsOwn (setL τ i es) j → IsOwn τ j := fun ⟨fs, g⟩ => by
  rcases own_setL h g with ⟨e, _⟩ | ⟨_, q⟩
  · rw [e]; exact ⟨ds, h⟩
  · exact ⟨fs, q⟩
theorem setL_own {τ : Ta} {i : Nat} {ds es : List D} (h : OwnAt τ i ds) : OwnAt (setL τ i es) i es := by
  have hi : i < τ.length := by
    rcases h with h | h <;> exact (List.getElem?_eq_some_iff.mp h).1
  unfold setL
  rcases h with h | h
  · rw [h]; exact .inl (List.getElem?_set_self hi)
  · rw [h]; exact .inr (List.getElem?_set_self hi)
theorem setL_len {τ : Ta} {i : Nat} {es : List D} : (setL τ i es).length = τ.length := by
  unfold setL
  split <;> first | rfl | exact List.length_set ..
theorem setL_val {τ : Ta} {i : Nat} {ds es : List D} (h : OwnAt τ i ds) {j : Nat} {d : D} (g : (setL τ i es)[j]? = some (.val d)) : τ[j]? = some (.val d) := by
  have hi : i < τ.length := by
    rcases h with h | h <;> exact (List.getElem?_eq_some_iff.mp h).1
  unfold setL at g
  by_cases hj : j = i
  · subst hj
    rcases h with h | h <;>
    · rw [h] at g
      simp only at g
      rw [List.getElem?_set_self hi] at g
      cases g
  · rcases h with h | h <;>
    · rw [h] at g
      simp only at g
      rwa [List.getElem?_set_ne (Ne.symm hj)] at g
theorem setL_io {τ : Ta} {i : Nat} {ds es : List D} (h : OwnAt τ i ds) {j : Nat} {fs : List D} (g : (setL τ i es)[j]? = some (.io fs)) : ∃ gs, τ[j]? = some (.io gs) := by
  have hi : i < τ.length := by
    rcases h with h | h <;> exact (List.getElem?_eq_some_iff.mp h).1
  unfold setL at g
  by_cases hj : j = i
  · subst hj
    rcases h with h | h <;>
    · rw [h] at g
      simp only at g
      rw [List.getElem?_set_self hi] at g
      first | (cases g; done) | exact ⟨_, h⟩
  · rcases h with h | h <;>
    · rw [h] at g
      simp only at g
      rw [List.getElem?_set_ne (Ne.symm hj)] at g
      exact ⟨_, g⟩

section
variable {K : Fg} {F : Fr} {ad : Nat → Addr} {σ : L2.St} {τ : Ta} {H : Hp}
theorem Rep.write {i : Nat} {ds es : List D} {ys : List V} (R : Rep K F ad σ τ H) (h : OwnAt τ i ds) (dn : DnA K H (Bd F ad τ) ys es) : Rep K F ad σ (setL τ i es) (upd H (ad i) (.lst ys)) := by
  have hmu : ∀ a, Mu ad (setL τ i es) a → Mu ad τ a := fun a ⟨j, hj, e⟩ => ⟨j, isown_setL h hj, e⟩
  have g : Go H (Mu ad τ) (upd H (ad i) (.lst ys)) (Mu ad (setL τ i es)) := by
    refine ⟨fun a o e n => ?_, fun a m => .inl (hmu a m), fun a e z => ?_⟩
    · rw [upd_ne (fun q => n ⟨i, ⟨ds, h⟩, q.symm⟩)]; exact e
    · by_cases q : a = ad i
      · rw [q, upd_same] at z; cases z
      · rw [upd_ne q] at z; exact e z
  refine ⟨fun j d hj => ?_, fun j fs hj => ?_, fun j l hj hl e => R.inj j l (isown_setL h hj) (isown_setL h hl) e, fun j fs hj => ?_, by rw [setL_len]; exact R.len, R.go.trans g, fun a m => g.there a (R.fo a m), fun j hj => R.nfo j (isown_setL h hj)⟩
  · obtain ⟨v, h1, h2⟩ := R.val j d (setL_val h hj)
    exact ⟨v, h1, Dn.go R.lsts g h2⟩
  · rcases own_setL h hj with ⟨e1, e2⟩ | ⟨hne, hj'⟩
    · subst e1 e2
      exact ⟨(R.own j ds h).1, ys, upd_same, DnA.go R.lsts g dn⟩
    · obtain ⟨h1, zs, h2, h3⟩ := R.own j fs hj'
      refine ⟨h1, zs, ?_, DnA.go R.lsts g h3⟩
      rw [upd_ne (fun q => hne (R.inj j i ⟨fs, hj'⟩ ⟨ds, h⟩ q))]
      exact h2
  · obtain ⟨gs, hg⟩ := setL_io h hj
    exact R.io j gs hg
end


def hasL (τ : Ta) (i : Nat) : Prop := ∃ ds, getL τ i = some ds
def wAppend (i : Nat) (a : WE) : WE := fun τ X P => hasL τ i ∧ a τ X fun d τ1 => ∃ ds, getL τ1 i = some ds ∧ ds.length < sizeLine ∧ P .none (setL τ1 i (ds ++ [d]))
def wPop (i : Nat) : WE := fun τ X P => ∃ ds d, getL τ i = some ds ∧ ds[ds.length - 1]? = some d ∧ P d (setL τ i ds.dropLast)
def wPopAt (i : Nat) (a : WE) : WE := fun τ X P => hasL τ i ∧ a τ X fun e τ1 => ∃ ds k d, getL τ1 i = some ds ∧ e = .int k ∧ 0 ≤ k ∧ k < 2 ^ 63 ∧ ds[k.toNat]? = some d ∧ P d (setL τ1 i (ds.eraseIdx k.toNat))
def wInsert (i : Nat) (a b : WE) : WE := fun τ X P => hasL τ i ∧ a τ X fun e τ1 => b τ1 X fun d τ2 => ∃ ds k, getL τ2 i = some ds ∧ e = .int k ∧ 0 ≤ k ∧ k < 2 ^ 63 ∧ ds.length < sizeLine ∧
  P .none (setL τ2 i (ds.take k.toNat ++ [d] ++ ds.drop k.toNat))
/-- what is read of a list of ours, a flat thing -/
def wPk (f : D → D → Option D) (i : Nat) (b : WE) : WE := fun τ X P => hasL τ i ∧ b τ X fun e τ1 => ∃ ds r, getL τ1 i = some ds ∧ f (.list ds) e = some r ∧ flat r = true ∧ P r τ1
def wPkR (f : D → D → Option D) (a : WE) (i : Nat) : WE := fun τ X P => a τ X fun d τ1 => ∃ ds r, getL τ1 i = some ds ∧ f d (.list ds) = some r ∧ flat r = true ∧ P r τ1
def wPk1 (f : List D → Option D) (i : Nat) : WE := fun τ _ P => ∃ ds r, getL τ i = some ds ∧ f [.list ds] = some r ∧ flat r = true ∧ P r τ
def wPkIx (i : Nat) (b : WE) : WE := fun τ X P => hasL τ i ∧ b τ X fun e τ1 => ∃ ds k d, getL τ1 i = some ds ∧ e = .int k ∧ atI ds k = some d ∧ P d τ1
/-- tuple(xs), a list of ours -/
def wPkTup (i : Nat) : WE := fun τ _ P => ∃ ds, getL τ i = some ds ∧ P (.tuple ds) τ

section
variable {X : Cx} {c : LC} {pos : Pos}
theorem pe_pk {i : Nat} {x : Str} (hN : X.N[i]? = some x := by rfl) (hv : Vis X.env.scope x := by first | exact Or.inl rfl | exact Or.inr (Or.inl rfl) | exact Or.inr (Or.inr rfl))
    (hd : (x == ("__debug__" : Str)) = false := by decide) (hcd : (x == ("__classdict__" : Str)) = false := by decide) : PE X (.Name x pos) (tVar i) := pe_var hN hv hd hcd
theorem Rep.tyL {K : Fg} {F : Fr} {ad : Nat → Addr} {σ : L2.St} {τ : Ta} {H : Hp} {i : Nat} (R : Rep K F ad σ τ H) (h : hasL τ i) : σ[i]? = some (some (.ref (ad i))) ∧ tyV K "list" (.ref (ad i)) H := by
  obtain ⟨ds, h⟩ := h
  obtain ⟨h1, xs, h2, _⟩ := R.own i ds (getL_own h)
  exact ⟨h1, .inl ⟨rfl, xs, SqL.of h2⟩⟩
theorem Rep.getL {K : Fg} {F : Fr} {ad : Nat → Addr} {σ : L2.St} {τ : Ta} {H : Hp} {i : Nat} {ds : List D} (R : Rep K F ad σ τ H) (h : getL τ i = some ds) :
    σ[i]? = some (some (.ref (ad i))) ∧ ∃ xs, H (ad i) = some (.lst xs) ∧ DnA K H (Bd F ad τ) xs ds := R.own i ds (getL_own h)

theorem ppe_append {i : Nat} {x : Str} {p p2 : Pos} {e : Expr} {w : WE} (hK : c.K = X.K) (hx : PE X (.Name x p) (tVar i)) (he : PE X e (liftE c w))
    (hbase : attributeBase (.Name x p) "append" X.env (eval (.Name x p) X.env) = eval (.Name x p) X.env := by rfl)
    (hfew : ((backTo pos (starEach [e] X.env)).all (fun x => !x.1) && (backToKw pos (keywordEach [] X.env)).all (fun x => x.1.isSome)
      && decide (([e] : List Expr).length + ([] : List Keyword).length + (if ([] : List Keyword).isEmpty then 0 else 1) < 30)) = true := by rfl)
    (hline : (p2.endLine == pos.line) = true := by rfl) (hs : starEach [e] X.env = (false, eval e X.env) :: starEach [] X.env := by rfl) (hplain : (backTo pos (starEach [] X.env)).any (·.1) = false := by rfl) :
    PE X (.Call (.Attribute (.Name x p) "append" p2) [e] [] pos) (liftE c (wAppend i w)) :=
  PE.imp (pe_bm PySem.F.plainAttrs_list PySem.F.slot_list_append PySem.F.type_list_append mt_append hx (pa_cons he pa_nil hs) hbase hfew hline hs hplain) fun σ H Q ⟨F, ad, τ, Xp, P, R, x, ⟨h0, hw⟩, k⟩ => by
    obtain ⟨t1, t2⟩ := R.tyL h0
    refine ⟨.ref (ad i), t1, by rw [← hK]; exact t2, useE R x hw fun d τ1 v H1 ⟨ds, h1, h2, p⟩ R1 _ dn => ?_⟩
    obtain ⟨_, xs, h3, h4⟩ := R1.getL h1
    exact ⟨ad i, xs, v, rfl, rfl, h3, by rw [h4.len]; exact h2, k _ _ _ _ p (R1.write (getL_own h1) (h4.app (.cons dn .nil))) .non⟩
theorem get_last {K : Fg} {H : Hp} {B : Addr → Prop} {xs : List V} {ds : List D} {d : D} (h : DnA K H B xs ds) (e : ds[ds.length - 1]? = some d) : ∃ v, xs[xs.length - 1]? = some v ∧ Dn K H B v d := by
  rw [h.len]
  exact h.get e
theorem ppe_pop {i : Nat} {x : Str} {p p2 : Pos} (hK : c.K = X.K) (hx : PE X (.Name x p) (tVar i))
    (hbase : attributeBase (.Name x p) "pop" X.env (eval (.Name x p) X.env) = eval (.Name x p) X.env := by rfl) (hline : (p2.endLine == pos.line) = true := by rfl) :
    PE X (.Call (.Attribute (.Name x p) "pop" p2) [] [] pos) (liftE c (wPop i)) :=
  PE.imp (pe_bm0 PySem.F.plainAttrs_list PySem.F.slot_list_pop PySem.F.type_list_pop mt_pop hx hbase hline) fun σ H Q ⟨F, ad, τ, Xp, P, R, x, ⟨ds, d, h1, h2, p⟩, k⟩ => by
    obtain ⟨t1, t2⟩ := R.tyL ⟨ds, h1⟩
    obtain ⟨_, xs, h3, h4⟩ := R.getL h1
    obtain ⟨v, h5, h6⟩ := get_last h4 h2
    have R2 := R.write (getL_own h1) h4.dropLast
    have hmu : ∀ a, Bd F ad (setL τ i ds.dropLast) a → Bd F ad τ a := fun a m => m.elim (fun ⟨j, hj, e⟩ => .inl ⟨j, isown_setL (getL_own h1) hj, e⟩) .inr
    refine ⟨.ref (ad i), t1, by rw [← hK]; exact t2, ad i, xs, v, rfl, rfl, h3, h5, k _ _ _ _ p R2 ?_⟩
    have g : Go H (Mu ad τ) (upd H (ad i) (.lst xs.dropLast)) (Mu ad τ) := ⟨fun a o e n => by rw [upd_ne (fun q => n ⟨i, ⟨ds, getL_own h1⟩, q.symm⟩)]; exact e, fun a m => .inl m, fun a e z => by
      by_cases q : a = ad i
      · rw [q, upd_same] at z; cases z
      · rw [upd_ne q] at z; exact e z⟩
    exact (Dn.go R.lsts g h6).less hmu
end
end PV
end

section
set_option maxRecDepth 100000
namespace PV
open PySem PySem.Spec PyProof.Rows L2
set_option autoImplicit false
section
variable {X : Cx} {c : LC} {pos : Pos}
theorem go_write {K : Fg} {F : Fr} {ad : Nat → Addr} {σ : L2.St} {τ : Ta} {H : Hp} {i : Nat} {ds : List D} {ys : List V} (h : getL τ i = some ds) : Go H (Mu ad τ) (upd H (ad i) (.lst ys)) (Mu ad τ) :=
  ⟨fun a o e n => by rw [upd_ne (fun q => n ⟨i, ⟨ds, getL_own h⟩, q.symm⟩)]; exact e, fun a m => .inl m, fun a e z => by
      by_cases q : a = ad i
      · rw [q, upd_same] at z; cases z
      · rw [upd_ne q] at z; exact e z⟩
theorem bd_setL {F : Fr} {ad : Nat → Addr} {τ : Ta} {i : Nat} {ds es : List D} (h : getL τ i = some ds) : ∀ a, Bd F ad (setL τ i es) a → Bd F ad τ a := fun a m => m.elim (fun ⟨j, hj, e⟩ => .inl ⟨j, isown_setL (getL_own h) hj, e⟩) .inr
theorem ppe_popAt {i : Nat} {x : Str} {p p2 : Pos} {e : Expr} {w : WE} (hK : c.K = X.K) (hx : PE X (.Name x p) (tVar i)) (he : PE X e (liftE c w))
    (hbase : attributeBase (.Name x p) "pop" X.env (eval (.Name x p) X.env) = eval (.Name x p) X.env := by rfl)
    (hfew : ((backTo pos (starEach [e] X.env)).all (fun x => !x.1) && (backToKw pos (keywordEach [] X.env)).all (fun x => x.1.isSome)
      && decide (([e] : List Expr).length + ([] : List Keyword).length + (if ([] : List Keyword).isEmpty then 0 else 1) < 30)) = true := by rfl)
    (hline : (p2.endLine == pos.line) = true := by rfl) (hs : starEach [e] X.env = (false, eval e X.env) :: starEach [] X.env := by rfl) (hplain : (backTo pos (starEach [] X.env)).any (·.1) = false := by rfl) :
    PE X (.Call (.Attribute (.Name x p) "pop" p2) [e] [] pos) (liftE c (wPopAt i w)) :=
  PE.imp (pe_bm PySem.F.plainAttrs_list PySem.F.slot_list_pop PySem.F.type_list_pop mt_popAt hx (pa_cons he pa_nil hs) hbase hfew hline hs hplain) fun σ H Q ⟨F, ad, τ, Xp, P, R, x, ⟨h0, hw⟩, k⟩ => by
    obtain ⟨t1, t2⟩ := R.tyL h0
    refine ⟨.ref (ad i), t1, by rw [← hK]; exact t2, useE R x hw fun d τ1 v H1 ⟨ds, z, d', h1, h2, h3, h4, h5, p⟩ R1 _ dn => ?_⟩
    subst h2
    obtain ⟨_, xs, h6, h7⟩ := R1.getL h1
    obtain ⟨y, h8, h9⟩ := h7.get h5
    have hlt : z.toNat < xs.length := (List.getElem?_eq_some_iff.mp h8).1
    refine ⟨ad i, xs, z, z.toNat, y, rfl, by rw [dn_int dn], h6, by omega, h4, PySem.StrLaws.seqIndex_nonneg h3 (by omega), h8, k _ _ _ _ p (R1.write (getL_own h1) (h7.eraseIdx _)) ?_⟩
    exact (Dn.go R1.lsts (go_write (F := F) (σ := σ) (K := c.K) h1) h9).less (bd_setL h1)
theorem ppe_insert {i : Nat} {x : Str} {p p2 : Pos} {e f : Expr} {w u : WE} (hK : c.K = X.K) (hx : PE X (.Name x p) (tVar i)) (he : PE X e (liftE c w)) (hf : PE X f (liftE c u))
    (hbase : attributeBase (.Name x p) "insert" X.env (eval (.Name x p) X.env) = eval (.Name x p) X.env := by rfl)
    (hfew : ((backTo pos (starEach [e, f] X.env)).all (fun x => !x.1) && (backToKw pos (keywordEach [] X.env)).all (fun x => x.1.isSome)
      && decide (([e, f] : List Expr).length + ([] : List Keyword).length + (if ([] : List Keyword).isEmpty then 0 else 1) < 30)) = true := by rfl)
    (hline : (p2.endLine == pos.line) = true := by rfl) (hs : starEach [e, f] X.env = (false, eval e X.env) :: starEach [f] X.env := by rfl) (hs2 : starEach [f] X.env = (false, eval f X.env) :: starEach [] X.env := by rfl)
    (hplain : (backTo pos (starEach [f] X.env)).any (·.1) = false := by rfl) :
    PE X (.Call (.Attribute (.Name x p) "insert" p2) [e, f] [] pos) (liftE c (wInsert i w u)) :=
  PE.imp (pe_bm PySem.F.plainAttrs_list PySem.F.slot_list_insert PySem.F.type_list_insert mt_insert hx (pa_cons he (pa_cons hf pa_nil hs2) hs) hbase hfew hline hs hplain) fun σ H Q ⟨F, ad, τ, Xp, P, R, x, ⟨h0, hw⟩, k⟩ => by
    obtain ⟨t1, t2⟩ := R.tyL h0
    refine ⟨.ref (ad i), t1, by rw [← hK]; exact t2, useE R x hw fun d τ1 v H1 hb R1 _ dn => useE R1 x hb fun d2 τ2 v2 H2 ⟨ds, z, h1, h2, h3, h4, h5, p⟩ R2 R2' dn2 => ?_⟩
    subst h2
    obtain ⟨_, xs, h6, h7⟩ := R2.getL h1
    exact ⟨ad i, xs, z, v2, rfl, by rw [dn_int dn], h6, by rw [h7.len]; exact h5, h3, h4, k _ _ _ _ p (R2.write (getL_own h1) (((h7.take _).app (.cons dn2 .nil)).app (h7.drop _))) .non⟩

theorem dn_flat {K : Fg} {H : Hp} {B B' : Addr → Prop} {v : V} {d : D} (h : Dn K H B v d) (f : flat d = true) : Dn K H B' v d := by
  cases h with
  | non => exact .non
  | bl b => exact .bl b
  | int i => exact .int i
  | str x => exact .str x
  | _ => exact nomatch f
/-- a list of ours as it stands now -/
theorem Rep.pk {K : Fg} {F : Fr} {ad : Nat → Addr} {σ : L2.St} {τ : Ta} {H : Hp} {i : Nat} {ds : List D} (R : Rep K F ad σ τ H) (h : PV.getL τ i = some ds) : Dn K H (fun a => Bd F ad τ a ∧ a ≠ ad i) (.ref (ad i)) (.list ds) := by
  obtain ⟨_, xs, h2, h3⟩ := R.getL h
  exact .lst (.inl h2) (fun m => m.2 rfl) (h3.less fun a m => m.1)
theorem Rep.pkB {K : Fg} {F : Fr} {ad : Nat → Addr} {σ : L2.St} {τ : Ta} {H : Hp} {i : Nat} (R : Rep K F ad σ τ H) : ∀ a, (Bd F ad τ a ∧ a ≠ ad i) → H a ≠ none := fun a m => R.bthere a m.1
theorem ppe_pkcmp {i : Nat} {x : Str} {p : Pos} {op : CmpOp} {f : D → D → Option D} {b : Expr} {wb : WE} (ho : OpD X (compareOp op) f) (hK : c.K = X.K) (ha : PE X (.Name x p) (tVar i)) (hb : PE X b (liftE c wb)) (hm : behindInMarks op b = false) : PE X (.Compare (.Name x p) [op] [b] pos) (liftE c (wPk f i wb)) :=
  PE.imp (pe_cmpR ho ha hb hm) fun σ H Q ⟨F, ad, τ, Xp, P, R, x, ⟨h0, hw⟩, k⟩ => by
    refine ⟨.ref (ad i), (R.tyL h0).1, useE R x hw fun d τ1 v H1 ⟨ds, r, h1, h2, h3, p⟩ R1 _ dn => ?_⟩
    rw [← hK]
    exact ⟨_, _, d, r, R1.pkB (i := i), R1.pk h1, dn.less fun a m => m.1, h2, fun v' H' s dn' => k _ _ _ _ p (R1.same s) (dn_flat dn' h3)⟩
theorem ppt_pkcmp {i : Nat} {x : Str} {p : Pos} {op : CmpOp} {f : D → D → Option D} {b : Expr} {wb : WE} (ho : OpD X (compareOp op) f) (hK : c.K = X.K) (ha : PE X (.Name x p) (tVar i)) (hb : PE X b (liftE c wb)) (hm : behindInMarks op b = false) : PT X (.Compare (.Name x p) [op] [b] pos) (liftT c (wTru (wPk f i wb))) :=
  PT.imp (pt_cmpR ho ha hb hm) fun σ H Q ⟨F, ad, τ, Xp, P, R, x, ⟨h0, hw⟩, k⟩ => by
    refine ⟨.ref (ad i), (R.tyL h0).1, useE R x hw fun d τ1 v H1 ⟨ds, r, h1, h2, h3, z, e, p⟩ R1 _ dn => ?_⟩
    subst e
    rw [← hK]
    exact ⟨_, _, d, _, R1.pkB (i := i), R1.pk h1, dn.less fun a m => m.1, h2, fun v' H' s dn' => ⟨z, dn_bool dn', k _ _ _ p (R1.same s)⟩⟩
theorem ppe_pkcmpR {i : Nat} {x : Str} {p : Pos} {op : CmpOp} {f : D → D → Option D} {a : Expr} {wa : WE} (ho : OpD X (compareOp op) f) (hK : c.K = X.K) (ha : PE X a (liftE c wa)) (hb : PE X (.Name x p) (tVar i)) (hm : behindInMarks op (.Name x p) = false) : PE X (.Compare a [op] [.Name x p] pos) (liftE c (wPkR f wa i)) :=
  PE.imp (pe_cmpR ho ha hb hm) fun σ H Q ⟨F, ad, τ, Xp, P, R, x, hw, k⟩ => useE R x hw fun d τ1 v H1 ⟨ds, r, h1, h2, h3, p⟩ R1 _ dn => by
    refine ⟨.ref (ad i), (R1.getL h1).1, ?_⟩
    rw [← hK]
    exact ⟨_, _, _, r, R1.pkB (i := i), dn.less fun a m => m.1, R1.pk h1, h2, fun v' H' s dn' => k _ _ _ _ p (R1.same s) (dn_flat dn' h3)⟩
theorem ppt_pkcmpR {i : Nat} {x : Str} {p : Pos} {op : CmpOp} {f : D → D → Option D} {a : Expr} {wa : WE} (ho : OpD X (compareOp op) f) (hK : c.K = X.K) (ha : PE X a (liftE c wa)) (hb : PE X (.Name x p) (tVar i)) (hm : behindInMarks op (.Name x p) = false) : PT X (.Compare a [op] [.Name x p] pos) (liftT c (wTru (wPkR f wa i))) :=
  PT.imp (pt_cmpR ho ha hb hm) fun σ H Q ⟨F, ad, τ, Xp, P, R, x, hw, k⟩ => useE R x hw fun d τ1 v H1 ⟨ds, r, h1, h2, h3, z, e, p⟩ R1 _ dn => by
    subst e
    refine ⟨.ref (ad i), (R1.getL h1).1, ?_⟩
    rw [← hK]
    exact ⟨_, _, _, _, R1.pkB (i := i), dn.less fun a m => m.1, R1.pk h1, h2, fun v' H' s dn' => ⟨z, dn_bool dn', k _ _ _ p (R1.same s)⟩⟩
theorem ppe_pkcall {i : Nat} {y x : Str} {p q : Pos} {id : String} {f : List D → Option D} (hc : CallD X (.builtin id) f) (hK : c.K = X.K) (hg : Gl X x) (hm : X.mg x = none) (hv : bootBuiltins x = some (.builtin id)) (ha : PE X (.Name y q) (tVar i))
    (hn : x ≠ "__name__" := by decide) (hdb : (x == ("__debug__" : Str)) = false := by decide)
    (he : starEach [.Name y q] X.env = (false, eval (.Name y q) X.env) :: starEach [] X.env := by rfl) (hpl : (backTo pos (starEach [] X.env)).any (·.1) = false := by rfl) : PE X (.Call (.Name x p) [.Name y q] [] pos) (liftE c (wPk1 f i)) :=
  PE.imp (pe_callB hc hg hm hv (pa_cons ha pa_nil he) hn hdb he hpl) fun σ H Q ⟨F, ad, τ, Xp, P, R, x, ⟨ds, r, h1, h2, h3, p⟩, k⟩ => by
    refine ⟨.ref (ad i), (R.getL h1).1, ?_⟩
    rw [← hK]
    exact ⟨_, _, r, R.pkB (i := i), .cons (R.pk h1) .nil, h2, fun v' H' s dn' => k _ _ _ _ p (R.same s) (dn_flat dn' h3)⟩
theorem ppe_pkidx {i : Nat} {y : Str} {q : Pos} {b : Expr} {wb : WE} (hK : c.K = X.K) (ha : PE X (.Name y q) (tVar i)) (hb : PE X b (liftE c wb)) (hs : PlainIx b := by exact fun _ _ => rfl) : PE X (.Subscript (.Name y q) b pos) (liftE c (wPkIx i wb)) :=
  PE.imp (pe_ix ix_list ha hb hs) fun σ H Q ⟨F, ad, τ, Xp, P, R, x, ⟨h0, hw⟩, k⟩ => by
    refine ⟨.ref (ad i), (R.tyL h0).1, useE R x hw fun d τ1 v H1 ⟨ds, z, r, h1, h2, h3, p⟩ R1 _ dn => ?_⟩
    subst h2
    rw [← hK]
    obtain ⟨_, xs, h6, h7⟩ := R1.getL h1
    obtain ⟨y, e1, e2⟩ := atI_dn h7 h3
    exact ⟨ad i, xs, z, y, rfl, dn_int dn, SqL.of h6, e1, k _ _ _ _ p R1 e2⟩
theorem ppe_pktup {i : Nat} {y : Str} {p q : Pos} (hK : c.K = X.K) (hg : Gl X "tuple") (hm : X.mg "tuple" = none) (ha : PE X (.Name y q) (tVar i))
    (he : starEach [.Name y q] X.env = (false, eval (.Name y q) X.env) :: starEach [] X.env := by rfl) (hpl : (backTo pos (starEach [] X.env)).any (·.1) = false := by rfl) : PE X (.Call (.Name "tuple" p) [.Name y q] [] pos) (liftE c (wPkTup i)) :=
  PE.imp (pe_callTy call_tuple_of hg hm PyProof.Rows.boot_tuple (pa_cons ha pa_nil he) (by decide) (by decide) he hpl) fun σ H Q ⟨F, ad, τ, Xp, P, R, x, ⟨ds, h1, p⟩, k⟩ => by
    refine ⟨.ref (ad i), (R.getL h1).1, ?_⟩
    rw [← hK]
    obtain ⟨_, xs, h6, h7⟩ := R.getL h1
    exact ⟨ad i, xs, rfl, .inl ⟨SqL.of h6, fun l hl => let z := R.newT hl h7; k _ _ _ _ p z.1 z.2⟩⟩

/-! ### targets -/
abbrev WG := D → Ta → (Ta → Prop) → Prop
abbrev WGs := List D → Ta → (Ta → Prop) → Prop
def okSet (τ : Ta) (i : Nat) : Prop := match τ[i]? with
  | some (.io _) => False
  | none => False
  | _ => True
/-- how the slots may change: any, or just those of a block's own names -/
abbrev SR := L2.St → L2.St → Prop
def SA : SR := fun _ _ => True
def SW (vs : List Nat) : SR := fun σ σ' => wipe σ' vs = wipe σ vs
structure SOk (S : SR) : Prop where
  refl : ∀ σ, S σ σ
  trans : ∀ a b c, S a b → S b c → S a c
theorem sa_ok : SOk SA := ⟨fun _ => trivial, fun _ _ _ _ _ => trivial⟩
theorem sw_ok {vs : List Nat} : SOk (SW vs) := ⟨fun _ => rfl, fun _ _ _ h g => Eq.trans g h⟩
theorem wipe_get {σ : L2.St} {i : Nat} : ∀ {vs : List Nat}, i ∉ vs → (wipe σ vs)[i]? = σ[i]?
  | [], _ => rfl
  | v :: vs, h => by
    unfold wipe
    rw [List.getElem?_set_ne (fun e => h (by rw [e]; exact List.mem_cons_self))]
    exact wipe_get fun m => h (List.mem_cons_of_mem _ m)
theorem wipe_at {σ : L2.St} {i : Nat} : ∀ {vs : List Nat}, i ∈ vs → (wipe σ vs)[i]? = if i < σ.length then some none else none
  | v :: vs, h => by
    unfold wipe
    by_cases e : v = i
    · subst e
      rw [List.getElem?_set, if_pos rfl, wipe_length]
    · rw [List.getElem?_set_ne e]
      exact wipe_at ((List.mem_cons.mp h).resolve_left (Ne.symm e))
theorem wipe_set {σ : L2.St} {i : Nat} {vs : List Nat} {o : Option V} (h : i ∈ vs) : wipe (σ.set i o) vs = wipe σ vs := by
  apply List.ext_getElem?
  intro j
  by_cases hj : j ∈ vs
  · rw [wipe_at hj, wipe_at hj, List.length_set]
  · rw [wipe_get hj, wipe_get hj, List.getElem?_set_ne (fun e => hj (by rw [← e]; exact h))]
def liftG (c : LC) (S : SR) (w : WG) : TG := fun v σ H Q => ∃ F ad τ d P, Rep c.K F ad σ τ H ∧ Dn c.K H (Bd F ad τ) v d ∧ w d τ P ∧ ∀ τ' ad' σ' H', P τ' → Rep c.K F ad' σ' τ' H' → S σ σ' → (S = SA ∨ ad' = ad) → Q σ' H'
def liftGs (c : LC) (S : SR) (w : WGs) : TGs := fun vs σ H Q => ∃ F ad τ ds P, Rep c.K F ad σ τ H ∧ DnA c.K H (Bd F ad τ) vs ds ∧ w ds τ P ∧ ∀ τ' ad' σ' H', P τ' → Rep c.K F ad' σ' τ' H' → S σ σ' → (S = SA ∨ ad' = ad) → Q σ' H'
def gN (i : Nat) : WG := fun d τ P => okSet τ i ∧ P (τ.set i (.val d))
def gNil' : WGs := fun ds τ P => ds = [] ∧ P τ
def gCons' (g : WG) (r : WGs) : WGs := fun ds τ P => ∃ d es, ds = d :: es ∧ g d τ fun τ1 => r es τ1 P
def gTup' (n : Nat) (r : WGs) : WG := fun d τ P => ∃ ds, d = .tuple ds ∧ ds.length = n ∧ r ds τ P
theorem PG.imp {e : Expr} {t t' : TG} (h : PG X e t) (i : ∀ v σ H Q, t' v σ H Q → t v σ H Q) : PG X e t' :=
  ⟨fun pins s σ H v u Q I r q => h.run pins s σ H v u Q I r (i v σ H Q q)⟩
theorem PGs.imp {e : List Expr} {t t' : TGs} (h : PGs X e t) (i : ∀ v σ H Q, t' v σ H Q → t v σ H Q) : PGs X e t' :=
  ⟨fun pins s σ H v u Q I r q => h.run pins s σ H v u Q I r (i v σ H Q q)⟩
theorem Rep.setVal {K : Fg} {F : Fr} {ad : Nat → Addr} {σ : L2.St} {τ : Ta} {H : Hp} {i : Nat} {v : V} {d : D} (R : Rep K F ad σ τ H) (h : okSet τ i) (dn : Dn K H (Bd F ad τ) v d) : Rep K F ad (σ.set i (some v)) (τ.set i (.val d)) H := by
  have hi : i < τ.length := by
    unfold okSet at h
    split at h
    · exact h.elim
    · exact h.elim
    · rename_i h1 h2
      cases e : τ[i]? with
      | none => exact absurd e h2
      | some _ => exact (List.getElem?_eq_some_iff.mp e).1
  have hi2 : i < σ.length := by rw [R.len]; exact hi
  have less : ∀ a, Bd F ad (τ.set i (.val d)) a → Bd F ad τ a := fun a m => m.elim (fun m => .inl (mu_set a m)) .inr
  refine ⟨fun j e hj => ?_, fun j es hj => ?_, fun j l hj hl => R.inj j l (set_own_iff.mp hj).1 (set_own_iff.mp hl).1, fun j es hj => ?_, by rw [List.length_set, List.length_set]; exact R.len, R.go.less fun a => mu_set a, R.fo, fun j hj => R.nfo j (set_own_iff.mp hj).1⟩
  · by_cases e2 : j = i
    · subst e2
      rw [List.getElem?_set_self hi] at hj
      cases hj
      exact ⟨v, List.getElem?_set_self hi2, dn.less less⟩
    · rw [List.getElem?_set_ne (Ne.symm e2)] at hj
      obtain ⟨w, h3, h4⟩ := R.val j e hj
      exact ⟨w, by rw [List.getElem?_set_ne (Ne.symm e2)]; exact h3, h4.less less⟩
  · have hne : j ≠ i := (set_own_iff.mp ⟨es, hj⟩).2
    have hj' : OwnAt τ j es := by unfold OwnAt at hj ⊢; rwa [List.getElem?_set_ne (Ne.symm hne)] at hj
    obtain ⟨h3, ys, h4, h5⟩ := R.own j es hj'
    exact ⟨by rw [List.getElem?_set_ne (Ne.symm hne)]; exact h3, ys, h4, h5.less less⟩
  · have hne : j ≠ i := (set_own_iff.mp ⟨es, .inr hj⟩).2
    rw [List.getElem?_set_ne (Ne.symm hne)] at hj
    exact R.io j es hj
theorem ppg_name {S : SR} {i : Nat} {x : Str} (hS : ∀ σ v, S σ (σ.set i (some v))) (hN : X.N.Nodup) (hi : X.N[i]? = some x) (hx : Loc X.env.scope x) (hf : X.fn x = true ∨ X.env.scope.names.lookup x = some .local := by first | exact .inl rfl | exact .inr rfl | assumption) : PG X (.Name x pos) (liftG c S (gN i)) :=
  PG.imp (pg_name hN hi hx hf) fun v σ H Q ⟨F, ad, τ, d, P, R, dn, ⟨h1, p⟩, k⟩ => k _ ad _ H p (R.setVal h1 dn) (hS σ v) (.inr rfl)
theorem ppgs_nil {S : SR} (hS : SOk S) : PGs X [] (liftGs c S gNil') := PGs.imp pgs_nil fun v σ H Q ⟨F, ad, τ, ds, P, R, dn, ⟨h1, p⟩, k⟩ => by
  subst h1
  cases dn
  exact ⟨rfl, k _ ad _ H p R (hS.refl σ) (.inr rfl)⟩
theorem ppgs_cons {S : SR} {e : Expr} {es : List Expr} {g : WG} {r : WGs} (hS : SOk S) (h1 : PG X e (liftG c S g)) (h2 : PGs X es (liftGs c S r))
    (hs : (assignEach (e :: es) X.env).map (·.2) = assign e X.env :: (assignEach es X.env).map (·.2) := by rfl) : PGs X (e :: es) (liftGs c S (gCons' g r)) :=
  PGs.imp (pgs_cons h1 h2 hs) fun v σ H Q ⟨F, ad, τ, ds, P, R, dn, ⟨d, es, h, p⟩, k⟩ => by
    subst h
    cases dn with
    | cons d1 d2 => exact ⟨_, _, rfl, F.here ad τ H, ad, τ, d, _, R.here, d1, p, fun τ' ad' σ' H' p' R' s1 a1 =>
        ⟨F.here ad τ H, ad', τ', es, P, R', R.carryA R' d2, p', fun τ2 ad2 σ2 H2 p2 R2 s2 a2 => k τ2 ad2 σ2 H2 p2 (R.back R2) (hS.trans _ _ _ s1 s2)
          (a1.elim .inl fun e1 => a2.elim .inl fun e2 => .inr (e2.trans e1))⟩⟩
theorem ppg_tup {S : SR} {es : List Expr} {k : Nat} {r : WGs} {n : Nat} (hK : c.K = X.K) (hc : X.calm = true) (h : PGs X es (liftGs c S r))
    (hn : (assignEach es X.env).length = n := by rfl) (hst : (assignEach es X.env).findIdx? (·.1) = none := by rfl) : PG X (.Tuple es k pos) (liftG c S (gTup' n r)) :=
  PG.imp (pg_tup hc h hn hst) fun v σ H Q ⟨F, ad, τ, d, P, R, dn, ⟨ds, h1, h2, p⟩, k⟩ => by
    subst h1
    rw [← hK]
    cases dn with
    | @tup a xs _ hs ha => exact ⟨a, xs, rfl, hs, by rw [ha.len]; exact h2, F, ad, τ, ds, P, R, ha, p, k⟩

/-! ### statements -/
theorem EOk.here {F : Fr} {ad : Nat → Addr} {σ : L2.St} {τ : Ta} {H : Hp} {E : PEn} {T : Ends} (R : Rep c.K F ad σ τ H) (e : EOk c F E T) : EOk c (F.here ad τ H) E T where
  nx := fun τ' ad' σ' H' h R' => e.nx τ' ad' σ' H' h (R.back R')
  rt := fun d τ' ad' σ' v H' h R' dn => e.rt d τ' ad' σ' v H' h (R.back R') dn
  rf := fun ds τ' ad' σ' p xs H' h R' h0 hf hp dn => e.rf ds τ' ad' σ' p xs H' h ⟨R'.val, R'.own, R'.inj, R'.io, R'.len, R.go.trans R'.go, R'.fo, R'.nfo⟩ (R.free0 h0) hf hp dn
  bk := fun τ' ad' σ' H' h R' => e.bk τ' ad' σ' H' h (R.back R')
  ct := fun τ' ad' σ' H' h R' => e.ct τ' ad' σ' H' h (R.back R')
def sNil : WS := fun E _ τ => E.nx τ
def sCons (a b : WS) : WS := fun E X τ => a { E with nx := fun τ1 => b E X τ1 } X τ
theorem pps_nil : PSs X [] (liftS c sNil) := PSs.imp pss_nil fun T σ H ⟨F, ad, τ, Xp, E, R, x, h, e⟩ => e.nx τ ad σ H h R
theorem pps_cons {st : Stmt} {rest : List Stmt} {a b : WS} (h1 : PS X st (liftS c a)) (h2 : PSs X rest (liftS c b)) : PSs X (st :: rest) (liftS c (sCons a b)) :=
  PSs.imp (pss_cons h1 h2) fun T σ H ⟨F, ad, τ, Xp, E, R, x, h, e⟩ =>
    ⟨F, ad, τ, Xp, _, R, x, h, ⟨fun τ' ad' σ' H' p R' => ⟨F, ad', τ', Xp, E, R', x, p, e⟩, e.rt, e.rf, e.bk, e.ct⟩⟩
theorem pps_one {st : Stmt} {a : WS} (h1 : PS X st (liftS c a)) : PSs X [st] (liftS c a) := pss_one h1
def sPass : WS := fun E _ τ => E.nx τ
def sBreak : WS := fun E _ τ => E.bk τ
def sCont : WS := fun E _ τ => E.ct τ
def sNever : WS := fun _ _ _ => False
theorem pps_pass : PS X (.Pass pos) (liftS c sPass) := PS.imp ps_pass fun T σ H ⟨F, ad, τ, Xp, E, R, x, h, e⟩ => e.nx τ ad σ H h R
theorem pps_break : PS X (.Break pos) (liftS c sBreak) := PS.imp ps_break fun T σ H ⟨F, ad, τ, Xp, E, R, x, h, e⟩ => e.bk τ ad σ H h R
theorem pps_cont : PS X (.Continue pos) (liftS c sCont) := PS.imp ps_continue fun T σ H ⟨F, ad, τ, Xp, E, R, x, h, e⟩ => e.ct τ ad σ H h R
theorem pps_never {st : Stmt} : PS X st (liftS c sNever) := PS.imp ps_never fun T σ H ⟨F, ad, τ, Xp, E, R, x, h, e⟩ => h.elim
def sRet (w : WE) : WS := fun E X τ => w τ X fun d τ1 => E.rt d τ1
def sRetF (w : WA) : WS := fun E X τ => w τ X fun d τ1 => E.rf d τ1
def sRetN : WS := fun E _ τ => E.rt .none τ
def sExpr (w : WE) : WS := fun E X τ => w τ X fun _ τ1 => E.nx τ1
def sIf (t : WT) (a b : WS) : WS := fun E X τ => t τ X fun k τ1 => if k = true then a E X τ1 else b E X τ1
def sAsg (w : WE) (g : WG) : WS := fun E X τ => w τ X fun d τ1 => g d τ1 E.nx
def sSetF (i : Nat) (w : WA) : WS := fun E X τ => w τ X fun ds τ1 => okSet τ1 i ∧ E.nx (τ1.set i (.own ds))
variable {e : Expr} {w : WE}
theorem pps_ret (he : PE X e (liftE c w)) : PS X (.Return (some e) pos) (liftS c (sRet w)) :=
  PS.imp (ps_ret he) fun T σ H ⟨F, ad, τ, Xp, E, R, x, h, eo⟩ => useE R x h fun d τ1 v H1 p R1 _ dn => eo.rt d τ1 ad σ v H1 p R1 dn
theorem pps_retF {w : WA} (he : PE X e (liftF c w)) : PS X (.Return (some e) pos) (liftS c (sRetF w)) :=
  PS.imp (ps_ret he) fun T σ H ⟨F, ad, τ, Xp, E, R, x, h, eo⟩ => ⟨F, ad, τ, Xp, _, R, x, h, fun ds τ' p xs H' q R' h0 hf hx dn => eo.rf ds τ' ad σ p xs H' q R' h0 hf hx dn⟩
theorem pps_retN : PS X (.Return none pos) (liftS c sRetN) :=
  PS.imp ps_retN fun T σ H ⟨F, ad, τ, Xp, E, R, x, h, eo⟩ => eo.rt .none τ ad σ .non H h R .non
theorem pps_expr (he : PE X e (liftE c w)) (hs : swapsWith e none pos.line X.env = pure false := by rfl) : PS X (.Expr e pos) (liftS c (sExpr w)) :=
  PS.imp (ps_expr he hs) fun T σ H ⟨F, ad, τ, Xp, E, R, x, h, eo⟩ => useE R x h fun d τ1 v H1 p R1 _ dn => eo.nx τ1 ad σ H1 p R1
theorem pps_doc {x : Str} {j : Nat} {p2 : Pos} : PS X (.Expr (.Constant (.str x) j pos) p2) (liftS c sPass) := PS.imp ps_doc fun T σ H ⟨F, ad, τ, Xp, E, R, x, h, e⟩ => e.nx τ ad σ H h R
theorem pps_if {t : Expr} {a b : List Stmt} {wt : WT} {sa sb : WS} (ht : PT X t (liftT c wt)) (ha : PSs X a (liftS c sa)) (hb : PSs X b (liftS c sb)) : PS X (.If t a b pos) (liftS c (sIf wt sa sb)) :=
  PS.imp (ps_if ht ha hb) fun T σ H ⟨F, ad, τ, Xp, E, R, x, h, eo⟩ => useT R x h fun k τ1 H1 p R1 _ => by
    cases k with
    | true => exact ⟨F, ad, τ1, Xp, E, R1, x, p, eo⟩
    | false => exact ⟨F, ad, τ1, Xp, E, R1, x, p, eo⟩
theorem pps_asg {tg : Expr} {g : WG} (he : PE X e (liftE c w)) (hg : PG X tg (liftG c SA g)) (hs : swapsWithSole [tg] e pos.line X.env = pure false := by rfl) (hw : swappedStores [tg] e X.env = pure none := by rfl)
    (h1 : (assignEach [tg] X.env).map (·.2) = [assign tg X.env] := by rfl) : PS X (.Assign [tg] e pos) (liftS c (sAsg w g)) :=
  PS.imp (ps_asg he hg hs hw h1) fun T σ H ⟨F, ad, τ, Xp, E, R, x, h, eo⟩ => useE R x h fun d τ1 v H1 p R1 _ dn =>
    ⟨F, ad, τ1, d, E.nx, R1, dn, p, fun τ' ad' σ' H' p' R' _ _ => eo.nx τ' ad' σ' H' p' R'⟩
theorem pps_set {i : Nat} {x : Str} {p2 : Pos} (hN : X.N.Nodup) (hi : X.N[i]? = some x) (hx : Loc X.env.scope x) (he : PE X e (liftE c w)) (hs : swapsWith e (some (.Name x p2)) pos.line X.env = pure false := by rfl) (hf : X.fn x = true ∨ X.env.scope.names.lookup x = some .local := by first | exact .inl rfl | exact .inr rfl | assumption) :
    PS X (.Assign [.Name x p2] e pos) (liftS c (sAsg w (gN i))) :=
  PS.imp (ps_set hN hi hx he hs hf) fun T σ H ⟨F, ad, τ, Xp, E, R, x, h, eo⟩ => useE R x h fun d τ1 v H1 ⟨h1, p⟩ R1 _ dn => eo.nx _ ad _ H1 p (R1.setVal h1 dn)
end
end PV
end

section
set_option maxRecDepth 100000
namespace PV
open PySem PySem.Spec PyProof.Rows L2
set_option autoImplicit false
section
variable {X : Cx} {c : LC} {pos : Pos}
theorem okSet_lt {τ : Ta} {i : Nat} (h : okSet τ i) : i < τ.length := by
  unfold okSet at h
  split at h
  · exact h.elim
  · exact h.elim
  · rename_i h1 h2
    cases e : τ[i]? with
    | none => exact absurd e h2
    | some _ => exact (List.getElem?_eq_some_iff.mp e).1
theorem setOwn_iff {τ : Ta} {i : Nat} {ds : List D} (hi : i < τ.length) {j : Nat} {fs : List D} : OwnAt (τ.set i (.own ds)) j fs ↔ (j = i ∧ fs = ds) ∨ (j ≠ i ∧ OwnAt τ j fs) := by
  by_cases hj : j = i
  · subst hj
    unfold OwnAt
    rw [List.getElem?_set_self hi]
    constructor
    · rintro (h | h) <;> cases h
      exact .inl ⟨rfl, rfl⟩
    · rintro (⟨_, rfl⟩ | ⟨h, _⟩)
      · exact .inl rfl
      · exact absurd rfl h
  · unfold OwnAt
    rw [List.getElem?_set_ne (Ne.symm hj)]
    exact ⟨fun h => .inr ⟨hj, h⟩, fun h => h.elim (fun z => absurd z.1 hj) (·.2)⟩
theorem Rep.setOwn {K : Fg} {F : Fr} {ad : Nat → Addr} {σ : L2.St} {τ : Ta} {H : Hp} {i : Nat} {p : Addr} {xs : List V} {ds : List D} (R : Rep K { F with fo := fun a => F.fo a ∨ a = p } ad σ τ H) (ok : okSet τ i) (h0 : F.H0 p = none) (hf : ¬ F.fo p) (hp : H p = some (.lst xs))
    (dn : DnA K H (Bd { F with fo := fun a => F.fo a ∨ a = p } ad τ) xs ds) : Rep K F (fun j => if j = i then p else ad j) (σ.set i (some (.ref p))) (τ.set i (.own ds)) H := by
  have hi := okSet_lt ok
  have hi2 : i < σ.length := by rw [R.len]; exact hi
  have pick : ∀ {j}, j ≠ i → (fun j => if j = i then p else ad j) j = ad j := fun h => if_neg h
  have hmu : ∀ a, Mu (fun j => if j = i then p else ad j) (τ.set i (.own ds)) a → a = p ∨ Mu ad τ a := fun a ⟨j, ⟨fs, hj⟩, e⟩ => by
    rcases (setOwn_iff hi).mp hj with ⟨e2, _⟩ | ⟨hne, h⟩
    · subst e2
      have e : (if j = j then p else ad j) = a := e
      rw [if_pos rfl] at e
      exact .inl e.symm
    · have e : (if j = i then p else ad j) = a := e
      rw [if_neg hne] at e
      exact .inr ⟨j, ⟨fs, h⟩, e⟩
  have less : ∀ a, Bd F (fun j => if j = i then p else ad j) (τ.set i (.own ds)) a → Bd { F with fo := fun a => F.fo a ∨ a = p } ad τ a := fun a m => by
    rcases m with m | m
    · rcases hmu a m with e | m
      · exact .inr (.inr e)
      · exact .inl m
    · exact .inr (.inl m)
  refine ⟨fun j d hj => ?_, fun j fs hj => ?_, fun j l hj hl e => ?_, fun j fs hj => ?_, by rw [List.length_set, List.length_set]; exact R.len, ⟨R.go.keep, fun a m => ?_, R.go.there⟩, fun a m => R.fo a (.inl m), fun j hj => ?_⟩
  · by_cases e2 : j = i
    · subst e2
      rw [List.getElem?_set_self hi] at hj
      cases hj
    · rw [List.getElem?_set_ne (Ne.symm e2)] at hj
      obtain ⟨v, h3, h4⟩ := R.val j d hj
      exact ⟨v, by rw [List.getElem?_set_ne (Ne.symm e2)]; exact h3, h4.less less⟩
  · rcases (setOwn_iff hi).mp hj with ⟨e2, e3⟩ | ⟨hne, h⟩
    · subst e2 e3
      exact ⟨by rw [List.getElem?_set_self hi2, if_pos rfl], xs, by rw [if_pos rfl]; exact hp, dn.less less⟩
    · obtain ⟨h3, ys, h4, h5⟩ := R.own j fs h
      exact ⟨by rw [List.getElem?_set_ne (Ne.symm hne), if_neg hne]; exact h3, ys, by rw [if_neg hne]; exact h4, h5.less less⟩
  · obtain ⟨f1, hj⟩ := hj
    obtain ⟨f2, hl⟩ := hl
    rcases (setOwn_iff hi).mp hj with ⟨e2, _⟩ | ⟨n1, h1⟩ <;> rcases (setOwn_iff hi).mp hl with ⟨e3, _⟩ | ⟨n2, h2⟩
    · rw [e2, e3]
    · subst e2
      rw [if_pos rfl, if_neg n2] at e
      exact absurd (.inr e.symm) (R.nfo l ⟨f2, h2⟩)
    · subst e3
      rw [if_pos rfl, if_neg n1] at e
      exact absurd (.inr e) (R.nfo j ⟨f1, h1⟩)
    · rw [if_neg n1, if_neg n2] at e
      exact R.inj j l ⟨f1, h1⟩ ⟨f2, h2⟩ e
  · have hne : j ≠ i := fun e2 => by
      subst e2
      rw [List.getElem?_set_self hi] at hj
      cases hj
    rw [List.getElem?_set_ne (Ne.symm hne)] at hj
    rw [if_neg hne]
    exact R.io j fs hj
  · rcases hmu a m with e | m
    · exact .inr (by rw [e]; exact h0)
    · exact R.go.new a m
  · obtain ⟨fs, hj⟩ := hj
    rcases (setOwn_iff hi).mp hj with ⟨e2, _⟩ | ⟨hne, h⟩
    · subst e2
      rw [if_pos rfl]
      exact hf
    · rw [if_neg hne]
      exact fun m => R.nfo j ⟨fs, h⟩ (.inl m)
variable {e : Expr} {w : WE}
theorem pps_setF {w : WA} {i : Nat} {x : Str} {p2 : Pos} (hN : X.N.Nodup) (hi : X.N[i]? = some x) (hx : Loc X.env.scope x) (he : PE X e (liftF c w)) (hs : swapsWith e (some (.Name x p2)) pos.line X.env = pure false := by rfl) (hf : X.fn x = true ∨ X.env.scope.names.lookup x = some .local := by first | exact .inl rfl | exact .inr rfl | assumption) :
    PS X (.Assign [.Name x p2] e pos) (liftS c (sSetF i w)) :=
  PS.imp (ps_set hN hi hx he hs hf) fun T σ H ⟨F, ad, τ, Xp, E, R, x, h, eo⟩ => ⟨F, ad, τ, Xp, _, R, x, h, fun ds τ' p xs H' ⟨ok, q⟩ R' h0 hf hp dn => eo.nx _ _ _ H' q (R'.setOwn ok h0 hf hp dn)⟩

/-- a, b = x, y -/
def sPar (i j : Nat) (a b : WE) : WS := fun E X τ => a τ X fun d τ1 => b τ1 X fun e τ2 => okSet τ2 i ∧ okSet τ2 j ∧ i ≠ j ∧ E.nx ((τ2.set i (.val d)).set j (.val e))
theorem okSet_ne {τ : Ta} {i j : Nat} {s : Sl} (h : i ≠ j) (ok : okSet τ j) : okSet (τ.set i s) j := by
  unfold okSet at ok ⊢
  rwa [List.getElem?_set_ne h]
theorem setVal_bd {F : Fr} {ad : Nat → Addr} {τ : Ta} {i : Nat} {d : D} : ∀ a, Bd F ad (τ.set i (.val d)) a → Bd F ad τ a := fun a m => m.elim (fun m => .inl (mu_set a m)) .inr
theorem pps_par {i j : Nat} {x y : Str} {a b : Expr} {wa wb : WE} {px py pt : Pos} {kt k2 : Nat} {pt2 : Pos} (hc : X.calm = true) (hN : X.N.Nodup) (hi : X.N[i]? = some x) (hj : X.N[j]? = some y) (hij : i ≠ j)
    (hx : X.env.scope.names.lookup x = some .local) (hy : X.env.scope.names.lookup y = some .local) (ha : PE X a (liftE c wa)) (hb : PE X b (liftE c wb))
    (hw : swappedStores [.Tuple [.Name x px, .Name y py] kt pt] (.Tuple [a, b] k2 pt2) X.env = pure (some [x, y]))
    (hs : swapsWithSole [.Tuple [.Name x px, .Name y py] kt pt] (.Tuple [a, b] k2 pt2) pos.line X.env = pure false := by rfl)
    (s1 : starEach [a, b] X.env = (false, eval a X.env) :: starEach [b] X.env := by rfl) (s2 : starEach [b] X.env = (false, eval b X.env) :: starEach [] X.env := by rfl) :
    PS X (.Assign [.Tuple [.Name x px, .Name y py] kt pt] (.Tuple [a, b] k2 pt2) pos) (liftS c (sPar i j wa wb)) :=
  PS.imp (ps_par hc hN hi hj hij hx hy (pa_cons ha (pa_cons hb pa_nil s2) s1) hw hs) fun T σ H ⟨F, ad, τ, Xp, E, R, x, h, eo⟩ => useE R x h fun d τ1 v H1 h1 R1 _ dn1 => useE R1 x h1 fun e τ2 u H2 ⟨o1, o2, hne, p⟩ R2 R2' dn2 => by
    have dn1 := R1.carry R2' dn1
    have R3 := (R2.setVal o1 dn1).setVal (okSet_ne hne o2) (dn2.less setVal_bd)
    exact ⟨v, u, rfl, eo.nx _ ad _ H2 p R3⟩

/-! ### while, for -/
def sWhile (t : WT) (b : WS) : WS := fun E X τ => ∃ I : Nat → Ta → Prop, (∃ m, I m τ) ∧ ∀ m τ, I m τ → t τ X fun k τ1 => if k = true then
  b { E with nx := fun τ2 => ∃ m', m' < m ∧ I m' τ2, ct := fun τ2 => ∃ m', m' < m ∧ I m' τ2, bk := E.nx } X τ1 else E.nx τ1
theorem pps_while {t : Expr} {body : List Stmt} {wt : WT} {b : WS} (hp : PassesOwn (model X.prog X.w) X.A X.env X.xe) (ht : PT X t (liftT c wt)) (hb : PSs X body (liftS c b)) : PS X (.While t body [] pos) (liftS c (sWhile wt b)) :=
  PS.imp (ps_while hp ht hb) fun T σ H ⟨F, ad, τ, Xp, E, R, x, ⟨I, ⟨m0, h0⟩, step⟩, eo⟩ => by
    refine ⟨fun m σ H => ∃ ad τ, Rep c.K F ad σ τ H ∧ I m τ, ⟨m0, ad, τ, R, h0⟩, fun m σ1 H1 ⟨ad1, τ1, R1, h1⟩ => useT R1 x (step m τ1 h1) fun k τ2 H2 p R2 _ => ?_⟩
    cases k with
    | false => exact eo.nx τ2 ad1 σ1 H2 p R2
    | true =>
      refine ⟨fun σ' H' => ∃ ad' τ', Rep c.K F ad' σ' τ' H' ∧ ∃ m', m' < m ∧ I m' τ', fun σ' H' ⟨ad', τ', R', m', hm, i'⟩ => ⟨m', hm, ad', τ', R', i'⟩, ?_⟩
      exact ⟨F, ad1, τ2, Xp, _, R2, x, p, ⟨fun τ' ad' σ' H' q R' => ⟨ad', τ', R', q⟩, eo.rt, eo.rf, fun τ' ad' σ' H' q R' => eo.nx τ' ad' σ' H' q R', fun τ' ad' σ' H' q R' => ⟨ad', τ', R', q⟩⟩⟩

/-- what a loop walks: its items, told ahead -/
abbrev WI := Ta → XP → (List D → Ta → Prop) → Prop
structure Serves (K : Fg) (J : It) (ds : List D) (H0 : Hp) (mu0 fo : Addr → Prop) : Prop where
  go : ∀ (i : Nat) (H : Hp) (mu fo' : Addr → Prop), Go H0 mu0 H mu → (∀ a, fo' a → fo a ∨ H0 a = none) → (∀ a, fo' a → H a ≠ none) → i < ds.length →
    J.go i H ∧ ∀ x H', J.yld i H x H' → Same H H' ∧ ∀ d, ds[i]? = some d → Dn K H' (fun a => mu a ∨ fo' a) x d
  stop : ∀ (H : Hp) (mu : Addr → Prop), Go H0 mu0 H mu → J.stop ds.length H
def liftI (c : LC) (w : WI) : TI := fun σ H Q => ∃ F ad τ X P, Rep c.K F ad σ τ H ∧ XOk c F X ∧ w τ X P ∧
  ∀ ds τ' J H', P ds τ' → Rep c.K F ad σ τ' H' → Serves c.K J ds H' (Mu ad τ') F.fo → Q J H'
theorem PI.imp {tg it : Expr} {t t' : TI} (h : PI X tg it t) (i : ∀ σ H Q, t' σ H Q → t σ H Q) : PI X tg it t' :=
  ⟨fun pins s σ H Q I q => h.run pins s σ H Q I (i σ H Q q)⟩
def forW (g : WG) (b : WS) : List D → PEn → XP → Ta → Prop
  | [], E, _, τ => E.nx τ
  | d :: ds, E, X, τ => g d τ fun τ1 => b { E with nx := fun τ2 => forW g b ds E X τ2, ct := fun τ2 => forW g b ds E X τ2, bk := E.nx } X τ1
def sFor (s : WI) (g : WG) (b : WS) : WS := fun E X τ => s τ X fun ds τ1 => forW g b ds E X τ1
theorem pps_for {tg iter : Expr} {body : List Stmt} {wi : WI} {g : WG} {b : WS} (hp : PassesOwn (model X.prog X.w) X.A X.env X.xe) (hc : X.calm = true) (hi : PI X tg iter (liftI c wi)) (hg : PG X tg (liftG c SA g)) (hb : PSs X body (liftS c b))
    (hs : ∀ x, foldedSetIterable iter X.env x = pure x := by intro _; rfl) : PS X (.For tg iter body [] pos) (liftS c (sFor wi g b)) :=
  PS.imp (ps_for hp hc hi hg hb hs) fun T σ H ⟨F, ad, τ, Xp, E, R, x, h, eo⟩ => by
    refine ⟨F, ad, τ, Xp, _, R, x, h, fun ds τ1 J H1 p R1 sv => ?_⟩
    have eo1 := eo.here R1
    have x1 := x.here R1
    refine ⟨fun i m σ' H' => m = ds.length - i ∧ i ≤ ds.length ∧ ∃ ad' τ', Rep c.K (F.here ad τ1 H1) ad' σ' τ' H' ∧ forW g b (ds.drop i) E Xp τ', ⟨ds.length, by simp, Nat.zero_le _, ad, τ1, R1.here, p⟩, ?_⟩
    rintro i m σ2 H2 ⟨rfl, hi, ad2, τ2, R2, p2⟩
    by_cases hlt : i < ds.length
    · obtain ⟨g1, g2⟩ := sv.go i H2 (Mu ad2 τ2) F.fo R2.go (fun _ m => .inl m) R2.fo hlt
      rw [List.drop_eq_getElem_cons hlt] at p2
      refine .inr ⟨g1, fun σ' H' => ∃ ad' τ', Rep c.K (F.here ad τ1 H1) ad' σ' τ' H' ∧ forW g b (ds.drop (i + 1)) E Xp τ', fun σ' H' ⟨ad', τ', R', p'⟩ => ⟨ds.length - (i + 1), by omega, rfl, hlt, ad', τ', R', p'⟩, fun y H3 yl => ?_⟩
      obtain ⟨s3, d3⟩ := g2 y H3 yl
      exact ⟨F.here ad τ1 H1, ad2, τ2, ds[i], _, R2.same s3, d3 _ (List.getElem?_eq_getElem hlt), p2, fun τ4 ad4 σ4 H4 p4 R4 _ _ =>
        ⟨F.here ad τ1 H1, ad4, τ4, Xp, _, R4, x1, p4, ⟨fun τ' ad' σ' H' q R' => ⟨ad', τ', R', q⟩, eo1.rt, eo1.rf, fun τ' ad' σ' H' q R' => eo1.nx τ' ad' σ' H' q R', fun τ' ad' σ' H' q R' => ⟨ad', τ', R', q⟩⟩⟩⟩
    · have e : i = ds.length := by omega
      subst e
      rw [List.drop_length] at p2
      exact .inl ⟨sv.stop H2 _ R2.go, eo1.nx τ2 ad2 σ2 H2 p2 R2⟩

/-! sources -/
theorem serves_tup {K : Fg} {H0 : Hp} {mu0 fo : Addr → Prop} {a : Addr} {xs : List V} {ds : List D} (l : Lsts H0 mu0) (hs : SqT K H0 a xs) (ha : DnA K H0 (fun a => mu0 a ∨ fo a) xs ds) : Serves K (Itt K a) ds H0 mu0 fo where
  go := fun i H mu fo' g hf _ hi => by
    have hs' := SqT.go l g hs
    have ha' := DnA.go2 (fo := fo) (fo' := fo') l g hf ha
    refine ⟨⟨xs, xs[i]'(by rw [ha.len]; exact hi), hs', List.getElem?_eq_getElem _⟩, fun x H' ⟨e, y⟩ => ?_⟩
    subst e
    refine ⟨Same.refl _, fun d hd => ?_⟩
    obtain ⟨v, h1, h2⟩ := ha'.get hd
    have := y xs hs'
    rw [h1] at this
    cases this
    exact h2
  stop := fun H mu g => ⟨xs, SqT.go l g hs, by rw [ha.len]; exact Nat.le_refl _⟩
theorem serves_lst {K : Fg} {H0 : Hp} {mu0 fo : Addr → Prop} {a : Addr} {xs : List V} {ds : List D} (l : Lsts H0 mu0) (hs : Rd H0 a (.lst xs)) (hn : ¬ mu0 a) (ha : DnA K H0 (fun a => mu0 a ∨ fo a) xs ds) : Serves K (Itl K a) ds H0 mu0 fo where
  go := fun i H mu fo' g hf _ hi => by
    have hs' : SqL K H a xs := .inl (Rd.go g hn hs).1
    have ha' := DnA.go2 (fo := fo) (fo' := fo') l g hf ha
    refine ⟨⟨xs, xs[i]'(by rw [ha.len]; exact hi), hs', List.getElem?_eq_getElem _⟩, fun x H' ⟨e, y⟩ => ?_⟩
    subst e
    refine ⟨Same.refl _, fun d hd => ?_⟩
    obtain ⟨v, h1, h2⟩ := ha'.get hd
    have := y xs hs'
    rw [h1] at this
    cases this
    exact h2
  stop := fun H mu g => ⟨xs, .inl (Rd.go g hn hs).1, by rw [ha.len]; exact Nat.le_refl _⟩
/-- a list -/
def iL (w : WE) : WI := fun τ X P => w τ X fun d τ1 => ∃ ds, d = .list ds ∧ P ds τ1
/-- a tuple -/
def iT (w : WE) : WI := fun τ X P => w τ X fun d τ1 => ∃ ds, d = .tuple ds ∧ P ds τ1
theorem ppi_list {tg : Expr} (hK : c.K = X.K) (he : PE X e (liftE c w)) : PI X tg e (liftI c (iL w)) :=
  PI.imp (pi_list he) fun σ H Q ⟨F, ad, τ, Xp, P, R, x, h, k⟩ => useE R x h fun d τ1 v H1 ⟨ds, hd, p⟩ R1 _ dn => by
    subst hd
    cases dn with
    | @lst a xs _ hs hn ha => exact ⟨a, rfl, ⟨xs, .inl hs⟩, by rw [← hK]; exact k ds τ1 _ H1 p R1 (serves_lst R1.lsts hs (fun m => hn (.inl m)) ha)⟩
theorem ppi_tup {tg : Expr} (hK : c.K = X.K) (he : PE X e (liftE c w)) : PI X tg e (liftI c (iT w)) :=
  PI.imp (pi_tup he) fun σ H Q ⟨F, ad, τ, Xp, P, R, x, h, k⟩ => useE R x h fun d τ1 v H1 ⟨ds, hd, p⟩ R1 _ dn => by
    subst hd
    cases dn with
    | @tup a xs _ hs ha => exact ⟨a, rfl, ⟨xs, by rw [← hK]; exact hs⟩, by rw [← hK]; exact k ds τ1 _ H1 p R1 (serves_tup R1.lsts hs ha)⟩
def rngD (lo : Int) (n : Nat) : List D := (List.range n).map fun i => .int (lo + (i : Nat))
theorem serves_rng {K : Fg} {H0 : Hp} {mu0 fo : Addr → Prop} {lo : Int} {n : Nat} : Serves K (Itr lo n) (rngD lo n) H0 mu0 fo where
  go := fun i H mu fo' g hf _ hi => by
    have hi' : i < n := by simpa [rngD] using hi
    refine ⟨hi', fun x H' ⟨e, y⟩ => ?_⟩
    subst e y
    refine ⟨Same.refl _, fun d hd => ?_⟩
    have : d = .int (lo + (i : Nat)) := by
      rw [rngD, List.getElem?_map, List.getElem?_range hi'] at hd
      cases hd
      rfl
    subst this
    exact .int _
  stop := fun H mu g => by
    show n ≤ (rngD lo n).length
    simp [rngD]
def iRange (a : WE) : WI := fun τ X P => a τ X fun d τ1 => ∃ j : Int, d = .int j ∧ (-(2 ^ 62) ≤ j ∧ j < 2 ^ 62) ∧ P (rngD 0 j.toNat) τ1
def iRange2 (a b : WE) : WI := fun τ X P => a τ X fun d τ1 => b τ1 X fun e τ2 => ∃ i j : Int, d = .int i ∧ e = .int j ∧ (-(2 ^ 62) ≤ i ∧ i < 2 ^ 62 ∧ -(2 ^ 62) ≤ j ∧ j < 2 ^ 62) ∧ P (rngD i (j - i).toNat) τ2
theorem ppi_range1 {tg a : Expr} {wa : WE} {p : Pos} (hg : Gl X "range") (hm : X.mg "range" = none) (ha : PE X a (liftE c wa)) (hs : starEach [a] X.env = [(false, eval a X.env)] := by rfl) : PI X tg (.Call (.Name "range" p) [a] [] pos) (liftI c (iRange wa)) :=
  PI.imp (pi_range1 hg hm (pa_cons ha pa_nil hs) hs) fun σ H Q ⟨F, ad, τ, Xp, P, R, x, h, k⟩ => useE R x h fun d τ1 v H1 ⟨j, hd, hb, p⟩ R1 _ dn => by
    subst hd
    exact ⟨j, by rw [dn_int dn], hb.1, hb.2, k _ _ _ _ p R1 serves_rng⟩
theorem ppi_range2 {tg a b : Expr} {wa wb : WE} {p : Pos} (hg : Gl X "range") (hm : X.mg "range" = none) (ha : PE X a (liftE c wa)) (hb : PE X b (liftE c wb)) (hs : starEach [a, b] X.env = [(false, eval a X.env), (false, eval b X.env)] := by rfl) (hs2 : starEach [b] X.env = [(false, eval b X.env)] := by rfl) :
    PI X tg (.Call (.Name "range" p) [a, b] [] pos) (liftI c (iRange2 wa wb)) :=
  PI.imp (pi_range2 hg hm (pa_cons ha (pa_cons hb pa_nil hs2) (by rw [hs, hs2])) hs hs2) fun σ H Q ⟨F, ad, τ, Xp, P, R, x, h, k⟩ => useE R x h fun d τ1 v H1 h1 R1 _ dn => useE R1 x h1 fun d2 τ2 v2 H2 ⟨i, j, e1, e2, hb, p⟩ R2 _ dn2 => by
    subst e1 e2
    exact ⟨i, j, by rw [dn_int dn, dn_int dn2], hb, k _ _ _ _ p R2 serves_rng⟩
/-- a text, sign by sign -/
def signsD (z : Str) : List D := z.cps.toList.map fun q => .str ⟨#[q]⟩
def iStr' (w : WE) : WI := fun τ X P => w τ X fun d τ1 => ∃ z, d = .str z ∧ P (signsD z) τ1
theorem serves_str {K : Fg} {H0 : Hp} {mu0 fo : Addr → Prop} {z : Str} : Serves K (Its z) (signsD z) H0 mu0 fo where
  go := fun i H mu fo' g hf _ hi => by
    have hi' : i < z.cps.size := by simpa [signsD] using hi
    refine ⟨hi', fun x H' ⟨e, q, h1, h2⟩ => ?_⟩
    subst e h2
    refine ⟨Same.refl _, fun d hd => ?_⟩
    have : d = .str ⟨#[q]⟩ := by
      rw [signsD, List.getElem?_map, Array.getElem?_toList, h1] at hd
      cases hd
      rfl
    subst this
    exact .str _
  stop := fun H mu g => by
    show z.cps.size ≤ (signsD z).length
    simp [signsD]
theorem ppi_str {tg : Expr} (he : PE X e (liftE c w)) : PI X tg e (liftI c (iStr' w)) :=
  PI.imp (pi_str he) fun σ H Q ⟨F, ad, τ, Xp, P, R, x, h, k⟩ => useE R x h fun d τ1 v H1 ⟨z, hd, p⟩ R1 _ dn => by
    subst hd
    exact ⟨z, dn_str dn, k _ _ _ _ p R1 serves_str⟩
end
end PV
end

section
set_option maxRecDepth 100000
namespace PV
open PySem PySem.Spec PyProof.Rows L2
set_option autoImplicit false
section
variable {X : Cx} {c : LC} {pos : Pos}
/-! zip, enumerate -/
def zipD (ds es : List D) : List D := List.zipWith (fun a b => .tuple [a, b]) ds es
theorem zipD_get {ds es : List D} {i : Nat} {d : D} (h : (zipD ds es)[i]? = some d) : ∃ a b, ds[i]? = some a ∧ es[i]? = some b ∧ d = .tuple [a, b] := by
  unfold zipD at h
  rw [List.getElem?_zipWith] at h
  cases h1 : ds[i]? with
  | none => rw [h1] at h; simp at h
  | some a => cases h2 : es[i]? with
    | none => rw [h1, h2] at h; simp at h
    | some b =>
      rw [h1, h2] at h
      cases h
      exact ⟨a, b, rfl, rfl, rfl⟩
theorem zipD_len {ds es : List D} : (zipD ds es).length = min ds.length es.length := by simp [zipD]
theorem serves_zipT {K : Fg} {H0 : Hp} {mu0 fo : Addr → Prop} {a b : Addr} {xs ys : List V} {ds es : List D} (l : Lsts H0 mu0) (hs : SqT K H0 a xs) (ha : DnA K H0 (fun a => mu0 a ∨ fo a) xs ds)
    (hs2 : SqT K H0 b ys) (hb : DnA K H0 (fun a => mu0 a ∨ fo a) ys es) : Serves K (RZ.ItzT K a b) (zipD ds es) H0 mu0 fo where
  go := fun i H mu fo' g hf ht hi => by
    have s1 := SqT.go l g hs
    have s2 := SqT.go l g hs2
    have a1 := DnA.go2 (fo := fo) (fo' := fo') l g hf ha
    have a2 := DnA.go2 (fo := fo) (fo' := fo') l g hf hb
    rw [zipD_len] at hi
    have i1 : i < xs.length := by rw [ha.len]; omega
    have i2 : i < ys.length := by rw [hb.len]; omega
    refine ⟨⟨xs, ys, xs[i], ys[i], s1, s2, List.getElem?_eq_getElem _, List.getElem?_eq_getElem _⟩, fun v H' ⟨T, x, y, e1, e2, e3, e4, e5⟩ => ?_⟩
    subst e1 e3
    refine ⟨same_upd e2, fun d hd => ?_⟩
    obtain ⟨p, q, h1, h2, rfl⟩ := zipD_get hd
    obtain ⟨u, h3, h4⟩ := a1.get h1
    obtain ⟨w, h5, h6⟩ := a2.get h2
    have := e4 xs s1
    rw [h3] at this
    cases this
    have := e5 ys s2
    rw [h5] at this
    cases this
    exact .tup (.inl (.inl upd_same)) ((DnA.cons h4 (.cons h6 .nil)).grow (same_upd e2) fun _ m => .inl m)
  stop := fun H mu g => ⟨xs, ys, SqT.go l g hs, SqT.go l g hs2, by rw [zipD_len, ha.len, hb.len]; omega⟩
theorem serves_zipL {K : Fg} {H0 : Hp} {mu0 fo : Addr → Prop} {a b : Addr} {xs ys : List V} {ds es : List D} (l : Lsts H0 mu0) (hs : Rd H0 a (.lst xs)) (hn : ¬ mu0 a) (ha : DnA K H0 (fun a => mu0 a ∨ fo a) xs ds)
    (hs2 : Rd H0 b (.lst ys)) (hn2 : ¬ mu0 b) (hb : DnA K H0 (fun a => mu0 a ∨ fo a) ys es) : Serves K (Itz K a b) (zipD ds es) H0 mu0 fo where
  go := fun i H mu fo' g hf ht hi => by
    have s1 : SqL K H a xs := .inl (Rd.go g hn hs).1
    have s2 : SqL K H b ys := .inl (Rd.go g hn2 hs2).1
    have a1 := DnA.go2 (fo := fo) (fo' := fo') l g hf ha
    have a2 := DnA.go2 (fo := fo) (fo' := fo') l g hf hb
    rw [zipD_len] at hi
    have i1 : i < xs.length := by rw [ha.len]; omega
    have i2 : i < ys.length := by rw [hb.len]; omega
    refine ⟨⟨xs, ys, xs[i], ys[i], s1, s2, List.getElem?_eq_getElem _, List.getElem?_eq_getElem _⟩, fun v H' ⟨T, x, y, e1, e2, e3, e4, e5⟩ => ?_⟩
    subst e1 e3
    refine ⟨same_upd e2, fun d hd => ?_⟩
    obtain ⟨p, q, h1, h2, rfl⟩ := zipD_get hd
    obtain ⟨u, h3, h4⟩ := a1.get h1
    obtain ⟨w, h5, h6⟩ := a2.get h2
    have := e4 xs s1
    rw [h3] at this
    cases this
    have := e5 ys s2
    rw [h5] at this
    cases this
    exact .tup (.inl (.inl upd_same)) ((DnA.cons h4 (.cons h6 .nil)).grow (same_upd e2) fun _ m => .inl m)
  stop := fun H mu g => ⟨xs, ys, .inl (Rd.go g hn hs).1, .inl (Rd.go g hn2 hs2).1, by rw [zipD_len, ha.len, hb.len]; omega⟩
def seqs : D → D → Option (List D × List D)
  | .list ds, .list es => some (ds, es)
  | .tuple ds, .tuple es => some (ds, es)
  | _, _ => none
def iZip' (a b : WE) : WI := fun τ X P => a τ X fun d τ1 => b τ1 X fun e τ2 => ∃ q, seqs d e = some q ∧ P (zipD q.1 q.2) τ2
theorem ppi_zip {a b : Expr} {wa wb : WE} {p tpos : Pos} {elts : List Expr} {kk : Nat} (hK : c.K = X.K) (hg : Gl X "zip") (hm : X.mg "zip" = none) (ha : PE X a (liftE c wa)) (hb : PE X b (liftE c wb))
    (hs : starEach [a, b] X.env = (false, eval a X.env) :: starEach [b] X.env := by rfl) (hs2 : starEach [b] X.env = (false, eval b X.env) :: starEach [] X.env := by rfl) (hpl : (backTo pos (starEach [b] X.env)).any (·.1) = false := by rfl) :
    PI X (.Tuple elts kk tpos) (.Call (.Name "zip" p) [a, b] [] pos) (liftI c (iZip' wa wb)) :=
  PI.imp (RZ.pi_zipA hg hm (pa_cons ha (pa_cons hb pa_nil hs2) hs) hs hpl) fun σ H Q ⟨F, ad, τ, Xp, P, R, x, h, k⟩ => useE R x h fun d τ1 v H1 h1 R1 _ dn => useE R1 x h1 fun e τ2 u H2 ⟨q, h2, p⟩ R2 R2' dn2 => by
    have dn := R1.carry R2' dn
    cases dn with
    | @lst a xs ds hs hn ha => cases dn2 with
      | @lst b ys es hs2 hn2 hb => cases h2; exact ⟨a, b, xs, ys, rfl, .inl ⟨.inl hs, .inl hs2, by rw [← hK]; exact k _ _ _ _ p R2 (serves_zipL R2.lsts hs (fun m => hn (.inl m)) ha hs2 (fun m => hn2 (.inl m)) hb)⟩⟩
      | _ => simp [seqs] at h2
    | @tup a xs ds hs ha => cases dn2 with
      | @tup b ys es hs2 hb => cases h2; exact ⟨a, b, xs, ys, rfl, .inr ⟨by rw [← hK]; exact hs, by rw [← hK]; exact hs2, by rw [← hK]; exact k _ _ _ _ p R2 (serves_zipT R2.lsts hs ha hs2 hb)⟩⟩
      | _ => simp [seqs] at h2
    | _ => cases dn2 <;> simp [seqs] at h2
def enumD (ds : List D) : List D := (List.zipIdx ds).map fun q => .tuple [.int (q.2 : Nat), q.1]
theorem enumD_get {ds : List D} {i : Nat} {d : D} (h : (enumD ds)[i]? = some d) : ∃ a, ds[i]? = some a ∧ d = .tuple [.int (i : Nat), a] := by
  unfold enumD at h
  rw [List.getElem?_map, List.getElem?_zipIdx] at h
  cases h1 : ds[i]? with
  | none => rw [h1] at h; simp at h
  | some a =>
    rw [h1] at h
    simp at h
    exact ⟨a, rfl, h.symm⟩
theorem serves_enum {K : Fg} {H0 : Hp} {mu0 fo : Addr → Prop} {a : Addr} {xs : List V} {ds : List D} (l : Lsts H0 mu0) (hs : Rd H0 a (.lst xs)) (hn : ¬ mu0 a) (ha : DnA K H0 (fun a => mu0 a ∨ fo a) xs ds) : Serves K (Ite K a) (enumD ds) H0 mu0 fo where
  go := fun i H mu fo' g hf ht hi => by
    have s1 : SqL K H a xs := .inl (Rd.go g hn hs).1
    have a1 := DnA.go2 (fo := fo) (fo' := fo') l g hf ha
    have i1 : i < xs.length := by rw [ha.len]; simpa [enumD] using hi
    refine ⟨⟨xs, xs[i], s1, List.getElem?_eq_getElem _⟩, fun v H' ⟨T, x, e1, e2, e3, e4⟩ => ?_⟩
    subst e1 e3
    refine ⟨same_upd e2, fun d hd => ?_⟩
    obtain ⟨p, h1, rfl⟩ := enumD_get hd
    obtain ⟨u, h3, h4⟩ := a1.get h1
    have := e4 xs s1
    rw [h3] at this
    cases this
    exact .tup (.inl (.inl upd_same)) (.cons (.int _) (.cons (h4.grow (same_upd e2) fun _ m => .inl m) .nil))
  stop := fun H mu g => ⟨xs, .inl (Rd.go g hn hs).1, by rw [ha.len]; simp [enumD]⟩
def iEnum' (a : WE) : WI := fun τ X P => a τ X fun d τ1 => ∃ ds, d = .list ds ∧ P (enumD ds) τ1
theorem ppi_enum {a : Expr} {wa : WE} {p tpos : Pos} {elts : List Expr} {kk : Nat} (hK : c.K = X.K) (hg : Gl X "enumerate") (hm : X.mg "enumerate" = none) (ha : PE X a (liftE c wa)) (hs : starEach [a] X.env = [(false, eval a X.env)] := by rfl) :
    PI X (.Tuple elts kk tpos) (.Call (.Name "enumerate" p) [a] [] pos) (liftI c (iEnum' wa)) :=
  PI.imp (pi_enum hg hm (pa_cons ha pa_nil hs) hs) fun σ H Q ⟨F, ad, τ, Xp, P, R, x, h, k⟩ => useE R x h fun d τ1 v H1 ⟨ds, hd, p⟩ R1 _ dn => by
    subst hd
    cases dn with
    | @lst a xs _ hs hn ha => exact ⟨a, xs, rfl, .inl hs, by rw [← hK]; exact k _ _ _ _ p R1 (serves_enum R1.lsts hs (fun m => hn (.inl m)) ha)⟩

/-! ### comprehensions -/
def isVal : Option Sl → Prop
  | some (.val _) => True
  | some .un => True
  | _ => False
def wipeT (τ : Ta) : List Nat → Ta
  | [] => τ
  | v :: vs => (wipeT τ vs).set v .un
/-- the block's own names have again what they had -/
def backT (τ0 τ : Ta) : List Nat → Ta
  | [] => τ
  | v :: vs => match τ0[v]? with
    | some s => (backT τ0 τ vs).set v s
    | none => backT τ0 τ vs
def okW (τ : Ta) : List Nat → Prop
  | [] => True
  | v :: vs => isVal τ[v]? ∧ okW τ vs
theorem okW_mem {τ : Ta} : ∀ {vs : List Nat}, okW τ vs → ∀ v ∈ vs, isVal τ[v]?
  | v :: vs, h, w, m => by
    rcases List.mem_cons.mp m with e | m
    · rw [e]; exact h.1
    · exact okW_mem h.2 w m
theorem wipeT_len {τ : Ta} : ∀ {vs : List Nat}, (wipeT τ vs).length = τ.length
  | [] => rfl
  | v :: vs => by unfold wipeT; rw [List.length_set, wipeT_len]
theorem wipeT_out {τ : Ta} {i : Nat} : ∀ {vs : List Nat}, i ∉ vs → (wipeT τ vs)[i]? = τ[i]?
  | [], _ => rfl
  | v :: vs, h => by
    unfold wipeT
    rw [List.getElem?_set_ne (fun e => h (by rw [e]; exact List.mem_cons_self))]
    exact wipeT_out fun m => h (List.mem_cons_of_mem _ m)
theorem wipeT_in {τ : Ta} {i : Nat} : ∀ {vs : List Nat}, i ∈ vs → (wipeT τ vs)[i]? = if i < τ.length then some .un else none
  | v :: vs, h => by
    unfold wipeT
    by_cases e : v = i
    · subst e
      rw [List.getElem?_set, if_pos rfl, wipeT_len]
    · rw [List.getElem?_set_ne e]
      exact wipeT_in ((List.mem_cons.mp h).resolve_left (Ne.symm e))
theorem backT_len {τ0 τ : Ta} : ∀ {vs : List Nat}, (backT τ0 τ vs).length = τ.length
  | [] => rfl
  | v :: vs => by
    unfold backT
    split
    · rw [List.length_set, backT_len]
    · exact backT_len
theorem backT_out {τ0 τ : Ta} {i : Nat} : ∀ {vs : List Nat}, i ∉ vs → (backT τ0 τ vs)[i]? = τ[i]?
  | [], _ => rfl
  | v :: vs, h => by
    have ih : (backT τ0 τ vs)[i]? = τ[i]? := backT_out fun m => h (List.mem_cons_of_mem _ m)
    unfold backT
    split
    · rw [List.getElem?_set_ne (fun e => h (by rw [e]; exact List.mem_cons_self))]
      exact ih
    · exact ih
theorem backT_in {τ0 τ : Ta} {i : Nat} (hl : τ0.length = τ.length) : ∀ {vs : List Nat}, i ∈ vs → (backT τ0 τ vs)[i]? = τ0[i]?
  | v :: vs, h => by
    unfold backT
    by_cases e : v = i
    · subst e
      cases q : τ0[v]? with
      | none =>
        simp only
        rw [List.getElem?_eq_none (by rw [backT_len, ← hl]; exact List.getElem?_eq_none_iff.mp q)]
      | some s =>
        simp only
        rw [List.getElem?_set_self (by rw [backT_len, ← hl]; exact (List.getElem?_eq_some_iff.mp q).1)]
    · have hm := (List.mem_cons.mp h).resolve_left (Ne.symm e)
      split
      · rw [List.getElem?_set_ne e]; exact backT_in hl hm
      · exact backT_in hl hm
theorem wipeT_own {τ : Ta} {vs : List Nat} {j : Nat} {ds : List D} : OwnAt (wipeT τ vs) j ds → j ∉ vs ∧ OwnAt τ j ds := fun h => by
  by_cases hj : j ∈ vs
  · exfalso
    unfold OwnAt at h
    rw [wipeT_in hj] at h
    split at h <;> rcases h with h | h <;> cases h
  · refine ⟨hj, ?_⟩
    unfold OwnAt at h ⊢
    rwa [wipeT_out hj] at h
section
variable {K : Fg} {F : Fr} {ad : Nat → Addr} {σ : L2.St} {τ : Ta} {H : Hp} {vs : List Nat}
theorem wipe_bd : ∀ a, Bd F ad (wipeT τ vs) a → Bd F ad τ a := fun a m => m.elim (fun ⟨j, ⟨ds, h⟩, e⟩ => .inl ⟨j, ⟨ds, (wipeT_own h).2⟩, e⟩) .inr
/-- the block's own names are forgotten; σ' is as σ but there -/
theorem Rep.wipe {σ' : L2.St} (R : Rep K F ad σ τ H) (hs : ∀ i, i ∉ vs → σ'[i]? = σ[i]?) (hl : σ'.length = σ.length) : Rep K F ad σ' (wipeT τ vs) H := by
  refine ⟨fun i d h => ?_, fun i ds h => ?_, fun i j ⟨ds, h⟩ ⟨es, g⟩ e => R.inj i j ⟨ds, (wipeT_own h).2⟩ ⟨es, (wipeT_own g).2⟩ e, fun i ds h => ?_, by rw [wipeT_len, hl]; exact R.len, R.go.less fun a ⟨j, ⟨ds, h⟩, e⟩ => ⟨j, ⟨ds, (wipeT_own h).2⟩, e⟩, R.fo, fun i ⟨ds, h⟩ => R.nfo i ⟨ds, (wipeT_own h).2⟩⟩
  · have hi : i ∉ vs := fun m => by
      rw [wipeT_in m] at h
      split at h <;> cases h
    rw [wipeT_out hi] at h
    obtain ⟨v, h1, h2⟩ := R.val i d h
    exact ⟨v, by rw [hs i hi]; exact h1, h2.less wipe_bd⟩
  · obtain ⟨hi, h⟩ := wipeT_own h
    obtain ⟨h1, xs, h2, h3⟩ := R.own i ds h
    exact ⟨by rw [hs i hi]; exact h1, xs, h2, h3.less wipe_bd⟩
  · exact R.io i ds (by
      have hi := (wipeT_own (.inr h)).1
      rwa [wipeT_out hi] at h)
end
def lcW (g : WG) (t : WT) (e : WE) (vs : List Nat) : List D → List D → (List D → Ta → Prop) → Ta → Prop
  | [], acc, P, τ => P acc τ
  | d :: ds, acc, P, τ => g d τ fun τ1 => t τ1 (fun _ _ => False) fun b τ2 => if b = true then e τ2 (fun _ _ => False) fun r τ3 => acc.length < sizeLine ∧ lcW g t e vs ds (acc ++ [r]) P (wipeT τ3 vs)
      else lcW g t e vs ds acc P (wipeT τ2 vs)
def wLC (s : WI) (g : WG) (t : WT) (e : WE) (vs : List Nat) : WA := fun τ X P => s τ X fun ds τ1 => okW τ1 vs ∧ lcW g t e vs ds [] (fun acc τ2 => P acc (backT τ1 τ2 vs)) (wipeT τ1 vs)
def wYes : WT := fun τ _ P => P true τ
abbrev LC.nox (c : LC) : LC := { c with W := fun _ _ _ _ => False }
theorem xok_nox {F : Fr} : XOk c.nox F (fun _ _ => False) := fun _ _ _ _ _ _ _ h => h.elim
theorem pts_yes {Y : Cx} {c : LC} : PTs Y [] (liftT c wYes) := ⟨fun pins s σ H Q I ⟨F, ad, τ, Xp, P, R, x, h, k⟩ => pts_nil.run pins s σ H Q I (k true τ H h R)⟩
theorem ppts_one {Y : Cx} {c : LC} {e : Expr} {t : WT} (h : PT Y e (liftT c t)) : PTs Y [e] (liftT c t) := pts_one h

/-- a foreign list is changed -/
theorem Rep.updFo {K : Fg} {F : Fr} {ad : Nat → Addr} {σ : L2.St} {τ : Ta} {H : Hp} {p : Addr} {xs ys : List V} (R : Rep K F ad σ τ H) (hp : H p = some (.lst xs)) (hf : F.fo p) (h0 : F.H0 p = none) : Rep K F ad σ τ (upd H p (.lst ys)) := by
  have g : Go H (fun a => a = p) (upd H p (.lst ys)) (fun a => a = p) := ⟨fun a o e n => by rw [upd_ne n]; exact e, fun a m => .inl m, fun a e z => by
    by_cases q : a = p
    · rw [q, upd_same] at z; cases z
    · rw [upd_ne q] at z; exact e z⟩
  have l : Lsts H (fun a => a = p) := fun a e => ⟨xs, by rw [e]; exact hp⟩
  have le : ∀ a, (a = p ∨ Bd F ad τ a) → Bd F ad τ a := fun a m => m.elim (fun e => .inr (by rw [e]; exact hf)) id
  have down : ∀ {v : V} {d : D}, Dn K H (Bd F ad τ) v d → Dn K (upd H p (.lst ys)) (Bd F ad τ) v d := fun h => (Dn.go (fo := Bd F ad τ) l g (h.less le)).less fun a m => .inr m
  have downA : ∀ {v : List V} {d : List D}, DnA K H (Bd F ad τ) v d → DnA K (upd H p (.lst ys)) (Bd F ad τ) v d := fun h => (DnA.go (fo := Bd F ad τ) l g (h.less le)).less fun a m => .inr m
  refine ⟨fun i d h => ?_, fun i ds h => ?_, R.inj, R.io, R.len, ⟨fun a o e n => ?_, R.go.new, fun a e => g.there a (R.go.there a e)⟩, fun a m => g.there a (R.fo a m), R.nfo⟩
  · obtain ⟨v, h1, h2⟩ := R.val i d h
    exact ⟨v, h1, down h2⟩
  · obtain ⟨h1, xs, h2, h3⟩ := R.own i ds h
    exact ⟨h1, xs, by rw [upd_ne (fun q => R.nfo i ⟨ds, h⟩ (by rw [q]; exact hf))]; exact h2, downA h3⟩
  · rw [upd_ne (fun q => by rw [q, h0] at e; cases e)]
    exact R.go.keep a o e n
theorem dn_updFo {K : Fg} {F : Fr} {ad : Nat → Addr} {τ : Ta} {H : Hp} {p : Addr} {xs ys : List V} (hp : H p = some (.lst xs)) (hf : F.fo p) {vs : List V} {ds : List D} (h : DnA K H (Bd F ad τ) vs ds) : DnA K (upd H p (.lst ys)) (Bd F ad τ) vs ds := by
  have g : Go H (fun a => a = p) (upd H p (.lst ys)) (fun a => a = p) := ⟨fun a o e n => by rw [upd_ne n]; exact e, fun a m => .inl m, fun a e z => by
    by_cases q : a = p
    · rw [q, upd_same] at z; cases z
    · rw [upd_ne q] at z; exact e z⟩
  exact (DnA.go (fo := Bd F ad τ) (fun a e => ⟨xs, by rw [e]; exact hp⟩) g (h.less fun a m => m.elim (fun e => .inr (by rw [e]; exact hf)) id)).less fun a m => .inr m
end
end PV
end

section
set_option maxRecDepth 100000
namespace PV
open PySem PySem.Spec PyProof.Rows L2
set_option autoImplicit false
theorem wipe_wipe {σ : L2.St} {vs : List Nat} : wipe (wipe σ vs) vs = wipe σ vs := by
  apply List.ext_getElem?
  intro j
  by_cases hj : j ∈ vs
  · rw [wipe_at hj, wipe_at hj, wipe_length]
  · rw [wipe_get hj]
theorem sw_ne {vs : List Nat} : SW vs ≠ SA := fun h => by
  have : SW vs [] [none] := by rw [h]; trivial
  have z := congrArg List.length this
  rw [wipe_length, wipe_length] at z
  cases z
theorem wipe_len_eq {σ σ4 : L2.St} {vs : List Nat} (h : wipe σ4 vs = wipe σ vs) : (wipe σ vs).length = σ4.length := by rw [← h, wipe_length]
theorem wipe_get_eq {σ σ4 : L2.St} {vs : List Nat} (h : wipe σ4 vs = wipe σ vs) (i : Nat) (hi : i ∉ vs) : (wipe σ vs)[i]? = σ4[i]? := by rw [← h, wipe_get hi]
section
variable {X : Cx} {c : LC} {pos : Pos}
/-- a frame with one more foreign thing, from here -/
def Fr.at (F : Fr) (ad : Nat → Addr) (τ : Ta) (H : Hp) (p : Addr) : Fr := ⟨H, Mu ad τ, fun a => F.fo a ∨ a = p, F.ioa⟩
theorem Rep.ne_fo {K : Fg} {F : Fr} {ad : Nat → Addr} {σ : L2.St} {τ : Ta} {H : Hp} {p : Addr} (R : Rep K F ad σ τ H) (h : F.fo p) : ¬ Mu ad τ p := fun ⟨j, hj, e⟩ => R.nfo j hj (by rw [e]; exact h)
theorem Rep.unwipe {K : Fg} {F : Fr} {ad : Nat → Addr} {σ : L2.St} {τ1 τ : Ta} {H1 H : Hp} {p : Addr} {vs : List Nat} (R1 : Rep K F ad σ τ1 H1) (ok : okW τ1 vs) (hp : H1 p = none) (R : Rep K (F.at ad τ1 H1 p) ad (L2.wipe σ vs) τ H) :
    Rep K { F with fo := fun a => F.fo a ∨ a = p } ad σ (backT τ1 τ vs) H := by
  have hl : τ1.length = τ.length := by rw [← R1.len, ← R.len, wipe_length]
  have own : ∀ {j ds}, OwnAt (backT τ1 τ vs) j ds → j ∉ vs ∧ OwnAt τ j ds := fun {j ds} h => by
    by_cases hj : j ∈ vs
    · exfalso
      unfold OwnAt at h
      rw [backT_in hl hj] at h
      have z := okW_mem ok j hj
      rcases h with h | h <;> (rw [h] at z; exact z)
    · refine ⟨hj, ?_⟩
      unfold OwnAt at h ⊢
      rwa [backT_out hj] at h
  have mu : ∀ a, Mu ad (backT τ1 τ vs) a → Mu ad τ a := fun a ⟨j, ⟨ds, h⟩, e⟩ => ⟨j, ⟨ds, (own h).2⟩, e⟩
  have bd : ∀ a, Bd { F with fo := fun a => F.fo a ∨ a = p } ad (backT τ1 τ vs) a → Bd (F.at ad τ1 H1 p) ad τ a := fun a m => m.elim (fun m => .inl (mu a m)) .inr
  refine ⟨fun i d h => ?_, fun i ds h => ?_, fun i j ⟨ds, h⟩ ⟨es, g⟩ e => R.inj i j ⟨ds, (own h).2⟩ ⟨es, (own g).2⟩ e, fun i ds h => ?_, by rw [backT_len, ← hl]; exact R1.len, (R1.go.trans R.go).less mu, R.fo, fun i ⟨ds, h⟩ => R.nfo i ⟨ds, (own h).2⟩⟩
  · by_cases hi : i ∈ vs
    · rw [backT_in hl hi] at h
      obtain ⟨v, h1, h2⟩ := R1.val i d h
      refine ⟨v, h1, Dn.less bd (Dn.go2 (fo' := (F.at ad τ1 H1 p).fo) R1.lsts R.go (fun a m => ?_) h2)⟩
      rcases m with m | m
      · exact .inl m
      · exact .inr (by rw [m]; exact hp)
    · rw [backT_out hi] at h
      obtain ⟨v, h1, h2⟩ := R.val i d h
      rw [wipe_get hi] at h1
      exact ⟨v, h1, h2.less bd⟩
  · obtain ⟨hi, h⟩ := own h
    obtain ⟨h1, xs, h2, h3⟩ := R.own i ds h
    rw [wipe_get hi] at h1
    exact ⟨h1, xs, h2, h3.less bd⟩
  · obtain ⟨hi, _⟩ := own (.inr h)
    rw [backT_out hi] at h
    exact R.io i ds h

theorem lc_use {s : WI} {g : WG} {t : WT} {e : WE} {vs : List Nat} {σ : L2.St} {H : Hp} {Q : VK} (h : liftF c (wLC s g t e vs) σ H Q) : tLc (liftI c s) (liftG c.nox (SW vs) g) (liftT c.nox t) (liftE c.nox e) vs σ H Q := by
  obtain ⟨F, ad, τ, Xp, P, R, x, hw, k⟩ := h
  refine ⟨F, ad, τ, Xp, _, R, x, hw, fun ds τ1 J H1 ⟨ok, hl⟩ R1 sv D hD => ?_⟩
  have R2 : Rep c.K (F.at ad τ1 H1 D) ad (wipe σ vs) (wipeT τ1 vs) (upd H1 D (.lst [])) :=
    (R1.here.plus hD (same_upd hD) (by rw [upd_same]; exact fun z => nomatch z)).wipe (fun i hi => wipe_get hi) (wipe_length _ _)
  have hfo : ∀ a, (F.at ad τ1 H1 D).fo a → F.fo a ∨ H1 a = none := fun a m => m.elim .inl fun m => .inr (by rw [m]; exact hD)
  refine ⟨fun i m H => m = ds.length - i ∧ i ≤ ds.length ∧ ∃ τ' acc xs, Rep c.K (F.at ad τ1 H1 D) ad (wipe σ vs) τ' H ∧ H D = some (.lst xs) ∧ DnA c.K H (Bd (F.at ad τ1 H1 D) ad τ') xs acc ∧
    lcW g t e vs (ds.drop i) acc (fun acc τ2 => P acc (backT τ1 τ2 vs)) τ', ⟨ds.length, by simp, Nat.zero_le _, _, [], [], R2, upd_same, .nil, hl⟩, ?_⟩
  rintro i m H2 ⟨rfl, hi, τ', acc, xs, R', hx, dx, hl'⟩
  by_cases hlt : i < ds.length
  · obtain ⟨g1, g2⟩ := sv.go i H2 (Mu ad τ') (F.at ad τ1 H1 D).fo R'.go hfo R'.fo hlt
    rw [List.drop_eq_getElem_cons hlt] at hl'
    refine .inr ⟨g1, fun H => ∃ τ' acc xs, Rep c.K (F.at ad τ1 H1 D) ad (wipe σ vs) τ' H ∧ H D = some (.lst xs) ∧ DnA c.K H (Bd (F.at ad τ1 H1 D) ad τ') xs acc ∧
      lcW g t e vs (ds.drop (i + 1)) acc (fun acc τ2 => P acc (backT τ1 τ2 vs)) τ', fun H' ⟨τ', acc, xs, r1, r2, r3, r4⟩ => ⟨ds.length - (i + 1), by omega, rfl, hlt, τ', acc, xs, r1, r2, r3, r4⟩, fun y H3 yl => ?_⟩
    obtain ⟨s3, d3⟩ := g2 y H3 yl
    have R3 := R'.same s3
    have hx3 := s3 _ _ hx
    have dx3 := dx.grow s3 (B' := Bd (F.at ad τ1 H1 D) ad τ') fun _ m => .inl m
    have hDfo : (F.at ad τ1 H1 D).fo D := .inr rfl
    refine ⟨(F.at ad τ1 H1 D).here ad τ' H3, ad, τ', ds[i], _, R3.here, d3 _ (List.getElem?_eq_getElem hlt), hl', fun τ4 ad4 σ4 H4 p4 R4' s4 a4 => ?_⟩
    have ea : ad4 = ad := a4.resolve_left sw_ne
    subst ea
    have R4 := R3.back R4'
    have sw : wipe σ4 vs = wipe σ vs := Eq.trans s4 wipe_wipe
    have hx4 : H4 D = some (.lst xs) := R4'.go.keep _ _ hx3 (R3.ne_fo hDfo)
    have dx4 := R3.carryA R4' dx3
    refine ⟨sw, useT R4 xok_nox p4 fun b τ5 H5 p5 R5 R5' => ?_⟩
    have hx5 : H5 D = some (.lst xs) := R5'.go.keep _ _ hx4 (R4.ne_fo hDfo)
    have dx5 := R4.carryA R5' dx4
    cases b with
    | false =>
      exact ⟨wipeT τ5 vs, acc, xs, R5.wipe (fun i hi => wipe_get_eq sw i hi) (wipe_len_eq sw), hx5, dx5.less wipe_bd, p5⟩
    | true =>
      refine useE R5 xok_nox p5 fun d τ6 v H6 ⟨p6, p7⟩ R6 R6' dn => ?_
      have hx6 : H6 D = some (.lst xs) := R6'.go.keep _ _ hx5 (R5.ne_fo hDfo)
      have dx6 := R5.carryA R6' dx5
      refine ⟨xs, hx6, by rw [dx6.len]; exact p6, wipeT τ6 vs, acc ++ [d], xs ++ [v], ?_, upd_same, ?_, p7⟩
      · exact (R6.wipe (fun i hi => wipe_get_eq sw i hi) (wipe_len_eq sw)).updFo hx6 hDfo hD
      · exact (dn_updFo hx6 hDfo (dx6.app (.cons dn .nil))).less wipe_bd
  · have e : i = ds.length := by omega
    subst e
    rw [List.drop_length] at hl'
    exact .inl ⟨sv.stop H2 _ R'.go, k acc _ D xs H2 hl' (R1.unwipe ok hD R') (R1.free0 hD) (R1.freeF hD) hx (dx.less fun a m => m.elim (fun ⟨j, ⟨ds', h⟩, e⟩ => by
      refine .inl ⟨j, ⟨ds', ?_⟩, e⟩
      have hlen : τ1.length = τ'.length := by rw [← R1.len, ← R'.len, wipe_length]
      by_cases hj : j ∈ vs
      · exfalso
        unfold OwnAt at h
        rw [backT_in hlen hj] at h
        have z := okW_mem ok j hj
        rcases h with h | h <;> (rw [h] at z; exact z)
      · unfold OwnAt at h ⊢
        rwa [backT_out hj] at h) .inr)⟩

variable {elt tg iter : Expr} {ifs : List Expr} {scope : Scope} {own : List (Str × Nat)} {wi : WI} {g : WG} {t : WT} {e : WE}
theorem ppf_lc (hc : X.calm = true) (hN : X.N.Nodup) (hi : PI X tg iter (liftI c wi)) (ok : BlkOk X.N X.env.scope scope own)
    (hg : ∀ (s : Shared) (H : Hp) (C : Addr) (cl : List (Str × Addr)) (fp : List Addr), PG (X.blk s H scope (compEnvC scope cl C X.env) fp) tg (liftG c.nox (SW (own.map (·.2))) g))
    (ht : ∀ (s : Shared) (H : Hp) (C : Addr) (cl : List (Str × Addr)) (fp : List Addr), PTs (X.blk s H scope (compEnvC scope cl C X.env) fp) ifs (liftT c.nox t))
    (he : ∀ (s : Shared) (H : Hp) (C : Addr) (cl : List (Str × Addr)) (fp : List Addr), PE (X.blk s H scope (compEnvC scope cl C X.env) fp) elt (liftE c.nox e)) (hs : ∀ x, foldedSetIterable iter X.env x = pure x := by intro _; rfl) :
    PE X (.ListComp elt [⟨tg, iter, ifs, 0⟩] scope pos) (liftF c (wLC wi g t e (own.map (·.2)))) :=
  PE.imp (pe_lc hc hN hi ok hg ht he hs) fun σ H Q h => lc_use h
theorem pps_setLc {i : Nat} {y : Str} {py spos : Pos} (hc : X.calm = true) (hN : X.N.Nodup) (hy : X.N[i]? = some y) (hyl : X.env.scope.names.lookup y = some .local)
    (hsw : swapsWith (.ListComp elt [⟨tg, iter, ifs, 0⟩] scope pos) (some (.Name y py)) spos.line X.env = pure true) (hi : PI X tg iter (liftI c wi)) (ok : BlkOk X.N X.env.scope scope own)
    (hg : ∀ (s : Shared) (H : Hp) (C : Addr) (cl : List (Str × Addr)) (fp : List Addr), PG (X.blk s H scope (compEnvC scope cl C X.env) fp) tg (liftG c.nox (SW (own.map (·.2))) g))
    (ht : ∀ (s : Shared) (H : Hp) (C : Addr) (cl : List (Str × Addr)) (fp : List Addr), PTs (X.blk s H scope (compEnvC scope cl C X.env) fp) ifs (liftT c.nox t))
    (he : ∀ (s : Shared) (H : Hp) (C : Addr) (cl : List (Str × Addr)) (fp : List Addr), PE (X.blk s H scope (compEnvC scope cl C X.env) fp) elt (liftE c.nox e)) (hs : ∀ x, foldedSetIterable iter X.env x = pure x := by intro _; rfl) :
    PS X (.Assign [.Name y py] (.ListComp elt [⟨tg, iter, ifs, 0⟩] scope pos) spos) (liftS c (sSetF i (wLC wi g t e (own.map (·.2))))) :=
  PS.imp (ps_setLc hc hN hy hyl hsw hi ok hg ht he hs) fun T σ H ⟨F, ad, τ, Xp, E, R, x, h, eo⟩ => lc_use ⟨F, ad, τ, Xp, _, R, x, h, fun ds τ' p xs H' ⟨ok, q⟩ R' h0 hf hp dn => eo.nx _ _ _ H' q (R'.setOwn ok h0 hf hp dn)⟩
/-- a new list to a name that keeps it as it is -/
def sSetL (i : Nat) (w : WA) : WS := fun E X τ => w τ X fun ds τ1 => okSet τ1 i ∧ E.nx (τ1.set i (.val (.list ds)))
theorem pps_setLcV {i : Nat} {y : Str} {py spos : Pos} (hc : X.calm = true) (hN : X.N.Nodup) (hy : X.N[i]? = some y) (hyl : X.env.scope.names.lookup y = some .local)
    (hsw : swapsWith (.ListComp elt [⟨tg, iter, ifs, 0⟩] scope pos) (some (.Name y py)) spos.line X.env = pure true) (hi : PI X tg iter (liftI c wi)) (ok : BlkOk X.N X.env.scope scope own)
    (hg : ∀ (s : Shared) (H : Hp) (C : Addr) (cl : List (Str × Addr)) (fp : List Addr), PG (X.blk s H scope (compEnvC scope cl C X.env) fp) tg (liftG c.nox (SW (own.map (·.2))) g))
    (ht : ∀ (s : Shared) (H : Hp) (C : Addr) (cl : List (Str × Addr)) (fp : List Addr), PTs (X.blk s H scope (compEnvC scope cl C X.env) fp) ifs (liftT c.nox t))
    (he : ∀ (s : Shared) (H : Hp) (C : Addr) (cl : List (Str × Addr)) (fp : List Addr), PE (X.blk s H scope (compEnvC scope cl C X.env) fp) elt (liftE c.nox e)) (hs : ∀ x, foldedSetIterable iter X.env x = pure x := by intro _; rfl) :
    PS X (.Assign [.Name y py] (.ListComp elt [⟨tg, iter, ifs, 0⟩] scope pos) spos) (liftS c (sSetL i (wLC wi g t e (own.map (·.2))))) :=
  PS.imp (ps_setLc hc hN hy hyl hsw hi ok hg ht he hs) fun T σ H ⟨F, ad, τ, Xp, E, R, x, h, eo⟩ => lc_use ⟨F, ad, τ, Xp, _, R, x, h, fun ds τ' p xs H' ⟨ok, q⟩ R' h0 hf hp dn =>
    eo.nx _ ad _ H' q (R'.minus.setVal ok (R'.let hf hp dn))⟩
end
end PV
end

section
set_option maxRecDepth 100000
namespace PV
open PySem PySem.Spec PyProof.Rows L2
set_option autoImplicit false

/-! ### what a def promises, where no repr runs around it -/
structure FnG (P : Program) (w : World) (K : Fg) (mg : Str → Option Value) (base : Heap) (k : Nat) (f : Addr) (fd : FuncData) (ps : List Str) (sp : Sp) : Prop where
  len : ∀ vs H Q E, sp vs H Q E → vs.length = ps.length
  run : ∀ (A : Around) (outer : List Env) (s : Shared) (H : Hp) (args : Args) (us : List Value) (vs : List V) (Q : VK) (E : XK), Room k A → A.guards = some [] →
    Env0 P w K mg base A outer s H → BindsTo s fd args (ps.zip us) → Vals vs us → sp vs H Q E → codeAny (model P w) A (.call (.ref f) args) (CR (L2.CX P w) outer P w H s Q E) s
section
variable {P : Program} {w : World} {K : Fg} {mg : Str → Option Value} {base : Heap}
theorem FnG.mono {j k : Nat} {f : Addr} {fd : FuncData} {ps : List Str} {sp : Sp} (F : FnG P w K mg base j f fd ps sp) (h : j ≤ k) : FnG P w K mg base k f fd ps sp :=
  ⟨F.len, fun A outer s H args us vs Q E hr => F.run A outer s H args us vs Q E (hr.mono h)⟩
theorem FnG.imp {k : Nat} {f : Addr} {fd : FuncData} {ps : List Str} {sp sp' : Sp} (F : FnG P w K mg base k f fd ps sp) (h : ∀ vs H Q E, sp' vs H Q E → sp vs H Q E) : FnG P w K mg base k f fd ps sp' :=
  ⟨fun vs H Q E q => F.len vs H Q E (h _ _ _ _ q), fun A outer s H args us vs Q E hr hg he hb hv hs => F.run A outer s H args us vs Q E hr hg he hb hv (h _ _ _ _ hs)⟩

/-- a def by its body -/
theorem gn_of {k : Nat} {f : Addr} {x qual : Str} {st : Stmt} {fd : FuncData} {N ps : List Str} {sp : Sp} (G : Fun K x qual st f fd) (S : FnScope N ps (defScope st)) (len : ∀ vs H Q E, sp vs H Q E → vs.length = ps.length)
    (hbody : ∀ (cdv : Value) (A : Around) (outer : List Env) (s : Shared) (H : Hp) (vs : List V) (Q : VK) (E : XK),
      Room k (A.deeper (envOfC qual (defScope st) s.heap.objs.size f cdv)) → A.guards = some [] → sp vs H Q E →
      ∃ t, PSs (cxOf (L2.CX P w) P w K mg base N qual (defScope st) f cdv A outer s H E) (defBody st) t ∧ t { nx := fun _ H' => Q .non H', rt := Q } (start N vs) H) :
    FnG P w K mg base (k + 1) f fd ps sp := by
  obtain ⟨oc, od, kV, doc, pm, an, cdv, ct, osl, rfl, lk, hcd⟩ := G.ex
  refine ⟨len, fun A outer s H args us vs Q E hr hg0 e0 hb r hsp => ?_⟩
  have arity := len _ _ _ _ hsp
  have inK : K.In s.heap := e0.mod.kin.keeps fun b o e => (e0.bs b o e).1
  have noLim : s.heap.NoLimit := e0.mod.nolimit.keeps fun b o e => (e0.bs b o e).1
  have kinds : ∀ y ∈ ps.zip us, (defScope st).names.lookup y.1 = some .local ∨ ((defScope st).names.lookup y.1 = some .cell ∧
      ((cellsFrom (s.heap.objs.size + 1) (defScope st).names []).lookup y.1).isSome = true) := by
    rintro ⟨n, v⟩ hy
    rcases S.par n (List.of_mem_zip hy).1 with q | q
    · exact .inl q
    · exact .inr ⟨q, PySem.W.cellsFrom_some _ _ _ (.inl q)⟩
  refine codeAny_call_function hr.depth (inK _ _ lk) rfl S.co S.gen rfl
    (PySem.W.codeRec_of inK hcd) (hb _ _ _ _ ?_)
  refine wpAny_newFunctionEnv_cells S.kind kinds fun env he s1 x => ?_
  subst he
  refine ⟨noLim.keeps x.toInCall.keep, codeAny_func ?_⟩
  obtain ⟨t, ht, hq⟩ := hbody cdv A outer s H vs Q E (hr.deeper _) hg0 hsp
  have I := inv_start (CX := L2.CX P w) (E := E) (qual := qual) (f := f) (cd := cdv) S hr.hd e0 arity r x
  refine wpAny_mono (ht.run [] s1 (start N vs) H _ I hq) (fun fl s' hs => ?_) fun e s' hs => hs
  cases fl with
  | ret u =>
    obtain ⟨v, σ', H', J, rv, q⟩ := hs
    exact ⟨v, H', J.os, J.bare, J.base, J.hok, rv, q⟩
  | next =>
    obtain ⟨σ', H', J, q⟩ := hs
    exact ⟨V.non, H', J.os, J.bare, J.base, J.hok, rfl, q⟩
  | brk =>
    obtain ⟨_, _, _, q⟩ := hs
    exact False.elim q
  | cont =>
    obtain ⟨_, _, _, q⟩ := hs
    exact False.elim q
end
/-- a def called, what it raises wished for at the caller's slots -/
def tCallG (sp : Sp) (E : L2.St → XK) (t : TA) : TE := fun σ H Q => t σ H fun vs H1 => sp vs H1 Q (E σ)
section
variable {X : Cx} {k : Nat} {f : Addr} {fd : FuncData} {ps : List Str} {sp : Sp} {W : WX} {x : Str} {p pos : Pos} {e : Expr} {es : List Expr} {t : TA}
theorem run_gn {pins : List (Addr × Obj)} {σ : L2.St} {H : Hp} {s : Shared} {Q : VK} {us : List Value} {vs : List V} (G : FnG X.prog X.w X.K X.mg X.base k f fd ps sp) (hr : Room k X.A) (hg : X.A.guards = some []) (hb : Binds X.K fd ps []) (tk : Takes X W)
    (I : Inv X pins σ H s) (r : Vals vs us) (h : sp vs H Q (L2.WE W σ)) : wpAny (model X.prog X.w) X.A (call (.ref f) us) (EP X pins σ Q) X.xe s := by
  have hl : us.length = ps.length := r.length.symm.trans (G.len _ _ _ _ h)
  have b := hb s us I.kIn (by rw [List.append_nil]; exact hl)
  rw [List.append_nil] at b
  refine wpAny_call (codeAny_mono (G.run X.A X.stack s H ⟨us, []⟩ us vs Q (L2.WE W σ) hr hg I.env0 b r h) fun z s' hq => ?_)
  cases z with
  | error y => exact passAt tk σ pins H s y s' I hq
  | ok fl =>
    cases fl with
    | ret u => exact I.after hq
    | _ => exact False.elim hq
theorem pe_callG (G : FnG X.prog X.w X.K X.mg X.base k f fd ps sp) (hr : Room k X.A) (hg0 : X.A.guards = some []) (hg : Gl X x) (hm : X.mg x = some (.ref f)) (hk : PySem.W.keepIn X.K (.ref f) = true) (hb : Binds X.K fd ps []) (tk : Takes X W)
    (ha : PA X (e :: es) t) (hdb : (x == ("__debug__" : Str)) = false := by decide) (he : starEach (e :: es) X.env = (false, eval e X.env) :: starEach es X.env := by rfl) (hpl : (backTo pos (starEach es X.env)).any (·.1) = false := by rfl) :
    PE X (.Call (.Name x p) (e :: es) [] pos) (tCallG sp (L2.WE W) t) := by
  refine ⟨fun pins s σ H Q I h => wpAny_Call_Name_kw (ld_glob I hg hm ?_ hdb)⟩
  exact PySem.W.callWith_K (h₀ := X.base) I.ok.mod.kin hk
    (thn (ha.run pos pins s σ H _ I h) fun us s1 ⟨vs, H1, I1, r, q⟩ => ⟨I1.kIn, run_gn G hr hg0 hb tk I1 r q⟩) he hpl
theorem pe_callG0 (G : FnG X.prog X.w X.K X.mg X.base k f fd ps sp) (hr : Room k X.A) (hg0 : X.A.guards = some []) (hg : Gl X x) (hm : X.mg x = some (.ref f)) (hk : PySem.W.keepIn X.K (.ref f) = true) (hb : Binds X.K fd ps []) (tk : Takes X W)
    (hdb : (x == ("__debug__" : Str)) = false := by decide) : PE X (.Call (.Name x p) [] [] pos) (tCallG sp (L2.WE W) tNil) :=
  ⟨fun pins s σ H Q I h => wpAny_Call_Name_kw (ld_glob I hg hm (PySem.W.callWith_K0 I.kIn hk (run_gn (us := []) G hr hg0 hb tk I .nil h)) hdb)⟩
end

/-! ### contracts over data -/
/-- the lists handed over by a def's caller, as they stand at its end -/
def endT : Ta → Ta → Option Ta
  | [], _ => some []
  | .io _ :: r, .io ds :: r' => (endT r r').map (.io ds :: ·)
  | .io _ :: _, _ => none
  | .val d :: r, _ :: r' => (endT r r').map (.val d :: ·)
  | _, _ => none
/-- what a def's parameters hold -/
def okPar : Ta → Prop
  | [] => True
  | .val _ :: r => okPar r
  | .io _ :: r => okPar r
  | _ :: _ => False
def kept (τ0 τ' : Ta) : Prop := ∀ (j : Nat) (ds : List D), τ0[j]? = some (.io ds) → ∃ es, τ'[j]? = some (.io es)

/-- a contract as a promise -/
def spOf (K : Fg) (cl : Str → Option Value) (n : Nat) (ct : WE) : Sp := fun vs H Q E => vs.length = n ∧ ∃ (fo : Addr → Prop) (ad : Nat → Addr) (τ0 : Ta) (P : D → Ta → Prop) (Xp : XP), okPar τ0 ∧
  Rep K ⟨H, Mu ad τ0, fo, ad⟩ ad (vs.map some) τ0 H ∧ ct τ0 Xp P ∧
  (∀ d τ' v H', P d τ' → kept τ0 τ' → Rep K ⟨H, Mu ad τ0, fo, ad⟩ ad (vs.map some) τ' H' → Dn K H' (Bd ⟨H, Mu ad τ0, fo, ad⟩ ad τ') v d → Q v H') ∧
  (∀ x τ' dx H' v, Xp x τ' → kept τ0 τ' → Rep K ⟨H, Mu ad τ0, fo, ad⟩ ad (vs.map some) τ' H' → cl x.cls = some v → XF K H' (Bd ⟨H, Mu ad τ0, fo, ad⟩ ad τ') dx x.args → E v dx H')
/-- the same where a new list is handed back -/
def spOfF (K : Fg) (cl : Str → Option Value) (n : Nat) (ct : WA) : Sp := fun vs H Q E => vs.length = n ∧ ∃ (fo : Addr → Prop) (ad : Nat → Addr) (τ0 : Ta) (P : List D → Ta → Prop) (Xp : XP), okPar τ0 ∧
  Rep K ⟨H, Mu ad τ0, fo, ad⟩ ad (vs.map some) τ0 H ∧ ct τ0 Xp P ∧
  (∀ ds τ' p xs H', P ds τ' → kept τ0 τ' → Rep K ⟨H, Mu ad τ0, fun a => fo a ∨ a = p, ad⟩ ad (vs.map some) τ' H' → H p = none → ¬ fo p → H' p = some (.lst xs) →
    DnA K H' (Bd ⟨H, Mu ad τ0, fun a => fo a ∨ a = p, ad⟩ ad τ') xs ds → Q (.ref p) H') ∧
  (∀ x τ' dx H' v, Xp x τ' → kept τ0 τ' → Rep K ⟨H, Mu ad τ0, fo, ad⟩ ad (vs.map some) τ' H' → cl x.cls = some v → XF K H' (Bd ⟨H, Mu ad τ0, fo, ad⟩ ad τ') dx x.args → E v dx H')

theorem endT_get : ∀ {τ0 τ τ' : Ta}, endT τ0 τ = some τ' → ∀ (j : Nat), (∀ (d : D), τ0[j]? = some (.val d) → τ'[j]? = some (.val d)) ∧ (∀ (ds : List D), τ0[j]? = some (.io ds) → ∃ es : List D, τ[j]? = some (.io es) ∧ τ'[j]? = some (.io es)) ∧ (τ0[j]? = none → τ'[j]? = none)
  | [], _, _, h, j => by cases h; exact ⟨fun d h => (by cases h), fun d h => (by cases h), fun _ => rfl⟩
  | .io es :: r, .io ds :: r', τ', h, j => by
    obtain ⟨q, h1, h2⟩ := Option.map_eq_some_iff.mp h
    subst h2
    cases j with
    | zero => exact ⟨fun d h => (by cases h), fun d h => ⟨ds, rfl, rfl⟩, fun h => (by cases h)⟩
    | succ j => exact endT_get h1 j
  | .val d :: r, s :: r', τ', h, j => by
    obtain ⟨q, h1, h2⟩ := Option.map_eq_some_iff.mp h
    subst h2
    cases j with
    | zero => exact ⟨fun e h => (by cases h; rfl), fun e h => (by cases h), fun h => (by cases h)⟩
    | succ j => exact endT_get h1 j
  | .io _ :: _, [], _, h, _ => nomatch h
  | .io _ :: _, .un :: _, _, h, _ => nomatch h
  | .io _ :: _, .val _ :: _, _, h, _ => nomatch h
  | .io _ :: _, .own _ :: _, _, h, _ => nomatch h
  | .val _ :: _, [], _, h, _ => nomatch h
  | .un :: _, _, _, h, _ => nomatch h
  | .own _ :: _, _, _, h, _ => nomatch h
theorem endT_len : ∀ {τ0 τ τ' : Ta}, endT τ0 τ = some τ' → τ'.length = τ0.length
  | [], _, _, h => by cases h; rfl
  | .io es :: r, .io ds :: r', τ', h => by
    obtain ⟨q, h1, h2⟩ := Option.map_eq_some_iff.mp h
    subst h2
    exact congrArg (· + 1) (endT_len h1)
  | .val d :: r, s :: r', τ', h => by
    obtain ⟨q, h1, h2⟩ := Option.map_eq_some_iff.mp h
    subst h2
    exact congrArg (· + 1) (endT_len h1)
  | .io _ :: _, [], _, h => nomatch h
  | .io _ :: _, .un :: _, _, h => nomatch h
  | .io _ :: _, .val _ :: _, _, h => nomatch h
  | .io _ :: _, .own _ :: _, _, h => nomatch h
  | .val _ :: _, [], _, h => nomatch h
  | .un :: _, _, _, h => nomatch h
  | .own _ :: _, _, _, h => nomatch h
theorem okPar_get : ∀ {τ0 : Ta}, okPar τ0 → ∀ {j : Nat} {s : Sl}, τ0[j]? = some s → (∃ d, s = .val d) ∨ ∃ ds, s = .io ds
  | .val d :: r, h, 0, s, e => by cases e; exact .inl ⟨d, rfl⟩
  | .io ds :: r, h, 0, s, e => by cases e; exact .inr ⟨ds, rfl⟩
  | .val d :: r, h, j + 1, s, e => okPar_get (τ0 := r) h (j := j) e
  | .io ds :: r, h, j + 1, s, e => okPar_get (τ0 := r) h (j := j) e
  | .un :: _, h, _, _, _ => False.elim h
  | .own _ :: _, h, _, _, _ => False.elim h

section
variable {K : Fg} {fo : Addr → Prop} {ad ad' : Nat → Addr} {σ0 σ : L2.St} {τ0 τ τ' : Ta} {H H' : Hp}
/-- at a def's end: the parameters' slots -/
theorem Rep.fin (ok : okPar τ0) (R0 : Rep K ⟨H, Mu ad τ0, fo, ad⟩ ad σ0 τ0 H) (R : Rep K ⟨H, Mu ad τ0, fo, ad⟩ ad' σ τ H') (e : endT τ0 τ = some τ') :
    Rep K ⟨H, Mu ad τ0, fo, ad⟩ ad σ0 τ' H' ∧ (∀ a, Bd ⟨H, Mu ad τ0, fo, ad⟩ ad τ' a → Bd ⟨H, Mu ad τ0, fo, ad⟩ ad' τ a) ∧ kept τ0 τ' := by
  have io : ∀ {j : Nat} {es : List D}, τ'[j]? = some (.io es) → ∃ ds : List D, τ0[j]? = some (.io ds) ∧ τ[j]? = some (.io es) := fun {j es} h => by
    cases q : τ0[j]? with
    | none => rw [(endT_get e j).2.2 q] at h; cases h
    | some s =>
      rcases okPar_get ok q with ⟨d, rfl⟩ | ⟨ds, rfl⟩
      · rw [(endT_get e j).1 d q] at h; cases h
      · obtain ⟨fs, h1, h2⟩ := (endT_get e j).2.1 ds q
        rw [h2] at h
        cases h
        exact ⟨ds, rfl, h1⟩
  have own : ∀ {j : Nat} {es : List D}, OwnAt τ' j es → ∃ ds : List D, τ0[j]? = some (.io ds) ∧ τ[j]? = some (.io es) := fun {j es} h => by
    rcases h with h | h
    · exfalso
      cases q : τ0[j]? with
      | none => rw [(endT_get e j).2.2 q] at h; cases h
      | some s =>
        rcases okPar_get ok q with ⟨d, rfl⟩ | ⟨ds, rfl⟩
        · rw [(endT_get e j).1 d q] at h; cases h
        · obtain ⟨fs, h1, h2⟩ := (endT_get e j).2.1 ds q
          rw [h2] at h
          cases h
    · exact io h
  have mu : ∀ a, Mu ad τ' a → Mu ad' τ a := fun a ⟨j, ⟨es, h⟩, q⟩ => by
    obtain ⟨ds, h1, h2⟩ := own h
    exact ⟨j, ⟨es, .inr h2⟩, by rw [R.io j es h2]; exact q⟩
  have mu0 : ∀ a, Mu ad τ' a → Mu ad τ0 a := fun a ⟨j, ⟨es, h⟩, q⟩ => by
    obtain ⟨ds, h1, h2⟩ := own h
    exact ⟨j, ⟨ds, .inr h1⟩, q⟩
  have bd : ∀ a, Bd ⟨H, Mu ad τ0, fo, ad⟩ ad τ' a → Bd ⟨H, Mu ad τ0, fo, ad⟩ ad' τ a := fun a m => m.elim (fun m => .inl (mu a m)) .inr
  refine ⟨⟨fun j d h => ?_, fun j es h => ?_, fun i j ⟨ds, h⟩ ⟨es, g⟩ q => ?_, fun j es h => rfl, ?_, R.go.less mu, R.fo, fun j ⟨es, h⟩ => ?_⟩, bd, fun j ds h => ?_⟩
  · cases q : τ0[j]? with
    | none => rw [(endT_get e j).2.2 q] at h; cases h
    | some s =>
      rcases okPar_get ok q with ⟨d', rfl⟩ | ⟨ds, rfl⟩
      · rw [(endT_get e j).1 d' q] at h
        cases h
        obtain ⟨v, h1, h2⟩ := R0.val j d q
        exact ⟨v, h1, Dn.less bd (Dn.go R0.lsts R.go h2)⟩
      · obtain ⟨fs, h1, h2⟩ := (endT_get e j).2.1 ds q
        rw [h2] at h
        cases h
  · obtain ⟨ds, h1, h2⟩ := own h
    obtain ⟨_, xs, h4, h5⟩ := R.own j es (.inr h2)
    rw [R.io j es h2] at h4
    exact ⟨(R0.own j ds (.inr h1)).1, xs, h4, h5.less bd⟩
  · obtain ⟨d1, h1, h2⟩ := own h
    obtain ⟨d2, h3, h4⟩ := own g
    exact R0.inj i j ⟨d1, .inr h1⟩ ⟨d2, .inr h3⟩ q
  · rw [endT_len e]; exact R0.len
  · obtain ⟨d1, h1, h2⟩ := own h
    exact R0.nfo j ⟨d1, .inr h1⟩
  · obtain ⟨es, _, h2⟩ := (endT_get e j).2.1 ds h
    exact ⟨es, h2⟩
end
end PV
end

section
set_option maxRecDepth 100000
namespace PV
open PySem PySem.Spec PyProof.Rows L2
set_option autoImplicit false

/-! ### a def's body keeps its contract -/
theorem XF.less {K : Fg} {H : Hp} {B B' : Addr → Prop} (h : ∀ a, B' a → B a) {dx : Option Addr} {fs : List (Str × D)} (x : XF K H B dx fs) : XF K H B' dx fs := by
  cases dx with
  | none => exact x
  | some p =>
    obtain ⟨vs, h1, h2, h3⟩ := x
    exact ⟨vs, h1, h2, h3.less h⟩
theorem Rep.start {K : Fg} {F : Fr} {ad : Nat → Addr} {vs : List V} {τ : Ta} {H : Hp} (R : Rep K F ad (vs.map some) τ H) (n : Nat) : Rep K F ad (vs.map some ++ List.replicate n none) (τ ++ List.replicate n .un) H := by
  have hl : vs.length = τ.length := by rw [← List.length_map (f := some)]; exact R.len
  have get : ∀ {j : Nat} {s : Sl}, (τ ++ List.replicate n .un)[j]? = some s → s ≠ .un → τ[j]? = some s := fun {j s} h ne => by
    by_cases hj : j < τ.length
    · rwa [List.getElem?_append_left hj] at h
    · rw [List.getElem?_append_right (by omega), List.getElem?_replicate] at h
      split at h <;> cases h
      exact absurd rfl ne
  have put : ∀ {j : Nat} {o : Option V}, (vs.map some)[j]? = some o → (vs.map some ++ List.replicate n none)[j]? = some o := fun {j o} h => by
    rw [List.getElem?_append_left (List.getElem?_eq_some_iff.mp h).1]; exact h
  have own : ∀ {j : Nat} {ds : List D}, OwnAt (τ ++ List.replicate n .un) j ds → OwnAt τ j ds := fun {j ds} h => h.elim (fun h => .inl (get h fun z => nomatch z)) fun h => .inr (get h fun z => nomatch z)
  have mu : ∀ a, Mu ad (τ ++ List.replicate n .un) a → Mu ad τ a := fun a ⟨j, ⟨ds, h⟩, e⟩ => ⟨j, ⟨ds, own h⟩, e⟩
  have bd : ∀ a, Bd F ad (τ ++ List.replicate n .un) a → Bd F ad τ a := fun a m => m.elim (fun m => .inl (mu a m)) .inr
  refine ⟨fun j d h => ?_, fun j ds h => ?_, fun i j ⟨ds, h⟩ ⟨es, g⟩ q => R.inj i j ⟨ds, own h⟩ ⟨es, own g⟩ q, fun j ds h => R.io j ds (get h fun z => nomatch z), ?_, R.go.less mu, R.fo, fun j ⟨ds, h⟩ => R.nfo j ⟨ds, own h⟩⟩
  · obtain ⟨v, h1, h2⟩ := R.val j d (get h fun z => nomatch z)
    exact ⟨v, put h1, h2.less bd⟩
  · obtain ⟨h1, xs, h2, h3⟩ := R.own j ds (own h)
    exact ⟨put h1, xs, h2, h3.less bd⟩
  · rw [List.length_append, List.length_append, List.length_map, List.length_replicate, List.length_replicate, hl]

/-- the ends of a body, by its contract's wish -/
def endE (τ0 : Ta) (P : D → Ta → Prop) : PEn where
  nx := fun τ => ∃ τ', endT τ0 τ = some τ' ∧ P .none τ'
  rt := fun d τ => ∃ τ', endT τ0 τ = some τ' ∧ P d τ'
def endX (τ0 : Ta) (X : XP) : XP := fun x τ => ∃ τ', endT τ0 τ = some τ' ∧ X x τ'
def endF (τ0 : Ta) (P : List D → Ta → Prop) : PEn where
  nx := fun _ => False
  rt := fun _ _ => False
  rf := fun d τ => ∃ τ', endT τ0 τ = some τ' ∧ P d τ'
section
variable {P : Program} {w : World} {K : Fg} {mg : Str → Option Value} {base : Heap} {k : Nat} {f : Addr} {x qual : Str} {st : Stmt} {fd : FuncData} {N ps : List Str} {cl : Str → Option Value}
abbrev lcOf (K : Fg) (cl : Str → Option Value) (E : XK) : LC := ⟨K, fun c d _ H => E c d H, cl⟩
theorem gn_def {ct : WE} {b : WS} (G : Fun K x qual st f fd) (S : FnScope N ps (defScope st))
    (der : ∀ (cdv : Value) (A : Around) (outer : List Env) (s : Shared) (H : Hp) (E : XK), Room k (A.deeper (envOfC qual (defScope st) s.heap.objs.size f cdv)) → A.guards = some [] →
      PSs (cxOf (L2.CX P w) P w K mg base N qual (defScope st) f cdv A outer s H E) (defBody st) (liftS (lcOf K cl E) b))
    (vc : ∀ (τ0 : Ta) (Xp : XP) (Q : D → Ta → Prop), τ0.length = ps.length → okPar τ0 → ct τ0 Xp Q → b (endE τ0 Q) (endX τ0 Xp) (τ0 ++ List.replicate (N.length - ps.length) .un)) :
    FnG P w K mg base (k + 1) f fd ps (spOf K cl ps.length ct) := by
  refine gn_of G S (fun vs H Q E h => h.1) fun cdv A outer s H vs Q E hr hg hsp => ⟨_, der cdv A outer s H E hr hg, ?_⟩
  obtain ⟨hl, fo, ad, τ0, Pw, Xp, ok, R, hct, fin, finX⟩ := hsp
  have hl0 : τ0.length = ps.length := by rw [← R.len, List.length_map]; exact hl
  refine ⟨⟨H, Mu ad τ0, fo, ad⟩, ad, τ0 ++ List.replicate (N.length - ps.length) .un, endX τ0 Xp, endE τ0 Pw, ?_, ?_, vc τ0 Xp Pw hl0 ok hct, ?_⟩
  · have := R.start (N.length - ps.length)
    unfold L2.start
    rw [hl]
    exact this
  · intro y τ ad' σ dx H' v ⟨τ', e, hx⟩ R' hv xf
    obtain ⟨r1, r2, r3⟩ := R.fin ok R' e
    exact finX y τ' dx H' v hx r3 r1 hv (xf.less r2)
  · exact ⟨fun τ ad' σ H' ⟨τ', e, hp⟩ R' => by
      obtain ⟨r1, r2, r3⟩ := R.fin ok R' e
      exact fin .none τ' .non H' hp r3 r1 .non,
    fun d τ ad' σ v H' ⟨τ', e, hp⟩ R' dn => by
      obtain ⟨r1, r2, r3⟩ := R.fin ok R' e
      exact fin d τ' v H' hp r3 r1 (dn.less r2), fun _ _ _ _ _ _ _ h => h.elim, fun _ _ _ _ h => h.elim, fun _ _ _ _ h => h.elim⟩
theorem gn_defF {ct : WA} {b : WS} (G : Fun K x qual st f fd) (S : FnScope N ps (defScope st))
    (der : ∀ (cdv : Value) (A : Around) (outer : List Env) (s : Shared) (H : Hp) (E : XK), Room k (A.deeper (envOfC qual (defScope st) s.heap.objs.size f cdv)) → A.guards = some [] →
      PSs (cxOf (L2.CX P w) P w K mg base N qual (defScope st) f cdv A outer s H E) (defBody st) (liftS (lcOf K cl E) b))
    (vc : ∀ (τ0 : Ta) (Xp : XP) (Q : List D → Ta → Prop), τ0.length = ps.length → okPar τ0 → ct τ0 Xp Q → b (endF τ0 Q) (endX τ0 Xp) (τ0 ++ List.replicate (N.length - ps.length) .un)) :
    FnG P w K mg base (k + 1) f fd ps (spOfF K cl ps.length ct) := by
  refine gn_of G S (fun vs H Q E h => h.1) fun cdv A outer s H vs Q E hr hg hsp => ⟨_, der cdv A outer s H E hr hg, ?_⟩
  obtain ⟨hl, fo, ad, τ0, Pw, Xp, ok, R, hct, fin, finX⟩ := hsp
  have hl0 : τ0.length = ps.length := by rw [← R.len, List.length_map]; exact hl
  refine ⟨⟨H, Mu ad τ0, fo, ad⟩, ad, τ0 ++ List.replicate (N.length - ps.length) .un, endX τ0 Xp, endF τ0 Pw, ?_, ?_, vc τ0 Xp Pw hl0 ok hct, ?_⟩
  · have := R.start (N.length - ps.length)
    unfold L2.start
    rw [hl]
    exact this
  · intro y τ ad' σ dx H' v ⟨τ', e, hx⟩ R' hv xf
    obtain ⟨r1, r2, r3⟩ := R.fin ok R' e
    exact finX y τ' dx H' v hx r3 r1 hv (xf.less r2)
  · refine ⟨fun _ _ _ _ h => h.elim, fun _ _ _ _ _ _ h => h.elim, fun ds τ ad' σ p xs H' ⟨τ', e, hp⟩ R' h0 hf hx dn => ?_, fun _ _ _ _ h => h.elim, fun _ _ _ _ h => h.elim⟩
    have R0 : Rep K ⟨H, Mu ad τ0, fun a => fo a ∨ a = p, ad⟩ ad (vs.map some) τ0 (upd H p (.lst [])) := R.plus h0 (same_upd h0) (by rw [upd_same]; exact fun z => nomatch z)
    have R0' : Rep K ⟨upd H p (.lst []), Mu ad τ0, fun a => fo a ∨ a = p, ad⟩ ad (vs.map some) τ0 (upd H p (.lst [])) := R0.here
    -- the list may stand there from the start, for the parameters' sake
    have g : Go (upd H p (.lst [])) (fun a => Mu ad τ0 a ∨ a = p) H' (fun a => Mu ad' τ a ∨ a = p) := by
      refine ⟨fun a o q n => R'.go.keep a o (by rwa [upd_ne (fun z => n (.inr z))] at q) (fun m => n (.inl m)), fun a m => ?_, fun a q z => ?_⟩
      · rcases m with m | m
        · rcases R'.go.new a m with m | z
          · exact .inl (.inl m)
          · by_cases q : a = p
            · exact .inl (.inr q)
            · exact .inr (by rw [upd_ne q]; exact z)
        · exact .inl (.inr m)
      · by_cases w : a = p
        · rw [w, hx] at z; cases z
        · rw [upd_ne w] at q; exact R'.go.there a q z
    have lsts : Lsts (upd H p (.lst [])) (fun a => Mu ad τ0 a ∨ a = p) := fun a m => by
      by_cases w : a = p
      · exact ⟨[], by rw [w]; exact upd_same⟩
      · obtain ⟨ys, q⟩ := R.lsts a (m.resolve_right w)
        exact ⟨ys, by rw [upd_ne w]; exact q⟩
    obtain ⟨r1, r2, r3⟩ : Rep K ⟨H, Mu ad τ0, fun a => fo a ∨ a = p, ad⟩ ad (vs.map some) τ' H' ∧ (∀ a, Bd ⟨H, Mu ad τ0, fun a => fo a ∨ a = p, ad⟩ ad τ' a → Bd ⟨H, Mu ad τ0, fun a => fo a ∨ a = p, ad⟩ ad' τ a) ∧ kept τ0 τ' := by
      have own : ∀ {j : Nat} {es : List D}, OwnAt τ' j es → ∃ ds : List D, τ0[j]? = some (.io ds) ∧ τ[j]? = some (.io es) := fun {j es} h => by
        cases q : τ0[j]? with
        | none => rcases h with h | h <;> (rw [(endT_get e j).2.2 q] at h; cases h)
        | some s =>
          rcases okPar_get ok q with ⟨d, rfl⟩ | ⟨ds, rfl⟩
          · rcases h with h | h <;> (rw [(endT_get e j).1 d q] at h; cases h)
          · obtain ⟨fs, h1, h2⟩ := (endT_get e j).2.1 ds q
            rcases h with h | h <;> (rw [h2] at h; cases h)
            exact ⟨ds, rfl, h1⟩
      have mu : ∀ a, Mu ad τ' a → Mu ad' τ a := fun a ⟨j, ⟨es, h⟩, q⟩ => by
        obtain ⟨ds, h1, h2⟩ := own h
        exact ⟨j, ⟨es, .inr h2⟩, by rw [R'.io j es h2]; exact q⟩
      have bd : ∀ a, Bd ⟨H, Mu ad τ0, fun a => fo a ∨ a = p, ad⟩ ad τ' a → Bd ⟨H, Mu ad τ0, fun a => fo a ∨ a = p, ad⟩ ad' τ a := fun a m => m.elim (fun m => .inl (mu a m)) .inr
      refine ⟨⟨fun j d h => ?_, fun j es h => ?_, fun i j ⟨ds, h⟩ ⟨es, g⟩ q => ?_, fun j es h => rfl, ?_, R'.go.less mu, R'.fo, fun j ⟨es, h⟩ => ?_⟩, bd, fun j ds h => ?_⟩
      · cases q : τ0[j]? with
        | none => rw [(endT_get e j).2.2 q] at h; cases h
        | some s =>
          rcases okPar_get ok q with ⟨d', rfl⟩ | ⟨ds, rfl⟩
          · rw [(endT_get e j).1 d' q] at h
            cases h
            obtain ⟨v, h1, h2⟩ := R0.val j d q
            refine ⟨v, h1, Dn.less (fun a m => ?_) (Dn.go (fo := fo) lsts g (h2.less fun a m => ?_))⟩
            · rcases bd a m with m | m | m
              · exact .inl (.inl m)
              · exact .inr m
              · exact .inl (.inr m)
            · rcases m with (m | m) | m
              · exact .inl m
              · exact .inr (.inr m)
              · exact .inr (.inl m)
          · obtain ⟨fs, h1, h2⟩ := (endT_get e j).2.1 ds q
            rw [h2] at h
            cases h
      · obtain ⟨ds, h1, h2⟩ := own h
        obtain ⟨_, ys, h4, h5⟩ := R'.own j es (.inr h2)
        rw [R'.io j es h2] at h4
        exact ⟨(R.own j ds (.inr h1)).1, ys, h4, h5.less bd⟩
      · obtain ⟨d1, h1, _⟩ := own h
        obtain ⟨d2, h3, _⟩ := own g
        exact R.inj i j ⟨d1, .inr h1⟩ ⟨d2, .inr h3⟩ q
      · rw [endT_len e]; exact R.len
      · obtain ⟨d1, h1, h2⟩ := own h
        have := R'.nfo j ⟨es, .inr h2⟩
        rwa [R'.io j es h2] at this
      · obtain ⟨es, _, h2⟩ := (endT_get e j).2.1 ds h
        exact ⟨es, h2⟩
    exact fin ds τ' p xs H' hp r3 r1 h0 hf hx (dn.less r2)
end

/-! ### a call -/
inductive Ar where
  | v (d : D)
  | s (i : Nat)
abbrev WAr := Ta → XP → (List Ar → Ta → Prop) → Prop
def arNil : WAr := fun τ _ P => P [] τ
def arE (a : WE) (r : WAr) : WAr := fun τ X P => a τ X fun d τ1 => r τ1 X fun as τ2 => P (.v d :: as) τ2
def arS (i : Nat) (r : WAr) : WAr := fun τ X P => hasL τ i ∧ r τ X fun as τ1 => P (.s i :: as) τ1
inductive ArR (K : Fg) (H : Hp) (B : Addr → Prop) (σ : L2.St) : List V → List Ar → Prop
  | nil : ArR K H B σ [] []
  | v {x : V} {vs : List V} {d : D} {as : List Ar} : Dn K H B x d → ArR K H B σ vs as → ArR K H B σ (x :: vs) (.v d :: as)
  | s {x : V} {vs : List V} {i : Nat} {as : List Ar} : σ[i]? = some (some x) → ArR K H B σ vs as → ArR K H B σ (x :: vs) (.s i :: as)
def liftAr (c : LC) (w : WAr) : TA := fun σ H Q => ∃ F ad τ X P, Rep c.K F ad σ τ H ∧ XOk c F X ∧ w τ X P ∧
  ∀ as τ' vs H', P as τ' → Rep c.K F ad σ τ' H' → ArR c.K H' (Bd F ad τ') σ vs as → Q vs H'
theorem useAr {c : LC} {F : Fr} {ad : Nat → Addr} {σ : L2.St} {τ : Ta} {H : Hp} {X : XP} {w : WAr} {P : List Ar → Ta → Prop} {Q : List V → Hp → Prop} (R : Rep c.K F ad σ τ H) (x : XOk c F X) (h : w τ X P)
    (k : ∀ ds τ' vs H', P ds τ' → Rep c.K F ad σ τ' H' → Rep c.K (F.here ad τ H) ad σ τ' H' → ArR c.K H' (Bd F ad τ') σ vs ds → Q vs H') : liftAr c w σ H Q :=
  ⟨F.here ad τ H, ad, τ, X, P, R.here, x.here R, h, fun d τ' v H' p R' dn => k d τ' v H' p (R.back R') R' dn⟩
section
variable {X : Cx} {c : LC} {pos : Pos}
theorem ppr_nil : PA X [] (liftAr c arNil) := PA.imp pa_nil fun σ H Q ⟨F, ad, τ, Xp, P, R, x, h, k⟩ => k [] τ [] H h R .nil
theorem ppr_e {e : Expr} {es : List Expr} {a : WE} {r : WAr} (ha : PE X e (liftE c a)) (hr : PA X es (liftAr c r)) (hs : starEach (e :: es) X.env = (false, eval e X.env) :: starEach es X.env := by rfl) : PA X (e :: es) (liftAr c (arE a r)) :=
  PA.imp (pa_cons ha hr hs) fun σ H Q ⟨F, ad, τ, Xp, P, R, x, h, k⟩ => useE R x h fun d τ1 v H1 h1 R1 _ dn1 => useAr R1 x h1 fun ds τ2 vs H2 h2 R2 R2' dn2 =>
    k _ τ2 _ H2 h2 R2 (.v (R1.carry R2' dn1) dn2)
theorem ppr_s {i : Nat} {y : Str} {p : Pos} {es : List Expr} {r : WAr} (ha : PE X (.Name y p) (tVar i)) (hr : PA X es (liftAr c r)) (hs : starEach (.Name y p :: es) X.env = (false, eval (.Name y p) X.env) :: starEach es X.env := by rfl) : PA X (.Name y p :: es) (liftAr c (arS i r)) :=
  PA.imp (pa_cons ha hr hs) fun σ H Q ⟨F, ad, τ, Xp, P, R, x, ⟨h0, h⟩, k⟩ => ⟨_, (R.tyL h0).1, useAr R x h fun ds τ2 vs H2 h2 R2 R2' dn2 => k _ τ2 _ H2 h2 R2 (.s (R.tyL h0).1 dn2)⟩

def pars (τ : Ta) : List Ar → Option Ta
  | [] => some []
  | .v d :: r => (pars τ r).map (.val d :: ·)
  | .s i :: r => match getL τ i with
    | some ds => (pars τ r).map (.io ds :: ·)
    | none => none
def slotsA : List Ar → List Nat
  | [] => []
  | .v _ :: r => slotsA r
  | .s i :: r => i :: slotsA r
def backA : List Ar → Ta → Ta → Ta
  | .s i :: r, .io ds :: t, τ => setL (backA r t τ) i ds
  | _ :: r, _ :: t, τ => backA r t τ
  | _, _, τ => τ
/-- f(..), by its contract -/
def wFn (n : Nat) (ct : WE) (ar : WAr) : WE := fun τ X P => ar τ X fun as τ1 => ∃ τ0, pars τ1 as = some τ0 ∧ (as.length = n ∧ (slotsA as).Nodup) ∧ ct τ0 (fun x τ' => X x (backA as τ' τ1)) (fun d τ' => P d (backA as τ' τ1))
def wFnF (n : Nat) (ct : WA) (ar : WAr) : WA := fun τ X P => ar τ X fun as τ1 => ∃ τ0, pars τ1 as = some τ0 ∧ (as.length = n ∧ (slotsA as).Nodup) ∧ ct τ0 (fun x τ' => X x (backA as τ' τ1)) (fun d τ' => P d (backA as τ' τ1))
end
end PV
end

section
set_option maxRecDepth 100000
namespace PV
open PySem PySem.Spec PyProof.Rows L2
set_option autoImplicit false

theorem pars_get : ∀ {τ : Ta} {as : List Ar} {τ0 : Ta}, pars τ as = some τ0 → ∀ j : Nat, (as[j]? = none → τ0[j]? = none) ∧ (∀ d : D, as[j]? = some (.v d) → τ0[j]? = some (.val d)) ∧ (∀ i : Nat, as[j]? = some (.s i) → ∃ ds : List D, getL τ i = some ds ∧ τ0[j]? = some (.io ds))
  | _, [], _, h, j => by cases h; exact ⟨fun _ => rfl, fun _ h => (by cases h), fun _ h => (by cases h)⟩
  | τ, .v d :: r, _, h, j => by
    obtain ⟨q, h1, h2⟩ := Option.map_eq_some_iff.mp h
    subst h2
    cases j with
    | zero => exact ⟨fun h => (by cases h), fun e h => (by cases h; rfl), fun i h => (by cases h)⟩
    | succ j => exact pars_get h1 j
  | τ, .s i :: r, _, h, j => by
    unfold pars at h
    cases q : getL τ i with
    | none => rw [q] at h; cases h
    | some ds =>
      rw [q] at h
      obtain ⟨q2, h1, h2⟩ := Option.map_eq_some_iff.mp h
      subst h2
      cases j with
      | zero => exact ⟨fun h => (by cases h), fun e h => (by cases h), fun i h => (by cases h; exact ⟨ds, q, rfl⟩)⟩
      | succ j => exact pars_get h1 j
theorem pars_ok : ∀ {τ : Ta} {as : List Ar} {τ0 : Ta}, pars τ as = some τ0 → okPar τ0
  | _, [], _, h => by cases h; trivial
  | τ, .v d :: r, _, h => by
    obtain ⟨q, h1, h2⟩ := Option.map_eq_some_iff.mp h
    subst h2
    exact (show okPar q from pars_ok (as := r) h1)
  | τ, .s i :: r, _, h => by
    unfold pars at h
    cases q : getL τ i with
    | none => rw [q] at h; cases h
    | some ds =>
      rw [q] at h
      obtain ⟨q2, h1, h2⟩ := Option.map_eq_some_iff.mp h
      subst h2
      exact (show okPar q2 from pars_ok (as := r) h1)
theorem pars_len : ∀ {τ : Ta} {as : List Ar} {τ0 : Ta}, pars τ as = some τ0 → τ0.length = as.length
  | _, [], _, h => by cases h; rfl
  | τ, .v d :: r, _, h => by
    obtain ⟨q, h1, h2⟩ := Option.map_eq_some_iff.mp h
    subst h2
    exact congrArg (· + 1) (pars_len (as := r) h1)
  | τ, .s i :: r, _, h => by
    unfold pars at h
    cases q : getL τ i with
    | none => rw [q] at h; cases h
    | some ds =>
      rw [q] at h
      obtain ⟨q2, h1, h2⟩ := Option.map_eq_some_iff.mp h
      subst h2
      exact congrArg (· + 1) (pars_len (as := r) h1)
section
variable {K : Fg} {H : Hp} {B : Addr → Prop} {σ : L2.St}
theorem ArR.len : ∀ {vs : List V} {as : List Ar}, ArR K H B σ vs as → vs.length = as.length
  | _, _, .nil => rfl
  | _, _, .v _ r => congrArg (· + 1) r.len
  | _, _, .s _ r => congrArg (· + 1) r.len
theorem ArR.get : ∀ {vs : List V} {as : List Ar}, ArR K H B σ vs as → ∀ j : Nat, (∀ d : D, as[j]? = some (.v d) → ∃ x, vs[j]? = some x ∧ Dn K H B x d) ∧ (∀ i : Nat, as[j]? = some (.s i) → ∃ x, vs[j]? = some x ∧ σ[i]? = some (some x))
  | _, _, .nil, j => ⟨fun _ h => (by cases h), fun _ h => (by cases h)⟩
  | _, _, .v dn r, 0 => ⟨fun _ h => (by cases h; exact ⟨_, rfl, dn⟩), fun _ h => (by cases h)⟩
  | _, _, .s e r, 0 => ⟨fun _ h => (by cases h), fun _ h => (by cases h; exact ⟨_, rfl, e⟩)⟩
  | _, _, .v dn r, j + 1 => r.get j
  | _, _, .s e r, j + 1 => r.get j
end
theorem slots_mem : ∀ {as : List Ar} {j i : Nat}, as[j]? = some (.s i) → i ∈ slotsA as
  | .v d :: r, 0, _, h => by cases h
  | .s i :: r, 0, _, h => by cases h; exact List.mem_cons_self
  | .v d :: r, j + 1, _, h => slots_mem (as := r) (j := j) h
  | .s i :: r, j + 1, _, h => List.mem_cons_of_mem _ (slots_mem (as := r) (j := j) h)
theorem slots_inj : ∀ {as : List Ar} {j l i : Nat}, (slotsA as).Nodup → as[j]? = some (.s i) → as[l]? = some (.s i) → j = l
  | .v d :: r, 0, _, _, _, h, _ => by cases h
  | .v d :: r, _ + 1, 0, _, _, _, h => by cases h
  | .v d :: r, j + 1, l + 1, _, n, h, g => congrArg (· + 1) (slots_inj (as := r) n h g)
  | .s i :: r, 0, 0, _, _, _, _ => rfl
  | .s i :: r, 0, l + 1, _, n, h, g => by cases h; exact absurd (slots_mem (as := r) (j := l) g) (List.nodup_cons.mp n).1
  | .s i :: r, j + 1, 0, _, n, h, g => by cases g; exact absurd (slots_mem (as := r) (j := j) h) (List.nodup_cons.mp n).1
  | .s i :: r, j + 1, l + 1, _, n, h, g => congrArg (· + 1) (slots_inj (as := r) (List.nodup_cons.mp n).2 h g)

theorem back_len : ∀ {as : List Ar} {τ' τ : Ta}, (backA as τ' τ).length = τ.length
  | [], _, _ => rfl
  | .v d :: r, [], _ => rfl
  | .s i :: r, [], _ => rfl
  | .v d :: r, s :: t, τ => by unfold backA; exact back_len
  | .s i :: r, .io ds :: t, τ => by unfold backA; rw [setL_len]; exact back_len
  | .s i :: r, .un :: t, τ => by unfold backA; exact back_len
  | .s i :: r, .val d :: t, τ => by unfold backA; exact back_len
  | .s i :: r, .own ds :: t, τ => by unfold backA; exact back_len
/-- the caller's slots behind the call -/
theorem back_own : ∀ {as : List Ar} {τ' τ : Ta}, (slotsA as).Nodup → (∀ j i : Nat, as[j]? = some (.s i) → (∃ es : List D, τ'[j]? = some (.io es)) ∧ IsOwn τ i) → ∀ i : Nat,
    (∀ es : List D, OwnAt (backA as τ' τ) i es → (∃ j : Nat, as[j]? = some (.s i) ∧ τ'[j]? = some (.io es)) ∨ (i ∉ slotsA as ∧ OwnAt τ i es)) ∧ (IsOwn τ i → IsOwn (backA as τ' τ) i)
  | [], τ', τ, _, _, i => by
    have e : backA [] τ' τ = τ := by cases τ' <;> rfl
    rw [e]
    exact ⟨fun es h => .inr ⟨fun m => (by cases m), h⟩, id⟩
  | .v d :: r, [], τ, n, k, i => by
    refine ⟨fun es h => .inr ⟨fun m => ?_, h⟩, id⟩
    exfalso
    -- no list is handed over, as none stands behind
    obtain ⟨j, hj⟩ : ∃ j : Nat, r[j]? = some (Ar.s i) := by
      have go : ∀ (l : List Ar), i ∈ slotsA l → ∃ j : Nat, l[j]? = some (Ar.s i) := fun l => by
        induction l with
        | nil => intro h; cases h
        | cons a l ih =>
          intro h
          cases a with
          | v d => obtain ⟨j, q⟩ := ih h; exact ⟨j + 1, q⟩
          | s z =>
            rcases List.mem_cons.mp h with e | h
            · subst e; exact ⟨0, rfl⟩
            · obtain ⟨j, q⟩ := ih h; exact ⟨j + 1, q⟩
      exact go r m
    obtain ⟨⟨es, q⟩, _⟩ := k (j + 1) i hj
    cases q
  | .s z :: r, [], τ, n, k, i => by
    obtain ⟨⟨es, q⟩, _⟩ := k 0 z rfl
    cases q
  | .v d :: r, s :: t, τ, n, k, i => by
    have ih := back_own (as := r) (τ' := t) (τ := τ) n (fun j i h => k (j + 1) i h) i
    unfold backA
    refine ⟨fun es h => ?_, ih.2⟩
    rcases ih.1 es h with ⟨j, h1, h2⟩ | h
    · exact .inl ⟨j + 1, h1, h2⟩
    · exact .inr h
  | .s z :: r, .io ds :: t, τ, n, k, i => by
    have n2 := List.nodup_cons.mp n
    have ih := fun i => back_own (as := r) (τ' := t) (τ := τ) n2.2 (fun j i h => k (j + 1) i h) i
    unfold backA
    obtain ⟨es0, o0⟩ := (ih z).2 (k 0 z rfl).2
    refine ⟨fun es h => ?_, fun o => ?_⟩
    · rcases own_setL o0 h with ⟨e1, e2⟩ | ⟨ne, h⟩
      · subst e1 e2; exact .inl ⟨0, rfl, rfl⟩
      · rcases (ih i).1 es h with ⟨j, h1, h2⟩ | ⟨h1, h2⟩
        · exact .inl ⟨j + 1, h1, h2⟩
        · exact .inr ⟨fun m => (List.mem_cons.mp m).elim ne h1, h2⟩
    · by_cases e : i = z
      · subst e; exact ⟨ds, setL_own o0⟩
      · obtain ⟨fs, q⟩ := (ih i).2 o
        refine ⟨fs, ?_⟩
        have hz : ∀ es, setL (backA r t τ) z es = (match (backA r t τ)[z]? with | some (.own _) => (backA r t τ).set z (.own es) | some (.io _) => (backA r t τ).set z (.io es) | _ => backA r t τ) := fun _ => rfl
        unfold OwnAt at q ⊢
        rcases o0 with o0 | o0 <;>
        · rw [hz, o0]
          simp only
          rw [List.getElem?_set_ne (Ne.symm e)]
          exact q
  | .s z :: r, .un :: t, τ, n, k, i => by obtain ⟨⟨es, q⟩, _⟩ := k 0 z rfl; cases q
  | .s z :: r, .val d :: t, τ, n, k, i => by obtain ⟨⟨es, q⟩, _⟩ := k 0 z rfl; cases q
  | .s z :: r, .own ds :: t, τ, n, k, i => by obtain ⟨⟨es, q⟩, _⟩ := k 0 z rfl; cases q
theorem setL_val' {τ : Ta} {i : Nat} {es : List D} {j : Nat} {d : D} (g : (setL τ i es)[j]? = some (.val d)) : τ[j]? = some (.val d) := by
  unfold setL at g
  split at g
  · rename_i fs e
    exact setL_val (es := es) (.inl e) (by unfold setL; rw [e]; exact g)
  · rename_i fs e
    exact setL_val (es := es) (.inr e) (by unfold setL; rw [e]; exact g)
  · exact g
theorem setL_io' {τ : Ta} {i : Nat} {es : List D} {j : Nat} {fs : List D} (g : (setL τ i es)[j]? = some (.io fs)) : ∃ gs, τ[j]? = some (.io gs) := by
  unfold setL at g
  split at g
  · rename_i hs e
    exact setL_io (es := es) (.inl e) (by unfold setL; rw [e]; exact g)
  · rename_i hs e
    exact setL_io (es := es) (.inr e) (by unfold setL; rw [e]; exact g)
  · exact ⟨_, g⟩
theorem back_val : ∀ {as : List Ar} {τ' τ : Ta} {i : Nat} {d : D}, (backA as τ' τ)[i]? = some (.val d) → τ[i]? = some (.val d)
  | [], τ', τ, i, d, h => by cases τ' <;> exact h
  | .v _ :: r, [], τ, i, d, h => h
  | .s _ :: r, [], τ, i, d, h => h
  | .v _ :: r, s :: t, τ, i, d, h => back_val (as := r) (τ' := t) h
  | .s z :: r, .io ds :: t, τ, i, d, h => back_val (as := r) (τ' := t) (setL_val' (show (setL (backA r t τ) z ds)[i]? = some (.val d) from h))
  | .s z :: r, .un :: t, τ, i, d, h => back_val (as := r) (τ' := t) h
  | .s z :: r, .val _ :: t, τ, i, d, h => back_val (as := r) (τ' := t) h
  | .s z :: r, .own _ :: t, τ, i, d, h => back_val (as := r) (τ' := t) h
theorem back_io : ∀ {as : List Ar} {τ' τ : Ta} {i : Nat} {fs : List D}, (backA as τ' τ)[i]? = some (.io fs) → ∃ gs, τ[i]? = some (.io gs)
  | [], τ', τ, i, d, h => by cases τ' <;> exact ⟨_, h⟩
  | .v _ :: r, [], τ, i, d, h => ⟨_, h⟩
  | .s _ :: r, [], τ, i, d, h => ⟨_, h⟩
  | .v _ :: r, s :: t, τ, i, d, h => back_io (as := r) (τ' := t) h
  | .s z :: r, .io ds :: t, τ, i, d, h => by
    obtain ⟨gs, q⟩ := setL_io' (show (setL (backA r t τ) z ds)[i]? = some (.io d) from h)
    exact back_io (as := r) (τ' := t) q
  | .s z :: r, .un :: t, τ, i, d, h => back_io (as := r) (τ' := t) h
  | .s z :: r, .val _ :: t, τ, i, d, h => back_io (as := r) (τ' := t) h
  | .s z :: r, .own _ :: t, τ, i, d, h => back_io (as := r) (τ' := t) h

section
variable {K : Fg} {F : Fr} {ad : Nat → Addr} {σ : L2.St} {τ τ0 τ' : Ta} {H H' : Hp} {vs : List V} {as : List Ar}
def adA (ad : Nat → Addr) (as : List Ar) : Nat → Addr := fun j => match as[j]? with
  | some (.s i) => ad i
  | _ => 0
/-- what a callee may not touch -/
def foA (F : Fr) (ad : Nat → Addr) (τ : Ta) (as : List Ar) (τ0 : Ta) : Addr → Prop := fun a => Bd F ad τ a ∧ ¬ Mu (adA ad as) τ0 a
theorem par_own (hp : pars τ as = some τ0) {j : Nat} {ds : List D} (h : OwnAt τ0 j ds) : ∃ i : Nat, as[j]? = some (.s i) ∧ getL τ i = some ds ∧ adA ad as j = ad i := by
  cases q : as[j]? with
  | none => rcases h with h | h <;> (rw [(pars_get hp j).1 q] at h; cases h)
  | some a =>
    cases a with
    | v d => rcases h with h | h <;> (rw [(pars_get hp j).2.1 d q] at h; cases h)
    | s i =>
      obtain ⟨es, h1, h2⟩ := (pars_get hp j).2.2 i q
      rcases h with h | h <;> (rw [h2] at h; cases h)
      exact ⟨i, rfl, h1, by unfold adA; rw [q]⟩
theorem muA (hp : pars τ as = some τ0) : ∀ a, Mu (adA ad as) τ0 a → ∃ i : Nat, i ∈ slotsA as ∧ IsOwn τ i ∧ ad i = a := fun a ⟨j, ⟨ds, h⟩, e⟩ => by
  obtain ⟨i, h1, h2, h3⟩ := par_own (ad := ad) hp h
  exact ⟨i, slots_mem h1, ⟨ds, getL_own h2⟩, by rw [← h3]; exact e⟩
theorem Rep.enter (R : Rep K F ad σ τ H) (ar : ArR K H (Bd F ad τ) σ vs as) (hp : pars τ as = some τ0) (nd : (slotsA as).Nodup) :
    Rep K ⟨H, Mu (adA ad as) τ0, foA F ad τ as τ0, adA ad as⟩ (adA ad as) (vs.map some) τ0 H := by
  have bd : ∀ a, Bd ⟨H, Mu (adA ad as) τ0, foA F ad τ as τ0, adA ad as⟩ (adA ad as) τ0 a → Bd F ad τ a := fun a m => by
    rcases m with m | m
    · obtain ⟨i, _, h, e⟩ := muA hp a m
      exact .inl ⟨i, h, e⟩
    · exact m.1
  refine ⟨fun j d h => ?_, fun j ds h => ?_, fun j l ⟨ds, h⟩ ⟨es, g⟩ e => ?_, fun _ _ _ => rfl, by rw [List.length_map, ar.len, pars_len hp], Go.refl _ _, fun a m => R.bthere a m.1, fun j h m => m.2 ⟨j, h, rfl⟩⟩
  · cases q : as[j]? with
    | none => rw [(pars_get hp j).1 q] at h; cases h
    | some a =>
      cases a with
      | v d' =>
        rw [(pars_get hp j).2.1 d' q] at h
        cases h
        obtain ⟨x, h1, h2⟩ := (ar.get j).1 d q
        exact ⟨x, by rw [List.getElem?_map, h1]; rfl, h2.less bd⟩
      | s i =>
        obtain ⟨es, h1, h2⟩ := (pars_get hp j).2.2 i q
        rw [h2] at h; cases h
  · obtain ⟨i, h1, h2, h3⟩ := par_own (ad := ad) hp h
    obtain ⟨e1, xs, e2, e3⟩ := R.getL h2
    obtain ⟨x, h4, h5⟩ := (ar.get j).2 i h1
    rw [h5] at e1
    cases e1
    rw [h3]
    exact ⟨by rw [List.getElem?_map, h4]; rfl, xs, e2, e3.less bd⟩
  · obtain ⟨i, h1, h2, h3⟩ := par_own (ad := ad) hp h
    obtain ⟨i2, h4, h5, h6⟩ := par_own (ad := ad) hp g
    rw [h3, h6] at e
    have := R.inj i i2 ⟨ds, getL_own h2⟩ ⟨es, getL_own h5⟩ e
    subst this
    exact slots_inj nd h1 h4
theorem Rep.leave {fo' Ff' : Addr → Prop} (R : Rep K F ad σ τ H) (ar : ArR K H (Bd F ad τ) σ vs as) (hp : pars τ as = some τ0) (nd : (slotsA as).Nodup) (kp : kept τ0 τ')
    (R' : Rep K ⟨H, Mu (adA ad as) τ0, fo', adA ad as⟩ (adA ad as) (vs.map some) τ' H') (g1 : ∀ a, fo' a → foA F ad τ as τ0 a ∨ H a = none) (g2 : ∀ a, Ff' a → fo' a) (g3 : ∀ a, foA F ad τ as τ0 a → fo' a) (g4 : ∀ i : Nat, IsOwn τ i → ¬ Ff' (ad i)) :
    Rep K { F with fo := Ff' } ad σ (backA as τ' τ) H' ∧ ∀ a, Bd { F with fo := Ff' } ad (backA as τ' τ) a → Bd ⟨H, Mu (adA ad as) τ0, fo', adA ad as⟩ (adA ad as) τ' a := by
  have R0 := R.enter ar hp nd
  have hk : ∀ j i : Nat, as[j]? = some (.s i) → (∃ es : List D, τ'[j]? = some (.io es)) ∧ IsOwn τ i := fun j i h => by
    obtain ⟨ds, h1, h2⟩ := (pars_get hp j).2.2 i h
    exact ⟨kp j ds h2, ⟨ds, getL_own h1⟩⟩
  have bo := back_own nd hk
  have isown : ∀ {i : Nat}, IsOwn (backA as τ' τ) i → IsOwn τ i := fun {i} ⟨es, h⟩ => by
    rcases (bo i).1 es h with ⟨j, h1, _⟩ | ⟨_, h⟩
    · exact (hk j i h1).2
    · exact ⟨es, h⟩
  have mu : ∀ a, Mu ad (backA as τ' τ) a → Mu ad τ a := fun a ⟨i, h, e⟩ => ⟨i, isown h, e⟩
  have nomu : ∀ {i : Nat}, i ∉ slotsA as → IsOwn τ i → ¬ Mu (adA ad as) τ0 (ad i) := fun {i} hn ho m => by
    obtain ⟨z, h1, h2, h3⟩ := muA hp _ m
    have := R.inj z i h2 ho h3
    subst this
    exact hn h1
  have bd : ∀ a, Bd { F with fo := Ff' } ad (backA as τ' τ) a → Bd ⟨H, Mu (adA ad as) τ0, fo', adA ad as⟩ (adA ad as) τ' a := fun a m => by
    rcases m with ⟨i, ⟨es, h⟩, e⟩ | m
    · rcases (bo i).1 es h with ⟨j, h1, h2⟩ | ⟨hn, h⟩
      · exact .inl ⟨j, ⟨es, .inr h2⟩, by unfold adA; rw [h1]; exact e⟩
      · refine .inr (g3 a ⟨.inl ⟨i, ⟨es, h⟩, e⟩, ?_⟩)
        rw [← e]
        exact nomu hn ⟨es, h⟩
    · exact .inr (g2 a m)
  have up : ∀ a, Bd ⟨H, Mu (adA ad as) τ0, foA F ad τ as τ0, adA ad as⟩ (adA ad as) τ0 a → Bd F ad τ a := fun a m => by
    rcases m with m | m
    · obtain ⟨i, _, h, e⟩ := muA hp a m
      exact .inl ⟨i, h, e⟩
    · exact m.1
  have carry : ∀ {v : V} {d : D}, Dn K H (Bd F ad τ) v d → Dn K H' (Bd { F with fo := Ff' } ad (backA as τ' τ)) v d := fun h => Dn.less bd (Dn.go2 (fo := foA F ad τ as τ0) (fo' := fo') R0.lsts R'.go g1 (h.less up))
  have carryA : ∀ {v : List V} {d : List D}, DnA K H (Bd F ad τ) v d → DnA K H' (Bd { F with fo := Ff' } ad (backA as τ' τ)) v d := fun h => DnA.less bd (DnA.go2 (fo := foA F ad τ as τ0) (fo' := fo') R0.lsts R'.go g1 (h.less up))
  refine ⟨⟨fun i d h => ?_, fun i es h => ?_, fun i j h g e => R.inj i j (isown h) (isown g) e, fun i es h => ?_, by rw [back_len]; exact R.len, R.go.trans ⟨fun a o e n => R'.go.keep a o e fun m => ?_, fun a m => .inl (mu a m), R'.go.there⟩, fun a m => R'.fo a (g2 a m), fun i h => g4 i (isown h)⟩, bd⟩
  · obtain ⟨v, h1, h2⟩ := R.val i d (back_val h)
    exact ⟨v, h1, carry h2⟩
  · rcases (bo i).1 es h with ⟨j, h1, h2⟩ | ⟨hn, h⟩
    · obtain ⟨ds, ho⟩ := (hk j i h1).2
      obtain ⟨_, xs, h4, h5⟩ := R'.own j es (.inr h2)
      have e : adA ad as j = ad i := by unfold adA; rw [h1]
      rw [e] at h4
      exact ⟨(R.own i ds ho).1, xs, h4, h5.less bd⟩
    · obtain ⟨h1, xs, h2, h3⟩ := R.own i es h
      exact ⟨h1, xs, R'.go.keep _ _ h2 (nomu hn ⟨es, h⟩), carryA h3⟩
  · obtain ⟨gs, q⟩ := back_io h
    exact R.io i gs q
  · obtain ⟨i, _, h, e'⟩ := muA hp a m
    exact n ⟨i, h, e'⟩
end

section
variable {X : Cx} {c : LC} {pos : Pos} {k : Nat} {f : Addr} {fd : FuncData} {ps : List Str} {x : Str} {p : Pos} {e : Expr} {es : List Expr} {w : WAr}
theorem foA_fo {F : Fr} {ad : Nat → Addr} {τ τ0 : Ta} {as : List Ar} {K : Fg} {σ : L2.St} {H : Hp} (R : Rep K F ad σ τ H) (hp : pars τ as = some τ0) : ∀ a, F.fo a → foA F ad τ as τ0 a := fun a m => ⟨.inr m, fun q => by
  obtain ⟨i, _, h, e⟩ := muA hp a q
  exact R.nfo i h (by rw [e]; exact m)⟩
theorem call_use {ct : WE} {n : Nat} {σ : L2.St} {H : Hp} {Q : VK} {F : Fr} {ad : Nat → Addr} {τ : Ta} {Xp : XP} {P : D → Ta → Prop} (R : Rep c.K F ad σ τ H) (xo : XOk c F Xp) {as : List Ar} {vs : List V} (ar : ArR c.K H (Bd F ad τ) σ vs as) (hn : vs.length = n)
    {τ0 : Ta} (hp : pars τ as = some τ0) (nd : (slotsA as).Nodup) (h : ct τ0 (fun x τ' => Xp x (backA as τ' τ)) (fun d τ' => P d (backA as τ' τ)))
    (k : ∀ d τ' v H', P d τ' → Rep c.K F ad σ τ' H' → Dn c.K H' (Bd F ad τ') v d → Q v H') : spOf c.K c.cl n ct vs H Q (L2.WE c.W σ) := by
  refine ⟨hn, foA F ad τ as τ0, adA ad as, τ0, _, _, pars_ok hp, R.enter ar hp nd, h, fun d τ' v H' p kp R' dn => ?_, fun y τ' dx H' v p kp R' hv xf => ?_⟩
  · obtain ⟨r1, r2⟩ := R.leave (Ff' := F.fo) ar hp nd kp R' (fun a m => .inl m) (foA_fo R hp) (fun a m => m) R.nfo
    exact k d _ v H' p r1 (dn.less r2)
  · obtain ⟨r1, r2⟩ := R.leave (Ff' := F.fo) ar hp nd kp R' (fun a m => .inl m) (foA_fo R hp) (fun a m => m) R.nfo
    exact xo y _ ad σ dx H' v p r1 hv (xf.less r2)
theorem call_useF {ct : WA} {n : Nat} {σ : L2.St} {H : Hp} {Q : VK} {F : Fr} {ad : Nat → Addr} {τ : Ta} {Xp : XP} {P : List D → Ta → Prop} (R : Rep c.K F ad σ τ H) (xo : XOk c F Xp) {as : List Ar} {vs : List V} (ar : ArR c.K H (Bd F ad τ) σ vs as) (hn : vs.length = n)
    {τ0 : Ta} (hp : pars τ as = some τ0) (nd : (slotsA as).Nodup) (h : ct τ0 (fun x τ' => Xp x (backA as τ' τ)) (fun d τ' => P d (backA as τ' τ)))
    (k : ∀ ds τ' p xs H', P ds τ' → Rep c.K { F with fo := fun a => F.fo a ∨ a = p } ad σ τ' H' → F.H0 p = none → ¬ F.fo p → H' p = some (.lst xs) → DnA c.K H' (Bd { F with fo := fun a => F.fo a ∨ a = p } ad τ') xs ds → Q (.ref p) H') :
    spOfF c.K c.cl n ct vs H Q (L2.WE c.W σ) := by
  refine ⟨hn, foA F ad τ as τ0, adA ad as, τ0, _, _, pars_ok hp, R.enter ar hp nd, h, fun ds τ' p xs H' pp kp R' h0 hf hx dn => ?_, fun y τ' dx H' v p kp R' hv xf => ?_⟩
  · obtain ⟨r1, r2⟩ := R.leave (Ff' := fun a => F.fo a ∨ a = p) ar hp nd kp R' (fun a m => m.elim .inl fun e => .inr (by rw [e]; exact h0)) (fun a m => m.elim (fun m => .inl (foA_fo R hp a m)) .inr) (fun a m => .inl m) (fun i hi m => by
      rcases m with m | m
      · exact R.nfo i hi m
      · obtain ⟨ys, q⟩ := R.lsts (ad i) ⟨i, hi, rfl⟩
        rw [m, h0] at q; cases q)
    exact k ds _ p xs H' pp r1 (R.free0 h0) (R.freeF h0) hx (dn.less r2)
  · obtain ⟨r1, r2⟩ := R.leave (Ff' := F.fo) ar hp nd kp R' (fun a m => .inl m) (foA_fo R hp) (fun a m => m) R.nfo
    exact xo y _ ad σ dx H' v p r1 hv (xf.less r2)
theorem ar_len {F : Fr} {ad : Nat → Addr} {τ : Ta} {H : Hp} {σ : L2.St} {K : Fg} {vs : List V} {as : List Ar} (ar : ArR K H (Bd F ad τ) σ vs as) {τ0 : Ta} (hp : pars τ as = some τ0) : vs.length = τ0.length := by rw [ar.len, pars_len hp]
/-- f(a, ..) -/
theorem ppe_fn {ct : WE} {n : Nat} (G : FnG X.prog X.w X.K X.mg X.base k f fd ps (spOf X.K c.cl n ct)) (hK : c.K = X.K) (hr : Room k X.A) (hg0 : X.A.guards = some []) (hg : Gl X x) (hm : X.mg x = some (.ref f)) (hk : PySem.W.keepIn X.K (.ref f) = true) (hb : Binds X.K fd ps []) (tk : Takes X c.W)
    (ha : PA X (e :: es) (liftAr c w)) (hdb : (x == ("__debug__" : Str)) = false := by decide) (he : starEach (e :: es) X.env = (false, eval e X.env) :: starEach es X.env := by rfl) (hpl : (backTo pos (starEach es X.env)).any (·.1) = false := by rfl) :
    PE X (.Call (.Name x p) (e :: es) [] pos) (liftE c (wFn n ct w)) :=
  PE.imp (pe_callG G hr hg0 hg hm hk hb tk ha hdb he hpl) fun σ H Q ⟨F, ad, τ, Xp, P, R, xo, h, kk⟩ => useAr R xo h fun as τ1 vs H1 ⟨τ0, hp, ⟨hl, nd⟩, q⟩ R1 _ ar => by
    rw [← hK]
    exact call_use R1 xo ar (by rw [ar.len]; exact hl) hp nd q kk
theorem ppf_fn {ct : WA} {n : Nat} (G : FnG X.prog X.w X.K X.mg X.base k f fd ps (spOfF X.K c.cl n ct)) (hK : c.K = X.K) (hr : Room k X.A) (hg0 : X.A.guards = some []) (hg : Gl X x) (hm : X.mg x = some (.ref f)) (hk : PySem.W.keepIn X.K (.ref f) = true) (hb : Binds X.K fd ps []) (tk : Takes X c.W)
    (ha : PA X (e :: es) (liftAr c w)) (hdb : (x == ("__debug__" : Str)) = false := by decide) (he : starEach (e :: es) X.env = (false, eval e X.env) :: starEach es X.env := by rfl) (hpl : (backTo pos (starEach es X.env)).any (·.1) = false := by rfl) :
    PE X (.Call (.Name x p) (e :: es) [] pos) (liftF c (wFnF n ct w)) :=
  PE.imp (pe_callG G hr hg0 hg hm hk hb tk ha hdb he hpl) fun σ H Q ⟨F, ad, τ, Xp, P, R, xo, h, kk⟩ => useAr R xo h fun as τ1 vs H1 ⟨τ0, hp, ⟨hl, nd⟩, q⟩ R1 _ ar => by
    rw [← hK]
    exact call_useF R1 xo ar (by rw [ar.len]; exact hl) hp nd q kk
end
end PV
end

section
set_option maxRecDepth 100000
namespace PV
open PySem PySem.Spec PyProof.Rows L2
set_option autoImplicit false

/-! ### the head, where the law's def is told over data -/
def lawCt (n : Nat) : WE := fun τ X P => (∃ ns : List Int, ns.length ≤ n ∧ τ = [.val (.list (ns.map PyData.int))]) ∧ P (.bool true) τ
theorem dnA_ints {K : Fg} {H : Hp} {B : Addr → Prop} : ∀ ns : List Int, DnA K H B (ns.map V.int) (ns.map PyData.int)
  | [] => .nil
  | n :: ns => .cons (.int n) (dnA_ints ns)
/-- the script: a list of the heap, or one that the top has written -/
theorem enter_law {K : Fg} {cl : Str → Option Value} {n : Nat} {H : Hp} {a : Addr} {ns : List Int} (hn : ns.length ≤ n) (hr : Rd H a (.lst (ns.map V.int))) :
    spOf K cl 1 (lawCt n) [.ref a] H (fun v _ => v = .bl true) fun _ _ _ => False := by
  have no : ∀ {j : Nat} {ds : List D}, ¬ OwnAt [.val (.list (ns.map PyData.int))] j ds := fun {j ds} h => by
    rcases h with h | h <;> (cases j with
      | zero => cases h
      | succ j => cases h)
  refine ⟨rfl, fun _ => False, fun _ => 0, [.val (.list (ns.map PyData.int))], fun d _ => d = .bool true, fun _ _ => False, trivial, ?_, ⟨⟨ns, hn, rfl⟩, rfl⟩, fun d τ' v H' hd _ _ dn => ?_, fun _ _ _ _ _ h => h.elim⟩
  · refine ⟨fun j d h => ?_, fun j ds h => (no h).elim, fun i j ⟨ds, h⟩ => (no h).elim, fun j ds h => (no (.inr h)).elim, rfl, Go.refl _ _, fun _ h => h.elim, fun j ⟨ds, h⟩ => (no h).elim⟩
    cases j with
    | zero =>
      cases h
      refine ⟨.ref a, rfl, .lst hr (fun m => ?_) (dnA_ints ns)⟩
      rcases m with ⟨i, ⟨ds, h⟩, _⟩ | m
      · exact no h
      · exact m
    | succ j => cases h
  · subst hd
    cases dn
    rfl
section
variable {P : Program} {w : World} {K : Fg} {mg mb : Str → Option Value} {k : Nat} {fa a : Addr} {fd : FuncData} {x : Str} {s : Shared} {vs : List Value} {ns : List Int} {n : Nat} {cl : Str → Option Value}
theorem call_lawG (inK : K.In s.heap) (nsG : s.heap.Ns mainGlobals mg) (nsB : s.heap.Ns builtinsNs mb) (boot : ∀ x : Str, x ≠ "__name__" → mb x = bootBuiltins x) (lim : s.heap.NoLimit) (g0 : s.gens = #[])
    (sc : s.heap.get? a = some { cls := .type "list", data := .seq vs.toArray }) (hi : IntsAre vs ns) (hn : ns.length ≤ n) (h63 : n ≤ sizeLine) (room : Room k callerA)
    (G : ∀ base : Heap, K.In base → base.Ns mainGlobals mg → FnG P w K mg base k fa fd [x] (spOf K cl 1 (lawCt n))) (bind : ∀ (s : Shared) (u : Value), BindsTo s fd ⟨[u], []⟩ [(x, u)]) (out : K.lookup a = none) :
    codeAny (model P w) callerA (.call (.ref fa) ⟨[.ref a], []⟩) (fun r s' => r = .ok (.ret (.bool true)) ∧ OldK s.heap s'.heap ∧ s'.os = s.os ∧ AllBare s'.gens) s := by
  have rv := vals_ints hi
  have lv := hi.length
  let scr : HO := .frz { cls := .type "list", data := .seq vs.toArray } (.lst (ns.map V.int))
  let H : Hp := fun b => if b = a then some scr else none
  have Ha : H a = some scr := if_pos rfl
  have Hb : ∀ {b}, b ≠ a → H b = none := fun h => if_neg h
  have told : ∀ {b u}, H b = some u → b = a ∧ u = scr := fun {b u} z => by
    by_cases q : b = a
    · subst q; exact ⟨rfl, (Option.some.inj (Ha.symm.trans z)).symm⟩
    · rw [Hb q] at z; cases z
  have hok : HOk P w H s.heap := fun b u z => by
    obtain ⟨rfl, rfl⟩ := told z
    exact ⟨sc, by rw [List.length_map]; exact Nat.le_trans hn h63, vs, _, rv, sc⟩
  have seen : ∀ {b : Addr} {o : Obj}, s.heap.get? b = some o → b ≠ a → (hidT s.heap H).get? b = some o := fun e q => hidT_get e (Hb q)
  have dict : ∀ {b : Addr} {m : Str → Option Value}, s.heap.Ns b m → (hidT s.heap H).Ns b m := fun {b m} ⟨o, es, ep, e, d, r⟩ => by
    have q : b ≠ a := fun q => by
      subst q
      have e2 := Option.some.inj (sc.symm.trans e)
      rw [← e2] at d
      have d' : Data.seq vs.toArray _ = Data.dict es ep := d
      cases d'
    exact ⟨o, es, ep, seen e q, d, r⟩
  have inB : K.In (hidT s.heap H) := fun b o e => seen (inK b o e) fun q => by rw [q, out] at e; cases e
  have env0 : Env0 P w K mg (hidT s.heap H) callerA [] s H :=
    ⟨rfl, ⟨inB, dict nsG, ⟨mb, dict nsB, boot⟩, let ⟨mc, h1, h2⟩ := lim; ⟨mc, dict h1, h2⟩⟩, fun b o e => of_hidT e, Nat.le_of_eq (hidT_size _ _), trivial, fun b hb => absurd (show b ∈ ([] : List Addr) from hb) (by simp), hok, .of_eq g0⟩
  refine codeAny_mono ((G _ inB (dict nsG)).run callerA [] s H ⟨[.ref a], []⟩ [.ref a] [.ref a] _ _ room rfl env0 (bind s (.ref a)) (.cons rfl .nil) (enter_law hn (.inr ⟨_, Ha⟩))) fun r s' h => ?_
  cases r with
  | error e =>
    obtain ⟨_, _, _, _, _, _, _, _, _, _, _, _, z⟩ := h
    exact z.elim
  | ok fl =>
    cases fl with
    | next => exact False.elim h
    | brk => exact False.elim h
    | cont => exact False.elim h
    | ret u =>
      obtain ⟨v, H', os, bare, un, hok', r', q⟩ := h
      have q' : v = .bl true := q
      subst q'
      obtain rfl : u = Value.bool true := r'
      refine ⟨rfl, OldK.of_keep fun b o e => ?_, os, bare⟩
      by_cases q : b = a
      · subst q
        obtain ⟨e2, _⟩ := hok' b _ (un.frzs b _ _ Ha)
        exact (Option.some.inj (sc.symm.trans e)) ▸ e2
      · exact un.keep b o e (Hb q) (by intro z; exact absurd (show b ∈ ([] : List Addr) from z) (by simp)) (by simp)
end
def isList : Value → Bool
  | .type n => n == "list"
  | _ => false
/-- the top has written no list -/
def noLists (K : Fg) : Bool := K.all fun y => !(isList y.2.cls)
theorem mem_lookup {K : Fg} {a : Addr} {o : Obj} (h : K.lookup a = some o) : (a, o) ∈ K := by
  induction K with
  | nil => cases h
  | cons y K ih =>
    obtain ⟨b, u⟩ := y
    rw [List.lookup_cons] at h
    split at h
    · rename_i e
      cases h
      rw [show a = b from eq_of_beq e]
      exact List.mem_cons_self
    · exact List.mem_cons_of_mem _ (ih h)
theorem noLists_of {K : Fg} {a : Addr} {o : Obj} (n : noLists K = true) (h : K.lookup a = some o) : o.cls ≠ .type "list" := fun e => by
  have := List.all_eq_true.mp n _ (mem_lookup h)
  simp only [e, isList] at this
  exact absurd this (by decide)
/-- what k_head leaves, from the law's def -/
theorem walk_G {l : PySem.W.OpenLaw} {n k : Nat} {q : Program} {loose : List Str} {XP : (Str → Option Value) → Heap → Prop} {YP : World → Heap → Prop} {d : DefRec} {K : Params → Fg} {x : Str}
    (hn : l.most = some n) (hn2 : n ≤ sizeLine) (hdf : d.params.defaults = []) (hr : Room k callerA) (hY : ∀ (w : World) (h : Heap), YP w h → (K w.params).In h)
    (F : ∀ (w : World) (mg : Str → Option Value) (fa : Addr) (h : Heap), (K w.params).In h → h.Ns mainGlobals mg → mg d.name = some (.ref fa) →
      noLists (K w.params) = true ∧ ∃ (fd : FuncData) (cl : Str → Option Value), (∀ (s : Shared) (u : Value), BindsTo s fd ⟨[u], []⟩ [(x, u)]) ∧
        ∀ base : Heap, (K w.params).In base → base.Ns mainGlobals mg → FnG l.prog w (K w.params) mg base k fa fd [x] (spOf (K w.params) cl 1 (lawCt n))) :
    PySem.W.WalkO q loose XP YP l.row.toRowW d [] (fun f vs => PySem.call f vs) :=
  Att.attach_call hn hdf fun w s₀ s₁ mg mb fa o pm cd doc a vs ns G Y ho hd hcd hmg hobj hints hlen hg => by
    obtain ⟨nl, fd, cl, hb, hF⟩ := F w mg fa _ (hY w _ Y) G.T.g hmg
    refine call_lawG (hY w _ Y) G.T.g G.T.b G.T.builtins G.T.nolimit hg hobj hints hlen hn2 hr hF hb ?_
    cases e : (K w.params).lookup a with
    | none => rfl
    | some u =>
      have e2 := hY w _ Y _ _ e
      rw [hobj] at e2
      cases e2
      exact absurd rfl (noLists_of nl e)
end PV
end

section
set_option maxRecDepth 100000
namespace PV
open PySem PySem.Spec PyProof.Rows L2
set_option autoImplicit false

/-! ### set(texts): how many texts there are -/
def stepS (σ : List Str) (z : Str) : List Str := if σ.any (· == z) then σ else σ ++ [z]
def metS (xs : List Str) : Nat → List Str
  | 0 => []
  | i + 1 => stepS (metS xs i) (xs.getD i Str.empty)
theorem metS_le (xs : List Str) : ∀ i, (metS xs i).length ≤ i
  | 0 => Nat.le_refl _
  | i + 1 => by
    have ih := metS_le xs i
    unfold metS stepS
    split <;> simp <;> omega
theorem stepS_any (σ : List Str) (z k : Str) : (stepS σ z).any (· == k) = (σ.any (· == k) || decide (k = z)) := by
  unfold stepS
  by_cases e : k = z
  · subst e
    cases h : σ.any (· == k) <;> simp [h]
  · have ne : (z == k) = false := by simpa [beq_iff_eq] using fun q : z = k => e q.symm
    cases h : σ.any (· == z) <;> simp [h, e, ne]
theorem stepS_len (σ : List Str) (z : Str) : (stepS σ z).length = if σ.any (· == z) then σ.length else σ.length + 1 := by
  unfold stepS
  cases h : σ.any (· == z) <;> simp [h]
theorem metS_nodup {xs : List Str} (h : xs.Nodup) : ∀ i, i ≤ xs.length → metS xs i = xs.take i
  | 0, _ => rfl
  | i + 1, hi => by
    have hlt : i < xs.length := hi
    have e : xs.getD i Str.empty = xs[i] := by
      rw [List.getD_eq_getElem?_getD, List.getElem?_eq_getElem hlt]; rfl
    have out : (xs.take i).any (· == xs[i]) = false := by
      rw [List.any_eq_false]
      intro y hy q
      obtain ⟨j, hj, ej⟩ := List.mem_take_iff_getElem.mp hy
      have q2 : y = xs[i] := eq_of_beq q
      have hji : j < i := by omega
      exact absurd (ej.trans q2) (List.pairwise_iff_getElem.mp h j i (by omega) hlt hji)
    rw [metS, metS_nodup h i (by omega), e, stepS, out, List.take_add_one, List.getElem?_eq_getElem hlt]
    rfl
section
variable {P : Program} {w : World} {A : Around} {R : Result → Shared → Prop} {I : Addr} {fp wr : List Addr} {G : Array GenState → Array GenState → Prop} {n : Nat} {Pv : Nat → Value → Prop} {St : Nat → Shared → Prop}
abbrev SetAt (P : Program) (w : World) (h : Heap) (D : Addr) (σ : List Str) : Prop := h.SetOf (PySem.strKind P w) D (fun z => σ.any (· == z)) σ.length
theorem SetAt.move {h h' : Heap} {D : Addr} {σ : List Str} (k : ∀ o, h.get? D = some o → h'.get? D = some o) : SetAt P w h D σ → SetAt P w h' D σ := fun ⟨o, es, ep, t, ho, r⟩ => ⟨o, es, ep, t, k o ho, r⟩
theorem fill_set (W : WalksS P w A.in1 I fp wr G n Pv St) (D : Addr) (out : D ∉ fp) (xs : List Str) (val : ∀ i v, Pv i v → ∃ t, v = .str (xs.getD i Str.empty) t) (small : n + 1 < scanBound) :
    ∀ (k i : Nat) (s : Shared), n - i = k → i ≤ n → St i s → SetAt P w s.heap D (metS xs i) →
      (∀ u, Moved (D :: wr) G s u → SetAt P w u.heap D (metS xs n) → R (.ok (.ret .none)) u) → codeAny (model P w) A (.builtin "set.update.loop" ⟨[.ref D, .ref I], []⟩) R s
  | 0, i, s, hk, hi, st, hS, q => by
    obtain rfl : i = n := by omega
    refine codeAny_builtin PyProof.Rows.F.entry_set_update_loop ?_
    rw [Around.under_plainId PyProof.Rows.F.plain_set_update_loop _]
    change wpAny _ A.in1 (pyNext (.ref I) >>= _) _ _ s
    refine wpAny_bind (W.done s _ _ st fun u m => ?_)
    change wpAny _ A.in1 (ret Value.none) _ _ u
    exact wpAny_pure (q u (m.mono fun b hb => List.mem_cons_of_mem _ hb) (hS.move fun o e => m.heap D _ (fun z => out (W.sub _ z)) e))
  | k + 1, i, s, hk, hi, st, hS, q => by
    have hlt : i < n := by omega
    refine codeAny_builtin PyProof.Rows.F.entry_set_update_loop ?_
    rw [Around.under_plainId PyProof.Rows.F.plain_set_update_loop _]
    change wpAny _ A.in1 (pyNext (.ref I) >>= _) _ _ s
    refine wpAny_bind (W.item i s _ _ hlt st fun v s1 hP st1 m => ?_)
    obtain ⟨t, rfl⟩ := val i v hP
    have hS1 : SetAt P w s1.heap D (metS xs i) := hS.move fun o e => m.heap D _ (fun z => out (W.sub _ z)) e
    change wpAny _ A.in1 (holding [Value.str (xs.getD i Str.empty) t] (setAdd D (.str (xs.getD i Str.empty) t)) >>= _) _ _ s1
    refine wpAny_bind (wpAny_holding ?_)
    unfold setAdd
    refine wpAny_holding (wpAny_bind ((PySem.strKind P w).pyHash (k := xs.getD i Str.empty) (strKind_is _ _ _ _) ?_))
    have room : (metS xs i).length + 1 < scanBound := Nat.lt_of_le_of_lt (Nat.add_le_add_right (metS_le xs i) 1) (by omega)
    refine wpAny_setAddHashed_of (s := { s1 with toks := s1.toks + 1 }) (knd := PySem.strKind P w) (strKind_is _ _ _ _) rfl hS1 room fun h2 sb hS2 => ?_
    have hS3 : SetAt P w h2 D (metS xs (i + 1)) := PyProof.Rows.SetOf_congr hS2 (fun z => (stepS_any _ _ z).symm) (stepS_len _ _).symm
    have stay : ∀ b o, b ≠ D → s1.heap.get? b = some o → h2.get? b = some o := fun b o ne e => (sb.2 b ne).trans e
    refine wpAny_pure ⟨plainId_quiet PyProof.Rows.F.plain_set_update_loop _, fill_set W D out xs val small k (i + 1) _ (by omega) hlt
      (W.frame _ s1 _ _ st1 (Nat.le_succ _) fun b hb o e => stay b o (fun z => out (by rw [← z]; exact hb)) e) hS3 fun u m2 hu => q u (Moved.trans W.gtrans ((m.mono fun b hb => List.mem_cons_of_mem _ hb).then_heap (Nat.le_succ _) fun b o hb e => ?_) m2) hu⟩
    exact stay b o (fun z => hb (by rw [z]; exact List.mem_cons_self)) e
end
section
variable {P : Program} {w : World} {A : Around} {E : Value → Shared → Prop} {s : Shared}
abbrev emptySet (led : Bool) : Obj := { cls := .type "set", dict := none, data := .set #[] 0 (.fresh 0 0 led) }
set_option maxHeartbeats 3200000 in
theorem set_texts {l : Addr} {its : Array Value} {xs : List Str} {Q : Value → Shared → Prop} (hd : A.handled = none) (hl : s.heap.IsList l its) (hi : PyProof.Rows.StrsAre its.toList xs) (small : its.size + 1 < scanBound)
    (q : ∀ (h2 : Heap) (tk : Nat), SetAt P w h2 s.heap.objs.size (metS xs its.size) → (∀ b o, b < s.heap.objs.size → s.heap.get? b = some o → h2.get? b = some o) → Q (.ref s.heap.objs.size) { s with heap := h2, toks := tk }) :
    wpAny (model P w) A (call (.type "set") [.ref l]) Q E s := by
  obtain ⟨_, _, mro1⟩ := PySem.F.called_set.mro
  have made1 := PySem.F.called_set.made
  have sub1 := PySem.F.called_set.sub
  refine wpAny_call (codeAny_of_tree ?_)
  change wpAny _ _ (callAny (.type "set") _) _ _ _
  refine wpAny_pure ⟨Code.quiet_builtin _ (by decide +kernel), ?_⟩
  refine codeAny_builtin PySem.F.entry_type_call ?_
  rw [Around.under_plain (weight_type_call_type "set" [.ref l] []) rfl]
  have no1 := PySem.F.called_set.notType
  have can1 := PySem.F.called_set.canCreate
  have chk1 := PySem.F.typeCall_set_1 (.ref l)
  repeat (any_goals (first | assumption | wp_step))
  refine codeAny_mono (code_set_new_1 (.ref l) (E := E) (Q₁ := fun v u => ∃ led : Bool, v = .ref s.heap.objs.size ∧ u = { s with heap := s.heap.push (emptySet led) }) fun led => ⟨led, rfl, rfl⟩) fun r u hr => ?_
  match r, hr with
  | .error _, hr => exact hr
  | .ok .next, hr => exact hr.elim
  | .ok .brk, hr => exact hr.elim
  | .ok .cont, hr => exact hr.elim
  | .ok (.ret v), ⟨led, ev, eu⟩ =>
    subst ev eu
    have at1 : (s.heap.push (emptySet led)).get? s.heap.objs.size = some (emptySet led) := Heap.get?_push_size _ rfl
    have ty1 : Shared.TypeIs { s with heap := s.heap.push (emptySet led) } (.ref s.heap.objs.size) "set" := ⟨_, at1, rfl⟩
    have look1 := PySem.F.called_set.init.lookup
    have bind1 := PySem.F.called_set.init.bind (.ref s.heap.objs.size)
    repeat (any_goals (first | assumption | wp_step))
    refine codeAny_mono (codeAny_call_builtin (R := wants (fun r u => r = .none ∧ ∃ h2 tk, u = { s with heap := h2, toks := tk } ∧ SetAt P w h2 s.heap.objs.size (metS xs its.size) ∧ (∀ b o, b < s.heap.objs.size → s.heap.get? b = some o → h2.get? b = some o)) E)
      PySem.F.called_set.init.plain PySem.F.entry_set_init (check_set_init_1 ty1 ?_)) fun r2 u2 hr2 => ?_
    · obtain ⟨⟨_, dd, _, sl⟩, ho, hc, nl, hdat⟩ := hl
      simp only at hc hdat
      subst hc hdat
      have ho1 : (s.heap.push (emptySet led)).get? l = some { cls := .type "list", dict := dd, data := .seq its nl, slots := sl } := Heap.get?_push_of_some _ ho
      have ns1 := PySem.F.sub_list_set
      have ns2 := PySem.F.sub_list_frozenset
      have ns3 : (Value.type "list" == Value.type "dict") = false := by decide
      have li1 : (s.heap.push (emptySet led)).IsList l its := ⟨_, ho1, rfl, nl, rfl⟩
      unfold Builtin.«set.__init__» noKeywords Builtin.Frozenset.updateFrom
      generalize hit : pyIter = itf
      wp_walk
      subst hit
      refine wpAny_pyIter_list li1 (wpAny_bind (wpAny_runValue ?_))
      have lt1 : l < s.heap.objs.size := Heap.lt_size ho
      have hd3 : A.in1.in1.in1.handled = none := by simp [hd]
      have size1 : (s.heap.push (emptySet led)).objs.size = s.heap.objs.size + 1 := Heap.size_push ..
      have val1 : ∀ (i : Nat) (v : Value), its[i]? = some v → ∃ t, v = .str (xs.getD i Str.empty) t := fun i v hv => SS.strs_at hi i v (by rw [Array.getElem?_toList]; exact hv)
      refine fill_set ((Walks.list hd3 _ l (by rw [size1]; exact Nat.ne_of_lt (Nat.lt_succ_of_lt lt1)) its).toS) s.heap.objs.size (by rw [size1]; simp only [List.mem_cons, List.not_mem_nil, or_false, not_or]; exact ⟨Nat.ne_of_lt (Nat.lt_succ_self _), Nat.ne_of_gt lt1⟩) xs val1 small (its.size - 0) 0 _ (by omega) (Nat.zero_le _)
        ⟨⟨_, Heap.get?_push_size _ rfl, rfl, rfl⟩, li1.push _⟩ ?first ?last
      case first => exact PyProof.Rows.SetOf_congr ((PyProof.Rows.setObjOf_fresh (knd := PySem.strKind P w) led).setOf (Heap.get?_push_of_some _ at1) (by unfold scanBound; omega)) (fun _ => rfl) rfl
      case last =>
        rintro ⟨h2, g2, d2, tk2, os2⟩ m hS
        obtain rfl : g2 = s.gens := m.gens
        obtain rfl : d2 = s.drawn := m.drawn
        obtain rfl : os2 = s.os := m.os
        change wpAny _ _ _ _ _ _
        refine wpAny_pure ?_
        change wpAny _ _ (ret Value.none) _ _ _
        refine wpAny_pure ⟨rfl, h2, tk2, rfl, hS, fun b o hb e => m.heap b o ?_ (Heap.get?_push_of_some _ (Heap.get?_push_of_some _ e))⟩
        rw [size1]
        simp only [List.mem_cons, List.not_mem_nil, or_false, not_or]
        exact ⟨Nat.ne_of_lt hb, Nat.ne_of_lt (Nat.lt_succ_of_lt hb)⟩
    · match r2, hr2 with
      | .error _, hr2 => exact hr2
      | .ok .next, hr2 => exact hr2.elim
      | .ok .brk, hr2 => exact hr2.elim
      | .ok .cont, hr2 => exact hr2.elim
      | .ok (.ret _), ⟨e1, h2, tk2, e2, hS, hk⟩ =>
        subst e1 e2
        repeat (any_goals (first | assumption | wp_step))
        exact q _ _ hS hk
end
end PV
end

section
set_option maxRecDepth 100000
namespace PV
open PySem PySem.Spec PyProof.Rows L2
set_option autoImplicit false
section
variable {X : Cx} {c : LC} {pos : Pos}
/-! ### names of the module -/
theorem ppe_gI {x : Str} {i : Int} {t : Tok} (hg : Gl X x) (hm : X.mg x = some (.int i t)) (hd : (x == ("__debug__" : Str)) = false := by decide) : PE X (.Name x pos) (liftE c (wC (.int i))) :=
  ppe_c (pe_glob (v := .int i) hg hm ⟨t, rfl⟩ hd) fun _ _ => .int i
theorem ppe_gS {x : Str} {z : Str} {t : Tok} (hg : Gl X x) (hm : X.mg x = some (.str z t)) (hd : (x == ("__debug__" : Str)) = false := by decide) : PE X (.Name x pos) (liftE c (wC (.str z))) :=
  ppe_c (pe_glob (v := .str z) hg hm ⟨t, rfl⟩ hd) fun _ _ => .str z
/-- a value as the top has written it: texts and ints -/
inductive Wr : Value → V → D → Prop
  | int (i : Int) (t : Tok) : Wr (.int i t) (.int i) (.int i)
  | str (z : Str) (t : Tok) : Wr (.str z t) (.str z) (.str z)
inductive WrA : List Value → List V → List D → Prop
  | nil : WrA [] [] []
  | cons {u : Value} {v : V} {d : D} {us : List Value} {vs : List V} {ds : List D} : Wr u v d → WrA us vs ds → WrA (u :: us) (v :: vs) (d :: ds)
theorem WrA.vals : ∀ {us : List Value} {vs : List V} {ds : List D}, WrA us vs ds → Vals vs us
  | _, _, _, .nil => .nil
  | _, _, _, .cons (.int i t) r => .cons ⟨t, rfl⟩ r.vals
  | _, _, _, .cons (.str z t) r => .cons ⟨t, rfl⟩ r.vals
theorem WrA.dn {K : Fg} {H : Hp} {B : Addr → Prop} : ∀ {us : List Value} {vs : List V} {ds : List D}, WrA us vs ds → DnA K H B vs ds
  | _, _, _, .nil => .nil
  | _, _, _, .cons (.int i t) r => .cons (.int i) r.dn
  | _, _, _, .cons (.str z t) r => .cons (.str z) r.dn
/-- a tuple of the module: its place and its items -/
def KTup (K : Fg) (a : Addr) (ds : List D) : Prop := ∃ (us : List Value) (vs : List V) (n : Nat), K.lookup a = some ⟨.type "tuple", none, .seq us.toArray n, #[]⟩ ∧ us.length ≤ sizeLine ∧ WrA us vs ds
theorem ppe_gT {x : Str} {a : Addr} {ds : List D} (hK : c.K = X.K) (hg : Gl X x) (hm : X.mg x = some (.ref a)) (k : KTup c.K a ds) (hd : (x == ("__debug__" : Str)) = false := by decide) : PE X (.Name x pos) (liftE c (wC (.tuple ds))) := by
  obtain ⟨us, vs, n, h1, h2, h3⟩ := k
  exact ppe_c (pe_glob (v := .ref a) hg hm rfl hd) fun H B => .tup (.inr ⟨_, us.toArray, n, h1, rfl, rfl, by rw [List.size_toArray]; exact h2, by simpa using h3.vals⟩) h3.dn

/-! ### len(set(texts)) -/
def strsD : List D → Option (List Str)
  | [] => some []
  | .str z :: r => (strsD r).map (z :: ·)
  | _ :: _ => none
def lenSetD : D → Option D
  | .list ds => match strsD ds with
    | some xs => if xs.length ≤ 4000 then some (.int (metS xs xs.length).length) else none
    | none => none
  | _ => none
theorem strsD_dn {K : Fg} {H : Hp} {B : Addr → Prop} : ∀ {ds : List D} {xs : List Str} {vs : List V}, strsD ds = some xs → DnA K H B vs ds → vs = xs.map V.str
  | [], _, _, h, a => by cases h; cases a; rfl
  | .str b :: r, bs, _, h, a => by
    cases a with
    | cons x a =>
      cases hb : strsD r with
      | none => rw [strsD, hb] at h; cases h
      | some cs =>
        rw [strsD, hb] at h
        cases h
        cases x
        rw [strsD_dn hb a]
        rfl
  | .none :: _, _, _, h, _ => nomatch h
  | .int _ :: _, _, _, h, _ => nomatch h
  | .bool _ :: _, _, _, h, _ => nomatch h
  | .list _ :: _, _, _, h, _ => nomatch h
  | .tuple _ :: _, _, _, h, _ => nomatch h
  | .dict _ :: _, _, _, h, _ => nomatch h
def tLenSetX (K : Fg) (ta : TE) : TE := fun σ H Q => ta σ H fun x H1 => ∃ (l : Addr) (xs : List Str), x = .ref l ∧ SqL K H1 l (xs.map V.str) ∧ xs.length ≤ 4000 ∧ Q (.int ((metS xs xs.length).length : Nat)) H1
theorem pe_lenSetX {a : Expr} {ta : TE} {p p2 q : Pos} (hg : Gl X "len") (hm : X.mg "len" = none) (hg2 : Gl X "set") (hm2 : X.mg "set" = none) (ha : PE X a ta) (hc : X.calm = true)
    (na : starEach [a] X.env = (false, eval a X.env) :: starEach [] X.env := by rfl) : PE X (.Call (.Name "len" p) [.Call (.Name "set" p2) [a] [] q] [] pos) (tLenSetX X.K ta) := by
  refine ⟨fun pins s σ H Q I h => Call_ (ld_blt I hg hm boot_len ?_)⟩
  refine PyProof.Rows.callWith_builtin1 (PyProof.Rows.args_cons (Call_ (ld_blt I hg2 hm2 boot_set ?_)) rfl) rfl rfl
  refine PyProof.Rows.callWith_type1 (PyProof.Rows.args_cons (thn (ha.run pins s σ H _ I h) fun v s1 ⟨x, H1, I1, r1, l, xs, ex, hq, hl, q1⟩ => PyProof.Rows.args_nil ?_) na) na rfl
  subst ex
  cases r1
  obtain ⟨its, r, pl, hz⟩ := I1.list hq
  have hlen : its.toArray.size = xs.length := by rw [List.size_toArray, ← r.length, List.length_map]
  refine set_texts (I1.ok.hd hc) pl.isList (by simpa using strsAre_of r) (by rw [hlen]; unfold scanBound; omega) fun h2 tk hS hk => PyProof.Rows.args_nil ?_
  rw [hlen] at hS
  obtain ⟨o, es, ep, t, ho, hex, hd, _, _, _, hf, hn⟩ := hS
  have I2 : Inv X pins σ H1 { s1 with heap := h2, toks := tk } := I1.kept fun b o e => hk b o (Heap.lt_size e) e
  have le := metS_le xs xs.length
  exact call_len_set ho hex hd hf (by rw [hn]; omega) ⟨.int (metS xs xs.length).length, H1, I2.tok _, ⟨_, by rw [hn]⟩, q1⟩
theorem ppe_lenSet {a : Expr} {w : WE} {p p2 q : Pos} (hK : c.K = X.K) (hc : X.calm = true) (hg : Gl X "len") (hm : X.mg "len" = none) (hg2 : Gl X "set") (hm2 : X.mg "set" = none) (ha : PE X a (liftE c w))
    (na : starEach [a] X.env = (false, eval a X.env) :: starEach [] X.env := by rfl) : PE X (.Call (.Name "len" p) [.Call (.Name "set" p2) [a] [] q] [] pos) (liftE c (wUn lenSetD w)) :=
  PE.imp (pe_lenSetX hg hm hg2 hm2 ha hc na) fun σ H Q ⟨F, ad, τ, Xp, P, R, x, hw, k⟩ => useE R x hw fun d τ1 v H1 ⟨r, h1, p⟩ R1 _ dn => by
    cases dn with
    | @lst a ys ds hs na hd =>
      cases e : strsD ds with
      | none => simp [lenSetD, e] at h1
      | some xs =>
        by_cases hl : xs.length ≤ 4000
        · simp [lenSetD, e, hl] at h1
          subst h1
          have := strsD_dn e hd
          subst this
          rw [← hK]
          exact ⟨a, xs, rfl, .inl hs, hl, k _ _ _ _ p R1 (.int _)⟩
        · simp [lenSetD, e, hl] at h1
    | _ => simp [lenSetD] at h1

/-! ### x += [..], x a list of ours -/
def sExtF (i : Nat) (w : WA) : WS := fun E X τ => hasL τ i ∧ w τ X fun ds τ1 => ∃ es, getL τ1 i = some es ∧ es.length + ds.length ≤ sizeLine ∧ E.nx (setL τ1 i (es ++ ds))
theorem set_same {σ : L2.St} {i : Nat} {o : Option V} (h : σ[i]? = some o) : σ.set i o = σ := by
  apply List.ext_getElem?
  intro j
  by_cases e : i = j
  · subst e
    rw [List.getElem?_set_self (List.getElem?_eq_some_iff.mp h).1, h]
  · rw [List.getElem?_set_ne e]
theorem pps_extF {i : Nat} {x : Str} {e : Expr} {w : WA} {p2 : Pos} (hN : X.N.Nodup) (hi : X.N[i]? = some x) (hx : Loc X.env.scope x) (he : PE X e (liftF c w)) (hf : X.fn x = true ∨ X.env.scope.names.lookup x = some .local := by first | exact .inl rfl | exact .inr rfl | assumption) :
    PS X (.AugAssign (.Name x p2) .Add e pos) (liftS c (sExtF i w)) :=
  PS.imp (ps_aug hN hi hx he iop_ext hf) fun T σ H ⟨F, ad, τ, Xp, E, R, x, ⟨h0, h⟩, eo⟩ => by
    obtain ⟨t1, _⟩ := R.tyL h0
    refine ⟨.ref (ad i), t1, F, ad, τ, Xp, _, R, x, h, fun ds τ' p xs H' ⟨es, q1, q2, q3⟩ R' hp0 hpf hp dn => ?_⟩
    obtain ⟨_, ys, h3, h4⟩ := R'.getL q1
    refine ⟨ad i, p, ys, xs, rfl, rfl, h3, hp, by rw [h4.len, dn.len]; exact q2, ?_⟩
    show T.nx (σ.set i (some (.ref (ad i)))) _
    rw [set_same t1]
    exact eo.nx _ ad σ _ q3 ((R'.write (getL_own q1) (h4.app dn)).minus)

/-! ### x[i] = e, x a list of ours -/
def sPut (i : Nat) (a b : WE) : WS := fun E X τ => a τ X fun d τ1 => hasL τ1 i ∧ b τ1 X fun e τ2 => ∃ ds k j, getL τ2 i = some ds ∧ e = .int k ∧ ixN ds.length k = some j ∧ E.nx (setL τ2 i (ds.set j d))
theorem pps_put {i : Nat} {x : Str} {e ix : Expr} {a b : WE} {p p2 : Pos} (ha : PE X e (liftE c a)) (hx : PE X (.Name x p) (tVar i)) (hb : PE X ix (liftE c b))
    (hq : ∀ v, assign (.Subscript (.Name x p) ix p2) X.env v = (do
      let ov ← holding [v] (eval (.Name x p) X.env)
      let iv ← holding [v, ov] (eval ix X.env)
      standAt p2
      holding [v, ov, iv] (setItem ov iv v)
      release [v, ov, iv] []) := by intro _; rfl)
    (hs : swapsWithSole [.Subscript (.Name x p) ix p2] e pos.line X.env = pure false := by rfl) (hw : swappedStores [.Subscript (.Name x p) ix p2] e X.env = pure none := by rfl)
    (h1 : (assignEach [.Subscript (.Name x p) ix p2] X.env).map (·.2) = [assign (.Subscript (.Name x p) ix p2) X.env] := by rfl) : PS X (.Assign [.Subscript (.Name x p) ix p2] e pos) (liftS c (sPut i a b)) :=
  PS.imp (ps_asg ha (pg_sub hx hb set_list hq) hs hw h1) fun T σ H ⟨F, ad, τ, Xp, E, R, x, h, eo⟩ => useE R x h fun d τ1 v H1 ⟨h0, h1⟩ R1 _ dn => by
    refine ⟨.ref (ad i), (R1.tyL h0).1, useE R1 x h1 fun d2 τ2 v2 H2 ⟨ds, k, j, q1, q2, q3, q4⟩ R2 R2' dn2 => ?_⟩
    subst q2
    obtain ⟨_, ys, h3, h4⟩ := R2.getL q1
    exact ⟨ad i, ys, k, j, rfl, dn_int dn2, h3, by rw [h4.len]; exact q3, eo.nx _ ad σ _ q4 (R2.write (getL_own q1) (DnA.set (R1.carry R2' dn) j h4))⟩
end
end PV
end

section
set_option maxRecDepth 100000
namespace PV
open PySem PySem.Spec PyProof.Rows L2
set_option autoImplicit false
/-- a fresh list as a value -/
def wOf (w : WA) : WE := fun τ Xp P => w τ Xp fun ds τ' => P (.list ds) τ'
/-- no promise at all -/
def ctNo : WE := fun _ _ _ => False
theorem u64 {A : Around} {k : Nat} (hr : Room k A) : A.units + 64 < cLine := by have := hr.un; omega
theorem u65 {A : Around} {k : Nat} (hr : Room k A) : A.units + 65 < cLine := by have := hr.un; omega
theorem u102 {A : Around} {k : Nat} (hr : Room k A) : A.units + 102 < cLine := by have := hr.un; omega
section
variable {X : Cx} {c : LC} {pos : Pos}
theorem ppe_ofF {e : Expr} {w : WA} (h : PE X e (liftF c w)) : PE X e (liftE c (wOf w)) := ppe_of_fresh h
/-- x, y = [..], b -/
def sParF (i j : Nat) (a : WA) (b : WE) : WS := fun E X τ => a τ X fun ds τ1 => b τ1 X fun e τ2 => okSet τ2 i ∧ okSet τ2 j ∧ i ≠ j ∧ E.nx ((τ2.set i (.own ds)).set j (.val e))
theorem XOk.plus {F : Fr} {Xp : XP} {p : Addr} (x : XOk c F Xp) : XOk c { F with fo := fun a => F.fo a ∨ a = p } Xp := fun y τ' ad' σ' dx H' v h R' hv f => x y τ' ad' σ' dx H' v h R'.minus hv (XF.less (fun a m => m.elim .inl fun m => .inr (.inl m)) f)
theorem pps_parF {i j : Nat} {x y : Str} {a b : Expr} {wa : WA} {wb : WE} {px py pt : Pos} {kt k2 : Nat} {pt2 : Pos} (hc : X.calm = true) (hN : X.N.Nodup) (hi : X.N[i]? = some x) (hj : X.N[j]? = some y) (hij : i ≠ j)
    (hx : X.env.scope.names.lookup x = some .local) (hy : X.env.scope.names.lookup y = some .local) (ha : PE X a (liftF c wa)) (hb : PE X b (liftE c wb))
    (hw : swappedStores [.Tuple [.Name x px, .Name y py] kt pt] (.Tuple [a, b] k2 pt2) X.env = pure (some [x, y]))
    (hs : swapsWithSole [.Tuple [.Name x px, .Name y py] kt pt] (.Tuple [a, b] k2 pt2) pos.line X.env = pure false := by rfl)
    (s1 : starEach [a, b] X.env = (false, eval a X.env) :: starEach [b] X.env := by rfl) (s2 : starEach [b] X.env = (false, eval b X.env) :: starEach [] X.env := by rfl) :
    PS X (.Assign [.Tuple [.Name x px, .Name y py] kt pt] (.Tuple [a, b] k2 pt2) pos) (liftS c (sParF i j wa wb)) :=
  PS.imp (ps_par hc hN hi hj hij hx hy (pa_cons ha (pa_cons hb pa_nil s2) s1) hw hs) fun T σ H ⟨F, ad, τ, Xp, E, R, x, h, eo⟩ => ⟨F, ad, τ, Xp, _, R, x, h, fun ds τ1 p xs H1 h1 R1 h0 hf hp dn1 =>
    useE R1 x.plus h1 fun e τ2 u H2 ⟨o1, o2, hne, q⟩ R2 R2' dn2 => by
    have dn1' := R1.carryA R2' dn1
    have hp2 : H2 p = some (.lst xs) := R2'.go.keep _ _ hp (R1.ne_fo (.inr rfl))
    have R3 := R2.setVal o2 dn2
    have dn3 : DnA c.K H2 (Bd { F with fo := fun a => F.fo a ∨ a = p } ad (τ2.set j (.val e))) xs ds := dn1'.less setVal_bd
    have R4 := R3.setOwn (okSet_ne (Ne.symm hne) o1) h0 hf hp2 dn3
    have R5 : Rep c.K F (fun k => if k = i then p else ad k) ((σ.set i (some (.ref p))).set j (some u)) ((τ2.set i (.own ds)).set j (.val e)) H2 := by
      rw [List.set_comm (some (V.ref p)) (some u) hne, List.set_comm (Sl.own ds) (Sl.val e) hne]
      exact R4
    exact ⟨.ref p, u, rfl, eo.nx _ _ _ H2 q R5⟩⟩
/-! a comprehension, its own names' places given -/
section
variable {elt tg iter : Expr} {ifs : List Expr} {scope : Scope} {own : List (Str × Nat)} {vs : List Nat} {wi : WI} {g : WG} {t : WT} {e : WE}
theorem lcf (hc : X.calm = true) (hN : X.N.Nodup) (hi : PI X tg iter (liftI c wi)) (ok : BlkOk X.N X.env.scope scope own) (hv : own.map (·.2) = vs)
    (hg : ∀ (s : Shared) (H : Hp) (C : Addr) (cl : List (Str × Addr)) (fp : List Addr), PG (X.blk s H scope (compEnvC scope cl C X.env) fp) tg (liftG c.nox (SW vs) g))
    (ht : ∀ (s : Shared) (H : Hp) (C : Addr) (cl : List (Str × Addr)) (fp : List Addr), PTs (X.blk s H scope (compEnvC scope cl C X.env) fp) ifs (liftT c.nox t))
    (he : ∀ (s : Shared) (H : Hp) (C : Addr) (cl : List (Str × Addr)) (fp : List Addr), PE (X.blk s H scope (compEnvC scope cl C X.env) fp) elt (liftE c.nox e)) (hs : ∀ x, foldedSetIterable iter X.env x = pure x := by intro _; rfl) :
    PE X (.ListComp elt [⟨tg, iter, ifs, 0⟩] scope pos) (liftF c (wLC wi g t e vs)) := by
  subst hv
  exact ppf_lc hc hN hi ok hg ht he hs
variable {i : Nat} {y : Str} {py spos : Pos}
theorem lcs (hc : X.calm = true) (hN : X.N.Nodup) (hy : X.N[i]? = some y) (hyl : X.env.scope.names.lookup y = some .local)
    (hsw : swapsWith (.ListComp elt [⟨tg, iter, ifs, 0⟩] scope pos) (some (.Name y py)) spos.line X.env = pure true) (hi : PI X tg iter (liftI c wi)) (ok : BlkOk X.N X.env.scope scope own) (hv : own.map (·.2) = vs)
    (hg : ∀ (s : Shared) (H : Hp) (C : Addr) (cl : List (Str × Addr)) (fp : List Addr), PG (X.blk s H scope (compEnvC scope cl C X.env) fp) tg (liftG c.nox (SW vs) g))
    (ht : ∀ (s : Shared) (H : Hp) (C : Addr) (cl : List (Str × Addr)) (fp : List Addr), PTs (X.blk s H scope (compEnvC scope cl C X.env) fp) ifs (liftT c.nox t))
    (he : ∀ (s : Shared) (H : Hp) (C : Addr) (cl : List (Str × Addr)) (fp : List Addr), PE (X.blk s H scope (compEnvC scope cl C X.env) fp) elt (liftE c.nox e)) (hs : ∀ x, foldedSetIterable iter X.env x = pure x := by intro _; rfl) :
    PS X (.Assign [.Name y py] (.ListComp elt [⟨tg, iter, ifs, 0⟩] scope pos) spos) (liftS c (sSetF i (wLC wi g t e vs))) := by
  subst hv
  exact pps_setLc hc hN hy hyl hsw hi ok hg ht he hs
theorem lcv (hc : X.calm = true) (hN : X.N.Nodup) (hy : X.N[i]? = some y) (hyl : X.env.scope.names.lookup y = some .local)
    (hsw : swapsWith (.ListComp elt [⟨tg, iter, ifs, 0⟩] scope pos) (some (.Name y py)) spos.line X.env = pure true) (hi : PI X tg iter (liftI c wi)) (ok : BlkOk X.N X.env.scope scope own) (hv : own.map (·.2) = vs)
    (hg : ∀ (s : Shared) (H : Hp) (C : Addr) (cl : List (Str × Addr)) (fp : List Addr), PG (X.blk s H scope (compEnvC scope cl C X.env) fp) tg (liftG c.nox (SW vs) g))
    (ht : ∀ (s : Shared) (H : Hp) (C : Addr) (cl : List (Str × Addr)) (fp : List Addr), PTs (X.blk s H scope (compEnvC scope cl C X.env) fp) ifs (liftT c.nox t))
    (he : ∀ (s : Shared) (H : Hp) (C : Addr) (cl : List (Str × Addr)) (fp : List Addr), PE (X.blk s H scope (compEnvC scope cl C X.env) fp) elt (liftE c.nox e)) (hs : ∀ x, foldedSetIterable iter X.env x = pure x := by intro _; rfl) :
    PS X (.Assign [.Name y py] (.ListComp elt [⟨tg, iter, ifs, 0⟩] scope pos) spos) (liftS c (sSetL i (wLC wi g t e vs))) := by
  subst hv
  exact pps_setLcV hc hN hy hyl hsw hi ok hg ht he hs
end
/-- f() -/
theorem ppe_fn0 {k : Nat} {f : Addr} {fd : FuncData} {x : Str} {p : Pos} {ct : WE} (G : FnG X.prog X.w X.K X.mg X.base k f fd [] (spOf X.K c.cl 0 ct)) (hK : c.K = X.K) (hr : Room k X.A) (hg0 : X.A.guards = some []) (hg : Gl X x) (hm : X.mg x = some (.ref f)) (hk : PySem.W.keepIn X.K (.ref f) = true) (hb : Binds X.K fd [] []) (tk : Takes X c.W)
    (hdb : (x == ("__debug__" : Str)) = false := by decide) : PE X (.Call (.Name x p) [] [] pos) (liftE c (wFn 0 ct arNil)) :=
  PE.imp (pe_callG0 G hr hg0 hg hm hk hb tk hdb) fun σ H Q ⟨F, ad, τ, Xp, P, R, xo, ⟨τ0, hp, ⟨hl, nd⟩, q⟩, kk⟩ => by
    show spOf X.K c.cl 0 ct [] H Q (L2.WE c.W σ)
    rw [← hK]
    exact call_use R xo .nil rfl hp nd q kk
end
end PV
end

section
set_option maxRecDepth 100000
namespace PV
open PySem PySem.Spec PyProof.Rows L2
set_option autoImplicit false

/-! ### operations on data, in short -/
theorem deq_str (a b : Str) : eqD (.str a) (.str b) = some (.bool (a == b)) := rfl
theorem deq_int (a b : Int) : eqD (.int a) (.int b) = some (.bool (a == b)) := rfl
theorem dne_str (a b : Str) : neD (.str a) (.str b) = some (.bool (!(a == b))) := rfl
theorem dne_int (a b : Int) : neD (.int a) (.int b) = some (.bool (!(a == b))) := rfl
theorem isd_none (d : D) : isD d .none = some (.bool (isN d)) := by cases d <;> rfl
theorem isnot_none (d : D) : isnotD d .none = some (.bool (!isN d)) := by cases d <;> rfl
theorem isnot_bool (a b : Bool) : isnotD (.bool a) (.bool b) = some (.bool (!decide (a = b))) := rfl
theorem in_strs (z : Str) (xs : List Str) : inD (.str z) (.tuple (xs.map .str)) = some (.bool (xs.any fun y => y == z)) := by
  have h : (xs.map PyData.str).all flat = true := by
    induction xs with
    | nil => rfl
    | cons x xs ih => rw [List.map_cons, List.all_cons, ih]; rfl
  show (if flat (.str z) && (xs.map PyData.str).all flat then some (PyData.bool ((xs.map PyData.str).any fun y => PyData.eqv y (.str z))) else none) = _
  rw [h, show flat (PyData.str z) = true from rfl, Bool.and_self, if_pos rfl, List.any_map]
  rfl

theorem sz1 : (1 ≤ sizeLine) = True := eq_true (by decide)
theorem sz2 : (2 ≤ sizeLine) = True := eq_true (by decide)
theorem sz3 : (3 ≤ sizeLine) = True := eq_true (by decide)
theorem sz4 : (4 ≤ sizeLine) = True := eq_true (by decide)
theorem sz5 : (5 ≤ sizeLine) = True := eq_true (by decide)
theorem sz6 : (6 ≤ sizeLine) = True := eq_true (by decide)
theorem sz7 : (7 ≤ sizeLine) = True := eq_true (by decide)
theorem sz8 : (8 ≤ sizeLine) = True := eq_true (by decide)
theorem sz9 : (9 ≤ sizeLine) = True := eq_true (by decide)
theorem sz10 : (10 ≤ sizeLine) = True := eq_true (by decide)
theorem sz11 : (11 ≤ sizeLine) = True := eq_true (by decide)
theorem sz12 : (12 ≤ sizeLine) = True := eq_true (by decide)
theorem sz13 : (13 ≤ sizeLine) = True := eq_true (by decide)
theorem sz14 : (14 ≤ sizeLine) = True := eq_true (by decide)
theorem sz15 : (15 ≤ sizeLine) = True := eq_true (by decide)
theorem sz16 : (16 ≤ sizeLine) = True := eq_true (by decide)
theorem sz17 : (17 ≤ sizeLine) = True := eq_true (by decide)
theorem sz18 : (18 ≤ sizeLine) = True := eq_true (by decide)
theorem sz19 : (19 ≤ sizeLine) = True := eq_true (by decide)
theorem sz20 : (20 ≤ sizeLine) = True := eq_true (by decide)
theorem sz21 : (21 ≤ sizeLine) = True := eq_true (by decide)
theorem sz22 : (22 ≤ sizeLine) = True := eq_true (by decide)
theorem sz23 : (23 ≤ sizeLine) = True := eq_true (by decide)
theorem sz24 : (24 ≤ sizeLine) = True := eq_true (by decide)
theorem sz25 : (25 ≤ sizeLine) = True := eq_true (by decide)
theorem sz26 : (26 ≤ sizeLine) = True := eq_true (by decide)
theorem sz27 : (27 ≤ sizeLine) = True := eq_true (by decide)
theorem sz28 : (28 ≤ sizeLine) = True := eq_true (by decide)
theorem sz29 : (29 ≤ sizeLine) = True := eq_true (by decide)
theorem sz30 : (30 ≤ sizeLine) = True := eq_true (by decide)
theorem ifT {p q : Prop} {b : Bool} (h : b = true) (x : p) : if b = true then p else q := by rw [if_pos h]; exact x
theorem ifF {p q : Prop} {b : Bool} (h : b = false) (x : q) : if b = true then p else q := by rw [if_neg (by rw [h]; decide)]; exact x
theorem ne_nil (ds : List D) : neD (.list ds) (.list []) = some (.bool (!ds.isEmpty)) := by
  show (if eqok (.list ds) (.list []) = true then _ else _) = _
  rw [show eqok (.list ds) (.list []) = true by simp [eqok, nilq]]
  cases ds <;> rfl
theorem eq_nil (ds : List D) : eqD (.list ds) (.list []) = some (.bool ds.isEmpty) := by
  show (if eqok (.list ds) (.list []) = true then _ else _) = _
  rw [show eqok (.list ds) (.list []) = true by simp [eqok, nilq]]
  cases ds <;> rfl
/-! ### comprehensions -/
theorem lc_go {i : Nat} {τ : Ta} {t : WT} {e : WE} {q : D → Bool} {f : D → D} (h0 : τ[i]? = some .un) : ∀ (ds acc : List D) (P : List D → Ta → Prop),
    (∀ d ∈ ds, ∀ P : Bool → Ta → Prop, P (q d) (τ.set i (.val d)) → t (τ.set i (.val d)) (fun _ _ => False) P) →
    (∀ d ∈ ds, q d = true → ∀ P : D → Ta → Prop, P (f d) (τ.set i (.val d)) → e (τ.set i (.val d)) (fun _ _ => False) P) →
    acc.length + ds.length ≤ sizeLine → P (acc ++ (ds.filter q).map f) τ → lcW (gN i) t e [i] ds acc P τ
  | [], acc, P, _, _, _, h => by simpa [lcW] using h
  | d :: ds, acc, P, ht, he, hl, h => by
    have back : wipeT (τ.set i (.val d)) [i] = τ := by
      unfold wipeT wipeT
      rw [List.set_set]
      apply List.ext_getElem?
      intro j
      by_cases e : i = j
      · subst e
        rw [List.getElem?_set_self (List.getElem?_eq_some_iff.mp h0).1, h0]
      · rw [List.getElem?_set_ne e]
    have ok : okSet τ i := by unfold okSet; rw [h0]; trivial
    rw [List.length_cons] at hl
    refine ⟨ok, ht d List.mem_cons_self _ ?_⟩
    cases hq : q d with
    | true =>
      rw [if_pos rfl]
      refine he d List.mem_cons_self hq _ ⟨by omega, ?_⟩
      rw [back]
      refine lc_go h0 ds (acc ++ [f d]) P (fun d m => ht d (List.mem_cons_of_mem _ m)) (fun d m => he d (List.mem_cons_of_mem _ m)) (by rw [List.length_append, List.length_singleton]; omega) ?_
      rw [List.filter_cons, hq, if_pos rfl, List.map_cons] at h
      rw [List.append_assoc]
      exact h
    | false =>
      rw [if_neg (by decide), back]
      refine lc_go h0 ds acc P (fun d m => ht d (List.mem_cons_of_mem _ m)) (fun d m => he d (List.mem_cons_of_mem _ m)) (by omega) ?_
      rw [List.filter_cons, hq, if_neg (by decide)] at h
      exact h
theorem set_id {τ : Ta} {i : Nat} {s : Sl} (h : τ[i]? = some s) (u : Sl) : (τ.set i u).set i s = τ := by
  rw [List.set_set]
  apply List.ext_getElem?
  intro j
  by_cases e : i = j
  · subst e
    rw [List.getElem?_set_self (List.getElem?_eq_some_iff.mp h).1, h]
  · rw [List.getElem?_set_ne e]
/-- [f(d) for d in ds if q(d)], the state as it was -/
theorem lc_filter {i : Nat} {τ : Ta} {s : Sl} {t : WT} {e : WE} {ds : List D} {P : List D → Ta → Prop} (q : D → Bool) (f : D → D) (h0 : τ[i]? = some s) (hs : isVal (some s)) (hl : ds.length ≤ sizeLine)
    (ht : ∀ d ∈ ds, ∀ P : Bool → Ta → Prop, P (q d) (τ.set i (.val d)) → t (τ.set i (.val d)) (fun _ _ => False) P)
    (he : ∀ d ∈ ds, q d = true → ∀ P : D → Ta → Prop, P (f d) (τ.set i (.val d)) → e (τ.set i (.val d)) (fun _ _ => False) P) (h : P ((ds.filter q).map f) τ) :
    okW τ [i] ∧ lcW (gN i) t e [i] ds [] (fun acc τ2 => P acc (backT τ τ2 [i])) (wipeT τ [i]) := by
  have hi := (List.getElem?_eq_some_iff.mp h0).1
  refine ⟨⟨by rw [h0]; exact hs, trivial⟩, ?_⟩
  have e1 : wipeT τ [i] = τ.set i .un := rfl
  have e2 : backT τ (τ.set i .un) [i] = τ := by
    unfold backT
    rw [h0]
    exact set_id h0 _
  rw [e1]
  refine lc_go (List.getElem?_set_self hi) ds [] _ (fun d m P p => ?_) (fun d m hq P p => ?_) (by simpa using hl) (by rw [e2]; exact h)
  · rw [List.set_set] at p ⊢; exact ht d m P p
  · rw [List.set_set] at p ⊢; exact he d m hq P p
theorem lc_map {i : Nat} {τ : Ta} {s : Sl} {e : WE} {ds : List D} {P : List D → Ta → Prop} (f : D → D) (h0 : τ[i]? = some s) (hs : isVal (some s)) (hl : ds.length ≤ sizeLine)
    (he : ∀ d ∈ ds, ∀ P : D → Ta → Prop, P (f d) (τ.set i (.val d)) → e (τ.set i (.val d)) (fun _ _ => False) P) (h : P (ds.map f) τ) :
    okW τ [i] ∧ lcW (gN i) wYes e [i] ds [] (fun acc τ2 => P acc (backT τ τ2 [i])) (wipeT τ [i]) :=
  lc_filter (fun _ => true) f h0 hs hl (fun _ _ _ p => p) (fun d m _ => he d m) (by rw [show ds.filter (fun _ => true) = ds from List.filter_eq_self.mpr fun _ _ => rfl]; exact h)
theorem wlc_filter {i : Nat} {τ τ1 : Ta} {X : XP} {u : Sl} {s : WI} {t : WT} {e : WE} {ds : List D} {P : List D → Ta → Prop} (src : ∀ P : List D → Ta → Prop, P ds τ1 → s τ X P) (q : D → Bool) (f : D → D) (h0 : τ1[i]? = some u) (hs : isVal (some u)) (hl : ds.length ≤ sizeLine)
    (ht : ∀ d ∈ ds, ∀ P : Bool → Ta → Prop, P (q d) (τ1.set i (.val d)) → t (τ1.set i (.val d)) (fun _ _ => False) P)
    (he : ∀ d ∈ ds, q d = true → ∀ P : D → Ta → Prop, P (f d) (τ1.set i (.val d)) → e (τ1.set i (.val d)) (fun _ _ => False) P) (h : P ((ds.filter q).map f) τ1) : wLC s (gN i) t e [i] τ X P :=
  src _ (lc_filter q f h0 hs hl ht he h)
theorem wlc_map {i : Nat} {τ τ1 : Ta} {X : XP} {u : Sl} {s : WI} {e : WE} {ds : List D} {P : List D → Ta → Prop} (src : ∀ P : List D → Ta → Prop, P ds τ1 → s τ X P) (f : D → D) (h0 : τ1[i]? = some u) (hs : isVal (some u)) (hl : ds.length ≤ sizeLine)
    (he : ∀ d ∈ ds, ∀ P : D → Ta → Prop, P (f d) (τ1.set i (.val d)) → e (τ1.set i (.val d)) (fun _ _ => False) P) (h : P (ds.map f) τ1) : wLC s (gN i) wYes e [i] τ X P :=
  src _ (lc_map f h0 hs hl he h)
theorem bools_map {α : Type} (q : α → Bool) : ∀ xs : List α, bools (xs.map fun x => .bool (q x)) = some (xs.map q)
  | [] => rfl
  | x :: xs => by rw [List.map_cons, bools, bools_map q xs]; rfl
theorem all_map {α : Type} (q : α → Bool) (xs : List α) : allD [.list (xs.map fun x => .bool (q x))] = some (.bool (xs.all q)) := by
  show (bools (xs.map fun x => PyData.bool (q x))).map (fun bs => PyData.bool (bs.all id)) = _
  rw [bools_map, Option.map_some, List.all_map]
  rfl

/-! ### values: what the first defs answer -/
def isWhole (lo hi : Int) : D → Bool
  | .int v => decide (lo ≤ v) && decide (v ≤ hi)
  | _ => false
def isTup (lo hi : Int) : D → Bool
  | .tuple xs => decide (lo ≤ xs.length) && decide (xs.length ≤ hi)
  | _ => false
abbrev smallC : List Nat := ("abcdefghijklmnopqrstuvwxyz" : Str).cps.toList
abbrev signsC : List Nat := ("abcdefghijklmnopqrstuvwxyz0123456789" : Str).cps.toList
def nameS (z : Str) : Bool := match z.cps.toList with
  | [] => false
  | q :: r => decide (r.length < 8) && decide (q ∈ smallC) && (q :: r).all fun s => decide (s ∈ signsC)
def isName : D → Bool
  | .str z => nameS z
  | _ => false
def textC (q : Nat) : Bool := decide (32 ≤ q) && decide (q ≤ 126) && !decide (q = 37) && !decide (q = 39)
def plainOk : D → Bool
  | .none => true
  | .bool _ => true
  | .str z => decide (z.length ≤ 40) && z.cps.toList.all textC
  | .int v => decide (-1000000000000 ≤ v) && decide (v ≤ 1000000000000)
  | _ => false
/-- texts are not too long -/
def shortS : D → Bool
  | .str z => decide (z.length ≤ sizeLine)
  | _ => true
def isKnot : D → Bool
  | .tuple [.str w, x] => (w == "list" || w == "doc") && isTup 0 16 x
  | _ => false
def fieldOk : D → Bool
  | .tuple [n, _] => isName n
  | _ => false
def kOf : D → Str
  | .tuple [.str z, _] => z
  | _ => Str.empty
def vOf : D → D
  | .tuple [_, x] => x
  | _ => .none
def distinct (xs : List Str) : Bool := (metS xs xs.length).length == xs.length
def fieldsOk : D → Bool
  | .tuple fs => fs.all fieldOk && distinct (fs.map kOf)
  | _ => false
def isDoc : D → Bool
  | .tuple (.str w :: _) => w == "doc"
  | _ => false
def innerOf : D → List D
  | .tuple [.str w, .tuple xs] => if w == "doc" then xs.map vOf else xs
  | _ => []
def stepV (d : D) (deep : Int) : Option (List (D × Int)) :=
  if plainOk d then some [] else if decide (6 < deep) || !isKnot d || (isDoc d && !fieldsOk (vOf d)) then none else some ((innerOf d).map fun x => (x, deep + 1))
/-- the line, its last item first -/
def runV : Nat → List (D × Int) → Option Bool
  | _, [] => some true
  | 0, _ :: _ => none
  | n + 1, (d, deep) :: rest => match stepV d deep with
    | none => some false
    | some new => runV n (new.reverse ++ rest)
/-- fits_value(d), where it ends in 900 steps -/
def fitsV (d : D) : Option Bool := runV 900 [(d, 1)]
mutual
/-- no text too long, in any depth -/
def short : D → Bool
  | .str z => decide (z.length ≤ sizeLine)
  | .list ds => shortA ds
  | .tuple ds => shortA ds
  | .dict _ => false
  | _ => true
def shortA : List D → Bool
  | [] => true
  | d :: ds => short d && shortA ds
end
theorem short_mem : ∀ {ds : List D}, shortA ds = true → ∀ d ∈ ds, short d = true
  | d :: ds, h, x, m => by
    rw [shortA, Bool.and_eq_true] at h
    rcases List.mem_cons.mp m with e | m
    · rw [e]; exact h.1
    · exact short_mem h.2 x m
theorem short_mem' : ∀ {ds : List D}, (∀ d ∈ ds, short d = true) → shortA ds = true
  | [], _ => rfl
  | d :: ds, h => by rw [shortA, h d List.mem_cons_self, short_mem' fun x m => h x (List.mem_cons_of_mem _ m)]; rfl
end PV
end

section
set_option maxRecDepth 100000
set_option maxHeartbeats 0
namespace K16
open PySem PySem.Spec PyProof.Rows L2 PV
set_option autoImplicit false
/-! ### what the bodies ask -/
def b_is_whole : WS :=
  sRet (wAndV (wIsi "int" (wVar 0)) (wAndV (wNotV (wIsi "bool" (wVar 0))) (wChain leD leD (wVar 1) (wVar 0) (wVar 2))))
def b_is_tuple_of : WS :=
  sRet (wAndV (wIsi "tuple" (wVar 0)) (wChain leD leD (wVar 1) (wCall lenD (wCons (wVar 0) (wNil))) (wVar 2)))
def b_is_name : WS :=
  sCons (sIf (wOr (wNot (wTru (wIsi "str" (wVar 0)))) (wOr (wNot (wTru (wChain leD leD (wC (.int 1)) (wCall lenD (wCons (wVar 0) (wNil))) (wC (.int 8))))) (wTru (wOp notInD (wOp idxD (wVar 0) (wC (.int 0))) (wC (.str "abcdefghijklmnopqrstuvwxyz")))))) (sRet (wC (.bool false))) (sNil))
  (sRet (wCall allD (wCons (wOf (wLC (iStr' (wVar 0)) (gN 1) (wYes) (wOp inD (wVar 1) (wC (.str "abcdefghijklmnopqrstuvwxyz0123456789"))) [1])) (wNil))))
def b_is_text_sign : WS :=
  sRet (wAndV (wChain leD leD (wC (.str " ")) (wVar 0) (wC (.str "~"))) (wOp notInD (wCall ordD (wCons (wVar 0) (wNil))) (wTup (wCons (wC (.int 37)) (wCons (wC (.int 39)) (wNil))))))
def b_fits_plain (ct_is_text_sign : WE) (ct_is_whole : WE) : WS :=
  sCons (sIf (wOr (wTru (wOp isD (wVar 0) (wC .none))) (wTru (wIsi "bool" (wVar 0)))) (sRet (wC (.bool true))) (sNil))
  (sCons (sIf (wTru (wIsi "str" (wVar 0))) (sRet (wAndV (wOp leD (wCall lenD (wCons (wVar 0) (wNil))) (wC (.int 40))) (wCall allD (wCons (wOf (wLC (iStr' (wVar 0)) (gN 1) (wYes) (wFn 1 ct_is_text_sign (arE (wVar 1) (arNil))) [1])) (wNil))))) (sNil))
  (sRet (wFn 3 ct_is_whole (arE (wVar 0) (arE (wUn negD (wC (.int 1000000000000))) (arE (wC (.int 1000000000000)) (arNil)))))))
def b_is_knot (ct_is_tuple_of : WE) : WS :=
  sCons (sIf (wOr (wNot (wTru (wFn 3 ct_is_tuple_of (arE (wVar 0) (arE (wC (.int 2)) (arE (wC (.int 2)) (arNil))))))) (wOr (wNot (wTru (wIsi "str" (wOp idxD (wVar 0) (wC (.int 0)))))) (wTru (wOp notInD (wOp idxD (wVar 0) (wC (.int 0))) (wTup (wCons (wC (.str "list")) (wCons (wC (.str "doc")) (wNil)))))))) (sRet (wC (.bool false))) (sNil))
  (sRet (wFn 3 ct_is_tuple_of (arE (wOp idxD (wVar 0) (wC (.int 1))) (arE (wC (.int 0)) (arE (wC (.int 16)) (arNil))))))
def b_fits_fields (ct_is_name : WE) (ct_is_tuple_of : WE) : WS :=
  sCons (sIf (wNot (wTru (wCall allD (wCons (wOf (wLC (iT (wVar 0)) (gN 1) (wYes) (wAndV (wFn 3 ct_is_tuple_of (arE (wVar 1) (arE (wC (.int 2)) (arE (wC (.int 2)) (arNil))))) (wFn 1 ct_is_name (arE (wOp idxD (wVar 1) (wC (.int 0))) (arNil)))) [1])) (wNil))))) (sRet (wC (.bool false))) (sNil))
  (sCons (sSetL 2 (wLC (iT (wVar 0)) (gN 1) (wYes) (wOp idxD (wVar 1) (wC (.int 0))) [1]))
  (sRet (wOp eqD (wUn lenSetD (wVar 2)) (wCall lenD (wCons (wVar 2) (wNil))))))
def b_inner_of : WS :=
  sRet (wIf (wTru (wOp eqD (wOp idxD (wVar 0) (wC (.int 0))) (wC (.str "doc")))) (wOf (wLC (iT (wOp idxD (wVar 0) (wC (.int 1)))) (gN 1) (wYes) (wOp idxD (wVar 1) (wC (.int 1))) [1])) (wCall listD (wCons (wOp idxD (wVar 0) (wC (.int 1))) (wNil))))
def b_fits_value (ct_fits_fields : WE) (ct_fits_plain : WE) (ct_inner_of : WE) (ct_is_knot : WE) : WS :=
  sCons (sSetF 1 (wLstF (wCons (wTup (wCons (wVar 0) (wCons (wC (.int 1)) (wNil)))) (wNil))))
  (sCons (sWhile (wTru (wPk neD 1 (wLst (wNil)))) (sCons (sAsg (wPop 1) (gTup' 2 (gCons' (gN 2) (gCons' (gN 3) (gNil')))))
  (sIf (wNot (wTru (wFn 1 ct_fits_plain (arE (wVar 2) (arNil))))) (sCons (sIf (wOr (wTru (wOp gtD (wVar 3) (wC (.int 6)))) (wOr (wNot (wTru (wFn 1 ct_is_knot (arE (wVar 2) (arNil))))) (wAnd (wTru (wOp eqD (wOp idxD (wVar 2) (wC (.int 0))) (wC (.str "doc")))) (wNot (wTru (wFn 1 ct_fits_fields (arE (wOp idxD (wVar 2) (wC (.int 1))) (arNil)))))))) (sRet (wC (.bool false))) (sNil))
  (sExtF 1 (wLC (iL (wFn 1 ct_inner_of (arE (wVar 2) (arNil)))) (gN 4) (wYes) (wTup (wCons (wVar 4) (wCons (wOp addD (wVar 3) (wC (.int 1))) (wNil)))) [4]))) (sNil))))
  (sRet (wC (.bool true))))
def b_is_list : WS :=
  sRet (wAndV (wIsi "tuple" (wVar 0)) (wOp eqD (wOp idxD (wVar 0) (wC (.int 0))) (wC (.str "list"))))
def b_fits_path (ct_is_name : WE) (ct_is_tuple_of : WE) (ct_is_whole : WE) : WS :=
  sCons (sIf (wNot (wTru (wFn 3 ct_is_tuple_of (arE (wVar 0) (arE (wC (.int 0)) (arE (wC (.int 6)) (arNil))))))) (sRet (wC (.bool false))) (sNil))
  (sRet (wCall allD (wCons (wOf (wLC (iT (wVar 0)) (gN 1) (wYes) (wOrV (wFn 1 ct_is_name (arE (wVar 1) (arNil))) (wFn 3 ct_is_whole (arE (wVar 1) (arE (wC (.int 0)) (arE (wC (.int 15)) (arNil)))))) [1])) (wNil))))
def b_fits_told (ct_fits_value : WE) (ct_is_list : WE) (ct_is_whole : WE) : WS :=
  sCons (sIf (wOr (wTru (wOp inD (wVar 0) (wTup (wCons (wC (.str "same")) (wCons (wC (.str "other")) (wNil)))))) (wTru (wOp inD (wVar 0) (wC (.tuple [(.str "less"), (.str "atmost"), (.str "more"), (.str "atleast")]))))) (sRet (wFn 1 ct_fits_value (arE (wVar 1) (arNil)))) (sNil))
  (sCons (sIf (wTru (wOp inD (wVar 0) (wC (.tuple [(.str "in"), (.str "has")])))) (sRet (wAndV (wFn 1 ct_fits_value (arE (wVar 1) (arNil))) (wFn 1 ct_is_list (arE (wVar 1) (arNil))))) (sNil))
  (sCons (sIf (wTru (wOp eqD (wVar 0) (wC (.str "size")))) (sRet (wFn 3 ct_is_whole (arE (wVar 1) (arE (wC (.int 0)) (arE (wC (.int 16)) (arNil)))))) (sNil))
  (sCons (sIf (wTru (wOp eqD (wVar 0) (wC (.str "is")))) (sRet (wAndV (wIsi "str" (wVar 1)) (wOp inD (wVar 1) (wC (.tuple [(.str "null"), (.str "number"), (.str "text"), (.str "doc"), (.str "list"), (.str "truth")]))))) (sNil))
  (sRet (wAndV (wOp eqD (wVar 0) (wC (.str "exists"))) (wIsi "bool" (wVar 1)))))))
def b_fits_test (ct_fits_path : WE) (ct_fits_told : WE) : WS :=
  sCons (sIf (wOr (wTru (wOp neD (wCall lenD (wCons (wVar 0) (wNil))) (wC (.int 4)))) (wOr (wNot (wTru (wFn 1 ct_fits_path (arE (wOp idxD (wVar 0) (wC (.int 1))) (arNil))))) (wNot (wTru (wIsi "str" (wOp idxD (wVar 0) (wC (.int 2)))))))) (sRet (wC (.bool false))) (sNil))
  (sRet (wFn 2 ct_fits_told (arE (wOp idxD (wVar 0) (wC (.int 2))) (arE (wOp idxD (wVar 0) (wC (.int 3))) (arNil)))))
def b_inner_filters (ct_fits_path : WE) (ct_fits_test : WE) (ct_is_tuple_of : WE) : WS :=
  sCons (sPar 1 2 (wOp idxD (wVar 0) (wC (.int 0))) (wCall lenD (wCons (wVar 0) (wNil))))
  (sCons (sIf (wTru (wOp eqD (wVar 1) (wC (.str "every")))) (sRet (wIf (wTru (wOp eqD (wVar 2) (wC (.int 1)))) (wTup (wNil)) (wC .none))) (sNil))
  (sCons (sIf (wTru (wOp eqD (wVar 1) (wC (.str "test")))) (sRet (wIf (wTru (wFn 1 ct_fits_test (arE (wVar 0) (arNil)))) (wTup (wNil)) (wC .none))) (sNil))
  (sCons (sIf (wTru (wOp eqD (wVar 1) (wC (.str "not")))) (sRet (wIf (wTru (wOp eqD (wVar 2) (wC (.int 2)))) (wSlice (wVar 0) (wPS (wC (.int 1))) (wPN)) (wC .none))) (sNil))
  (sCons (sIf (wTru (wOp eqD (wVar 1) (wC (.str "any")))) (sRet (wIf (wAnd (wTru (wOp eqD (wVar 2) (wC (.int 3)))) (wTru (wFn 1 ct_fits_path (arE (wOp idxD (wVar 0) (wC (.int 1))) (arNil))))) (wSlice (wVar 0) (wPS (wC (.int 2))) (wPN)) (wC .none))) (sNil))
  (sCons (sIf (wOr (wTru (wOp notInD (wVar 1) (wTup (wCons (wC (.str "and")) (wCons (wC (.str "or")) (wNil)))))) (wOr (wTru (wOp neD (wVar 2) (wC (.int 2)))) (wNot (wTru (wFn 3 ct_is_tuple_of (arE (wOp idxD (wVar 0) (wC (.int 1))) (arE (wC (.int 0)) (arE (wC (.int 8)) (arNil))))))))) (sRet (wC .none)) (sNil))
  (sRet (wOp idxD (wVar 0) (wC (.int 1)))))))))
def b_fits_filter (ct_inner_filters : WE) (ct_is_tuple_of : WE) : WS :=
  sCons (sParF 1 2 (wLstF (wCons (wTup (wCons (wVar 0) (wCons (wC (.int 1)) (wNil)))) (wNil))) (wC (.int 0)))
  (sCons (sWhile (wTru (wPk neD 1 (wLst (wNil)))) (sCons (sAsg (wPop 1) (gTup' 2 (gCons' (gN 3) (gCons' (gN 4) (gNil')))))
  (sCons (sAsg (wOp addD (wVar 2) (wC (.int 1))) (gN 2))
  (sCons (sIf (wOr (wTru (wOp gtD (wVar 2) (wC (.int 40)))) (wOr (wTru (wOp gtD (wVar 4) (wC (.int 5)))) (wOr (wNot (wTru (wFn 3 ct_is_tuple_of (arE (wVar 3) (arE (wC (.int 1)) (arE (wC (.int 4)) (arNil))))))) (wNot (wTru (wIsi "str" (wOp idxD (wVar 3) (wC (.int 0))))))))) (sRet (wC (.bool false))) (sNil))
  (sCons (sAsg (wFn 1 ct_inner_filters (arE (wVar 3) (arNil))) (gN 5))
  (sCons (sIf (wTru (wOp isD (wVar 5) (wC .none))) (sRet (wC (.bool false))) (sNil))
  (sExtF 1 (wLC (iT (wVar 5)) (gN 6) (wYes) (wTup (wCons (wVar 6) (wCons (wOp addD (wVar 4) (wC (.int 1))) (wNil)))) [6]))))))))
  (sRet (wC (.bool true))))
def b_is_filter (ct_fits_filter : WE) : WS :=
  sRet (wFn 1 ct_fits_filter (arE (wVar 0) (arNil)))
def b__law_cup : WS :=
  sCons (sAsg (wCall absD (wCons (wOp idxD (wOp addD (wCall listD (wCons (wVar 0) (wNil))) (wLst (wCons (wC (.int 0)) (wNil)))) (wC (.int 0))) (wNil))) (gN 1))
  (sRetF (wLstF (wCons (wIf (wTru (wOp geD (wVar 1) (wOp powD (wC (.int 10)) (wC (.int 18))))) (wOp fdivD (wVar 1) (wC (.int 89))) (wC (.int 0))) (wCons (wOp addD (wOp modD (wCall intD (wCons (wOp addD (wOp mulD (wVar 1) (wC (.int 311))) (wC (.int 3109))) (wNil))) (wC (.int 2077503101))) (wC (.int 191))) (wNil)))))
def b__law_roll : WS :=
  sCons (sIf (wTru (wOp gtD (wPkIx 0 (wC (.int 0))) (wC (.int 0)))) (sCons (sAsg (wOp modD (wCall intD (wCons (wPkIx 0 (wC (.int 0))) (wNil))) (wVar 1)) (gN 2))
  (sCons (sPut 0 (wOp fdivD (wPkIx 0 (wC (.int 0))) (wVar 1)) (wC (.int 0)))
  (sRet (wVar 2)))) (sNil))
  (sCons (sPut 0 (wOp modD (wCall intD (wCons (wOp addD (wOp mulD (wPkIx 0 (wC (.int 1))) (wC (.int 31091))) (wC (.int 8053))) (wNil))) (wC (.int 2147483423))) (wC (.int 1)))
  (sCons (sAsg (wOp modD (wCall intD (wCons (wOp mulD (wPkIx 0 (wC (.int 1))) (wOp addD (wPkIx 0 (wC (.int 1))) (wC (.int 257)))) (wNil))) (wC (.int 2147483587))) (gN 3))
  (sRet (wOp modD (wCall intD (wCons (wOp fdivD (wVar 3) (wC (.int 853))) (wNil))) (wVar 1)))))
def b__law_some (ct__law_roll : WE) : WS :=
  sRet (wOp idxD (wVar 1) (wFn 2 ct__law_roll (arS 0 (arE (wCall lenD (wCons (wVar 1) (wNil))) (arNil)))))
def b__law_value (ct__law_drawn_fields : WE) (ct__law_roll : WE) (ct__law_some : WE) (ct__law_value : WE) : WS :=
  sCons (sAsg (wFn 2 ct__law_roll (arS 0 (arE (wIf (wTru (wOp gtD (wVar 1) (wC (.int 0)))) (wC (.int 12)) (wC (.int 7))) (arNil)))) (gN 2))
  (sCons (sIf (wTru (wOp ltD (wVar 2) (wC (.int 4)))) (sRet (wFn 2 ct__law_some (arS 0 (arE (wLst (wCons (wC (.int 0)) (wCons (wC (.int 1)) (wCons (wC (.int 2)) (wCons (wC (.int 3)) (wCons (wC (.int 5)) (wCons (wC (.int 7)) (wCons (wUn negD (wC (.int 1))) (wCons (wC (.int 10)) (wCons (wOp powD (wC (.int 10)) (wC (.int 12))) (wNil))))))))))) (arNil))))) (sNil))
  (sCons (sIf (wTru (wOp ltD (wVar 2) (wC (.int 7)))) (sRet (wIf (wTru (wOp eqD (wVar 2) (wC (.int 4)))) (wFn 2 ct__law_some (arS 0 (arE (wLst (wCons (wC .none) (wCons (wC (.bool true)) (wCons (wC (.bool false)) (wNil))))) (arNil)))) (wFn 2 ct__law_some (arS 0 (arE (wLst (wCons (wC (.str "")) (wCons (wC (.str "a")) (wCons (wC (.str "b")) (wCons (wC (.str "ab")) (wCons (wC (.str "B 7")) (wCons (wC (.str "~")) (wNil)))))))) (arNil)))))) (sNil))
  (sCons (sIf (wTru (wOp ltD (wVar 2) (wC (.int 10)))) (sRet (wTup (wCons (wC (.str "list")) (wCons (wCall tupleD (wCons (wOf (wLC (iRange (wFn 2 ct__law_roll (arS 0 (arE (wC (.int 4)) (arNil))))) (gN 3) (wYes) (wFn 2 ct__law_value (arS 0 (arE (wOp subD (wVar 1) (wC (.int 1))) (arNil)))) [3])) (wNil))) (wNil))))) (sNil))
  (sRet (wTup (wCons (wC (.str "doc")) (wCons (wFn 3 ct__law_drawn_fields (arS 0 (arE (wOp subD (wVar 1) (wC (.int 1))) (arE (wFn 2 ct__law_roll (arS 0 (arE (wC (.int 3)) (arNil)))) (arNil))))) (wNil))))))))
def b__law_drawn_fields (ct__law_some : WE) (ct__law_value : WE) : WS :=
  sCons (sPar 3 4 (wTup (wNil)) (wLst (wCons (wC (.str "a")) (wCons (wC (.str "b")) (wCons (wC (.str "c")) (wCons (wC (.str "d1")) (wNil)))))))
  (sCons (sFor (iRange (wVar 2)) (gN 5) (sCons (sAsg (wFn 2 ct__law_some (arS 0 (arE (wVar 4) (arNil)))) (gN 6))
  (sCons (sSetL 4 (wLC (iL (wVar 4)) (gN 7) (wTru (wOp neD (wVar 7) (wVar 6))) (wVar 7) [7]))
  (sAsg (wOp addD (wVar 3) (wTup (wCons (wTup (wCons (wVar 6) (wCons (wFn 2 ct__law_value (arS 0 (arE (wVar 1) (arNil)))) (wNil)))) (wNil)))) (gN 3)))))
  (sRet (wVar 3)))
def b__law_path (ct__law_some : WE) : WS :=
  sCons (sAsg (wLst (wCons (wTup (wCons (wC (.str "a")) (wNil))) (wCons (wTup (wCons (wC (.str "a")) (wNil))) (wCons (wTup (wCons (wC (.str "b")) (wNil))) (wCons (wTup (wCons (wC (.str "c")) (wNil))) (wCons (wTup (wCons (wC (.str "id")) (wNil))) (wCons (wTup (wCons (wC (.str "a")) (wCons (wC (.str "b")) (wNil)))) (wCons (wTup (wCons (wC (.str "a")) (wCons (wC (.int 0)) (wNil)))) (wCons (wTup (wCons (wC (.str "b")) (wCons (wC (.str "a")) (wNil)))) (wCons (wTup (wCons (wC (.str "a")) (wCons (wC (.str "a")) (wNil)))) (wCons (wTup (wCons (wC (.str "b")) (wCons (wC (.int 1)) (wNil)))) (wNil)))))))))))) (gN 1))
  (sRet (wFn 2 ct__law_some (arS 0 (arE (wOp addD (wVar 1) (wLst (wCons (wTup (wCons (wC (.str "c")) (wCons (wC (.int 0)) (wCons (wC (.str "a")) (wNil))))) (wCons (wTup (wCons (wC (.str "a")) (wCons (wC (.str "b")) (wCons (wC (.str "c")) (wNil))))) (wCons (wTup (wCons (wC (.str "d1")) (wNil))) (wCons (wTup (wNil)) (wNil))))))) (arNil)))))
def b__law_told (ct__law_roll : WE) (ct__law_some : WE) (ct__law_value : WE) : WS :=
  sCons (sIf (wTru (wOp inD (wVar 1) (wTup (wCons (wC (.str "in")) (wCons (wC (.str "has")) (wNil)))))) (sRet (wTup (wCons (wC (.str "list")) (wCons (wCall tupleD (wCons (wOf (wLC (iRange (wFn 2 ct__law_roll (arS 0 (arE (wC (.int 4)) (arNil))))) (gN 2) (wYes) (wFn 2 ct__law_value (arS 0 (arE (wC (.int 1)) (arNil)))) [2])) (wNil))) (wNil))))) (sNil))
  (sCons (sIf (wTru (wOp eqD (wVar 1) (wC (.str "size")))) (sRet (wFn 2 ct__law_some (arS 0 (arE (wLst (wCons (wC (.int 0)) (wCons (wC (.int 1)) (wCons (wC (.int 2)) (wCons (wC (.int 3)) (wCons (wC (.int 16)) (wNil))))))) (arNil))))) (sNil))
  (sCons (sIf (wTru (wOp eqD (wVar 1) (wC (.str "exists")))) (sRet (wOp eqD (wFn 2 ct__law_roll (arS 0 (arE (wC (.int 2)) (arNil)))) (wC (.int 0)))) (sNil))
  (sRet (wIf (wTru (wOp eqD (wVar 1) (wC (.str "is")))) (wFn 2 ct__law_some (arS 0 (arE (wLst (wCons (wC (.str "null")) (wCons (wC (.str "number")) (wCons (wC (.str "text")) (wCons (wC (.str "doc")) (wCons (wC (.str "list")) (wCons (wC (.str "truth")) (wNil)))))))) (arNil)))) (wFn 2 ct__law_value (arS 0 (arE (wC (.int 1)) (arNil))))))))
def b__law_words : WS :=
  sRet (wLst (wCons (wC (.str "same")) (wCons (wC (.str "other")) (wCons (wC (.str "less")) (wCons (wC (.str "atmost")) (wCons (wC (.str "more")) (wCons (wC (.str "atleast")) (wCons (wC (.str "in")) (wCons (wC (.str "has")) (wCons (wC (.str "size")) (wCons (wC (.str "is")) (wCons (wC (.str "exists")) (wNil)))))))))))))
def b__law_filter (ct__law_filter : WE) (ct__law_path : WE) (ct__law_roll : WE) (ct__law_some : WE) (ct__law_told : WE) (ct__law_words : WE) : WS :=
  sCons (sAsg (wFn 2 ct__law_roll (arS 0 (arE (wIf (wTru (wOp gtD (wVar 1) (wC (.int 0)))) (wC (.int 9)) (wC (.int 5))) (arNil)))) (gN 2))
  (sCons (sIf (wTru (wOp ltD (wVar 2) (wC (.int 5)))) (sCons (sAsg (wFn 2 ct__law_some (arS 0 (arE (wFn 0 ct__law_words arNil) (arNil)))) (gN 3))
  (sRet (wTup (wCons (wC (.str "test")) (wCons (wFn 1 ct__law_path (arS 0 (arNil))) (wCons (wVar 3) (wCons (wFn 2 ct__law_told (arS 0 (arE (wVar 3) (arNil)))) (wNil)))))))) (sNil))
  (sCons (sIf (wTru (wOp eqD (wVar 2) (wC (.int 5)))) (sRet (wFn 2 ct__law_some (arS 0 (arE (wLst (wCons (wTup (wCons (wC (.str "every")) (wNil))) (wCons (wTup (wCons (wC (.str "not")) (wCons (wFn 2 ct__law_filter (arS 0 (arE (wOp subD (wVar 1) (wC (.int 1))) (arNil)))) (wNil)))) (wNil)))) (arNil))))) (sNil))
  (sCons (sIf (wTru (wOp eqD (wVar 2) (wC (.int 6)))) (sRet (wTup (wCons (wC (.str "any")) (wCons (wFn 1 ct__law_path (arS 0 (arNil))) (wCons (wFn 2 ct__law_filter (arS 0 (arE (wOp subD (wVar 1) (wC (.int 1))) (arNil)))) (wNil)))))) (sNil))
  (sRet (wTup (wCons (wFn 2 ct__law_some (arS 0 (arE (wLst (wCons (wC (.str "and")) (wCons (wC (.str "or")) (wNil)))) (arNil)))) (wCons (wCall tupleD (wCons (wOf (wLC (iRange (wFn 2 ct__law_roll (arS 0 (arE (wC (.int 4)) (arNil))))) (gN 4) (wYes) (wFn 2 ct__law_filter (arS 0 (arE (wOp subD (wVar 1) (wC (.int 1))) (arNil)))) [4])) (wNil))) (wNil))))))))
def b__law_near (ct__law_some : WE) : WS :=
  sCons (sAsg (wLst (wCons (wCall listD (wCons (wVar 1) (wNil))) (wCons (wOp addD (wVar 1) (wTup (wCons (wC (.int 0)) (wNil)))) (wCons (wOp addD (wTup (wCons (wOp addD (wOp idxD (wVar 1) (wC (.int 0))) (wC (.str "s"))) (wNil))) (wSlice (wVar 1) (wPS (wC (.int 1))) (wPN))) (wCons (wOp addD (wTup (wCons (wC .none) (wNil))) (wSlice (wVar 1) (wPS (wC (.int 1))) (wPN))) (wCons (wTup (wNil)) (wCons (wC .none) (wCons (wC (.str "every")) (wCons (wTup (wCons (wC (.str "not")) (wNil))) (wNil)))))))))) (gN 2))
  (sCons (sAsg (wOp addD (wVar 2) (wLst (wCons (wTup (wCons (wC (.str "not")) (wCons (wVar 1) (wCons (wVar 1) (wNil))))) (wNil)))) (gN 2))
  (sCons (sAsg (wOp addD (wVar 2) (wLst (wCons (wTup (wCons (wC (.str "and")) (wCons (wLst (wCons (wVar 1) (wNil))) (wNil)))) (wCons (wTup (wCons (wC (.str "or")) (wCons (wVar 1) (wNil)))) (wCons (wTup (wCons (wC (.str "any")) (wCons (wTup (wCons (wC (.str "a")) (wNil))) (wNil)))) (wCons (wTup (wCons (wC (.str "any")) (wCons (wLst (wCons (wC (.str "a")) (wNil))) (wCons (wVar 1) (wNil))))) (wCons (wTup (wCons (wC (.str "any")) (wCons (wTup (wCons (wC (.str "A")) (wNil))) (wCons (wVar 1) (wNil))))) (wNil)))))))) (gN 2))
  (sCons (sAsg (wOp addD (wVar 2) (wLst (wCons (wTup (wCons (wC (.str "and")) (wCons (wOp tmulD (wTup (wCons (wVar 1) (wNil))) (wC (.int 9))) (wNil)))) (wCons (wTup (wCons (wC (.str "and")) (wCons (wTup (wCons (wC .none) (wNil))) (wNil)))) (wNil))))) (gN 2))
  (sRet (wFn 2 ct__law_some (arS 0 (arE (wOp addD (wVar 2) (wLst (wCons (wTup (wCons (wC (.str "every")) (wCons (wTup (wNil)) (wNil)))) (wCons (wTup (wCons (wC (.str "or")) (wCons (wTup (wCons (wVar 1) (wCons (wTup (wCons (wC (.str "every")) (wCons (wC (.int 1)) (wNil)))) (wNil)))) (wNil)))) (wCons (wTup (wCons (wC (.str "not")) (wCons (wTup (wCons (wC (.str "and")) (wCons (wTup (wCons (wVar 1) (wCons (wLst (wCons (wC (.str "every")) (wNil))) (wNil)))) (wNil)))) (wNil)))) (wNil)))))) (arNil))))))))
def b_law (ct__law_cup : WA) (ct__law_filter : WE) (ct__law_near : WE) (ct_is_filter : WE) : WS :=
  sCons (sSetF 1 (wFnF 1 ct__law_cup (arE (wVar 0) (arNil))))
  (sCons (sFor (iRange (wC (.int 5))) (gN 2) (sCons (sAsg (wFn 2 ct__law_filter (arS 1 (arE (wC (.int 3)) (arNil)))) (gN 3))
  (sIf (wOr (wTru (wOp isnotD (wFn 1 ct_is_filter (arE (wVar 3) (arNil))) (wC (.bool true)))) (wTru (wOp isnotD (wFn 1 ct_is_filter (arE (wFn 2 ct__law_near (arS 1 (arE (wVar 3) (arNil)))) (arNil))) (wC (.bool false))))) (sRet (wC (.bool false))) (sNil))))
  (sCons (sAsg (wTup (wCons (wTup (wCons (wC (.str "every")) (wNil))) (wCons (wTup (wCons (wC (.str "a")) (wCons (wC (.int 15)) (wCons (wC (.str "b9")) (wNil))))) (wNil)))) (gTup' 2 (gCons' (gN 4) (gCons' (gN 5) (gNil')))))
  (sCons (sAsg (wTup (wCons (wC (.str "not")) (wCons (wTup (wCons (wC (.str "not")) (wCons (wTup (wCons (wC (.str "not")) (wCons (wTup (wCons (wC (.str "not")) (wCons (wVar 4) (wNil)))) (wNil)))) (wNil)))) (wNil)))) (gN 6))
  (sCons (sAsg (wTup (wCons (wC (.str "and")) (wCons (wTup (wCons (wTup (wCons (wC (.str "or")) (wCons (wOp tmulD (wTup (wCons (wVar 4) (wNil))) (wC (.int 8))) (wNil)))) (wCons (wTup (wCons (wC (.str "or")) (wCons (wOp tmulD (wTup (wCons (wVar 4) (wNil))) (wC (.int 8))) (wNil)))) (wCons (wTup (wCons (wC (.str "or")) (wCons (wOp tmulD (wTup (wCons (wVar 4) (wNil))) (wC (.int 8))) (wNil)))) (wCons (wTup (wCons (wC (.str "or")) (wCons (wOp tmulD (wTup (wCons (wVar 4) (wNil))) (wC (.int 8))) (wNil)))) (wCons (wTup (wCons (wC (.str "not")) (wCons (wVar 4) (wNil)))) (wCons (wVar 4) (wNil)))))))) (wNil)))) (gN 7))
  (sCons (sAsg (wLst (wCons (wVar 4) (wCons (wVar 6) (wCons (wTup (wCons (wC (.str "and")) (wCons (wTup (wNil)) (wNil)))) (wCons (wTup (wCons (wC (.str "or")) (wCons (wOp tmulD (wTup (wCons (wVar 4) (wNil))) (wC (.int 8))) (wNil)))) (wCons (wTup (wCons (wC (.str "and")) (wCons (wSlice (wOp idxD (wVar 7) (wC (.int 1))) (wPN) (wPS (wC (.int 5)))) (wNil)))) (wCons (wTup (wCons (wC (.str "and")) (wCons (wOp idxD (wVar 7) (wC (.int 1))) (wNil)))) (wNil)))))))) (gN 8))
  (sCons (sAsg (wLst (wCons (wTup (wCons (wC (.str "not")) (wCons (wVar 6) (wNil)))) (wCons (wTup (wCons (wC (.str "and")) (wCons (wOp addD (wOp idxD (wVar 7) (wC (.int 1))) (wTup (wCons (wVar 4) (wNil)))) (wNil)))) (wCons (wTup (wCons (wC (.str "or")) (wCons (wOp tmulD (wTup (wCons (wVar 4) (wNil))) (wC (.int 9))) (wNil)))) (wNil))))) (gN 9))
  (sCons (sAsg (wLst (wCons (wTup (wCons (wC (.str "same")) (wCons (wC .none) (wCons (wC (.bool true)) (wNil))))) (wCons (wTup (wCons (wC (.str "same")) (wCons (wLst (wCons (wC (.int 1)) (wNil))) (wCons (wC (.bool false)) (wNil))))) (wCons (wTup (wCons (wC (.str "other")) (wCons (wC (.str "it's")) (wCons (wC (.bool false)) (wNil))))) (wCons (wTup (wCons (wC (.str "less")) (wCons (wOp addD (wOp powD (wC (.int 10)) (wC (.int 12))) (wC (.int 1))) (wCons (wC (.bool false)) (wNil))))) (wNil)))))) (gN 10))
  (sCons (sAsg (wOp addD (wVar 10) (wLst (wCons (wTup (wCons (wC (.str "atmost")) (wCons (wTup (wCons (wC (.str "list")) (wCons (wTup (wNil)) (wNil)))) (wCons (wC (.bool true)) (wNil))))) (wCons (wTup (wCons (wC (.str "more")) (wCons (wTup (wCons (wC (.str "doc")) (wCons (wTup (wCons (wTup (wCons (wC (.str "id")) (wCons (wC (.int 1)) (wNil)))) (wNil))) (wNil)))) (wCons (wC (.bool true)) (wNil))))) (wNil))))) (gN 10))
  (sCons (sAsg (wOp addD (wVar 10) (wLst (wCons (wTup (wCons (wC (.str "in")) (wCons (wTup (wCons (wC (.str "list")) (wCons (wTup (wCons (wC (.int 1)) (wCons (wC (.str "a")) (wNil)))) (wNil)))) (wCons (wC (.bool true)) (wNil))))) (wCons (wTup (wCons (wC (.str "in")) (wCons (wC (.int 1)) (wCons (wC (.bool false)) (wNil))))) (wCons (wTup (wCons (wC (.str "in")) (wCons (wTup (wCons (wC (.str "doc")) (wCons (wTup (wNil)) (wNil)))) (wCons (wC (.bool false)) (wNil))))) (wCons (wTup (wCons (wC (.str "has")) (wCons (wTup (wCons (wC (.str "list")) (wCons (wTup (wNil)) (wNil)))) (wCons (wC (.bool true)) (wNil))))) (wNil))))))) (gN 10))
  (sCons (sAsg (wOp addD (wVar 10) (wLst (wCons (wTup (wCons (wC (.str "has")) (wCons (wTup (wCons (wC (.int 1)) (wNil))) (wCons (wC (.bool false)) (wNil))))) (wNil)))) (gN 10))
  (sCons (sAsg (wOp addD (wVar 10) (wLst (wCons (wTup (wCons (wC (.str "size")) (wCons (wC (.int 0)) (wCons (wC (.bool true)) (wNil))))) (wCons (wTup (wCons (wC (.str "size")) (wCons (wC (.int 16)) (wCons (wC (.bool true)) (wNil))))) (wCons (wTup (wCons (wC (.str "size")) (wCons (wC (.int 17)) (wCons (wC (.bool false)) (wNil))))) (wCons (wTup (wCons (wC (.str "size")) (wCons (wUn negD (wC (.int 1))) (wCons (wC (.bool false)) (wNil))))) (wCons (wTup (wCons (wC (.str "size")) (wCons (wC (.bool true)) (wCons (wC (.bool false)) (wNil))))) (wNil)))))))) (gN 10))
  (sCons (sAsg (wOp addD (wVar 10) (wLst (wCons (wTup (wCons (wC (.str "size")) (wCons (wC .none) (wCons (wC (.bool false)) (wNil))))) (wCons (wTup (wCons (wC (.str "size")) (wCons (wC (.bool false)) (wCons (wC (.bool false)) (wNil))))) (wCons (wTup (wCons (wC (.str "is")) (wCons (wC (.str "")) (wCons (wC (.bool false)) (wNil))))) (wNil)))))) (gN 10))
  (sCons (sAsg (wOp addD (wVar 10) (wLst (wCons (wTup (wCons (wC (.str "in")) (wCons (wTup (wCons (wC (.str "list")) (wCons (wTup (wCons (wOp addD (wOp powD (wC (.int 10)) (wC (.int 12))) (wC (.int 1))) (wNil))) (wNil)))) (wCons (wC (.bool false)) (wNil))))) (wCons (wTup (wCons (wC (.str "has")) (wCons (wTup (wCons (wC (.str "list")) (wCons (wTup (wCons (wC (.str "it's")) (wNil))) (wNil)))) (wCons (wC (.bool false)) (wNil))))) (wCons (wTup (wCons (wC (.str "in")) (wCons (wTup (wCons (wC (.str "list")) (wCons (wLst (wCons (wC (.int 1)) (wNil))) (wNil)))) (wCons (wC (.bool false)) (wNil))))) (wNil)))))) (gN 10))
  (sCons (sAsg (wOp addD (wVar 10) (wLst (wCons (wTup (wCons (wC (.str "has")) (wCons (wTup (wCons (wC (.str "list")) (wCons (wOp tmulD (wTup (wCons (wC (.int 1)) (wNil))) (wC (.int 17))) (wNil)))) (wCons (wC (.bool false)) (wNil))))) (wCons (wTup (wCons (wC (.str "has")) (wCons (wTup (wCons (wC (.str "list")) (wCons (wOp tmulD (wTup (wCons (wC (.int 1)) (wNil))) (wC (.int 16))) (wNil)))) (wCons (wC (.bool true)) (wNil))))) (wCons (wTup (wCons (wC (.str "in")) (wCons (wTup (wCons (wC (.str "list")) (wCons (wTup (wCons (wTup (wCons (wC (.str "list")) (wCons (wC (.int 5)) (wNil)))) (wNil))) (wNil)))) (wCons (wC (.bool false)) (wNil))))) (wNil)))))) (gN 10))
  (sCons (sAsg (wOp addD (wOp addD (wVar 10) (wOf (wLC (iT (wTup (wCons (wC (.str "atmost")) (wCons (wC (.str "more")) (wCons (wC (.str "atleast")) (wNil)))))) (gN 11) (wYes) (wTup (wCons (wVar 11) (wCons (wC (.str "it's")) (wCons (wC (.bool false)) (wNil))))) [11]))) (wOf (wLC (iT (wTup (wCons (wC (.str "atmost")) (wCons (wC (.str "more")) (wCons (wC (.str "atleast")) (wCons (wC (.str "other")) (wNil))))))) (gN 11) (wYes) (wTup (wCons (wVar 11) (wCons (wLst (wCons (wC (.str "a")) (wNil))) (wCons (wC (.bool false)) (wNil))))) [11]))) (gN 10))
  (sCons (sAsg (wOp addD (wVar 10) (wLst (wCons (wTup (wCons (wC (.str "is")) (wCons (wC (.str "truth")) (wCons (wC (.bool true)) (wNil))))) (wCons (wTup (wCons (wC (.str "is")) (wCons (wC (.str "null")) (wCons (wC (.bool true)) (wNil))))) (wCons (wTup (wCons (wC (.str "is")) (wCons (wC (.str "bool")) (wCons (wC (.bool false)) (wNil))))) (wCons (wTup (wCons (wC (.str "is")) (wCons (wC .none) (wCons (wC (.bool false)) (wNil))))) (wCons (wTup (wCons (wC (.str "is")) (wCons (wC (.int 1)) (wCons (wC (.bool false)) (wNil))))) (wNil)))))))) (gN 10))
  (sCons (sAsg (wOp addD (wVar 10) (wLst (wCons (wTup (wCons (wC (.str "exists")) (wCons (wC (.bool true)) (wCons (wC (.bool true)) (wNil))))) (wCons (wTup (wCons (wC (.str "exists")) (wCons (wC (.int 1)) (wCons (wC (.bool false)) (wNil))))) (wCons (wTup (wCons (wC (.str "exists")) (wCons (wC .none) (wCons (wC (.bool false)) (wNil))))) (wNil)))))) (gN 10))
  (sCons (sAsg (wOp addD (wVar 10) (wLst (wCons (wTup (wCons (wC (.str "Same")) (wCons (wC (.int 1)) (wCons (wC (.bool false)) (wNil))))) (wCons (wTup (wCons (wC (.str "like")) (wCons (wC (.str "a")) (wCons (wC (.bool false)) (wNil))))) (wCons (wTup (wCons (wC .none) (wCons (wC (.int 1)) (wCons (wC (.bool false)) (wNil))))) (wCons (wTup (wCons (wC (.str "")) (wCons (wC (.int 1)) (wCons (wC (.bool false)) (wNil))))) (wNil))))))) (gN 10))
  (sCons (sFor (iL (wVar 10)) (gTup' 3 (gCons' (gN 11) (gCons' (gN 12) (gCons' (gN 13) (gNil'))))) (sIf (wTru (wOp neD (wCall reprD (wCons (wFn 1 ct_is_filter (arE (wTup (wCons (wC (.str "test")) (wCons (wVar 5) (wCons (wVar 11) (wCons (wVar 12) (wNil)))))) (arNil))) (wNil))) (wCall reprD (wCons (wVar 13) (wNil))))) (sRet (wC (.bool false))) (sNil)))
  (sCons (sAsg (wLst (wCons (wTup (wCons (wTup (wNil)) (wCons (wC (.bool true)) (wNil)))) (wCons (wTup (wCons (wOp tmulD (wTup (wCons (wC (.str "a")) (wNil))) (wC (.int 6))) (wCons (wC (.bool true)) (wNil)))) (wCons (wTup (wCons (wOp tmulD (wTup (wCons (wC (.str "a")) (wNil))) (wC (.int 7))) (wCons (wC (.bool false)) (wNil)))) (wCons (wTup (wCons (wTup (wCons (wC (.int 16)) (wNil))) (wCons (wC (.bool false)) (wNil)))) (wCons (wTup (wCons (wTup (wCons (wUn negD (wC (.int 1))) (wNil))) (wCons (wC (.bool false)) (wNil)))) (wCons (wTup (wCons (wTup (wCons (wC (.bool true)) (wNil))) (wCons (wC (.bool false)) (wNil)))) (wCons (wTup (wCons (wTup (wCons (wC (.str "Ab")) (wNil))) (wCons (wC (.bool false)) (wNil)))) (wNil))))))))) (gN 14))
  (sCons (sAsg (wOp addD (wVar 14) (wLst (wCons (wTup (wCons (wLst (wCons (wC (.str "a")) (wNil))) (wCons (wC (.bool false)) (wNil)))) (wCons (wTup (wCons (wC .none) (wCons (wC (.bool false)) (wNil)))) (wNil))))) (gN 14))
  (sCons (sFor (iL (wVar 14)) (gTup' 2 (gCons' (gN 15) (gCons' (gN 13) (gNil')))) (sIf (wOr (wTru (wOp neD (wCall reprD (wCons (wFn 1 ct_is_filter (arE (wTup (wCons (wC (.str "test")) (wCons (wVar 15) (wCons (wC (.str "same")) (wCons (wC (.int 1)) (wNil)))))) (arNil))) (wNil))) (wCall reprD (wCons (wVar 13) (wNil))))) (wTru (wOp neD (wCall reprD (wCons (wFn 1 ct_is_filter (arE (wTup (wCons (wC (.str "any")) (wCons (wVar 15) (wCons (wVar 4) (wNil))))) (arNil))) (wNil))) (wCall reprD (wCons (wVar 13) (wNil)))))) (sRet (wC (.bool false))) (sNil)))
  (sCons (sAsg (wOp addD (wVar 9) (wLst (wCons (wTup (wCons (wLst (wCons (wC (.str "and")) (wNil))) (wCons (wTup (wNil)) (wNil)))) (wCons (wTup (wCons (wLst (wCons (wC (.str "every")) (wNil))) (wNil))) (wCons (wTup (wCons (wC (.str "test")) (wCons (wTup (wCons (wC (.str "a")) (wNil))) (wCons (wLst (wCons (wC (.str "same")) (wNil))) (wCons (wC (.int 1)) (wNil)))))) (wCons (wTup (wCons (wC (.str "test")) (wCons (wTup (wCons (wC (.str "a")) (wNil))) (wCons (wC (.str "is")) (wCons (wLst (wCons (wC (.str "text")) (wNil))) (wNil)))))) (wNil))))))) (gN 9))
  (sCons (sAsg (wOp addD (wVar 9) (wLst (wCons (wTup (wCons (wC (.str "test")) (wCons (wTup (wCons (wC (.str "a")) (wNil))) (wCons (wTup (wCons (wC (.str "same")) (wNil))) (wCons (wC (.int 1)) (wNil)))))) (wCons (wTup (wCons (wTup (wNil)) (wCons (wTup (wNil)) (wNil)))) (wNil))))) (gN 9))
  (sCons (sAsg (wOp addD (wVar 9) (wLst (wCons (wTup (wCons (wC (.str "test")) (wNil))) (wCons (wTup (wCons (wC (.str "test")) (wCons (wTup (wCons (wC (.str "a")) (wNil))) (wNil)))) (wCons (wTup (wCons (wC (.str "test")) (wCons (wTup (wCons (wC (.str "a")) (wNil))) (wCons (wC (.str "same")) (wNil))))) (wCons (wTup (wCons (wC (.str "and")) (wNil))) (wCons (wTup (wCons (wC (.str "or")) (wNil))) (wCons (wTup (wCons (wC (.str "any")) (wNil))) (wCons (wTup (wCons (wC (.str "not")) (wNil))) (wCons (wTup (wCons (wC (.str "any")) (wCons (wTup (wCons (wC (.str "a")) (wNil))) (wNil)))) (wCons (wTup (wCons (wC (.str "or")) (wCons (wLst (wCons (wVar 4) (wNil))) (wNil)))) (wNil)))))))))))) (gN 9))
  (sCons (sAsg (wOp addD (wVar 9) (wLst (wCons (wTup (wCons (wC (.str "and")) (wCons (wTup (wNil)) (wCons (wTup (wNil)) (wNil))))) (wCons (wTup (wCons (wC (.str "test")) (wCons (wTup (wCons (wC (.str "a")) (wNil))) (wCons (wC (.str "same")) (wCons (wC (.int 1)) (wCons (wC (.int 1)) (wNil))))))) (wNil))))) (gN 9))
  (sCons (sAsg (wTup (wCons (wC (.str "test")) (wCons (wTup (wCons (wC (.str "a")) (wNil))) (wCons (wC (.str "same")) (wCons (wC (.int 1)) (wNil)))))) (gN 16))
  (sCons (sAsg (wTup (wCons (wC (.str "any")) (wCons (wTup (wCons (wC (.str "a")) (wNil))) (wCons (wTup (wCons (wC (.str "or")) (wCons (wTup (wCons (wVar 4) (wCons (wTup (wCons (wC (.str "and")) (wCons (wTup (wCons (wTup (wCons (wC (.str "any")) (wCons (wTup (wCons (wC (.str "b")) (wNil))) (wCons (wVar 16) (wNil))))) (wCons (wVar 4) (wNil)))) (wNil)))) (wNil)))) (wNil)))) (wNil))))) (gN 17))
  (sCons (sPar 8 9 (wOp addD (wVar 8) (wLst (wCons (wVar 17) (wCons (wTup (wCons (wC (.str "or")) (wCons (wTup (wCons (wVar 4) (wCons (wTup (wCons (wC (.str "and")) (wCons (wTup (wCons (wTup (wCons (wC (.str "or")) (wCons (wTup (wCons (wTup (wCons (wC (.str "not")) (wCons (wVar 16) (wNil)))) (wNil))) (wNil)))) (wNil))) (wNil)))) (wNil)))) (wNil)))) (wNil))))) (wOp addD (wVar 9) (wLst (wCons (wTup (wCons (wC (.str "and")) (wCons (wTup (wCons (wVar 4) (wCons (wVar 17) (wNil)))) (wNil)))) (wCons (wTup (wCons (wC (.str "or")) (wCons (wTup (wCons (wVar 17) (wNil))) (wNil)))) (wCons (wTup (wCons (wC (.str "any")) (wCons (wTup (wNil)) (wCons (wVar 17) (wNil))))) (wNil)))))))
  (sCons (sAsg (wOp tmulD (wTup (wCons (wTup (wCons (wC (.str "or")) (wCons (wOp tmulD (wTup (wCons (wVar 16) (wNil))) (wC (.int 8))) (wNil)))) (wNil))) (wC (.int 4))) (gN 18))
  (sCons (sAsg (wOp addD (wVar 8) (wLst (wCons (wTup (wCons (wC (.str "and")) (wCons (wOp addD (wVar 18) (wTup (wCons (wTup (wCons (wC (.str "any")) (wCons (wTup (wCons (wC (.str "a")) (wNil))) (wCons (wVar 16) (wNil))))) (wCons (wVar 16) (wNil))))) (wNil)))) (wNil)))) (gN 8))
  (sCons (sAsg (wOp addD (wVar 9) (wLst (wCons (wTup (wCons (wC (.str "and")) (wCons (wOp addD (wVar 18) (wTup (wCons (wTup (wCons (wC (.str "any")) (wCons (wTup (wCons (wC (.str "a")) (wNil))) (wCons (wVar 16) (wNil))))) (wCons (wVar 16) (wCons (wVar 16) (wNil)))))) (wNil)))) (wCons (wTup (wCons (wC (.str "and")) (wCons (wOp addD (wVar 18) (wTup (wCons (wTup (wCons (wC (.str "any")) (wCons (wTup (wCons (wC (.str "a")) (wNil))) (wCons (wTup (wCons (wC (.str "any")) (wCons (wTup (wNil)) (wCons (wVar 16) (wNil))))) (wNil))))) (wCons (wVar 16) (wNil))))) (wNil)))) (wNil))))) (gN 9))
  (sCons (sAsg (wOp addD (wVar 9) (wLst (wCons (wTup (wCons (wC (.str "or")) (wCons (wOp tmulD (wTup (wCons (wTup (wCons (wC (.str "or")) (wCons (wOp tmulD (wTup (wCons (wVar 16) (wNil))) (wC (.int 8))) (wNil)))) (wNil))) (wC (.int 5))) (wNil)))) (wNil)))) (gN 9))
  (sRet (wAndV (wOp eqD (wOf (wLC (iL (wVar 8)) (gN 19) (wTru (wOp isnotD (wFn 1 ct_is_filter (arE (wVar 19) (arNil))) (wC (.bool true)))) (wVar 19) [19])) (wLst (wNil))) (wOp eqD (wOf (wLC (iL (wVar 9)) (gN 19) (wTru (wOp isnotD (wFn 1 ct_is_filter (arE (wVar 19) (arNil))) (wC (.bool false)))) (wVar 19) [19])) (wLst (wNil))))))))))))))))))))))))))))))))))))))
end K16
end

section
set_option maxRecDepth 100000
set_option maxHeartbeats 0
namespace K16
open PySem PySem.Spec PyProof.Rows L2 PV
set_option autoImplicit false
/-! ### the text -/
def topS (i : Nat) : Stmt := PySem.Challenge.pw_documenthall_k16_whole_filters_by_shape.main.body.getD i (.Pass ⟨0, 0, 0, 0⟩)
abbrev s_is_whole : Stmt := topS 8
abbrev s_is_tuple_of : Stmt := topS 9
abbrev s_is_name : Stmt := topS 10
abbrev s_is_text_sign : Stmt := topS 11
abbrev s_fits_plain : Stmt := topS 12
abbrev s_is_knot : Stmt := topS 13
abbrev s_fits_fields : Stmt := topS 14
abbrev s_inner_of : Stmt := topS 15
abbrev s_fits_value : Stmt := topS 16
abbrev s_is_list : Stmt := topS 17
abbrev s_fits_path : Stmt := topS 22
abbrev s_fits_told : Stmt := topS 30
abbrev s_fits_test : Stmt := topS 31
abbrev s_inner_filters : Stmt := topS 32
abbrev s_fits_filter : Stmt := topS 33
abbrev s_is_filter : Stmt := topS 34
abbrev s__law_cup : Stmt := topS 36
abbrev s__law_roll : Stmt := topS 37
abbrev s__law_some : Stmt := topS 38
abbrev s__law_value : Stmt := topS 39
abbrev s__law_drawn_fields : Stmt := topS 40
abbrev s__law_path : Stmt := topS 41
abbrev s__law_told : Stmt := topS 42
abbrev s__law_words : Stmt := topS 43
abbrev s__law_filter : Stmt := topS 44
abbrev s__law_near : Stmt := topS 45
abbrev s_law : Stmt := topS 46
theorem sc_is_whole : FnScope ["value", "low", "high"] ["value", "low", "high"] (defScope s_is_whole) := ⟨rfl, rfl, rfl, by decide +kernel, rfl, by decide +kernel, by decide +kernel⟩
theorem sc_is_tuple_of : FnScope ["value", "low", "high"] ["value", "low", "high"] (defScope s_is_tuple_of) := ⟨rfl, rfl, rfl, by decide +kernel, rfl, by decide +kernel, by decide +kernel⟩
theorem sc_is_name : FnScope ["value", "sign"] ["value"] (defScope s_is_name) := ⟨rfl, rfl, rfl, by decide +kernel, rfl, by decide +kernel, by decide +kernel⟩
theorem sc_is_text_sign : FnScope ["sign"] ["sign"] (defScope s_is_text_sign) := ⟨rfl, rfl, rfl, by decide +kernel, rfl, by decide +kernel, by decide +kernel⟩
theorem sc_fits_plain : FnScope ["value", "sign"] ["value"] (defScope s_fits_plain) := ⟨rfl, rfl, rfl, by decide +kernel, rfl, by decide +kernel, by decide +kernel⟩
theorem sc_is_knot : FnScope ["value"] ["value"] (defScope s_is_knot) := ⟨rfl, rfl, rfl, by decide +kernel, rfl, by decide +kernel, by decide +kernel⟩
theorem sc_fits_fields : FnScope ["fields", "one", "names"] ["fields"] (defScope s_fits_fields) := ⟨rfl, rfl, rfl, by decide +kernel, rfl, by decide +kernel, by decide +kernel⟩
theorem sc_inner_of : FnScope ["value", "one"] ["value"] (defScope s_inner_of) := ⟨rfl, rfl, rfl, by decide +kernel, rfl, by decide +kernel, by decide +kernel⟩
theorem sc_fits_value : FnScope ["value", "line", "one", "deep", "inner"] ["value"] (defScope s_fits_value) := ⟨rfl, rfl, rfl, by decide +kernel, rfl, by decide +kernel, by decide +kernel⟩
theorem sc_is_list : FnScope ["value"] ["value"] (defScope s_is_list) := ⟨rfl, rfl, rfl, by decide +kernel, rfl, by decide +kernel, by decide +kernel⟩
theorem sc_fits_path : FnScope ["value", "one"] ["value"] (defScope s_fits_path) := ⟨rfl, rfl, rfl, by decide +kernel, rfl, by decide +kernel, by decide +kernel⟩
theorem sc_fits_told : FnScope ["word", "value"] ["word", "value"] (defScope s_fits_told) := ⟨rfl, rfl, rfl, by decide +kernel, rfl, by decide +kernel, by decide +kernel⟩
theorem sc_fits_test : FnScope ["value"] ["value"] (defScope s_fits_test) := ⟨rfl, rfl, rfl, by decide +kernel, rfl, by decide +kernel, by decide +kernel⟩
theorem sc_inner_filters : FnScope ["value", "word", "many"] ["value"] (defScope s_inner_filters) := ⟨rfl, rfl, rfl, by decide +kernel, rfl, by decide +kernel, by decide +kernel⟩
theorem sc_fits_filter : FnScope ["value", "line", "many", "one", "deep", "inner", "part"] ["value"] (defScope s_fits_filter) := ⟨rfl, rfl, rfl, by decide +kernel, rfl, by decide +kernel, by decide +kernel⟩
theorem sc_is_filter : FnScope ["value"] ["value"] (defScope s_is_filter) := ⟨rfl, rfl, rfl, by decide +kernel, rfl, by decide +kernel, by decide +kernel⟩
theorem sc__law_cup : FnScope ["script", "cell"] ["script"] (defScope s__law_cup) := ⟨rfl, rfl, rfl, by decide +kernel, rfl, by decide +kernel, by decide +kernel⟩
theorem sc__law_roll : FnScope ["cup", "many", "found", "deep"] ["cup", "many"] (defScope s__law_roll) := ⟨rfl, rfl, rfl, by decide +kernel, rfl, by decide +kernel, by decide +kernel⟩
theorem sc__law_some : FnScope ["cup", "things"] ["cup", "things"] (defScope s__law_some) := ⟨rfl, rfl, rfl, by decide +kernel, rfl, by decide +kernel, by decide +kernel⟩
theorem sc__law_value : FnScope ["cup", "deep", "way", "turn"] ["cup", "deep"] (defScope s__law_value) := ⟨rfl, rfl, rfl, by decide +kernel, rfl, by decide +kernel, by decide +kernel⟩
theorem sc__law_drawn_fields : FnScope ["cup", "deep", "many", "found", "names", "turn", "name", "one"] ["cup", "deep", "many"] (defScope s__law_drawn_fields) := ⟨rfl, rfl, rfl, by decide +kernel, rfl, by decide +kernel, by decide +kernel⟩
theorem sc__law_path : FnScope ["cup", "some"] ["cup"] (defScope s__law_path) := ⟨rfl, rfl, rfl, by decide +kernel, rfl, by decide +kernel, by decide +kernel⟩
theorem sc__law_told : FnScope ["cup", "word", "turn"] ["cup", "word"] (defScope s__law_told) := ⟨rfl, rfl, rfl, by decide +kernel, rfl, by decide +kernel, by decide +kernel⟩
theorem sc__law_words : FnScope [] [] (defScope s__law_words) := ⟨rfl, rfl, rfl, by decide +kernel, rfl, by decide +kernel, by decide +kernel⟩
theorem sc__law_filter : FnScope ["cup", "deep", "way", "word", "turn"] ["cup", "deep"] (defScope s__law_filter) := ⟨rfl, rfl, rfl, by decide +kernel, rfl, by decide +kernel, by decide +kernel⟩
theorem sc__law_near : FnScope ["cup", "asked", "some"] ["cup", "asked"] (defScope s__law_near) := ⟨rfl, rfl, rfl, by decide +kernel, rfl, by decide +kernel, by decide +kernel⟩
theorem sc_law : FnScope ["script", "cup", "turn", "asked", "leaf", "path", "four", "forty", "goods", "odds", "tests", "word", "told", "due", "paths", "way", "test", "deep", "wide", "one"] ["script"] (defScope s_law) := ⟨rfl, rfl, rfl, by decide +kernel, rfl, by decide +kernel, by decide +kernel⟩
/-! ### what the module holds -/
structure M (K : Fg) (mg : Str → Option Value) where
  b_abs : mg "abs" = none
  b_all : mg "all" = none
  b_bool : mg "bool" = none
  b_int : mg "int" = none
  b_isinstance : mg "isinstance" = none
  b_len : mg "len" = none
  b_list : mg "list" = none
  b_ord : mg "ord" = none
  b_range : mg "range" = none
  b_repr : mg "repr" = none
  b_set : mg "set" = none
  b_str : mg "str" = none
  b_tuple : mg "tuple" = none
  t_DEEP : Tok
  g_DEEP : mg "DEEP" = some (.int 6 t_DEEP)
  t_FILTERS : Tok
  g_FILTERS : mg "FILTERS" = some (.int 40 t_FILTERS)
  t_HIGHEST : Tok
  g_HIGHEST : mg "HIGHEST" = some (.int 1000000000000 t_HIGHEST)
  t_INDEX : Tok
  g_INDEX : mg "INDEX" = some (.int 15 t_INDEX)
  a_KINDS : Addr
  g_KINDS : mg "KINDS" = some (.ref a_KINDS)
  k_KINDS : KTup K a_KINDS [.str "null", .str "number", .str "text", .str "doc", .str "list", .str "truth"]
  a_LISTS : Addr
  g_LISTS : mg "LISTS" = some (.ref a_LISTS)
  k_LISTS : KTup K a_LISTS [.str "in", .str "has"]
  t_LONGEST : Tok
  g_LONGEST : mg "LONGEST" = some (.int 40 t_LONGEST)
  t_MOST : Tok
  g_MOST : mg "MOST" = some (.int 16 t_MOST)
  t_NAME : Tok
  g_NAME : mg "NAME" = some (.int 8 t_NAME)
  t_NESTED : Tok
  g_NESTED : mg "NESTED" = some (.int 5 t_NESTED)
  a_ORDERS : Addr
  g_ORDERS : mg "ORDERS" = some (.ref a_ORDERS)
  k_ORDERS : KTup K a_ORDERS [.str "less", .str "atmost", .str "more", .str "atleast"]
  t_PARTS : Tok
  g_PARTS : mg "PARTS" = some (.int 8 t_PARTS)
  t_SIGNS : Tok
  g_SIGNS : mg "SIGNS" = some (.str "abcdefghijklmnopqrstuvwxyz0123456789" t_SIGNS)
  t_SIZE : Tok
  g_SIZE : mg "SIZE" = some (.int 16 t_SIZE)
  t_SMALL : Tok
  g_SMALL : mg "SMALL" = some (.str "abcdefghijklmnopqrstuvwxyz" t_SMALL)
  t_STEPS : Tok
  g_STEPS : mg "STEPS" = some (.int 6 t_STEPS)
  a_is_whole : Addr
  fd_is_whole : FuncData
  F_is_whole : Fun K "is_whole" "is_whole" s_is_whole a_is_whole fd_is_whole
  B_is_whole : Binds K fd_is_whole ["value", "low", "high"] []
  m_is_whole : mg "is_whole" = some (.ref a_is_whole)
  a_is_tuple_of : Addr
  fd_is_tuple_of : FuncData
  F_is_tuple_of : Fun K "is_tuple_of" "is_tuple_of" s_is_tuple_of a_is_tuple_of fd_is_tuple_of
  B_is_tuple_of : Binds K fd_is_tuple_of ["value", "low", "high"] []
  m_is_tuple_of : mg "is_tuple_of" = some (.ref a_is_tuple_of)
  a_is_name : Addr
  fd_is_name : FuncData
  F_is_name : Fun K "is_name" "is_name" s_is_name a_is_name fd_is_name
  B_is_name : Binds K fd_is_name ["value"] []
  m_is_name : mg "is_name" = some (.ref a_is_name)
  a_is_text_sign : Addr
  fd_is_text_sign : FuncData
  F_is_text_sign : Fun K "is_text_sign" "is_text_sign" s_is_text_sign a_is_text_sign fd_is_text_sign
  B_is_text_sign : Binds K fd_is_text_sign ["sign"] []
  m_is_text_sign : mg "is_text_sign" = some (.ref a_is_text_sign)
  a_fits_plain : Addr
  fd_fits_plain : FuncData
  F_fits_plain : Fun K "fits_plain" "fits_plain" s_fits_plain a_fits_plain fd_fits_plain
  B_fits_plain : Binds K fd_fits_plain ["value"] []
  m_fits_plain : mg "fits_plain" = some (.ref a_fits_plain)
  a_is_knot : Addr
  fd_is_knot : FuncData
  F_is_knot : Fun K "is_knot" "is_knot" s_is_knot a_is_knot fd_is_knot
  B_is_knot : Binds K fd_is_knot ["value"] []
  m_is_knot : mg "is_knot" = some (.ref a_is_knot)
  a_fits_fields : Addr
  fd_fits_fields : FuncData
  F_fits_fields : Fun K "fits_fields" "fits_fields" s_fits_fields a_fits_fields fd_fits_fields
  B_fits_fields : Binds K fd_fits_fields ["fields"] []
  m_fits_fields : mg "fits_fields" = some (.ref a_fits_fields)
  a_inner_of : Addr
  fd_inner_of : FuncData
  F_inner_of : Fun K "inner_of" "inner_of" s_inner_of a_inner_of fd_inner_of
  B_inner_of : Binds K fd_inner_of ["value"] []
  m_inner_of : mg "inner_of" = some (.ref a_inner_of)
  a_fits_value : Addr
  fd_fits_value : FuncData
  F_fits_value : Fun K "fits_value" "fits_value" s_fits_value a_fits_value fd_fits_value
  B_fits_value : Binds K fd_fits_value ["value"] []
  m_fits_value : mg "fits_value" = some (.ref a_fits_value)
  a_is_list : Addr
  fd_is_list : FuncData
  F_is_list : Fun K "is_list" "is_list" s_is_list a_is_list fd_is_list
  B_is_list : Binds K fd_is_list ["value"] []
  m_is_list : mg "is_list" = some (.ref a_is_list)
  a_fits_path : Addr
  fd_fits_path : FuncData
  F_fits_path : Fun K "fits_path" "fits_path" s_fits_path a_fits_path fd_fits_path
  B_fits_path : Binds K fd_fits_path ["value"] []
  m_fits_path : mg "fits_path" = some (.ref a_fits_path)
  a_fits_told : Addr
  fd_fits_told : FuncData
  F_fits_told : Fun K "fits_told" "fits_told" s_fits_told a_fits_told fd_fits_told
  B_fits_told : Binds K fd_fits_told ["word", "value"] []
  m_fits_told : mg "fits_told" = some (.ref a_fits_told)
  a_fits_test : Addr
  fd_fits_test : FuncData
  F_fits_test : Fun K "fits_test" "fits_test" s_fits_test a_fits_test fd_fits_test
  B_fits_test : Binds K fd_fits_test ["value"] []
  m_fits_test : mg "fits_test" = some (.ref a_fits_test)
  a_inner_filters : Addr
  fd_inner_filters : FuncData
  F_inner_filters : Fun K "inner_filters" "inner_filters" s_inner_filters a_inner_filters fd_inner_filters
  B_inner_filters : Binds K fd_inner_filters ["value"] []
  m_inner_filters : mg "inner_filters" = some (.ref a_inner_filters)
  a_fits_filter : Addr
  fd_fits_filter : FuncData
  F_fits_filter : Fun K "fits_filter" "fits_filter" s_fits_filter a_fits_filter fd_fits_filter
  B_fits_filter : Binds K fd_fits_filter ["value"] []
  m_fits_filter : mg "fits_filter" = some (.ref a_fits_filter)
  a_is_filter : Addr
  fd_is_filter : FuncData
  F_is_filter : Fun K "is_filter" "is_filter" s_is_filter a_is_filter fd_is_filter
  B_is_filter : Binds K fd_is_filter ["value"] []
  m_is_filter : mg "is_filter" = some (.ref a_is_filter)
  a__law_cup : Addr
  fd__law_cup : FuncData
  F__law_cup : Fun K "_law_cup" "_law_cup" s__law_cup a__law_cup fd__law_cup
  B__law_cup : Binds K fd__law_cup ["script"] []
  m__law_cup : mg "_law_cup" = some (.ref a__law_cup)
  a__law_roll : Addr
  fd__law_roll : FuncData
  F__law_roll : Fun K "_law_roll" "_law_roll" s__law_roll a__law_roll fd__law_roll
  B__law_roll : Binds K fd__law_roll ["cup", "many"] []
  m__law_roll : mg "_law_roll" = some (.ref a__law_roll)
  a__law_some : Addr
  fd__law_some : FuncData
  F__law_some : Fun K "_law_some" "_law_some" s__law_some a__law_some fd__law_some
  B__law_some : Binds K fd__law_some ["cup", "things"] []
  m__law_some : mg "_law_some" = some (.ref a__law_some)
  a__law_value : Addr
  fd__law_value : FuncData
  F__law_value : Fun K "_law_value" "_law_value" s__law_value a__law_value fd__law_value
  B__law_value : Binds K fd__law_value ["cup", "deep"] []
  m__law_value : mg "_law_value" = some (.ref a__law_value)
  a__law_drawn_fields : Addr
  fd__law_drawn_fields : FuncData
  F__law_drawn_fields : Fun K "_law_drawn_fields" "_law_drawn_fields" s__law_drawn_fields a__law_drawn_fields fd__law_drawn_fields
  B__law_drawn_fields : Binds K fd__law_drawn_fields ["cup", "deep", "many"] []
  m__law_drawn_fields : mg "_law_drawn_fields" = some (.ref a__law_drawn_fields)
  a__law_path : Addr
  fd__law_path : FuncData
  F__law_path : Fun K "_law_path" "_law_path" s__law_path a__law_path fd__law_path
  B__law_path : Binds K fd__law_path ["cup"] []
  m__law_path : mg "_law_path" = some (.ref a__law_path)
  a__law_told : Addr
  fd__law_told : FuncData
  F__law_told : Fun K "_law_told" "_law_told" s__law_told a__law_told fd__law_told
  B__law_told : Binds K fd__law_told ["cup", "word"] []
  m__law_told : mg "_law_told" = some (.ref a__law_told)
  a__law_words : Addr
  fd__law_words : FuncData
  F__law_words : Fun K "_law_words" "_law_words" s__law_words a__law_words fd__law_words
  B__law_words : Binds K fd__law_words [] []
  m__law_words : mg "_law_words" = some (.ref a__law_words)
  a__law_filter : Addr
  fd__law_filter : FuncData
  F__law_filter : Fun K "_law_filter" "_law_filter" s__law_filter a__law_filter fd__law_filter
  B__law_filter : Binds K fd__law_filter ["cup", "deep"] []
  m__law_filter : mg "_law_filter" = some (.ref a__law_filter)
  a__law_near : Addr
  fd__law_near : FuncData
  F__law_near : Fun K "_law_near" "_law_near" s__law_near a__law_near fd__law_near
  B__law_near : Binds K fd__law_near ["cup", "asked"] []
  m__law_near : mg "_law_near" = some (.ref a__law_near)
  a_law : Addr
  fd_law : FuncData
  F_law : Fun K "law" "law" s_law a_law fd_law
  B_law : Binds K fd_law ["script"] []
  m_law : mg "law" = some (.ref a_law)
section
variable {P : Program} {w : World} {K : Fg} {mg : Str → Option Value} {base : Heap} {cl : Str → Option Value}
theorem d_is_whole (m : M K mg) {k : Nat} (cdv : Value) (A : Around) (outer : List Env) (s : Shared) (H : Hp) (E : XK) (hr : Room k (A.deeper (envOfC "is_whole" (defScope s_is_whole) s.heap.objs.size m.a_is_whole cdv))) (hg0 : A.guards = some []) :
    PSs (cxOf (L2.CX P w) P w K mg base ["value", "low", "high"] "is_whole" (defScope s_is_whole) m.a_is_whole cdv A outer s H E) (defBody s_is_whole) (liftS (lcOf K cl E) (b_is_whole)) :=
  pps_one (pps_ret (ppe_and (ppe_isi rfl (by rfl) m.b_isinstance (by rfl) m.b_int boot_int (by decide) (ppe_var (i := 0))) (ppe_and (ppe_not (ppe_isi rfl (by rfl) m.b_isinstance (by rfl) m.b_bool boot_bool (by decide) (ppe_var (i := 0)))) (ppe_one (ppe_chain o_le o_le rfl (ppe_var (i := 1)) (ppe_var (i := 0)) (ppe_var (i := 2)))))))
theorem d_is_tuple_of (m : M K mg) {k : Nat} (cdv : Value) (A : Around) (outer : List Env) (s : Shared) (H : Hp) (E : XK) (hr : Room k (A.deeper (envOfC "is_tuple_of" (defScope s_is_tuple_of) s.heap.objs.size m.a_is_tuple_of cdv))) (hg0 : A.guards = some []) :
    PSs (cxOf (L2.CX P w) P w K mg base ["value", "low", "high"] "is_tuple_of" (defScope s_is_tuple_of) m.a_is_tuple_of cdv A outer s H E) (defBody s_is_tuple_of) (liftS (lcOf K cl E) (b_is_tuple_of)) :=
  pps_one (pps_ret (ppe_and (ppe_isi rfl (by rfl) m.b_isinstance (by rfl) m.b_tuple boot_tuple (by decide) (ppe_var (i := 0))) (ppe_one (ppe_chain o_le o_le rfl (ppe_var (i := 1)) (ppe_callB c_len rfl (by rfl) m.b_len PySem.boot_len (ppa_cons (ppe_var (i := 0)) (ppa_nil))) (ppe_var (i := 2))))))
theorem d_is_name (m : M K mg) {k : Nat} (cdv : Value) (A : Around) (outer : List Env) (s : Shared) (H : Hp) (E : XK) (hr : Room k (A.deeper (envOfC "is_name" (defScope s_is_name) s.heap.objs.size m.a_is_name cdv))) (hg0 : A.guards = some []) :
    PSs (cxOf (L2.CX P w) P w K mg base ["value", "sign"] "is_name" (defScope s_is_name) m.a_is_name cdv A outer s H E) (defBody s_is_name) (liftS (lcOf K cl E) (b_is_name)) :=
  pps_cons (pps_if (ppt_w (ppw_or (ppt_not (ppt_val (ppe_isi rfl (by rfl) m.b_isinstance (by rfl) m.b_str boot_str (by decide) (ppe_var (i := 0))))) (ppw_or (ppt_not (ppt_chain o_le o_le rfl (ppe_int) (ppe_callB c_len rfl (by rfl) m.b_len PySem.boot_len (ppa_cons (ppe_var (i := 0)) (ppa_nil))) (ppe_gI (by rfl) m.g_NAME))) (ppw_or1 (ppt_cmp (o_notin (u65 hr)) rfl (ppe_idx rfl (ppe_var (i := 0)) (ppe_int)) (ppe_gS (by rfl) m.g_SMALL) rfl))))) (pps_one (pps_ret (ppe_bl))) (pps_nil))
    (pps_one (pps_ret (ppe_callB (c_all rfl) rfl (by rfl) m.b_all boot_all (ppa_cons (ppe_ofF (lcf rfl sc_is_name.nd (ppi_str (ppe_var (i := 0))) (blkOk_by (N := ["value", "sign"]) (sc := defScope s_is_name) (own := [("sign", 1)]) (by decide +kernel)) rfl (fun _ _ _ _ _ => ppg_name (i := 1) (fun _ _ => wipe_set (by decide)) sc_is_name.nd rfl (by first | exact .inl rfl | exact .inr rfl)) (fun _ _ _ _ _ => pts_yes) (fun _ _ _ _ _ => ppe_cmp (o_in (u65 hr)) rfl (ppe_var (i := 1)) (ppe_gS (by rfl) m.g_SIGNS) rfl))) (ppa_nil)))))
theorem d_is_text_sign (m : M K mg) {k : Nat} (cdv : Value) (A : Around) (outer : List Env) (s : Shared) (H : Hp) (E : XK) (hr : Room k (A.deeper (envOfC "is_text_sign" (defScope s_is_text_sign) s.heap.objs.size m.a_is_text_sign cdv))) (hg0 : A.guards = some []) :
    PSs (cxOf (L2.CX P w) P w K mg base ["sign"] "is_text_sign" (defScope s_is_text_sign) m.a_is_text_sign cdv A outer s H E) (defBody s_is_text_sign) (liftS (lcOf K cl E) (b_is_text_sign)) :=
  pps_one (pps_ret (ppe_and (ppe_chain o_le o_le rfl (ppe_str) (ppe_var (i := 0)) (ppe_str)) (ppe_one (ppe_cmp (o_notin (u65 hr)) rfl (ppe_callB c_ord rfl (by rfl) m.b_ord boot_ord (ppa_cons (ppe_var (i := 0)) (ppa_nil))) (ppe_tup (ppa_cons (ppe_int) (ppa_cons (ppe_int) (ppa_nil)))) rfl))))
theorem d_fits_plain (m : M K mg) {k : Nat} {ct_is_text_sign : WE} {ct_is_whole : WE} (h_is_text_sign : FnG P w K mg base k m.a_is_text_sign m.fd_is_text_sign ["sign"] (spOf K cl 1 ct_is_text_sign)) (h_is_whole : FnG P w K mg base k m.a_is_whole m.fd_is_whole ["value", "low", "high"] (spOf K cl 3 ct_is_whole)) (cdv : Value) (A : Around) (outer : List Env) (s : Shared) (H : Hp) (E : XK) (hr : Room k (A.deeper (envOfC "fits_plain" (defScope s_fits_plain) s.heap.objs.size m.a_fits_plain cdv))) (hg0 : A.guards = some []) :
    PSs (cxOf (L2.CX P w) P w K mg base ["value", "sign"] "fits_plain" (defScope s_fits_plain) m.a_fits_plain cdv A outer s H E) (defBody s_fits_plain) (liftS (lcOf K cl E) (b_fits_plain ct_is_text_sign ct_is_whole)) :=
  pps_cons (pps_if (ppt_w (ppw_or (ppt_cmp o_is rfl (ppe_var (i := 0)) (ppe_non) rfl) (ppw_or1 (ppt_val (ppe_isi rfl (by rfl) m.b_isinstance (by rfl) m.b_bool boot_bool (by decide) (ppe_var (i := 0))))))) (pps_one (pps_ret (ppe_bl))) (pps_nil))
    (pps_cons (pps_if (ppt_val (ppe_isi rfl (by rfl) m.b_isinstance (by rfl) m.b_str boot_str (by decide) (ppe_var (i := 0)))) (pps_one (pps_ret (ppe_and (ppe_cmp o_le rfl (ppe_callB c_len rfl (by rfl) m.b_len PySem.boot_len (ppa_cons (ppe_var (i := 0)) (ppa_nil))) (ppe_gI (by rfl) m.g_LONGEST) rfl) (ppe_one (ppe_callB (c_all rfl) rfl (by rfl) m.b_all boot_all (ppa_cons (ppe_ofF (lcf rfl sc_fits_plain.nd (ppi_str (ppe_var (i := 0))) (blkOk_by (N := ["value", "sign"]) (sc := defScope s_fits_plain) (own := [("sign", 1)]) (by decide +kernel)) rfl (fun _ _ _ _ _ => ppg_name (i := 1) (fun _ _ => wipe_set (by decide)) sc_fits_plain.nd rfl (by first | exact .inl rfl | exact .inr rfl)) (fun _ _ _ _ _ => pts_yes) (fun _ _ _ _ _ => ppe_fn h_is_text_sign rfl hr hg0 (by rfl) m.m_is_text_sign m.F_is_text_sign.kp m.B_is_text_sign takes0 (ppr_e (ppe_var (i := 1)) (ppr_nil))))) (ppa_nil))))))) (pps_nil))
    (pps_one (pps_ret (ppe_fn h_is_whole rfl hr hg0 (by rfl) m.m_is_whole m.F_is_whole.kp m.B_is_whole (takes_of rfl rfl rfl rfl) (ppr_e (ppe_var (i := 0)) (ppr_e (ppe_neg (ppe_gI (by rfl) m.g_HIGHEST)) (ppr_e (ppe_gI (by rfl) m.g_HIGHEST) (ppr_nil))))))))
theorem d_is_knot (m : M K mg) {k : Nat} {ct_is_tuple_of : WE} (h_is_tuple_of : FnG P w K mg base k m.a_is_tuple_of m.fd_is_tuple_of ["value", "low", "high"] (spOf K cl 3 ct_is_tuple_of)) (cdv : Value) (A : Around) (outer : List Env) (s : Shared) (H : Hp) (E : XK) (hr : Room k (A.deeper (envOfC "is_knot" (defScope s_is_knot) s.heap.objs.size m.a_is_knot cdv))) (hg0 : A.guards = some []) :
    PSs (cxOf (L2.CX P w) P w K mg base ["value"] "is_knot" (defScope s_is_knot) m.a_is_knot cdv A outer s H E) (defBody s_is_knot) (liftS (lcOf K cl E) (b_is_knot ct_is_tuple_of)) :=
  pps_cons (pps_if (ppt_w (ppw_or (ppt_not (ppt_val (ppe_fn h_is_tuple_of rfl hr hg0 (by rfl) m.m_is_tuple_of m.F_is_tuple_of.kp m.B_is_tuple_of (takes_of rfl rfl rfl rfl) (ppr_e (ppe_var (i := 0)) (ppr_e (ppe_int) (ppr_e (ppe_int) (ppr_nil))))))) (ppw_or (ppt_not (ppt_val (ppe_isi rfl (by rfl) m.b_isinstance (by rfl) m.b_str boot_str (by decide) (ppe_idx rfl (ppe_var (i := 0)) (ppe_int))))) (ppw_or1 (ppt_cmp (o_notin (u65 hr)) rfl (ppe_idx rfl (ppe_var (i := 0)) (ppe_int)) (ppe_tup (ppa_cons (ppe_str) (ppa_cons (ppe_str) (ppa_nil)))) rfl))))) (pps_one (pps_ret (ppe_bl))) (pps_nil))
    (pps_one (pps_ret (ppe_fn h_is_tuple_of rfl hr hg0 (by rfl) m.m_is_tuple_of m.F_is_tuple_of.kp m.B_is_tuple_of (takes_of rfl rfl rfl rfl) (ppr_e (ppe_idx rfl (ppe_var (i := 0)) (ppe_int)) (ppr_e (ppe_int) (ppr_e (ppe_gI (by rfl) m.g_MOST) (ppr_nil)))))))
theorem d_fits_fields (m : M K mg) {k : Nat} {ct_is_name : WE} {ct_is_tuple_of : WE} (h_is_name : FnG P w K mg base k m.a_is_name m.fd_is_name ["value"] (spOf K cl 1 ct_is_name)) (h_is_tuple_of : FnG P w K mg base k m.a_is_tuple_of m.fd_is_tuple_of ["value", "low", "high"] (spOf K cl 3 ct_is_tuple_of)) (cdv : Value) (A : Around) (outer : List Env) (s : Shared) (H : Hp) (E : XK) (hr : Room k (A.deeper (envOfC "fits_fields" (defScope s_fits_fields) s.heap.objs.size m.a_fits_fields cdv))) (hg0 : A.guards = some []) :
    PSs (cxOf (L2.CX P w) P w K mg base ["fields", "one", "names"] "fits_fields" (defScope s_fits_fields) m.a_fits_fields cdv A outer s H E) (defBody s_fits_fields) (liftS (lcOf K cl E) (b_fits_fields ct_is_name ct_is_tuple_of)) :=
  pps_cons (pps_if (ppt_not (ppt_val (ppe_callB (c_all rfl) rfl (by rfl) m.b_all boot_all (ppa_cons (ppe_ofF (lcf rfl sc_fits_fields.nd (ppi_tup rfl (ppe_var (i := 0))) (blkOk_by (N := ["fields", "one", "names"]) (sc := defScope s_fits_fields) (own := [("one", 1)]) (by decide +kernel)) rfl (fun _ _ _ _ _ => ppg_name (i := 1) (fun _ _ => wipe_set (by decide)) sc_fits_fields.nd rfl (by first | exact .inl rfl | exact .inr rfl)) (fun _ _ _ _ _ => pts_yes) (fun _ _ _ _ _ => ppe_and (ppe_fn h_is_tuple_of rfl hr hg0 (by rfl) m.m_is_tuple_of m.F_is_tuple_of.kp m.B_is_tuple_of takes0 (ppr_e (ppe_var (i := 1)) (ppr_e (ppe_int) (ppr_e (ppe_int) (ppr_nil))))) (ppe_one (ppe_fn h_is_name rfl hr hg0 (by rfl) m.m_is_name m.F_is_name.kp m.B_is_name takes0 (ppr_e (ppe_idx rfl (ppe_var (i := 1)) (ppe_int)) (ppr_nil))))))) (ppa_nil))))) (pps_one (pps_ret (ppe_bl))) (pps_nil))
    (pps_cons (lcv rfl sc_fits_fields.nd (i := 2) rfl rfl (sw_true rfl rfl rfl (by decide +kernel)) (ppi_tup rfl (ppe_var (i := 0))) (blkOk_by (N := ["fields", "one", "names"]) (sc := defScope s_fits_fields) (own := [("one", 1)]) (by decide +kernel)) rfl (fun _ _ _ _ _ => ppg_name (i := 1) (fun _ _ => wipe_set (by decide)) sc_fits_fields.nd rfl (by first | exact .inl rfl | exact .inr rfl)) (fun _ _ _ _ _ => pts_yes) (fun _ _ _ _ _ => ppe_idx rfl (ppe_var (i := 1)) (ppe_int)))
    (pps_one (pps_ret (ppe_cmp (o_eq (u64 hr)) rfl (ppe_lenSet rfl rfl (by rfl) m.b_len (by rfl) m.b_set (ppe_var (i := 2))) (ppe_callB c_len rfl (by rfl) m.b_len PySem.boot_len (ppa_cons (ppe_var (i := 2)) (ppa_nil))) rfl))))
theorem d_inner_of (m : M K mg) {k : Nat} (cdv : Value) (A : Around) (outer : List Env) (s : Shared) (H : Hp) (E : XK) (hr : Room k (A.deeper (envOfC "inner_of" (defScope s_inner_of) s.heap.objs.size m.a_inner_of cdv))) (hg0 : A.guards = some []) :
    PSs (cxOf (L2.CX P w) P w K mg base ["value", "one"] "inner_of" (defScope s_inner_of) m.a_inner_of cdv A outer s H E) (defBody s_inner_of) (liftS (lcOf K cl E) (b_inner_of)) :=
  pps_one (pps_ret (ppe_if (ppt_cmp (o_eq (u64 hr)) rfl (ppe_idx rfl (ppe_var (i := 0)) (ppe_int)) (ppe_str) rfl) (ppe_ofF (lcf rfl sc_inner_of.nd (ppi_tup rfl (ppe_idx rfl (ppe_var (i := 0)) (ppe_int))) (blkOk_by (N := ["value", "one"]) (sc := defScope s_inner_of) (own := [("one", 1)]) (by decide +kernel)) rfl (fun _ _ _ _ _ => ppg_name (i := 1) (fun _ _ => wipe_set (by decide)) sc_inner_of.nd rfl (by first | exact .inl rfl | exact .inr rfl)) (fun _ _ _ _ _ => pts_yes) (fun _ _ _ _ _ => ppe_idx rfl (ppe_var (i := 1)) (ppe_int)))) (ppe_callTy c_list rfl (by rfl) m.b_list boot_list (ppa_cons (ppe_idx rfl (ppe_var (i := 0)) (ppe_int)) (ppa_nil)))))
theorem d_fits_value (m : M K mg) {k : Nat} {ct_fits_fields : WE} {ct_fits_plain : WE} {ct_inner_of : WE} {ct_is_knot : WE} (h_fits_fields : FnG P w K mg base k m.a_fits_fields m.fd_fits_fields ["fields"] (spOf K cl 1 ct_fits_fields)) (h_fits_plain : FnG P w K mg base k m.a_fits_plain m.fd_fits_plain ["value"] (spOf K cl 1 ct_fits_plain)) (h_inner_of : FnG P w K mg base k m.a_inner_of m.fd_inner_of ["value"] (spOf K cl 1 ct_inner_of)) (h_is_knot : FnG P w K mg base k m.a_is_knot m.fd_is_knot ["value"] (spOf K cl 1 ct_is_knot)) (cdv : Value) (A : Around) (outer : List Env) (s : Shared) (H : Hp) (E : XK) (hr : Room k (A.deeper (envOfC "fits_value" (defScope s_fits_value) s.heap.objs.size m.a_fits_value cdv))) (hg0 : A.guards = some []) :
    PSs (cxOf (L2.CX P w) P w K mg base ["value", "line", "one", "deep", "inner"] "fits_value" (defScope s_fits_value) m.a_fits_value cdv A outer s H E) (defBody s_fits_value) (liftS (lcOf K cl E) (b_fits_value ct_fits_fields ct_fits_plain ct_inner_of ct_is_knot)) :=
  pps_cons (pps_setF (i := 1) sc_fits_value.nd rfl (by first | exact .inl rfl | exact .inr rfl) (ppf_lst (ppa_cons (ppe_tup (ppa_cons (ppe_var (i := 0)) (ppa_cons (ppe_int) (ppa_nil)))) (ppa_nil))))
    (pps_cons (pps_while (passes_of rfl) (ppt_pkcmp (o_ne (u64 hr)) rfl (pe_pk (i := 1)) (ppe_lst (ppa_nil)) rfl) (pps_cons (pps_asg (ppe_pop rfl (pe_pk (i := 1))) (ppg_tup rfl rfl (ppgs_cons sa_ok (ppg_name (i := 2) (fun _ _ => trivial) sc_fits_value.nd rfl (by first | exact .inl rfl | exact .inr rfl)) (ppgs_cons sa_ok (ppg_name (i := 3) (fun _ _ => trivial) sc_fits_value.nd rfl (by first | exact .inl rfl | exact .inr rfl)) (ppgs_nil sa_ok)))))
    (pps_one (pps_if (ppt_not (ppt_val (ppe_fn h_fits_plain rfl hr hg0 (by rfl) m.m_fits_plain m.F_fits_plain.kp m.B_fits_plain (takes_of rfl rfl rfl rfl) (ppr_e (ppe_var (i := 2)) (ppr_nil))))) (pps_cons (pps_if (ppt_w (ppw_or (ppt_cmp o_gt rfl (ppe_var (i := 3)) (ppe_gI (by rfl) m.g_DEEP) rfl) (ppw_or (ppt_not (ppt_val (ppe_fn h_is_knot rfl hr hg0 (by rfl) m.m_is_knot m.F_is_knot.kp m.B_is_knot (takes_of rfl rfl rfl rfl) (ppr_e (ppe_var (i := 2)) (ppr_nil))))) (ppw_or1 (ppt_w (ppw_and (ppt_cmp (o_eq (u64 hr)) rfl (ppe_idx rfl (ppe_var (i := 2)) (ppe_int)) (ppe_str) rfl) (ppw_and1 (ppt_not (ppt_val (ppe_fn h_fits_fields rfl hr hg0 (by rfl) m.m_fits_fields m.F_fits_fields.kp m.B_fits_fields (takes_of rfl rfl rfl rfl) (ppr_e (ppe_idx rfl (ppe_var (i := 2)) (ppe_int)) (ppr_nil)))))))))))) (pps_one (pps_ret (ppe_bl))) (pps_nil))
    (pps_one (pps_extF (i := 1) sc_fits_value.nd rfl (by first | exact .inl rfl | exact .inr rfl) (lcf rfl sc_fits_value.nd (ppi_list rfl (ppe_fn h_inner_of rfl hr hg0 (by rfl) m.m_inner_of m.F_inner_of.kp m.B_inner_of (takes_of rfl rfl rfl rfl) (ppr_e (ppe_var (i := 2)) (ppr_nil)))) (blkOk_by (N := ["value", "line", "one", "deep", "inner"]) (sc := defScope s_fits_value) (own := [("inner", 4)]) (by decide +kernel)) rfl (fun _ _ _ _ _ => ppg_name (i := 4) (fun _ _ => wipe_set (by decide)) sc_fits_value.nd rfl (by first | exact .inl rfl | exact .inr rfl)) (fun _ _ _ _ _ => pts_yes) (fun _ _ _ _ _ => ppe_tup (ppa_cons (ppe_var (i := 4)) (ppa_cons (ppe_op o_add rfl (ppe_var (i := 3)) (ppe_int)) (ppa_nil)))))))) (pps_nil)))))
    (pps_one (pps_ret (ppe_bl))))
theorem d_is_list (m : M K mg) {k : Nat} (cdv : Value) (A : Around) (outer : List Env) (s : Shared) (H : Hp) (E : XK) (hr : Room k (A.deeper (envOfC "is_list" (defScope s_is_list) s.heap.objs.size m.a_is_list cdv))) (hg0 : A.guards = some []) :
    PSs (cxOf (L2.CX P w) P w K mg base ["value"] "is_list" (defScope s_is_list) m.a_is_list cdv A outer s H E) (defBody s_is_list) (liftS (lcOf K cl E) (b_is_list)) :=
  pps_one (pps_ret (ppe_and (ppe_isi rfl (by rfl) m.b_isinstance (by rfl) m.b_tuple boot_tuple (by decide) (ppe_var (i := 0))) (ppe_one (ppe_cmp (o_eq (u64 hr)) rfl (ppe_idx rfl (ppe_var (i := 0)) (ppe_int)) (ppe_str) rfl))))
theorem d_fits_path (m : M K mg) {k : Nat} {ct_is_name : WE} {ct_is_tuple_of : WE} {ct_is_whole : WE} (h_is_name : FnG P w K mg base k m.a_is_name m.fd_is_name ["value"] (spOf K cl 1 ct_is_name)) (h_is_tuple_of : FnG P w K mg base k m.a_is_tuple_of m.fd_is_tuple_of ["value", "low", "high"] (spOf K cl 3 ct_is_tuple_of)) (h_is_whole : FnG P w K mg base k m.a_is_whole m.fd_is_whole ["value", "low", "high"] (spOf K cl 3 ct_is_whole)) (cdv : Value) (A : Around) (outer : List Env) (s : Shared) (H : Hp) (E : XK) (hr : Room k (A.deeper (envOfC "fits_path" (defScope s_fits_path) s.heap.objs.size m.a_fits_path cdv))) (hg0 : A.guards = some []) :
    PSs (cxOf (L2.CX P w) P w K mg base ["value", "one"] "fits_path" (defScope s_fits_path) m.a_fits_path cdv A outer s H E) (defBody s_fits_path) (liftS (lcOf K cl E) (b_fits_path ct_is_name ct_is_tuple_of ct_is_whole)) :=
  pps_cons (pps_if (ppt_not (ppt_val (ppe_fn h_is_tuple_of rfl hr hg0 (by rfl) m.m_is_tuple_of m.F_is_tuple_of.kp m.B_is_tuple_of (takes_of rfl rfl rfl rfl) (ppr_e (ppe_var (i := 0)) (ppr_e (ppe_int) (ppr_e (ppe_gI (by rfl) m.g_STEPS) (ppr_nil))))))) (pps_one (pps_ret (ppe_bl))) (pps_nil))
    (pps_one (pps_ret (ppe_callB (c_all rfl) rfl (by rfl) m.b_all boot_all (ppa_cons (ppe_ofF (lcf rfl sc_fits_path.nd (ppi_tup rfl (ppe_var (i := 0))) (blkOk_by (N := ["value", "one"]) (sc := defScope s_fits_path) (own := [("one", 1)]) (by decide +kernel)) rfl (fun _ _ _ _ _ => ppg_name (i := 1) (fun _ _ => wipe_set (by decide)) sc_fits_path.nd rfl (by first | exact .inl rfl | exact .inr rfl)) (fun _ _ _ _ _ => pts_yes) (fun _ _ _ _ _ => ppe_or (ppe_fn h_is_name rfl hr hg0 (by rfl) m.m_is_name m.F_is_name.kp m.B_is_name takes0 (ppr_e (ppe_var (i := 1)) (ppr_nil))) (ppe_one (ppe_fn h_is_whole rfl hr hg0 (by rfl) m.m_is_whole m.F_is_whole.kp m.B_is_whole takes0 (ppr_e (ppe_var (i := 1)) (ppr_e (ppe_int) (ppr_e (ppe_gI (by rfl) m.g_INDEX) (ppr_nil))))))))) (ppa_nil)))))
theorem d_fits_told (m : M K mg) {k : Nat} {ct_fits_value : WE} {ct_is_list : WE} {ct_is_whole : WE} (h_fits_value : FnG P w K mg base k m.a_fits_value m.fd_fits_value ["value"] (spOf K cl 1 ct_fits_value)) (h_is_list : FnG P w K mg base k m.a_is_list m.fd_is_list ["value"] (spOf K cl 1 ct_is_list)) (h_is_whole : FnG P w K mg base k m.a_is_whole m.fd_is_whole ["value", "low", "high"] (spOf K cl 3 ct_is_whole)) (cdv : Value) (A : Around) (outer : List Env) (s : Shared) (H : Hp) (E : XK) (hr : Room k (A.deeper (envOfC "fits_told" (defScope s_fits_told) s.heap.objs.size m.a_fits_told cdv))) (hg0 : A.guards = some []) :
    PSs (cxOf (L2.CX P w) P w K mg base ["word", "value"] "fits_told" (defScope s_fits_told) m.a_fits_told cdv A outer s H E) (defBody s_fits_told) (liftS (lcOf K cl E) (b_fits_told ct_fits_value ct_is_list ct_is_whole)) :=
  pps_cons (pps_if (ppt_w (ppw_or (ppt_cmp (o_in (u65 hr)) rfl (ppe_var (i := 0)) (ppe_tup (ppa_cons (ppe_str) (ppa_cons (ppe_str) (ppa_nil)))) rfl) (ppw_or1 (ppt_cmp (o_in (u65 hr)) rfl (ppe_var (i := 0)) (ppe_gT rfl (by rfl) m.g_ORDERS m.k_ORDERS) rfl)))) (pps_one (pps_ret (ppe_fn h_fits_value rfl hr hg0 (by rfl) m.m_fits_value m.F_fits_value.kp m.B_fits_value (takes_of rfl rfl rfl rfl) (ppr_e (ppe_var (i := 1)) (ppr_nil))))) (pps_nil))
    (pps_cons (pps_if (ppt_cmp (o_in (u65 hr)) rfl (ppe_var (i := 0)) (ppe_gT rfl (by rfl) m.g_LISTS m.k_LISTS) rfl) (pps_one (pps_ret (ppe_and (ppe_fn h_fits_value rfl hr hg0 (by rfl) m.m_fits_value m.F_fits_value.kp m.B_fits_value (takes_of rfl rfl rfl rfl) (ppr_e (ppe_var (i := 1)) (ppr_nil))) (ppe_one (ppe_fn h_is_list rfl hr hg0 (by rfl) m.m_is_list m.F_is_list.kp m.B_is_list (takes_of rfl rfl rfl rfl) (ppr_e (ppe_var (i := 1)) (ppr_nil))))))) (pps_nil))
    (pps_cons (pps_if (ppt_cmp (o_eq (u64 hr)) rfl (ppe_var (i := 0)) (ppe_str) rfl) (pps_one (pps_ret (ppe_fn h_is_whole rfl hr hg0 (by rfl) m.m_is_whole m.F_is_whole.kp m.B_is_whole (takes_of rfl rfl rfl rfl) (ppr_e (ppe_var (i := 1)) (ppr_e (ppe_int) (ppr_e (ppe_gI (by rfl) m.g_SIZE) (ppr_nil))))))) (pps_nil))
    (pps_cons (pps_if (ppt_cmp (o_eq (u64 hr)) rfl (ppe_var (i := 0)) (ppe_str) rfl) (pps_one (pps_ret (ppe_and (ppe_isi rfl (by rfl) m.b_isinstance (by rfl) m.b_str boot_str (by decide) (ppe_var (i := 1))) (ppe_one (ppe_cmp (o_in (u65 hr)) rfl (ppe_var (i := 1)) (ppe_gT rfl (by rfl) m.g_KINDS m.k_KINDS) rfl))))) (pps_nil))
    (pps_one (pps_ret (ppe_and (ppe_cmp (o_eq (u64 hr)) rfl (ppe_var (i := 0)) (ppe_str) rfl) (ppe_one (ppe_isi rfl (by rfl) m.b_isinstance (by rfl) m.b_bool boot_bool (by decide) (ppe_var (i := 1))))))))))
theorem d_fits_test (m : M K mg) {k : Nat} {ct_fits_path : WE} {ct_fits_told : WE} (h_fits_path : FnG P w K mg base k m.a_fits_path m.fd_fits_path ["value"] (spOf K cl 1 ct_fits_path)) (h_fits_told : FnG P w K mg base k m.a_fits_told m.fd_fits_told ["word", "value"] (spOf K cl 2 ct_fits_told)) (cdv : Value) (A : Around) (outer : List Env) (s : Shared) (H : Hp) (E : XK) (hr : Room k (A.deeper (envOfC "fits_test" (defScope s_fits_test) s.heap.objs.size m.a_fits_test cdv))) (hg0 : A.guards = some []) :
    PSs (cxOf (L2.CX P w) P w K mg base ["value"] "fits_test" (defScope s_fits_test) m.a_fits_test cdv A outer s H E) (defBody s_fits_test) (liftS (lcOf K cl E) (b_fits_test ct_fits_path ct_fits_told)) :=
  pps_cons (pps_if (ppt_w (ppw_or (ppt_cmp (o_ne (u64 hr)) rfl (ppe_callB c_len rfl (by rfl) m.b_len PySem.boot_len (ppa_cons (ppe_var (i := 0)) (ppa_nil))) (ppe_int) rfl) (ppw_or (ppt_not (ppt_val (ppe_fn h_fits_path rfl hr hg0 (by rfl) m.m_fits_path m.F_fits_path.kp m.B_fits_path (takes_of rfl rfl rfl rfl) (ppr_e (ppe_idx rfl (ppe_var (i := 0)) (ppe_int)) (ppr_nil))))) (ppw_or1 (ppt_not (ppt_val (ppe_isi rfl (by rfl) m.b_isinstance (by rfl) m.b_str boot_str (by decide) (ppe_idx rfl (ppe_var (i := 0)) (ppe_int))))))))) (pps_one (pps_ret (ppe_bl))) (pps_nil))
    (pps_one (pps_ret (ppe_fn h_fits_told rfl hr hg0 (by rfl) m.m_fits_told m.F_fits_told.kp m.B_fits_told (takes_of rfl rfl rfl rfl) (ppr_e (ppe_idx rfl (ppe_var (i := 0)) (ppe_int)) (ppr_e (ppe_idx rfl (ppe_var (i := 0)) (ppe_int)) (ppr_nil))))))
theorem d_inner_filters (m : M K mg) {k : Nat} {ct_fits_path : WE} {ct_fits_test : WE} {ct_is_tuple_of : WE} (h_fits_path : FnG P w K mg base k m.a_fits_path m.fd_fits_path ["value"] (spOf K cl 1 ct_fits_path)) (h_fits_test : FnG P w K mg base k m.a_fits_test m.fd_fits_test ["value"] (spOf K cl 1 ct_fits_test)) (h_is_tuple_of : FnG P w K mg base k m.a_is_tuple_of m.fd_is_tuple_of ["value", "low", "high"] (spOf K cl 3 ct_is_tuple_of)) (cdv : Value) (A : Around) (outer : List Env) (s : Shared) (H : Hp) (E : XK) (hr : Room k (A.deeper (envOfC "inner_filters" (defScope s_inner_filters) s.heap.objs.size m.a_inner_filters cdv))) (hg0 : A.guards = some []) :
    PSs (cxOf (L2.CX P w) P w K mg base ["value", "word", "many"] "inner_filters" (defScope s_inner_filters) m.a_inner_filters cdv A outer s H E) (defBody s_inner_filters) (liftS (lcOf K cl E) (b_inner_filters ct_fits_path ct_fits_test ct_is_tuple_of)) :=
  pps_cons (pps_par (i := 1) (j := 2) rfl sc_inner_filters.nd rfl rfl (by decide) rfl rfl (ppe_idx rfl (ppe_var (i := 0)) (ppe_int)) (ppe_callB c_len rfl (by rfl) m.b_len PySem.boot_len (ppa_cons (ppe_var (i := 0)) (ppa_nil))) (by rfl))
    (pps_cons (pps_if (ppt_cmp (o_eq (u64 hr)) rfl (ppe_var (i := 1)) (ppe_str) rfl) (pps_one (pps_ret (ppe_if (ppt_cmp (o_eq (u64 hr)) rfl (ppe_var (i := 2)) (ppe_int) rfl) (ppe_tup (ppa_nil)) (ppe_non)))) (pps_nil))
    (pps_cons (pps_if (ppt_cmp (o_eq (u64 hr)) rfl (ppe_var (i := 1)) (ppe_str) rfl) (pps_one (pps_ret (ppe_if (ppt_val (ppe_fn h_fits_test rfl hr hg0 (by rfl) m.m_fits_test m.F_fits_test.kp m.B_fits_test (takes_of rfl rfl rfl rfl) (ppr_e (ppe_var (i := 0)) (ppr_nil)))) (ppe_tup (ppa_nil)) (ppe_non)))) (pps_nil))
    (pps_cons (pps_if (ppt_cmp (o_eq (u64 hr)) rfl (ppe_var (i := 1)) (ppe_str) rfl) (pps_one (pps_ret (ppe_if (ppt_cmp (o_eq (u64 hr)) rfl (ppe_var (i := 2)) (ppe_int) rfl) (ppe_slice rfl (ppe_var (i := 0)) (ppo_some (ppe_int)) (ppo_none)) (ppe_non)))) (pps_nil))
    (pps_cons (pps_if (ppt_cmp (o_eq (u64 hr)) rfl (ppe_var (i := 1)) (ppe_str) rfl) (pps_one (pps_ret (ppe_if (ppt_w (ppw_and (ppt_cmp (o_eq (u64 hr)) rfl (ppe_var (i := 2)) (ppe_int) rfl) (ppw_and1 (ppt_val (ppe_fn h_fits_path rfl hr hg0 (by rfl) m.m_fits_path m.F_fits_path.kp m.B_fits_path (takes_of rfl rfl rfl rfl) (ppr_e (ppe_idx rfl (ppe_var (i := 0)) (ppe_int)) (ppr_nil))))))) (ppe_slice rfl (ppe_var (i := 0)) (ppo_some (ppe_int)) (ppo_none)) (ppe_non)))) (pps_nil))
    (pps_cons (pps_if (ppt_w (ppw_or (ppt_cmp (o_notin (u65 hr)) rfl (ppe_var (i := 1)) (ppe_tup (ppa_cons (ppe_str) (ppa_cons (ppe_str) (ppa_nil)))) rfl) (ppw_or (ppt_cmp (o_ne (u64 hr)) rfl (ppe_var (i := 2)) (ppe_int) rfl) (ppw_or1 (ppt_not (ppt_val (ppe_fn h_is_tuple_of rfl hr hg0 (by rfl) m.m_is_tuple_of m.F_is_tuple_of.kp m.B_is_tuple_of (takes_of rfl rfl rfl rfl) (ppr_e (ppe_idx rfl (ppe_var (i := 0)) (ppe_int)) (ppr_e (ppe_int) (ppr_e (ppe_gI (by rfl) m.g_PARTS) (ppr_nil))))))))))) (pps_one (pps_ret (ppe_non))) (pps_nil))
    (pps_one (pps_ret (ppe_idx rfl (ppe_var (i := 0)) (ppe_int)))))))))
theorem d_fits_filter (m : M K mg) {k : Nat} {ct_inner_filters : WE} {ct_is_tuple_of : WE} (h_inner_filters : FnG P w K mg base k m.a_inner_filters m.fd_inner_filters ["value"] (spOf K cl 1 ct_inner_filters)) (h_is_tuple_of : FnG P w K mg base k m.a_is_tuple_of m.fd_is_tuple_of ["value", "low", "high"] (spOf K cl 3 ct_is_tuple_of)) (cdv : Value) (A : Around) (outer : List Env) (s : Shared) (H : Hp) (E : XK) (hr : Room k (A.deeper (envOfC "fits_filter" (defScope s_fits_filter) s.heap.objs.size m.a_fits_filter cdv))) (hg0 : A.guards = some []) :
    PSs (cxOf (L2.CX P w) P w K mg base ["value", "line", "many", "one", "deep", "inner", "part"] "fits_filter" (defScope s_fits_filter) m.a_fits_filter cdv A outer s H E) (defBody s_fits_filter) (liftS (lcOf K cl E) (b_fits_filter ct_inner_filters ct_is_tuple_of)) :=
  pps_cons (pps_parF (i := 1) (j := 2) rfl sc_fits_filter.nd rfl rfl (by decide) rfl rfl (ppf_lst (ppa_cons (ppe_tup (ppa_cons (ppe_var (i := 0)) (ppa_cons (ppe_int) (ppa_nil)))) (ppa_nil))) (ppe_int) (by rfl))
    (pps_cons (pps_while (passes_of rfl) (ppt_pkcmp (o_ne (u64 hr)) rfl (pe_pk (i := 1)) (ppe_lst (ppa_nil)) rfl) (pps_cons (pps_asg (ppe_pop rfl (pe_pk (i := 1))) (ppg_tup rfl rfl (ppgs_cons sa_ok (ppg_name (i := 3) (fun _ _ => trivial) sc_fits_filter.nd rfl (by first | exact .inl rfl | exact .inr rfl)) (ppgs_cons sa_ok (ppg_name (i := 4) (fun _ _ => trivial) sc_fits_filter.nd rfl (by first | exact .inl rfl | exact .inr rfl)) (ppgs_nil sa_ok)))))
    (pps_cons (pps_set (i := 2) sc_fits_filter.nd rfl (by first | exact .inl rfl | exact .inr rfl) (ppe_op o_add rfl (ppe_var (i := 2)) (ppe_int)))
    (pps_cons (pps_if (ppt_w (ppw_or (ppt_cmp o_gt rfl (ppe_var (i := 2)) (ppe_gI (by rfl) m.g_FILTERS) rfl) (ppw_or (ppt_cmp o_gt rfl (ppe_var (i := 4)) (ppe_gI (by rfl) m.g_NESTED) rfl) (ppw_or (ppt_not (ppt_val (ppe_fn h_is_tuple_of rfl hr hg0 (by rfl) m.m_is_tuple_of m.F_is_tuple_of.kp m.B_is_tuple_of (takes_of rfl rfl rfl rfl) (ppr_e (ppe_var (i := 3)) (ppr_e (ppe_int) (ppr_e (ppe_int) (ppr_nil))))))) (ppw_or1 (ppt_not (ppt_val (ppe_isi rfl (by rfl) m.b_isinstance (by rfl) m.b_str boot_str (by decide) (ppe_idx rfl (ppe_var (i := 3)) (ppe_int)))))))))) (pps_one (pps_ret (ppe_bl))) (pps_nil))
    (pps_cons (pps_set (i := 5) sc_fits_filter.nd rfl (by first | exact .inl rfl | exact .inr rfl) (ppe_fn h_inner_filters rfl hr hg0 (by rfl) m.m_inner_filters m.F_inner_filters.kp m.B_inner_filters (takes_of rfl rfl rfl rfl) (ppr_e (ppe_var (i := 3)) (ppr_nil))))
    (pps_cons (pps_if (ppt_cmp o_is rfl (ppe_var (i := 5)) (ppe_non) rfl) (pps_one (pps_ret (ppe_bl))) (pps_nil))
    (pps_one (pps_extF (i := 1) sc_fits_filter.nd rfl (by first | exact .inl rfl | exact .inr rfl) (lcf rfl sc_fits_filter.nd (ppi_tup rfl (ppe_var (i := 5))) (blkOk_by (N := ["value", "line", "many", "one", "deep", "inner", "part"]) (sc := defScope s_fits_filter) (own := [("part", 6)]) (by decide +kernel)) rfl (fun _ _ _ _ _ => ppg_name (i := 6) (fun _ _ => wipe_set (by decide)) sc_fits_filter.nd rfl (by first | exact .inl rfl | exact .inr rfl)) (fun _ _ _ _ _ => pts_yes) (fun _ _ _ _ _ => ppe_tup (ppa_cons (ppe_var (i := 6)) (ppa_cons (ppe_op o_add rfl (ppe_var (i := 4)) (ppe_int)) (ppa_nil)))))))))))))
    (pps_one (pps_ret (ppe_bl))))
theorem d_is_filter (m : M K mg) {k : Nat} {ct_fits_filter : WE} (h_fits_filter : FnG P w K mg base k m.a_fits_filter m.fd_fits_filter ["value"] (spOf K cl 1 ct_fits_filter)) (cdv : Value) (A : Around) (outer : List Env) (s : Shared) (H : Hp) (E : XK) (hr : Room k (A.deeper (envOfC "is_filter" (defScope s_is_filter) s.heap.objs.size m.a_is_filter cdv))) (hg0 : A.guards = some []) :
    PSs (cxOf (L2.CX P w) P w K mg base ["value"] "is_filter" (defScope s_is_filter) m.a_is_filter cdv A outer s H E) (defBody s_is_filter) (liftS (lcOf K cl E) (b_is_filter ct_fits_filter)) :=
  pps_one (pps_ret (ppe_fn h_fits_filter rfl hr hg0 (by rfl) m.m_fits_filter m.F_fits_filter.kp m.B_fits_filter (takes_of rfl rfl rfl rfl) (ppr_e (ppe_var (i := 0)) (ppr_nil))))
theorem d__law_cup (m : M K mg) {k : Nat} (cdv : Value) (A : Around) (outer : List Env) (s : Shared) (H : Hp) (E : XK) (hr : Room k (A.deeper (envOfC "_law_cup" (defScope s__law_cup) s.heap.objs.size m.a__law_cup cdv))) (hg0 : A.guards = some []) :
    PSs (cxOf (L2.CX P w) P w K mg base ["script", "cell"] "_law_cup" (defScope s__law_cup) m.a__law_cup cdv A outer s H E) (defBody s__law_cup) (liftS (lcOf K cl E) (b__law_cup)) :=
  pps_cons (pps_set (i := 1) sc__law_cup.nd rfl (by first | exact .inl rfl | exact .inr rfl) (ppe_callB c_abs rfl (by rfl) m.b_abs boot_abs (ppa_cons (ppe_idx rfl (ppe_op o_add rfl (ppe_callTy c_list rfl (by rfl) m.b_list boot_list (ppa_cons (ppe_var (i := 0)) (ppa_nil))) (ppe_lst (ppa_cons (ppe_int) (ppa_nil)))) (ppe_int)) (ppa_nil))))
    (pps_one (pps_retF (ppf_lst (ppa_cons (ppe_if (ppt_cmp o_ge rfl (ppe_var (i := 1)) (ppe_op o_pow rfl (ppe_int) (ppe_int)) rfl) (ppe_op o_fdiv rfl (ppe_var (i := 1)) (ppe_int)) (ppe_int)) (ppa_cons (ppe_op o_add rfl (ppe_op o_mod rfl (ppe_callTy c_int rfl (by rfl) m.b_int boot_int (ppa_cons (ppe_op o_add rfl (ppe_op o_mul rfl (ppe_var (i := 1)) (ppe_int)) (ppe_int)) (ppa_nil))) (ppe_int)) (ppe_int)) (ppa_nil))))))
theorem d__law_roll (m : M K mg) {k : Nat} (cdv : Value) (A : Around) (outer : List Env) (s : Shared) (H : Hp) (E : XK) (hr : Room k (A.deeper (envOfC "_law_roll" (defScope s__law_roll) s.heap.objs.size m.a__law_roll cdv))) (hg0 : A.guards = some []) :
    PSs (cxOf (L2.CX P w) P w K mg base ["cup", "many", "found", "deep"] "_law_roll" (defScope s__law_roll) m.a__law_roll cdv A outer s H E) (defBody s__law_roll) (liftS (lcOf K cl E) (b__law_roll)) :=
  pps_cons (pps_if (ppt_cmp o_gt rfl (ppe_pkidx rfl (pe_pk (i := 0)) (ppe_int)) (ppe_int) rfl) (pps_cons (pps_set (i := 2) sc__law_roll.nd rfl (by first | exact .inl rfl | exact .inr rfl) (ppe_op o_mod rfl (ppe_callTy c_int rfl (by rfl) m.b_int boot_int (ppa_cons (ppe_pkidx rfl (pe_pk (i := 0)) (ppe_int)) (ppa_nil))) (ppe_var (i := 1))))
    (pps_cons (pps_put (i := 0) (ppe_op o_fdiv rfl (ppe_pkidx rfl (pe_pk (i := 0)) (ppe_int)) (ppe_var (i := 1))) (pe_pk) (ppe_int))
    (pps_one (pps_ret (ppe_var (i := 2)))))) (pps_nil))
    (pps_cons (pps_put (i := 0) (ppe_op o_mod rfl (ppe_callTy c_int rfl (by rfl) m.b_int boot_int (ppa_cons (ppe_op o_add rfl (ppe_op o_mul rfl (ppe_pkidx rfl (pe_pk (i := 0)) (ppe_int)) (ppe_int)) (ppe_int)) (ppa_nil))) (ppe_int)) (pe_pk) (ppe_int))
    (pps_cons (pps_set (i := 3) sc__law_roll.nd rfl (by first | exact .inl rfl | exact .inr rfl) (ppe_op o_mod rfl (ppe_callTy c_int rfl (by rfl) m.b_int boot_int (ppa_cons (ppe_op o_mul rfl (ppe_pkidx rfl (pe_pk (i := 0)) (ppe_int)) (ppe_op o_add rfl (ppe_pkidx rfl (pe_pk (i := 0)) (ppe_int)) (ppe_int))) (ppa_nil))) (ppe_int)))
    (pps_one (pps_ret (ppe_op o_mod rfl (ppe_callTy c_int rfl (by rfl) m.b_int boot_int (ppa_cons (ppe_op o_fdiv rfl (ppe_var (i := 3)) (ppe_int)) (ppa_nil))) (ppe_var (i := 1)))))))
theorem d__law_some (m : M K mg) {k : Nat} {ct__law_roll : WE} (h__law_roll : FnG P w K mg base k m.a__law_roll m.fd__law_roll ["cup", "many"] (spOf K cl 2 ct__law_roll)) (cdv : Value) (A : Around) (outer : List Env) (s : Shared) (H : Hp) (E : XK) (hr : Room k (A.deeper (envOfC "_law_some" (defScope s__law_some) s.heap.objs.size m.a__law_some cdv))) (hg0 : A.guards = some []) :
    PSs (cxOf (L2.CX P w) P w K mg base ["cup", "things"] "_law_some" (defScope s__law_some) m.a__law_some cdv A outer s H E) (defBody s__law_some) (liftS (lcOf K cl E) (b__law_some ct__law_roll)) :=
  pps_one (pps_ret (ppe_idx rfl (ppe_var (i := 1)) (ppe_fn h__law_roll rfl hr hg0 (by rfl) m.m__law_roll m.F__law_roll.kp m.B__law_roll (takes_of rfl rfl rfl rfl) (ppr_s (pe_pk (i := 0)) (ppr_e (ppe_callB c_len rfl (by rfl) m.b_len PySem.boot_len (ppa_cons (ppe_var (i := 1)) (ppa_nil))) (ppr_nil))))))
theorem d__law_value (m : M K mg) {k : Nat} {ct__law_drawn_fields : WE} {ct__law_roll : WE} {ct__law_some : WE} {ct__law_value : WE} (h__law_drawn_fields : FnG P w K mg base k m.a__law_drawn_fields m.fd__law_drawn_fields ["cup", "deep", "many"] (spOf K cl 3 ct__law_drawn_fields)) (h__law_roll : FnG P w K mg base k m.a__law_roll m.fd__law_roll ["cup", "many"] (spOf K cl 2 ct__law_roll)) (h__law_some : FnG P w K mg base k m.a__law_some m.fd__law_some ["cup", "things"] (spOf K cl 2 ct__law_some)) (h__law_value : FnG P w K mg base k m.a__law_value m.fd__law_value ["cup", "deep"] (spOf K cl 2 ct__law_value)) (cdv : Value) (A : Around) (outer : List Env) (s : Shared) (H : Hp) (E : XK) (hr : Room k (A.deeper (envOfC "_law_value" (defScope s__law_value) s.heap.objs.size m.a__law_value cdv))) (hg0 : A.guards = some []) :
    PSs (cxOf (L2.CX P w) P w K mg base ["cup", "deep", "way", "turn"] "_law_value" (defScope s__law_value) m.a__law_value cdv A outer s H E) (defBody s__law_value) (liftS (lcOf K cl E) (b__law_value ct__law_drawn_fields ct__law_roll ct__law_some ct__law_value)) :=
  pps_cons (pps_set (i := 2) sc__law_value.nd rfl (by first | exact .inl rfl | exact .inr rfl) (ppe_fn h__law_roll rfl hr hg0 (by rfl) m.m__law_roll m.F__law_roll.kp m.B__law_roll (takes_of rfl rfl rfl rfl) (ppr_s (pe_pk (i := 0)) (ppr_e (ppe_if (ppt_cmp o_gt rfl (ppe_var (i := 1)) (ppe_int) rfl) (ppe_int) (ppe_int)) (ppr_nil)))))
    (pps_cons (pps_if (ppt_cmp o_lt rfl (ppe_var (i := 2)) (ppe_int) rfl) (pps_one (pps_ret (ppe_fn h__law_some rfl hr hg0 (by rfl) m.m__law_some m.F__law_some.kp m.B__law_some (takes_of rfl rfl rfl rfl) (ppr_s (pe_pk (i := 0)) (ppr_e (ppe_lst (ppa_cons (ppe_int) (ppa_cons (ppe_int) (ppa_cons (ppe_int) (ppa_cons (ppe_int) (ppa_cons (ppe_int) (ppa_cons (ppe_int) (ppa_cons (ppe_neg (ppe_int)) (ppa_cons (ppe_int) (ppa_cons (ppe_op o_pow rfl (ppe_int) (ppe_int)) (ppa_nil))))))))))) (ppr_nil)))))) (pps_nil))
    (pps_cons (pps_if (ppt_cmp o_lt rfl (ppe_var (i := 2)) (ppe_int) rfl) (pps_one (pps_ret (ppe_if (ppt_cmp (o_eq (u64 hr)) rfl (ppe_var (i := 2)) (ppe_int) rfl) (ppe_fn h__law_some rfl hr hg0 (by rfl) m.m__law_some m.F__law_some.kp m.B__law_some (takes_of rfl rfl rfl rfl) (ppr_s (pe_pk (i := 0)) (ppr_e (ppe_lst (ppa_cons (ppe_non) (ppa_cons (ppe_bl) (ppa_cons (ppe_bl) (ppa_nil))))) (ppr_nil)))) (ppe_fn h__law_some rfl hr hg0 (by rfl) m.m__law_some m.F__law_some.kp m.B__law_some (takes_of rfl rfl rfl rfl) (ppr_s (pe_pk (i := 0)) (ppr_e (ppe_lst (ppa_cons (ppe_str) (ppa_cons (ppe_str) (ppa_cons (ppe_str) (ppa_cons (ppe_str) (ppa_cons (ppe_str) (ppa_cons (ppe_str) (ppa_nil)))))))) (ppr_nil))))))) (pps_nil))
    (pps_cons (pps_if (ppt_cmp o_lt rfl (ppe_var (i := 2)) (ppe_int) rfl) (pps_one (pps_ret (ppe_tup (ppa_cons (ppe_str) (ppa_cons (ppe_callTy c_tuple rfl (by rfl) m.b_tuple boot_tuple (ppa_cons (ppe_ofF (lcf rfl sc__law_value.nd (ppi_range1 (by rfl) m.b_range (ppe_fn h__law_roll rfl hr hg0 (by rfl) m.m__law_roll m.F__law_roll.kp m.B__law_roll (takes_of rfl rfl rfl rfl) (ppr_s (pe_pk (i := 0)) (ppr_e (ppe_int) (ppr_nil))))) (blkOk_by (N := ["cup", "deep", "way", "turn"]) (sc := defScope s__law_value) (own := [("turn", 3)]) (by decide +kernel)) rfl (fun _ _ _ _ _ => ppg_name (i := 3) (fun _ _ => wipe_set (by decide)) sc__law_value.nd rfl (by first | exact .inl rfl | exact .inr rfl)) (fun _ _ _ _ _ => pts_yes) (fun _ _ _ _ _ => ppe_fn h__law_value rfl hr hg0 (by rfl) m.m__law_value m.F__law_value.kp m.B__law_value takes0 (ppr_s (pe_pk (i := 0)) (ppr_e (ppe_op o_sub rfl (ppe_var (i := 1)) (ppe_int)) (ppr_nil)))))) (ppa_nil))) (ppa_nil)))))) (pps_nil))
    (pps_one (pps_ret (ppe_tup (ppa_cons (ppe_str) (ppa_cons (ppe_fn h__law_drawn_fields rfl hr hg0 (by rfl) m.m__law_drawn_fields m.F__law_drawn_fields.kp m.B__law_drawn_fields (takes_of rfl rfl rfl rfl) (ppr_s (pe_pk (i := 0)) (ppr_e (ppe_op o_sub rfl (ppe_var (i := 1)) (ppe_int)) (ppr_e (ppe_fn h__law_roll rfl hr hg0 (by rfl) m.m__law_roll m.F__law_roll.kp m.B__law_roll (takes_of rfl rfl rfl rfl) (ppr_s (pe_pk (i := 0)) (ppr_e (ppe_int) (ppr_nil)))) (ppr_nil))))) (ppa_nil)))))))))
theorem d__law_drawn_fields (m : M K mg) {k : Nat} {ct__law_some : WE} {ct__law_value : WE} (h__law_some : FnG P w K mg base k m.a__law_some m.fd__law_some ["cup", "things"] (spOf K cl 2 ct__law_some)) (h__law_value : FnG P w K mg base k m.a__law_value m.fd__law_value ["cup", "deep"] (spOf K cl 2 ct__law_value)) (cdv : Value) (A : Around) (outer : List Env) (s : Shared) (H : Hp) (E : XK) (hr : Room k (A.deeper (envOfC "_law_drawn_fields" (defScope s__law_drawn_fields) s.heap.objs.size m.a__law_drawn_fields cdv))) (hg0 : A.guards = some []) :
    PSs (cxOf (L2.CX P w) P w K mg base ["cup", "deep", "many", "found", "names", "turn", "name", "one"] "_law_drawn_fields" (defScope s__law_drawn_fields) m.a__law_drawn_fields cdv A outer s H E) (defBody s__law_drawn_fields) (liftS (lcOf K cl E) (b__law_drawn_fields ct__law_some ct__law_value)) :=
  pps_cons (pps_par (i := 3) (j := 4) rfl sc__law_drawn_fields.nd rfl rfl (by decide) rfl rfl (ppe_tup (ppa_nil)) (ppe_lst (ppa_cons (ppe_str) (ppa_cons (ppe_str) (ppa_cons (ppe_str) (ppa_cons (ppe_str) (ppa_nil)))))) (by rfl))
    (pps_cons (pps_for (passes_of rfl) rfl (ppi_range1 (by rfl) m.b_range (ppe_var (i := 2))) (ppg_name (i := 5) (fun _ _ => trivial) sc__law_drawn_fields.nd rfl (by first | exact .inl rfl | exact .inr rfl)) (pps_cons (pps_set (i := 6) sc__law_drawn_fields.nd rfl (by first | exact .inl rfl | exact .inr rfl) (ppe_fn h__law_some rfl hr hg0 (by rfl) m.m__law_some m.F__law_some.kp m.B__law_some (takes_of rfl rfl rfl rfl) (ppr_s (pe_pk (i := 0)) (ppr_e (ppe_var (i := 4)) (ppr_nil)))))
    (pps_cons (lcv rfl sc__law_drawn_fields.nd (i := 4) rfl rfl (sw_true rfl rfl rfl (by decide +kernel)) (ppi_list rfl (ppe_var (i := 4))) (blkOk_by (N := ["cup", "deep", "many", "found", "names", "turn", "name", "one"]) (sc := defScope s__law_drawn_fields) (own := [("one", 7)]) (by decide +kernel)) rfl (fun _ _ _ _ _ => ppg_name (i := 7) (fun _ _ => wipe_set (by decide)) sc__law_drawn_fields.nd rfl (by first | exact .inl rfl | exact .inr rfl)) (fun _ _ _ _ _ => ppts_one (ppt_cmp (o_ne (u64 hr)) rfl (ppe_var (i := 7)) (ppe_var (i := 6)) rfl)) (fun _ _ _ _ _ => ppe_var (i := 7)))
    (pps_one (pps_set (i := 3) sc__law_drawn_fields.nd rfl (by first | exact .inl rfl | exact .inr rfl) (ppe_op o_add rfl (ppe_var (i := 3)) (ppe_tup (ppa_cons (ppe_tup (ppa_cons (ppe_var (i := 6)) (ppa_cons (ppe_fn h__law_value rfl hr hg0 (by rfl) m.m__law_value m.F__law_value.kp m.B__law_value (takes_of rfl rfl rfl rfl) (ppr_s (pe_pk (i := 0)) (ppr_e (ppe_var (i := 1)) (ppr_nil)))) (ppa_nil)))) (ppa_nil)))))))))
    (pps_one (pps_ret (ppe_var (i := 3)))))
theorem d__law_path (m : M K mg) {k : Nat} {ct__law_some : WE} (h__law_some : FnG P w K mg base k m.a__law_some m.fd__law_some ["cup", "things"] (spOf K cl 2 ct__law_some)) (cdv : Value) (A : Around) (outer : List Env) (s : Shared) (H : Hp) (E : XK) (hr : Room k (A.deeper (envOfC "_law_path" (defScope s__law_path) s.heap.objs.size m.a__law_path cdv))) (hg0 : A.guards = some []) :
    PSs (cxOf (L2.CX P w) P w K mg base ["cup", "some"] "_law_path" (defScope s__law_path) m.a__law_path cdv A outer s H E) (defBody s__law_path) (liftS (lcOf K cl E) (b__law_path ct__law_some)) :=
  pps_cons (pps_set (i := 1) sc__law_path.nd rfl (by first | exact .inl rfl | exact .inr rfl) (ppe_lst (ppa_cons (ppe_tup (ppa_cons (ppe_str) (ppa_nil))) (ppa_cons (ppe_tup (ppa_cons (ppe_str) (ppa_nil))) (ppa_cons (ppe_tup (ppa_cons (ppe_str) (ppa_nil))) (ppa_cons (ppe_tup (ppa_cons (ppe_str) (ppa_nil))) (ppa_cons (ppe_tup (ppa_cons (ppe_str) (ppa_nil))) (ppa_cons (ppe_tup (ppa_cons (ppe_str) (ppa_cons (ppe_str) (ppa_nil)))) (ppa_cons (ppe_tup (ppa_cons (ppe_str) (ppa_cons (ppe_int) (ppa_nil)))) (ppa_cons (ppe_tup (ppa_cons (ppe_str) (ppa_cons (ppe_str) (ppa_nil)))) (ppa_cons (ppe_tup (ppa_cons (ppe_str) (ppa_cons (ppe_str) (ppa_nil)))) (ppa_cons (ppe_tup (ppa_cons (ppe_str) (ppa_cons (ppe_int) (ppa_nil)))) (ppa_nil)))))))))))))
    (pps_one (pps_ret (ppe_fn h__law_some rfl hr hg0 (by rfl) m.m__law_some m.F__law_some.kp m.B__law_some (takes_of rfl rfl rfl rfl) (ppr_s (pe_pk (i := 0)) (ppr_e (ppe_op o_add rfl (ppe_var (i := 1)) (ppe_lst (ppa_cons (ppe_tup (ppa_cons (ppe_str) (ppa_cons (ppe_int) (ppa_cons (ppe_str) (ppa_nil))))) (ppa_cons (ppe_tup (ppa_cons (ppe_str) (ppa_cons (ppe_str) (ppa_cons (ppe_str) (ppa_nil))))) (ppa_cons (ppe_tup (ppa_cons (ppe_str) (ppa_nil))) (ppa_cons (ppe_tup (ppa_nil)) (ppa_nil))))))) (ppr_nil))))))
theorem d__law_told (m : M K mg) {k : Nat} {ct__law_roll : WE} {ct__law_some : WE} {ct__law_value : WE} (h__law_roll : FnG P w K mg base k m.a__law_roll m.fd__law_roll ["cup", "many"] (spOf K cl 2 ct__law_roll)) (h__law_some : FnG P w K mg base k m.a__law_some m.fd__law_some ["cup", "things"] (spOf K cl 2 ct__law_some)) (h__law_value : FnG P w K mg base k m.a__law_value m.fd__law_value ["cup", "deep"] (spOf K cl 2 ct__law_value)) (cdv : Value) (A : Around) (outer : List Env) (s : Shared) (H : Hp) (E : XK) (hr : Room k (A.deeper (envOfC "_law_told" (defScope s__law_told) s.heap.objs.size m.a__law_told cdv))) (hg0 : A.guards = some []) :
    PSs (cxOf (L2.CX P w) P w K mg base ["cup", "word", "turn"] "_law_told" (defScope s__law_told) m.a__law_told cdv A outer s H E) (defBody s__law_told) (liftS (lcOf K cl E) (b__law_told ct__law_roll ct__law_some ct__law_value)) :=
  pps_cons (pps_if (ppt_cmp (o_in (u65 hr)) rfl (ppe_var (i := 1)) (ppe_tup (ppa_cons (ppe_str) (ppa_cons (ppe_str) (ppa_nil)))) rfl) (pps_one (pps_ret (ppe_tup (ppa_cons (ppe_str) (ppa_cons (ppe_callTy c_tuple rfl (by rfl) m.b_tuple boot_tuple (ppa_cons (ppe_ofF (lcf rfl sc__law_told.nd (ppi_range1 (by rfl) m.b_range (ppe_fn h__law_roll rfl hr hg0 (by rfl) m.m__law_roll m.F__law_roll.kp m.B__law_roll (takes_of rfl rfl rfl rfl) (ppr_s (pe_pk (i := 0)) (ppr_e (ppe_int) (ppr_nil))))) (blkOk_by (N := ["cup", "word", "turn"]) (sc := defScope s__law_told) (own := [("turn", 2)]) (by decide +kernel)) rfl (fun _ _ _ _ _ => ppg_name (i := 2) (fun _ _ => wipe_set (by decide)) sc__law_told.nd rfl (by first | exact .inl rfl | exact .inr rfl)) (fun _ _ _ _ _ => pts_yes) (fun _ _ _ _ _ => ppe_fn h__law_value rfl hr hg0 (by rfl) m.m__law_value m.F__law_value.kp m.B__law_value takes0 (ppr_s (pe_pk (i := 0)) (ppr_e (ppe_int) (ppr_nil)))))) (ppa_nil))) (ppa_nil)))))) (pps_nil))
    (pps_cons (pps_if (ppt_cmp (o_eq (u64 hr)) rfl (ppe_var (i := 1)) (ppe_str) rfl) (pps_one (pps_ret (ppe_fn h__law_some rfl hr hg0 (by rfl) m.m__law_some m.F__law_some.kp m.B__law_some (takes_of rfl rfl rfl rfl) (ppr_s (pe_pk (i := 0)) (ppr_e (ppe_lst (ppa_cons (ppe_int) (ppa_cons (ppe_int) (ppa_cons (ppe_int) (ppa_cons (ppe_int) (ppa_cons (ppe_int) (ppa_nil))))))) (ppr_nil)))))) (pps_nil))
    (pps_cons (pps_if (ppt_cmp (o_eq (u64 hr)) rfl (ppe_var (i := 1)) (ppe_str) rfl) (pps_one (pps_ret (ppe_cmp (o_eq (u64 hr)) rfl (ppe_fn h__law_roll rfl hr hg0 (by rfl) m.m__law_roll m.F__law_roll.kp m.B__law_roll (takes_of rfl rfl rfl rfl) (ppr_s (pe_pk (i := 0)) (ppr_e (ppe_int) (ppr_nil)))) (ppe_int) rfl))) (pps_nil))
    (pps_one (pps_ret (ppe_if (ppt_cmp (o_eq (u64 hr)) rfl (ppe_var (i := 1)) (ppe_str) rfl) (ppe_fn h__law_some rfl hr hg0 (by rfl) m.m__law_some m.F__law_some.kp m.B__law_some (takes_of rfl rfl rfl rfl) (ppr_s (pe_pk (i := 0)) (ppr_e (ppe_lst (ppa_cons (ppe_str) (ppa_cons (ppe_str) (ppa_cons (ppe_str) (ppa_cons (ppe_str) (ppa_cons (ppe_str) (ppa_cons (ppe_str) (ppa_nil)))))))) (ppr_nil)))) (ppe_fn h__law_value rfl hr hg0 (by rfl) m.m__law_value m.F__law_value.kp m.B__law_value (takes_of rfl rfl rfl rfl) (ppr_s (pe_pk (i := 0)) (ppr_e (ppe_int) (ppr_nil)))))))))
theorem d__law_words (m : M K mg) {k : Nat} (cdv : Value) (A : Around) (outer : List Env) (s : Shared) (H : Hp) (E : XK) (hr : Room k (A.deeper (envOfC "_law_words" (defScope s__law_words) s.heap.objs.size m.a__law_words cdv))) (hg0 : A.guards = some []) :
    PSs (cxOf (L2.CX P w) P w K mg base [] "_law_words" (defScope s__law_words) m.a__law_words cdv A outer s H E) (defBody s__law_words) (liftS (lcOf K cl E) (b__law_words)) :=
  pps_one (pps_ret (ppe_lst (ppa_cons (ppe_str) (ppa_cons (ppe_str) (ppa_cons (ppe_str) (ppa_cons (ppe_str) (ppa_cons (ppe_str) (ppa_cons (ppe_str) (ppa_cons (ppe_str) (ppa_cons (ppe_str) (ppa_cons (ppe_str) (ppa_cons (ppe_str) (ppa_cons (ppe_str) (ppa_nil))))))))))))))
theorem d__law_filter (m : M K mg) {k : Nat} {ct__law_filter : WE} {ct__law_path : WE} {ct__law_roll : WE} {ct__law_some : WE} {ct__law_told : WE} {ct__law_words : WE} (h__law_filter : FnG P w K mg base k m.a__law_filter m.fd__law_filter ["cup", "deep"] (spOf K cl 2 ct__law_filter)) (h__law_path : FnG P w K mg base k m.a__law_path m.fd__law_path ["cup"] (spOf K cl 1 ct__law_path)) (h__law_roll : FnG P w K mg base k m.a__law_roll m.fd__law_roll ["cup", "many"] (spOf K cl 2 ct__law_roll)) (h__law_some : FnG P w K mg base k m.a__law_some m.fd__law_some ["cup", "things"] (spOf K cl 2 ct__law_some)) (h__law_told : FnG P w K mg base k m.a__law_told m.fd__law_told ["cup", "word"] (spOf K cl 2 ct__law_told)) (h__law_words : FnG P w K mg base k m.a__law_words m.fd__law_words [] (spOf K cl 0 ct__law_words)) (cdv : Value) (A : Around) (outer : List Env) (s : Shared) (H : Hp) (E : XK) (hr : Room k (A.deeper (envOfC "_law_filter" (defScope s__law_filter) s.heap.objs.size m.a__law_filter cdv))) (hg0 : A.guards = some []) :
    PSs (cxOf (L2.CX P w) P w K mg base ["cup", "deep", "way", "word", "turn"] "_law_filter" (defScope s__law_filter) m.a__law_filter cdv A outer s H E) (defBody s__law_filter) (liftS (lcOf K cl E) (b__law_filter ct__law_filter ct__law_path ct__law_roll ct__law_some ct__law_told ct__law_words)) :=
  pps_cons (pps_set (i := 2) sc__law_filter.nd rfl (by first | exact .inl rfl | exact .inr rfl) (ppe_fn h__law_roll rfl hr hg0 (by rfl) m.m__law_roll m.F__law_roll.kp m.B__law_roll (takes_of rfl rfl rfl rfl) (ppr_s (pe_pk (i := 0)) (ppr_e (ppe_if (ppt_cmp o_gt rfl (ppe_var (i := 1)) (ppe_int) rfl) (ppe_int) (ppe_int)) (ppr_nil)))))
    (pps_cons (pps_if (ppt_cmp o_lt rfl (ppe_var (i := 2)) (ppe_int) rfl) (pps_cons (pps_set (i := 3) sc__law_filter.nd rfl (by first | exact .inl rfl | exact .inr rfl) (ppe_fn h__law_some rfl hr hg0 (by rfl) m.m__law_some m.F__law_some.kp m.B__law_some (takes_of rfl rfl rfl rfl) (ppr_s (pe_pk (i := 0)) (ppr_e (ppe_fn0 h__law_words rfl hr hg0 (by rfl) m.m__law_words m.F__law_words.kp m.B__law_words (takes_of rfl rfl rfl rfl)) (ppr_nil)))))
    (pps_one (pps_ret (ppe_tup (ppa_cons (ppe_str) (ppa_cons (ppe_fn h__law_path rfl hr hg0 (by rfl) m.m__law_path m.F__law_path.kp m.B__law_path (takes_of rfl rfl rfl rfl) (ppr_s (pe_pk (i := 0)) (ppr_nil))) (ppa_cons (ppe_var (i := 3)) (ppa_cons (ppe_fn h__law_told rfl hr hg0 (by rfl) m.m__law_told m.F__law_told.kp m.B__law_told (takes_of rfl rfl rfl rfl) (ppr_s (pe_pk (i := 0)) (ppr_e (ppe_var (i := 3)) (ppr_nil)))) (ppa_nil))))))))) (pps_nil))
    (pps_cons (pps_if (ppt_cmp (o_eq (u64 hr)) rfl (ppe_var (i := 2)) (ppe_int) rfl) (pps_one (pps_ret (ppe_fn h__law_some rfl hr hg0 (by rfl) m.m__law_some m.F__law_some.kp m.B__law_some (takes_of rfl rfl rfl rfl) (ppr_s (pe_pk (i := 0)) (ppr_e (ppe_lst (ppa_cons (ppe_tup (ppa_cons (ppe_str) (ppa_nil))) (ppa_cons (ppe_tup (ppa_cons (ppe_str) (ppa_cons (ppe_fn h__law_filter rfl hr hg0 (by rfl) m.m__law_filter m.F__law_filter.kp m.B__law_filter (takes_of rfl rfl rfl rfl) (ppr_s (pe_pk (i := 0)) (ppr_e (ppe_op o_sub rfl (ppe_var (i := 1)) (ppe_int)) (ppr_nil)))) (ppa_nil)))) (ppa_nil)))) (ppr_nil)))))) (pps_nil))
    (pps_cons (pps_if (ppt_cmp (o_eq (u64 hr)) rfl (ppe_var (i := 2)) (ppe_int) rfl) (pps_one (pps_ret (ppe_tup (ppa_cons (ppe_str) (ppa_cons (ppe_fn h__law_path rfl hr hg0 (by rfl) m.m__law_path m.F__law_path.kp m.B__law_path (takes_of rfl rfl rfl rfl) (ppr_s (pe_pk (i := 0)) (ppr_nil))) (ppa_cons (ppe_fn h__law_filter rfl hr hg0 (by rfl) m.m__law_filter m.F__law_filter.kp m.B__law_filter (takes_of rfl rfl rfl rfl) (ppr_s (pe_pk (i := 0)) (ppr_e (ppe_op o_sub rfl (ppe_var (i := 1)) (ppe_int)) (ppr_nil)))) (ppa_nil))))))) (pps_nil))
    (pps_one (pps_ret (ppe_tup (ppa_cons (ppe_fn h__law_some rfl hr hg0 (by rfl) m.m__law_some m.F__law_some.kp m.B__law_some (takes_of rfl rfl rfl rfl) (ppr_s (pe_pk (i := 0)) (ppr_e (ppe_lst (ppa_cons (ppe_str) (ppa_cons (ppe_str) (ppa_nil)))) (ppr_nil)))) (ppa_cons (ppe_callTy c_tuple rfl (by rfl) m.b_tuple boot_tuple (ppa_cons (ppe_ofF (lcf rfl sc__law_filter.nd (ppi_range1 (by rfl) m.b_range (ppe_fn h__law_roll rfl hr hg0 (by rfl) m.m__law_roll m.F__law_roll.kp m.B__law_roll (takes_of rfl rfl rfl rfl) (ppr_s (pe_pk (i := 0)) (ppr_e (ppe_int) (ppr_nil))))) (blkOk_by (N := ["cup", "deep", "way", "word", "turn"]) (sc := defScope s__law_filter) (own := [("turn", 4)]) (by decide +kernel)) rfl (fun _ _ _ _ _ => ppg_name (i := 4) (fun _ _ => wipe_set (by decide)) sc__law_filter.nd rfl (by first | exact .inl rfl | exact .inr rfl)) (fun _ _ _ _ _ => pts_yes) (fun _ _ _ _ _ => ppe_fn h__law_filter rfl hr hg0 (by rfl) m.m__law_filter m.F__law_filter.kp m.B__law_filter takes0 (ppr_s (pe_pk (i := 0)) (ppr_e (ppe_op o_sub rfl (ppe_var (i := 1)) (ppe_int)) (ppr_nil)))))) (ppa_nil))) (ppa_nil)))))))))
theorem d__law_near (m : M K mg) {k : Nat} {ct__law_some : WE} (h__law_some : FnG P w K mg base k m.a__law_some m.fd__law_some ["cup", "things"] (spOf K cl 2 ct__law_some)) (cdv : Value) (A : Around) (outer : List Env) (s : Shared) (H : Hp) (E : XK) (hr : Room k (A.deeper (envOfC "_law_near" (defScope s__law_near) s.heap.objs.size m.a__law_near cdv))) (hg0 : A.guards = some []) :
    PSs (cxOf (L2.CX P w) P w K mg base ["cup", "asked", "some"] "_law_near" (defScope s__law_near) m.a__law_near cdv A outer s H E) (defBody s__law_near) (liftS (lcOf K cl E) (b__law_near ct__law_some)) :=
  pps_cons (pps_set (i := 2) sc__law_near.nd rfl (by first | exact .inl rfl | exact .inr rfl) (ppe_lst (ppa_cons (ppe_callTy c_list rfl (by rfl) m.b_list boot_list (ppa_cons (ppe_var (i := 1)) (ppa_nil))) (ppa_cons (ppe_op o_add rfl (ppe_var (i := 1)) (ppe_tup (ppa_cons (ppe_int) (ppa_nil)))) (ppa_cons (ppe_op o_add rfl (ppe_tup (ppa_cons (ppe_op o_add rfl (ppe_idx rfl (ppe_var (i := 1)) (ppe_int)) (ppe_str)) (ppa_nil))) (ppe_slice rfl (ppe_var (i := 1)) (ppo_some (ppe_int)) (ppo_none))) (ppa_cons (ppe_op o_add rfl (ppe_tup (ppa_cons (ppe_non) (ppa_nil))) (ppe_slice rfl (ppe_var (i := 1)) (ppo_some (ppe_int)) (ppo_none))) (ppa_cons (ppe_tup (ppa_nil)) (ppa_cons (ppe_non) (ppa_cons (ppe_str) (ppa_cons (ppe_tup (ppa_cons (ppe_str) (ppa_nil))) (ppa_nil)))))))))))
    (pps_cons (pps_set (i := 2) sc__law_near.nd rfl (by first | exact .inl rfl | exact .inr rfl) (ppe_op o_add rfl (ppe_var (i := 2)) (ppe_lst (ppa_cons (ppe_tup (ppa_cons (ppe_str) (ppa_cons (ppe_var (i := 1)) (ppa_cons (ppe_var (i := 1)) (ppa_nil))))) (ppa_nil)))))
    (pps_cons (pps_set (i := 2) sc__law_near.nd rfl (by first | exact .inl rfl | exact .inr rfl) (ppe_op o_add rfl (ppe_var (i := 2)) (ppe_lst (ppa_cons (ppe_tup (ppa_cons (ppe_str) (ppa_cons (ppe_lst (ppa_cons (ppe_var (i := 1)) (ppa_nil))) (ppa_nil)))) (ppa_cons (ppe_tup (ppa_cons (ppe_str) (ppa_cons (ppe_var (i := 1)) (ppa_nil)))) (ppa_cons (ppe_tup (ppa_cons (ppe_str) (ppa_cons (ppe_tup (ppa_cons (ppe_str) (ppa_nil))) (ppa_nil)))) (ppa_cons (ppe_tup (ppa_cons (ppe_str) (ppa_cons (ppe_lst (ppa_cons (ppe_str) (ppa_nil))) (ppa_cons (ppe_var (i := 1)) (ppa_nil))))) (ppa_cons (ppe_tup (ppa_cons (ppe_str) (ppa_cons (ppe_tup (ppa_cons (ppe_str) (ppa_nil))) (ppa_cons (ppe_var (i := 1)) (ppa_nil))))) (ppa_nil)))))))))
    (pps_cons (pps_set (i := 2) sc__law_near.nd rfl (by first | exact .inl rfl | exact .inr rfl) (ppe_op o_add rfl (ppe_var (i := 2)) (ppe_lst (ppa_cons (ppe_tup (ppa_cons (ppe_str) (ppa_cons (ppe_op o_tmul rfl (ppe_tup (ppa_cons (ppe_var (i := 1)) (ppa_nil))) (ppe_int)) (ppa_nil)))) (ppa_cons (ppe_tup (ppa_cons (ppe_str) (ppa_cons (ppe_tup (ppa_cons (ppe_non) (ppa_nil))) (ppa_nil)))) (ppa_nil))))))
    (pps_one (pps_ret (ppe_fn h__law_some rfl hr hg0 (by rfl) m.m__law_some m.F__law_some.kp m.B__law_some (takes_of rfl rfl rfl rfl) (ppr_s (pe_pk (i := 0)) (ppr_e (ppe_op o_add rfl (ppe_var (i := 2)) (ppe_lst (ppa_cons (ppe_tup (ppa_cons (ppe_str) (ppa_cons (ppe_tup (ppa_nil)) (ppa_nil)))) (ppa_cons (ppe_tup (ppa_cons (ppe_str) (ppa_cons (ppe_tup (ppa_cons (ppe_var (i := 1)) (ppa_cons (ppe_tup (ppa_cons (ppe_str) (ppa_cons (ppe_int) (ppa_nil)))) (ppa_nil)))) (ppa_nil)))) (ppa_cons (ppe_tup (ppa_cons (ppe_str) (ppa_cons (ppe_tup (ppa_cons (ppe_str) (ppa_cons (ppe_tup (ppa_cons (ppe_var (i := 1)) (ppa_cons (ppe_lst (ppa_cons (ppe_str) (ppa_nil))) (ppa_nil)))) (ppa_nil)))) (ppa_nil)))) (ppa_nil)))))) (ppr_nil)))))))))
theorem d_law (m : M K mg) {k : Nat} {ct__law_cup : WA} {ct__law_filter : WE} {ct__law_near : WE} {ct_is_filter : WE} (h__law_cup : FnG P w K mg base k m.a__law_cup m.fd__law_cup ["script"] (spOfF K cl 1 ct__law_cup)) (h__law_filter : FnG P w K mg base k m.a__law_filter m.fd__law_filter ["cup", "deep"] (spOf K cl 2 ct__law_filter)) (h__law_near : FnG P w K mg base k m.a__law_near m.fd__law_near ["cup", "asked"] (spOf K cl 2 ct__law_near)) (h_is_filter : FnG P w K mg base k m.a_is_filter m.fd_is_filter ["value"] (spOf K cl 1 ct_is_filter)) (cdv : Value) (A : Around) (outer : List Env) (s : Shared) (H : Hp) (E : XK) (hr : Room k (A.deeper (envOfC "law" (defScope s_law) s.heap.objs.size m.a_law cdv))) (hg0 : A.guards = some []) :
    PSs (cxOf (L2.CX P w) P w K mg base ["script", "cup", "turn", "asked", "leaf", "path", "four", "forty", "goods", "odds", "tests", "word", "told", "due", "paths", "way", "test", "deep", "wide", "one"] "law" (defScope s_law) m.a_law cdv A outer s H E) (defBody s_law) (liftS (lcOf K cl E) (b_law ct__law_cup ct__law_filter ct__law_near ct_is_filter)) :=
  pps_cons (pps_setF (i := 1) sc_law.nd rfl (by first | exact .inl rfl | exact .inr rfl) (ppf_fn h__law_cup rfl hr hg0 (by rfl) m.m__law_cup m.F__law_cup.kp m.B__law_cup (takes_of rfl rfl rfl rfl) (ppr_e (ppe_var (i := 0)) (ppr_nil))))
    (pps_cons (pps_for (passes_of rfl) rfl (ppi_range1 (by rfl) m.b_range (ppe_int)) (ppg_name (i := 2) (fun _ _ => trivial) sc_law.nd rfl (by first | exact .inl rfl | exact .inr rfl)) (pps_cons (pps_set (i := 3) sc_law.nd rfl (by first | exact .inl rfl | exact .inr rfl) (ppe_fn h__law_filter rfl hr hg0 (by rfl) m.m__law_filter m.F__law_filter.kp m.B__law_filter (takes_of rfl rfl rfl rfl) (ppr_s (pe_pk (i := 1)) (ppr_e (ppe_int) (ppr_nil)))))
    (pps_one (pps_if (ppt_w (ppw_or (ppt_cmp o_isnot rfl (ppe_fn h_is_filter rfl hr hg0 (by rfl) m.m_is_filter m.F_is_filter.kp m.B_is_filter (takes_of rfl rfl rfl rfl) (ppr_e (ppe_var (i := 3)) (ppr_nil))) (ppe_bl) rfl) (ppw_or1 (ppt_cmp o_isnot rfl (ppe_fn h_is_filter rfl hr hg0 (by rfl) m.m_is_filter m.F_is_filter.kp m.B_is_filter (takes_of rfl rfl rfl rfl) (ppr_e (ppe_fn h__law_near rfl hr hg0 (by rfl) m.m__law_near m.F__law_near.kp m.B__law_near (takes_of rfl rfl rfl rfl) (ppr_s (pe_pk (i := 1)) (ppr_e (ppe_var (i := 3)) (ppr_nil)))) (ppr_nil))) (ppe_bl) rfl)))) (pps_one (pps_ret (ppe_bl))) (pps_nil)))))
    (pps_cons (pps_asg (ppe_tup (ppa_cons (ppe_tup (ppa_cons (ppe_str) (ppa_nil))) (ppa_cons (ppe_tup (ppa_cons (ppe_str) (ppa_cons (ppe_int) (ppa_cons (ppe_str) (ppa_nil))))) (ppa_nil)))) (ppg_tup rfl rfl (ppgs_cons sa_ok (ppg_name (i := 4) (fun _ _ => trivial) sc_law.nd rfl (by first | exact .inl rfl | exact .inr rfl)) (ppgs_cons sa_ok (ppg_name (i := 5) (fun _ _ => trivial) sc_law.nd rfl (by first | exact .inl rfl | exact .inr rfl)) (ppgs_nil sa_ok)))))
    (pps_cons (pps_set (i := 6) sc_law.nd rfl (by first | exact .inl rfl | exact .inr rfl) (ppe_tup (ppa_cons (ppe_str) (ppa_cons (ppe_tup (ppa_cons (ppe_str) (ppa_cons (ppe_tup (ppa_cons (ppe_str) (ppa_cons (ppe_tup (ppa_cons (ppe_str) (ppa_cons (ppe_var (i := 4)) (ppa_nil)))) (ppa_nil)))) (ppa_nil)))) (ppa_nil)))))
    (pps_cons (pps_set (i := 7) sc_law.nd rfl (by first | exact .inl rfl | exact .inr rfl) (ppe_tup (ppa_cons (ppe_str) (ppa_cons (ppe_tup (ppa_cons (ppe_tup (ppa_cons (ppe_str) (ppa_cons (ppe_op o_tmul rfl (ppe_tup (ppa_cons (ppe_var (i := 4)) (ppa_nil))) (ppe_int)) (ppa_nil)))) (ppa_cons (ppe_tup (ppa_cons (ppe_str) (ppa_cons (ppe_op o_tmul rfl (ppe_tup (ppa_cons (ppe_var (i := 4)) (ppa_nil))) (ppe_int)) (ppa_nil)))) (ppa_cons (ppe_tup (ppa_cons (ppe_str) (ppa_cons (ppe_op o_tmul rfl (ppe_tup (ppa_cons (ppe_var (i := 4)) (ppa_nil))) (ppe_int)) (ppa_nil)))) (ppa_cons (ppe_tup (ppa_cons (ppe_str) (ppa_cons (ppe_op o_tmul rfl (ppe_tup (ppa_cons (ppe_var (i := 4)) (ppa_nil))) (ppe_int)) (ppa_nil)))) (ppa_cons (ppe_tup (ppa_cons (ppe_str) (ppa_cons (ppe_var (i := 4)) (ppa_nil)))) (ppa_cons (ppe_var (i := 4)) (ppa_nil)))))))) (ppa_nil)))))
    (pps_cons (pps_set (i := 8) sc_law.nd rfl (by first | exact .inl rfl | exact .inr rfl) (ppe_lst (ppa_cons (ppe_var (i := 4)) (ppa_cons (ppe_var (i := 6)) (ppa_cons (ppe_tup (ppa_cons (ppe_str) (ppa_cons (ppe_tup (ppa_nil)) (ppa_nil)))) (ppa_cons (ppe_tup (ppa_cons (ppe_str) (ppa_cons (ppe_op o_tmul rfl (ppe_tup (ppa_cons (ppe_var (i := 4)) (ppa_nil))) (ppe_int)) (ppa_nil)))) (ppa_cons (ppe_tup (ppa_cons (ppe_str) (ppa_cons (ppe_slice rfl (ppe_idx rfl (ppe_var (i := 7)) (ppe_int)) (ppo_none) (ppo_some (ppe_int))) (ppa_nil)))) (ppa_cons (ppe_tup (ppa_cons (ppe_str) (ppa_cons (ppe_idx rfl (ppe_var (i := 7)) (ppe_int)) (ppa_nil)))) (ppa_nil)))))))))
    (pps_cons (pps_set (i := 9) sc_law.nd rfl (by first | exact .inl rfl | exact .inr rfl) (ppe_lst (ppa_cons (ppe_tup (ppa_cons (ppe_str) (ppa_cons (ppe_var (i := 6)) (ppa_nil)))) (ppa_cons (ppe_tup (ppa_cons (ppe_str) (ppa_cons (ppe_op o_add rfl (ppe_idx rfl (ppe_var (i := 7)) (ppe_int)) (ppe_tup (ppa_cons (ppe_var (i := 4)) (ppa_nil)))) (ppa_nil)))) (ppa_cons (ppe_tup (ppa_cons (ppe_str) (ppa_cons (ppe_op o_tmul rfl (ppe_tup (ppa_cons (ppe_var (i := 4)) (ppa_nil))) (ppe_int)) (ppa_nil)))) (ppa_nil))))))
    (pps_cons (pps_set (i := 10) sc_law.nd rfl (by first | exact .inl rfl | exact .inr rfl) (ppe_lst (ppa_cons (ppe_tup (ppa_cons (ppe_str) (ppa_cons (ppe_non) (ppa_cons (ppe_bl) (ppa_nil))))) (ppa_cons (ppe_tup (ppa_cons (ppe_str) (ppa_cons (ppe_lst (ppa_cons (ppe_int) (ppa_nil))) (ppa_cons (ppe_bl) (ppa_nil))))) (ppa_cons (ppe_tup (ppa_cons (ppe_str) (ppa_cons (ppe_str) (ppa_cons (ppe_bl) (ppa_nil))))) (ppa_cons (ppe_tup (ppa_cons (ppe_str) (ppa_cons (ppe_op o_add rfl (ppe_op o_pow rfl (ppe_int) (ppe_int)) (ppe_int)) (ppa_cons (ppe_bl) (ppa_nil))))) (ppa_nil)))))))
    (pps_cons (pps_set (i := 10) sc_law.nd rfl (by first | exact .inl rfl | exact .inr rfl) (ppe_op o_add rfl (ppe_var (i := 10)) (ppe_lst (ppa_cons (ppe_tup (ppa_cons (ppe_str) (ppa_cons (ppe_tup (ppa_cons (ppe_str) (ppa_cons (ppe_tup (ppa_nil)) (ppa_nil)))) (ppa_cons (ppe_bl) (ppa_nil))))) (ppa_cons (ppe_tup (ppa_cons (ppe_str) (ppa_cons (ppe_tup (ppa_cons (ppe_str) (ppa_cons (ppe_tup (ppa_cons (ppe_tup (ppa_cons (ppe_str) (ppa_cons (ppe_int) (ppa_nil)))) (ppa_nil))) (ppa_nil)))) (ppa_cons (ppe_bl) (ppa_nil))))) (ppa_nil))))))
    (pps_cons (pps_set (i := 10) sc_law.nd rfl (by first | exact .inl rfl | exact .inr rfl) (ppe_op o_add rfl (ppe_var (i := 10)) (ppe_lst (ppa_cons (ppe_tup (ppa_cons (ppe_str) (ppa_cons (ppe_tup (ppa_cons (ppe_str) (ppa_cons (ppe_tup (ppa_cons (ppe_int) (ppa_cons (ppe_str) (ppa_nil)))) (ppa_nil)))) (ppa_cons (ppe_bl) (ppa_nil))))) (ppa_cons (ppe_tup (ppa_cons (ppe_str) (ppa_cons (ppe_int) (ppa_cons (ppe_bl) (ppa_nil))))) (ppa_cons (ppe_tup (ppa_cons (ppe_str) (ppa_cons (ppe_tup (ppa_cons (ppe_str) (ppa_cons (ppe_tup (ppa_nil)) (ppa_nil)))) (ppa_cons (ppe_bl) (ppa_nil))))) (ppa_cons (ppe_tup (ppa_cons (ppe_str) (ppa_cons (ppe_tup (ppa_cons (ppe_str) (ppa_cons (ppe_tup (ppa_nil)) (ppa_nil)))) (ppa_cons (ppe_bl) (ppa_nil))))) (ppa_nil))))))))
    (pps_cons (pps_set (i := 10) sc_law.nd rfl (by first | exact .inl rfl | exact .inr rfl) (ppe_op o_add rfl (ppe_var (i := 10)) (ppe_lst (ppa_cons (ppe_tup (ppa_cons (ppe_str) (ppa_cons (ppe_tup (ppa_cons (ppe_int) (ppa_nil))) (ppa_cons (ppe_bl) (ppa_nil))))) (ppa_nil)))))
    (pps_cons (pps_set (i := 10) sc_law.nd rfl (by first | exact .inl rfl | exact .inr rfl) (ppe_op o_add rfl (ppe_var (i := 10)) (ppe_lst (ppa_cons (ppe_tup (ppa_cons (ppe_str) (ppa_cons (ppe_int) (ppa_cons (ppe_bl) (ppa_nil))))) (ppa_cons (ppe_tup (ppa_cons (ppe_str) (ppa_cons (ppe_int) (ppa_cons (ppe_bl) (ppa_nil))))) (ppa_cons (ppe_tup (ppa_cons (ppe_str) (ppa_cons (ppe_int) (ppa_cons (ppe_bl) (ppa_nil))))) (ppa_cons (ppe_tup (ppa_cons (ppe_str) (ppa_cons (ppe_neg (ppe_int)) (ppa_cons (ppe_bl) (ppa_nil))))) (ppa_cons (ppe_tup (ppa_cons (ppe_str) (ppa_cons (ppe_bl) (ppa_cons (ppe_bl) (ppa_nil))))) (ppa_nil)))))))))
    (pps_cons (pps_set (i := 10) sc_law.nd rfl (by first | exact .inl rfl | exact .inr rfl) (ppe_op o_add rfl (ppe_var (i := 10)) (ppe_lst (ppa_cons (ppe_tup (ppa_cons (ppe_str) (ppa_cons (ppe_non) (ppa_cons (ppe_bl) (ppa_nil))))) (ppa_cons (ppe_tup (ppa_cons (ppe_str) (ppa_cons (ppe_bl) (ppa_cons (ppe_bl) (ppa_nil))))) (ppa_cons (ppe_tup (ppa_cons (ppe_str) (ppa_cons (ppe_str) (ppa_cons (ppe_bl) (ppa_nil))))) (ppa_nil)))))))
    (pps_cons (pps_set (i := 10) sc_law.nd rfl (by first | exact .inl rfl | exact .inr rfl) (ppe_op o_add rfl (ppe_var (i := 10)) (ppe_lst (ppa_cons (ppe_tup (ppa_cons (ppe_str) (ppa_cons (ppe_tup (ppa_cons (ppe_str) (ppa_cons (ppe_tup (ppa_cons (ppe_op o_add rfl (ppe_op o_pow rfl (ppe_int) (ppe_int)) (ppe_int)) (ppa_nil))) (ppa_nil)))) (ppa_cons (ppe_bl) (ppa_nil))))) (ppa_cons (ppe_tup (ppa_cons (ppe_str) (ppa_cons (ppe_tup (ppa_cons (ppe_str) (ppa_cons (ppe_tup (ppa_cons (ppe_str) (ppa_nil))) (ppa_nil)))) (ppa_cons (ppe_bl) (ppa_nil))))) (ppa_cons (ppe_tup (ppa_cons (ppe_str) (ppa_cons (ppe_tup (ppa_cons (ppe_str) (ppa_cons (ppe_lst (ppa_cons (ppe_int) (ppa_nil))) (ppa_nil)))) (ppa_cons (ppe_bl) (ppa_nil))))) (ppa_nil)))))))
    (pps_cons (pps_set (i := 10) sc_law.nd rfl (by first | exact .inl rfl | exact .inr rfl) (ppe_op o_add rfl (ppe_var (i := 10)) (ppe_lst (ppa_cons (ppe_tup (ppa_cons (ppe_str) (ppa_cons (ppe_tup (ppa_cons (ppe_str) (ppa_cons (ppe_op o_tmul rfl (ppe_tup (ppa_cons (ppe_int) (ppa_nil))) (ppe_int)) (ppa_nil)))) (ppa_cons (ppe_bl) (ppa_nil))))) (ppa_cons (ppe_tup (ppa_cons (ppe_str) (ppa_cons (ppe_tup (ppa_cons (ppe_str) (ppa_cons (ppe_op o_tmul rfl (ppe_tup (ppa_cons (ppe_int) (ppa_nil))) (ppe_int)) (ppa_nil)))) (ppa_cons (ppe_bl) (ppa_nil))))) (ppa_cons (ppe_tup (ppa_cons (ppe_str) (ppa_cons (ppe_tup (ppa_cons (ppe_str) (ppa_cons (ppe_tup (ppa_cons (ppe_tup (ppa_cons (ppe_str) (ppa_cons (ppe_int) (ppa_nil)))) (ppa_nil))) (ppa_nil)))) (ppa_cons (ppe_bl) (ppa_nil))))) (ppa_nil)))))))
    (pps_cons (pps_set (i := 10) sc_law.nd rfl (by first | exact .inl rfl | exact .inr rfl) (ppe_op o_add rfl (ppe_op o_add rfl (ppe_var (i := 10)) (ppe_ofF (lcf rfl sc_law.nd (ppi_tup rfl (ppe_tup (ppa_cons (ppe_str) (ppa_cons (ppe_str) (ppa_cons (ppe_str) (ppa_nil)))))) (blkOk_by (N := ["script", "cup", "turn", "asked", "leaf", "path", "four", "forty", "goods", "odds", "tests", "word", "told", "due", "paths", "way", "test", "deep", "wide", "one"]) (sc := defScope s_law) (own := [("word", 11)]) (by decide +kernel)) rfl (fun _ _ _ _ _ => ppg_name (i := 11) (fun _ _ => wipe_set (by decide)) sc_law.nd rfl (by first | exact .inl rfl | exact .inr rfl)) (fun _ _ _ _ _ => pts_yes) (fun _ _ _ _ _ => ppe_tup (ppa_cons (ppe_var (i := 11)) (ppa_cons (ppe_str) (ppa_cons (ppe_bl) (ppa_nil)))))))) (ppe_ofF (lcf rfl sc_law.nd (ppi_tup rfl (ppe_tup (ppa_cons (ppe_str) (ppa_cons (ppe_str) (ppa_cons (ppe_str) (ppa_cons (ppe_str) (ppa_nil))))))) (blkOk_by (N := ["script", "cup", "turn", "asked", "leaf", "path", "four", "forty", "goods", "odds", "tests", "word", "told", "due", "paths", "way", "test", "deep", "wide", "one"]) (sc := defScope s_law) (own := [("word", 11)]) (by decide +kernel)) rfl (fun _ _ _ _ _ => ppg_name (i := 11) (fun _ _ => wipe_set (by decide)) sc_law.nd rfl (by first | exact .inl rfl | exact .inr rfl)) (fun _ _ _ _ _ => pts_yes) (fun _ _ _ _ _ => ppe_tup (ppa_cons (ppe_var (i := 11)) (ppa_cons (ppe_lst (ppa_cons (ppe_str) (ppa_nil))) (ppa_cons (ppe_bl) (ppa_nil)))))))))
    (pps_cons (pps_set (i := 10) sc_law.nd rfl (by first | exact .inl rfl | exact .inr rfl) (ppe_op o_add rfl (ppe_var (i := 10)) (ppe_lst (ppa_cons (ppe_tup (ppa_cons (ppe_str) (ppa_cons (ppe_str) (ppa_cons (ppe_bl) (ppa_nil))))) (ppa_cons (ppe_tup (ppa_cons (ppe_str) (ppa_cons (ppe_str) (ppa_cons (ppe_bl) (ppa_nil))))) (ppa_cons (ppe_tup (ppa_cons (ppe_str) (ppa_cons (ppe_str) (ppa_cons (ppe_bl) (ppa_nil))))) (ppa_cons (ppe_tup (ppa_cons (ppe_str) (ppa_cons (ppe_non) (ppa_cons (ppe_bl) (ppa_nil))))) (ppa_cons (ppe_tup (ppa_cons (ppe_str) (ppa_cons (ppe_int) (ppa_cons (ppe_bl) (ppa_nil))))) (ppa_nil)))))))))
    (pps_cons (pps_set (i := 10) sc_law.nd rfl (by first | exact .inl rfl | exact .inr rfl) (ppe_op o_add rfl (ppe_var (i := 10)) (ppe_lst (ppa_cons (ppe_tup (ppa_cons (ppe_str) (ppa_cons (ppe_bl) (ppa_cons (ppe_bl) (ppa_nil))))) (ppa_cons (ppe_tup (ppa_cons (ppe_str) (ppa_cons (ppe_int) (ppa_cons (ppe_bl) (ppa_nil))))) (ppa_cons (ppe_tup (ppa_cons (ppe_str) (ppa_cons (ppe_non) (ppa_cons (ppe_bl) (ppa_nil))))) (ppa_nil)))))))
    (pps_cons (pps_set (i := 10) sc_law.nd rfl (by first | exact .inl rfl | exact .inr rfl) (ppe_op o_add rfl (ppe_var (i := 10)) (ppe_lst (ppa_cons (ppe_tup (ppa_cons (ppe_str) (ppa_cons (ppe_int) (ppa_cons (ppe_bl) (ppa_nil))))) (ppa_cons (ppe_tup (ppa_cons (ppe_str) (ppa_cons (ppe_str) (ppa_cons (ppe_bl) (ppa_nil))))) (ppa_cons (ppe_tup (ppa_cons (ppe_non) (ppa_cons (ppe_int) (ppa_cons (ppe_bl) (ppa_nil))))) (ppa_cons (ppe_tup (ppa_cons (ppe_str) (ppa_cons (ppe_int) (ppa_cons (ppe_bl) (ppa_nil))))) (ppa_nil))))))))
    (pps_cons (pps_for (passes_of rfl) rfl (ppi_list rfl (ppe_var (i := 10))) (ppg_tup rfl rfl (ppgs_cons sa_ok (ppg_name (i := 11) (fun _ _ => trivial) sc_law.nd rfl (by first | exact .inl rfl | exact .inr rfl)) (ppgs_cons sa_ok (ppg_name (i := 12) (fun _ _ => trivial) sc_law.nd rfl (by first | exact .inl rfl | exact .inr rfl)) (ppgs_cons sa_ok (ppg_name (i := 13) (fun _ _ => trivial) sc_law.nd rfl (by first | exact .inl rfl | exact .inr rfl)) (ppgs_nil sa_ok))))) (pps_one (pps_if (ppt_cmp (o_ne (u64 hr)) rfl (ppe_callB (c_repr hg0 (u102 hr)) rfl (by rfl) m.b_repr boot_repr (ppa_cons (ppe_fn h_is_filter rfl hr hg0 (by rfl) m.m_is_filter m.F_is_filter.kp m.B_is_filter (takes_of rfl rfl rfl rfl) (ppr_e (ppe_tup (ppa_cons (ppe_str) (ppa_cons (ppe_var (i := 5)) (ppa_cons (ppe_var (i := 11)) (ppa_cons (ppe_var (i := 12)) (ppa_nil)))))) (ppr_nil))) (ppa_nil))) (ppe_callB (c_repr hg0 (u102 hr)) rfl (by rfl) m.b_repr boot_repr (ppa_cons (ppe_var (i := 13)) (ppa_nil))) rfl) (pps_one (pps_ret (ppe_bl))) (pps_nil))))
    (pps_cons (pps_set (i := 14) sc_law.nd rfl (by first | exact .inl rfl | exact .inr rfl) (ppe_lst (ppa_cons (ppe_tup (ppa_cons (ppe_tup (ppa_nil)) (ppa_cons (ppe_bl) (ppa_nil)))) (ppa_cons (ppe_tup (ppa_cons (ppe_op o_tmul rfl (ppe_tup (ppa_cons (ppe_str) (ppa_nil))) (ppe_int)) (ppa_cons (ppe_bl) (ppa_nil)))) (ppa_cons (ppe_tup (ppa_cons (ppe_op o_tmul rfl (ppe_tup (ppa_cons (ppe_str) (ppa_nil))) (ppe_int)) (ppa_cons (ppe_bl) (ppa_nil)))) (ppa_cons (ppe_tup (ppa_cons (ppe_tup (ppa_cons (ppe_int) (ppa_nil))) (ppa_cons (ppe_bl) (ppa_nil)))) (ppa_cons (ppe_tup (ppa_cons (ppe_tup (ppa_cons (ppe_neg (ppe_int)) (ppa_nil))) (ppa_cons (ppe_bl) (ppa_nil)))) (ppa_cons (ppe_tup (ppa_cons (ppe_tup (ppa_cons (ppe_bl) (ppa_nil))) (ppa_cons (ppe_bl) (ppa_nil)))) (ppa_cons (ppe_tup (ppa_cons (ppe_tup (ppa_cons (ppe_str) (ppa_nil))) (ppa_cons (ppe_bl) (ppa_nil)))) (ppa_nil))))))))))
    (pps_cons (pps_set (i := 14) sc_law.nd rfl (by first | exact .inl rfl | exact .inr rfl) (ppe_op o_add rfl (ppe_var (i := 14)) (ppe_lst (ppa_cons (ppe_tup (ppa_cons (ppe_lst (ppa_cons (ppe_str) (ppa_nil))) (ppa_cons (ppe_bl) (ppa_nil)))) (ppa_cons (ppe_tup (ppa_cons (ppe_non) (ppa_cons (ppe_bl) (ppa_nil)))) (ppa_nil))))))
    (pps_cons (pps_for (passes_of rfl) rfl (ppi_list rfl (ppe_var (i := 14))) (ppg_tup rfl rfl (ppgs_cons sa_ok (ppg_name (i := 15) (fun _ _ => trivial) sc_law.nd rfl (by first | exact .inl rfl | exact .inr rfl)) (ppgs_cons sa_ok (ppg_name (i := 13) (fun _ _ => trivial) sc_law.nd rfl (by first | exact .inl rfl | exact .inr rfl)) (ppgs_nil sa_ok)))) (pps_one (pps_if (ppt_w (ppw_or (ppt_cmp (o_ne (u64 hr)) rfl (ppe_callB (c_repr hg0 (u102 hr)) rfl (by rfl) m.b_repr boot_repr (ppa_cons (ppe_fn h_is_filter rfl hr hg0 (by rfl) m.m_is_filter m.F_is_filter.kp m.B_is_filter (takes_of rfl rfl rfl rfl) (ppr_e (ppe_tup (ppa_cons (ppe_str) (ppa_cons (ppe_var (i := 15)) (ppa_cons (ppe_str) (ppa_cons (ppe_int) (ppa_nil)))))) (ppr_nil))) (ppa_nil))) (ppe_callB (c_repr hg0 (u102 hr)) rfl (by rfl) m.b_repr boot_repr (ppa_cons (ppe_var (i := 13)) (ppa_nil))) rfl) (ppw_or1 (ppt_cmp (o_ne (u64 hr)) rfl (ppe_callB (c_repr hg0 (u102 hr)) rfl (by rfl) m.b_repr boot_repr (ppa_cons (ppe_fn h_is_filter rfl hr hg0 (by rfl) m.m_is_filter m.F_is_filter.kp m.B_is_filter (takes_of rfl rfl rfl rfl) (ppr_e (ppe_tup (ppa_cons (ppe_str) (ppa_cons (ppe_var (i := 15)) (ppa_cons (ppe_var (i := 4)) (ppa_nil))))) (ppr_nil))) (ppa_nil))) (ppe_callB (c_repr hg0 (u102 hr)) rfl (by rfl) m.b_repr boot_repr (ppa_cons (ppe_var (i := 13)) (ppa_nil))) rfl)))) (pps_one (pps_ret (ppe_bl))) (pps_nil))))
    (pps_cons (pps_set (i := 9) sc_law.nd rfl (by first | exact .inl rfl | exact .inr rfl) (ppe_op o_add rfl (ppe_var (i := 9)) (ppe_lst (ppa_cons (ppe_tup (ppa_cons (ppe_lst (ppa_cons (ppe_str) (ppa_nil))) (ppa_cons (ppe_tup (ppa_nil)) (ppa_nil)))) (ppa_cons (ppe_tup (ppa_cons (ppe_lst (ppa_cons (ppe_str) (ppa_nil))) (ppa_nil))) (ppa_cons (ppe_tup (ppa_cons (ppe_str) (ppa_cons (ppe_tup (ppa_cons (ppe_str) (ppa_nil))) (ppa_cons (ppe_lst (ppa_cons (ppe_str) (ppa_nil))) (ppa_cons (ppe_int) (ppa_nil)))))) (ppa_cons (ppe_tup (ppa_cons (ppe_str) (ppa_cons (ppe_tup (ppa_cons (ppe_str) (ppa_nil))) (ppa_cons (ppe_str) (ppa_cons (ppe_lst (ppa_cons (ppe_str) (ppa_nil))) (ppa_nil)))))) (ppa_nil))))))))
    (pps_cons (pps_set (i := 9) sc_law.nd rfl (by first | exact .inl rfl | exact .inr rfl) (ppe_op o_add rfl (ppe_var (i := 9)) (ppe_lst (ppa_cons (ppe_tup (ppa_cons (ppe_str) (ppa_cons (ppe_tup (ppa_cons (ppe_str) (ppa_nil))) (ppa_cons (ppe_tup (ppa_cons (ppe_str) (ppa_nil))) (ppa_cons (ppe_int) (ppa_nil)))))) (ppa_cons (ppe_tup (ppa_cons (ppe_tup (ppa_nil)) (ppa_cons (ppe_tup (ppa_nil)) (ppa_nil)))) (ppa_nil))))))
    (pps_cons (pps_set (i := 9) sc_law.nd rfl (by first | exact .inl rfl | exact .inr rfl) (ppe_op o_add rfl (ppe_var (i := 9)) (ppe_lst (ppa_cons (ppe_tup (ppa_cons (ppe_str) (ppa_nil))) (ppa_cons (ppe_tup (ppa_cons (ppe_str) (ppa_cons (ppe_tup (ppa_cons (ppe_str) (ppa_nil))) (ppa_nil)))) (ppa_cons (ppe_tup (ppa_cons (ppe_str) (ppa_cons (ppe_tup (ppa_cons (ppe_str) (ppa_nil))) (ppa_cons (ppe_str) (ppa_nil))))) (ppa_cons (ppe_tup (ppa_cons (ppe_str) (ppa_nil))) (ppa_cons (ppe_tup (ppa_cons (ppe_str) (ppa_nil))) (ppa_cons (ppe_tup (ppa_cons (ppe_str) (ppa_nil))) (ppa_cons (ppe_tup (ppa_cons (ppe_str) (ppa_nil))) (ppa_cons (ppe_tup (ppa_cons (ppe_str) (ppa_cons (ppe_tup (ppa_cons (ppe_str) (ppa_nil))) (ppa_nil)))) (ppa_cons (ppe_tup (ppa_cons (ppe_str) (ppa_cons (ppe_lst (ppa_cons (ppe_var (i := 4)) (ppa_nil))) (ppa_nil)))) (ppa_nil)))))))))))))
    (pps_cons (pps_set (i := 9) sc_law.nd rfl (by first | exact .inl rfl | exact .inr rfl) (ppe_op o_add rfl (ppe_var (i := 9)) (ppe_lst (ppa_cons (ppe_tup (ppa_cons (ppe_str) (ppa_cons (ppe_tup (ppa_nil)) (ppa_cons (ppe_tup (ppa_nil)) (ppa_nil))))) (ppa_cons (ppe_tup (ppa_cons (ppe_str) (ppa_cons (ppe_tup (ppa_cons (ppe_str) (ppa_nil))) (ppa_cons (ppe_str) (ppa_cons (ppe_int) (ppa_cons (ppe_int) (ppa_nil))))))) (ppa_nil))))))
    (pps_cons (pps_set (i := 16) sc_law.nd rfl (by first | exact .inl rfl | exact .inr rfl) (ppe_tup (ppa_cons (ppe_str) (ppa_cons (ppe_tup (ppa_cons (ppe_str) (ppa_nil))) (ppa_cons (ppe_str) (ppa_cons (ppe_int) (ppa_nil)))))))
    (pps_cons (pps_set (i := 17) sc_law.nd rfl (by first | exact .inl rfl | exact .inr rfl) (ppe_tup (ppa_cons (ppe_str) (ppa_cons (ppe_tup (ppa_cons (ppe_str) (ppa_nil))) (ppa_cons (ppe_tup (ppa_cons (ppe_str) (ppa_cons (ppe_tup (ppa_cons (ppe_var (i := 4)) (ppa_cons (ppe_tup (ppa_cons (ppe_str) (ppa_cons (ppe_tup (ppa_cons (ppe_tup (ppa_cons (ppe_str) (ppa_cons (ppe_tup (ppa_cons (ppe_str) (ppa_nil))) (ppa_cons (ppe_var (i := 16)) (ppa_nil))))) (ppa_cons (ppe_var (i := 4)) (ppa_nil)))) (ppa_nil)))) (ppa_nil)))) (ppa_nil)))) (ppa_nil))))))
    (pps_cons (pps_par (i := 8) (j := 9) rfl sc_law.nd rfl rfl (by decide) rfl rfl (ppe_op o_add rfl (ppe_var (i := 8)) (ppe_lst (ppa_cons (ppe_var (i := 17)) (ppa_cons (ppe_tup (ppa_cons (ppe_str) (ppa_cons (ppe_tup (ppa_cons (ppe_var (i := 4)) (ppa_cons (ppe_tup (ppa_cons (ppe_str) (ppa_cons (ppe_tup (ppa_cons (ppe_tup (ppa_cons (ppe_str) (ppa_cons (ppe_tup (ppa_cons (ppe_tup (ppa_cons (ppe_str) (ppa_cons (ppe_var (i := 16)) (ppa_nil)))) (ppa_nil))) (ppa_nil)))) (ppa_nil))) (ppa_nil)))) (ppa_nil)))) (ppa_nil)))) (ppa_nil))))) (ppe_op o_add rfl (ppe_var (i := 9)) (ppe_lst (ppa_cons (ppe_tup (ppa_cons (ppe_str) (ppa_cons (ppe_tup (ppa_cons (ppe_var (i := 4)) (ppa_cons (ppe_var (i := 17)) (ppa_nil)))) (ppa_nil)))) (ppa_cons (ppe_tup (ppa_cons (ppe_str) (ppa_cons (ppe_tup (ppa_cons (ppe_var (i := 17)) (ppa_nil))) (ppa_nil)))) (ppa_cons (ppe_tup (ppa_cons (ppe_str) (ppa_cons (ppe_tup (ppa_nil)) (ppa_cons (ppe_var (i := 17)) (ppa_nil))))) (ppa_nil)))))) (by rfl))
    (pps_cons (pps_set (i := 18) sc_law.nd rfl (by first | exact .inl rfl | exact .inr rfl) (ppe_op o_tmul rfl (ppe_tup (ppa_cons (ppe_tup (ppa_cons (ppe_str) (ppa_cons (ppe_op o_tmul rfl (ppe_tup (ppa_cons (ppe_var (i := 16)) (ppa_nil))) (ppe_int)) (ppa_nil)))) (ppa_nil))) (ppe_int)))
    (pps_cons (pps_set (i := 8) sc_law.nd rfl (by first | exact .inl rfl | exact .inr rfl) (ppe_op o_add rfl (ppe_var (i := 8)) (ppe_lst (ppa_cons (ppe_tup (ppa_cons (ppe_str) (ppa_cons (ppe_op o_add rfl (ppe_var (i := 18)) (ppe_tup (ppa_cons (ppe_tup (ppa_cons (ppe_str) (ppa_cons (ppe_tup (ppa_cons (ppe_str) (ppa_nil))) (ppa_cons (ppe_var (i := 16)) (ppa_nil))))) (ppa_cons (ppe_var (i := 16)) (ppa_nil))))) (ppa_nil)))) (ppa_nil)))))
    (pps_cons (pps_set (i := 9) sc_law.nd rfl (by first | exact .inl rfl | exact .inr rfl) (ppe_op o_add rfl (ppe_var (i := 9)) (ppe_lst (ppa_cons (ppe_tup (ppa_cons (ppe_str) (ppa_cons (ppe_op o_add rfl (ppe_var (i := 18)) (ppe_tup (ppa_cons (ppe_tup (ppa_cons (ppe_str) (ppa_cons (ppe_tup (ppa_cons (ppe_str) (ppa_nil))) (ppa_cons (ppe_var (i := 16)) (ppa_nil))))) (ppa_cons (ppe_var (i := 16)) (ppa_cons (ppe_var (i := 16)) (ppa_nil)))))) (ppa_nil)))) (ppa_cons (ppe_tup (ppa_cons (ppe_str) (ppa_cons (ppe_op o_add rfl (ppe_var (i := 18)) (ppe_tup (ppa_cons (ppe_tup (ppa_cons (ppe_str) (ppa_cons (ppe_tup (ppa_cons (ppe_str) (ppa_nil))) (ppa_cons (ppe_tup (ppa_cons (ppe_str) (ppa_cons (ppe_tup (ppa_nil)) (ppa_cons (ppe_var (i := 16)) (ppa_nil))))) (ppa_nil))))) (ppa_cons (ppe_var (i := 16)) (ppa_nil))))) (ppa_nil)))) (ppa_nil))))))
    (pps_cons (pps_set (i := 9) sc_law.nd rfl (by first | exact .inl rfl | exact .inr rfl) (ppe_op o_add rfl (ppe_var (i := 9)) (ppe_lst (ppa_cons (ppe_tup (ppa_cons (ppe_str) (ppa_cons (ppe_op o_tmul rfl (ppe_tup (ppa_cons (ppe_tup (ppa_cons (ppe_str) (ppa_cons (ppe_op o_tmul rfl (ppe_tup (ppa_cons (ppe_var (i := 16)) (ppa_nil))) (ppe_int)) (ppa_nil)))) (ppa_nil))) (ppe_int)) (ppa_nil)))) (ppa_nil)))))
    (pps_one (pps_ret (ppe_and (ppe_cmp (o_eq (u64 hr)) rfl (ppe_ofF (lcf rfl sc_law.nd (ppi_list rfl (ppe_var (i := 8))) (blkOk_by (N := ["script", "cup", "turn", "asked", "leaf", "path", "four", "forty", "goods", "odds", "tests", "word", "told", "due", "paths", "way", "test", "deep", "wide", "one"]) (sc := defScope s_law) (own := [("one", 19)]) (by decide +kernel)) rfl (fun _ _ _ _ _ => ppg_name (i := 19) (fun _ _ => wipe_set (by decide)) sc_law.nd rfl (by first | exact .inl rfl | exact .inr rfl)) (fun _ _ _ _ _ => ppts_one (ppt_cmp o_isnot rfl (ppe_fn h_is_filter rfl hr hg0 (by rfl) m.m_is_filter m.F_is_filter.kp m.B_is_filter takes0 (ppr_e (ppe_var (i := 19)) (ppr_nil))) (ppe_bl) rfl)) (fun _ _ _ _ _ => ppe_var (i := 19)))) (ppe_lst (ppa_nil)) rfl) (ppe_one (ppe_cmp (o_eq (u64 hr)) rfl (ppe_ofF (lcf rfl sc_law.nd (ppi_list rfl (ppe_var (i := 9))) (blkOk_by (N := ["script", "cup", "turn", "asked", "leaf", "path", "four", "forty", "goods", "odds", "tests", "word", "told", "due", "paths", "way", "test", "deep", "wide", "one"]) (sc := defScope s_law) (own := [("one", 19)]) (by decide +kernel)) rfl (fun _ _ _ _ _ => ppg_name (i := 19) (fun _ _ => wipe_set (by decide)) sc_law.nd rfl (by first | exact .inl rfl | exact .inr rfl)) (fun _ _ _ _ _ => ppts_one (ppt_cmp o_isnot rfl (ppe_fn h_is_filter rfl hr hg0 (by rfl) m.m_is_filter m.F_is_filter.kp m.B_is_filter takes0 (ppr_e (ppe_var (i := 19)) (ppr_nil))) (ppe_bl) rfl)) (fun _ _ _ _ _ => ppe_var (i := 19)))) (ppe_lst (ppa_nil)) rfl))))))))))))))))))))))))))))))))))))))
theorem f_is_whole (m : M K mg) {k : Nat} {ct : WE} (vc : ∀ (τ0 : Ta) (Xp : XP) (Q : D → Ta → Prop), τ0.length = 3 → okPar τ0 → ct τ0 Xp Q → b_is_whole (endE τ0 Q) (endX τ0 Xp) (τ0 ++ List.replicate 0 .un)) :
    FnG P w K mg base (k + 1) m.a_is_whole m.fd_is_whole ["value", "low", "high"] (spOf K cl 3 ct) :=
  gn_def m.F_is_whole sc_is_whole (fun cdv A outer s H E hr hg0 => d_is_whole m cdv A outer s H E hr hg0) vc
theorem f_is_tuple_of (m : M K mg) {k : Nat} {ct : WE} (vc : ∀ (τ0 : Ta) (Xp : XP) (Q : D → Ta → Prop), τ0.length = 3 → okPar τ0 → ct τ0 Xp Q → b_is_tuple_of (endE τ0 Q) (endX τ0 Xp) (τ0 ++ List.replicate 0 .un)) :
    FnG P w K mg base (k + 1) m.a_is_tuple_of m.fd_is_tuple_of ["value", "low", "high"] (spOf K cl 3 ct) :=
  gn_def m.F_is_tuple_of sc_is_tuple_of (fun cdv A outer s H E hr hg0 => d_is_tuple_of m cdv A outer s H E hr hg0) vc
theorem f_is_name (m : M K mg) {k : Nat} {ct : WE} (vc : ∀ (τ0 : Ta) (Xp : XP) (Q : D → Ta → Prop), τ0.length = 1 → okPar τ0 → ct τ0 Xp Q → b_is_name (endE τ0 Q) (endX τ0 Xp) (τ0 ++ List.replicate 1 .un)) :
    FnG P w K mg base (k + 1) m.a_is_name m.fd_is_name ["value"] (spOf K cl 1 ct) :=
  gn_def m.F_is_name sc_is_name (fun cdv A outer s H E hr hg0 => d_is_name m cdv A outer s H E hr hg0) vc
theorem f_is_text_sign (m : M K mg) {k : Nat} {ct : WE} (vc : ∀ (τ0 : Ta) (Xp : XP) (Q : D → Ta → Prop), τ0.length = 1 → okPar τ0 → ct τ0 Xp Q → b_is_text_sign (endE τ0 Q) (endX τ0 Xp) (τ0 ++ List.replicate 0 .un)) :
    FnG P w K mg base (k + 1) m.a_is_text_sign m.fd_is_text_sign ["sign"] (spOf K cl 1 ct) :=
  gn_def m.F_is_text_sign sc_is_text_sign (fun cdv A outer s H E hr hg0 => d_is_text_sign m cdv A outer s H E hr hg0) vc
theorem f_fits_plain (m : M K mg) {k : Nat} {ct_is_text_sign : WE} {ct_is_whole : WE} (h_is_text_sign : FnG P w K mg base k m.a_is_text_sign m.fd_is_text_sign ["sign"] (spOf K cl 1 ct_is_text_sign)) (h_is_whole : FnG P w K mg base k m.a_is_whole m.fd_is_whole ["value", "low", "high"] (spOf K cl 3 ct_is_whole)) {ct : WE} (vc : ∀ (τ0 : Ta) (Xp : XP) (Q : D → Ta → Prop), τ0.length = 1 → okPar τ0 → ct τ0 Xp Q → b_fits_plain ct_is_text_sign ct_is_whole (endE τ0 Q) (endX τ0 Xp) (τ0 ++ List.replicate 1 .un)) :
    FnG P w K mg base (k + 1) m.a_fits_plain m.fd_fits_plain ["value"] (spOf K cl 1 ct) :=
  gn_def m.F_fits_plain sc_fits_plain (fun cdv A outer s H E hr hg0 => d_fits_plain m h_is_text_sign h_is_whole cdv A outer s H E hr hg0) vc
theorem f_is_knot (m : M K mg) {k : Nat} {ct_is_tuple_of : WE} (h_is_tuple_of : FnG P w K mg base k m.a_is_tuple_of m.fd_is_tuple_of ["value", "low", "high"] (spOf K cl 3 ct_is_tuple_of)) {ct : WE} (vc : ∀ (τ0 : Ta) (Xp : XP) (Q : D → Ta → Prop), τ0.length = 1 → okPar τ0 → ct τ0 Xp Q → b_is_knot ct_is_tuple_of (endE τ0 Q) (endX τ0 Xp) (τ0 ++ List.replicate 0 .un)) :
    FnG P w K mg base (k + 1) m.a_is_knot m.fd_is_knot ["value"] (spOf K cl 1 ct) :=
  gn_def m.F_is_knot sc_is_knot (fun cdv A outer s H E hr hg0 => d_is_knot m h_is_tuple_of cdv A outer s H E hr hg0) vc
theorem f_fits_fields (m : M K mg) {k : Nat} {ct_is_name : WE} {ct_is_tuple_of : WE} (h_is_name : FnG P w K mg base k m.a_is_name m.fd_is_name ["value"] (spOf K cl 1 ct_is_name)) (h_is_tuple_of : FnG P w K mg base k m.a_is_tuple_of m.fd_is_tuple_of ["value", "low", "high"] (spOf K cl 3 ct_is_tuple_of)) {ct : WE} (vc : ∀ (τ0 : Ta) (Xp : XP) (Q : D → Ta → Prop), τ0.length = 1 → okPar τ0 → ct τ0 Xp Q → b_fits_fields ct_is_name ct_is_tuple_of (endE τ0 Q) (endX τ0 Xp) (τ0 ++ List.replicate 2 .un)) :
    FnG P w K mg base (k + 1) m.a_fits_fields m.fd_fits_fields ["fields"] (spOf K cl 1 ct) :=
  gn_def m.F_fits_fields sc_fits_fields (fun cdv A outer s H E hr hg0 => d_fits_fields m h_is_name h_is_tuple_of cdv A outer s H E hr hg0) vc
theorem f_inner_of (m : M K mg) {k : Nat} {ct : WE} (vc : ∀ (τ0 : Ta) (Xp : XP) (Q : D → Ta → Prop), τ0.length = 1 → okPar τ0 → ct τ0 Xp Q → b_inner_of (endE τ0 Q) (endX τ0 Xp) (τ0 ++ List.replicate 1 .un)) :
    FnG P w K mg base (k + 1) m.a_inner_of m.fd_inner_of ["value"] (spOf K cl 1 ct) :=
  gn_def m.F_inner_of sc_inner_of (fun cdv A outer s H E hr hg0 => d_inner_of m cdv A outer s H E hr hg0) vc
theorem f_fits_value (m : M K mg) {k : Nat} {ct_fits_fields : WE} {ct_fits_plain : WE} {ct_inner_of : WE} {ct_is_knot : WE} (h_fits_fields : FnG P w K mg base k m.a_fits_fields m.fd_fits_fields ["fields"] (spOf K cl 1 ct_fits_fields)) (h_fits_plain : FnG P w K mg base k m.a_fits_plain m.fd_fits_plain ["value"] (spOf K cl 1 ct_fits_plain)) (h_inner_of : FnG P w K mg base k m.a_inner_of m.fd_inner_of ["value"] (spOf K cl 1 ct_inner_of)) (h_is_knot : FnG P w K mg base k m.a_is_knot m.fd_is_knot ["value"] (spOf K cl 1 ct_is_knot)) {ct : WE} (vc : ∀ (τ0 : Ta) (Xp : XP) (Q : D → Ta → Prop), τ0.length = 1 → okPar τ0 → ct τ0 Xp Q → b_fits_value ct_fits_fields ct_fits_plain ct_inner_of ct_is_knot (endE τ0 Q) (endX τ0 Xp) (τ0 ++ List.replicate 4 .un)) :
    FnG P w K mg base (k + 1) m.a_fits_value m.fd_fits_value ["value"] (spOf K cl 1 ct) :=
  gn_def m.F_fits_value sc_fits_value (fun cdv A outer s H E hr hg0 => d_fits_value m h_fits_fields h_fits_plain h_inner_of h_is_knot cdv A outer s H E hr hg0) vc
theorem f_is_list (m : M K mg) {k : Nat} {ct : WE} (vc : ∀ (τ0 : Ta) (Xp : XP) (Q : D → Ta → Prop), τ0.length = 1 → okPar τ0 → ct τ0 Xp Q → b_is_list (endE τ0 Q) (endX τ0 Xp) (τ0 ++ List.replicate 0 .un)) :
    FnG P w K mg base (k + 1) m.a_is_list m.fd_is_list ["value"] (spOf K cl 1 ct) :=
  gn_def m.F_is_list sc_is_list (fun cdv A outer s H E hr hg0 => d_is_list m cdv A outer s H E hr hg0) vc
theorem f_fits_path (m : M K mg) {k : Nat} {ct_is_name : WE} {ct_is_tuple_of : WE} {ct_is_whole : WE} (h_is_name : FnG P w K mg base k m.a_is_name m.fd_is_name ["value"] (spOf K cl 1 ct_is_name)) (h_is_tuple_of : FnG P w K mg base k m.a_is_tuple_of m.fd_is_tuple_of ["value", "low", "high"] (spOf K cl 3 ct_is_tuple_of)) (h_is_whole : FnG P w K mg base k m.a_is_whole m.fd_is_whole ["value", "low", "high"] (spOf K cl 3 ct_is_whole)) {ct : WE} (vc : ∀ (τ0 : Ta) (Xp : XP) (Q : D → Ta → Prop), τ0.length = 1 → okPar τ0 → ct τ0 Xp Q → b_fits_path ct_is_name ct_is_tuple_of ct_is_whole (endE τ0 Q) (endX τ0 Xp) (τ0 ++ List.replicate 1 .un)) :
    FnG P w K mg base (k + 1) m.a_fits_path m.fd_fits_path ["value"] (spOf K cl 1 ct) :=
  gn_def m.F_fits_path sc_fits_path (fun cdv A outer s H E hr hg0 => d_fits_path m h_is_name h_is_tuple_of h_is_whole cdv A outer s H E hr hg0) vc
theorem f_fits_told (m : M K mg) {k : Nat} {ct_fits_value : WE} {ct_is_list : WE} {ct_is_whole : WE} (h_fits_value : FnG P w K mg base k m.a_fits_value m.fd_fits_value ["value"] (spOf K cl 1 ct_fits_value)) (h_is_list : FnG P w K mg base k m.a_is_list m.fd_is_list ["value"] (spOf K cl 1 ct_is_list)) (h_is_whole : FnG P w K mg base k m.a_is_whole m.fd_is_whole ["value", "low", "high"] (spOf K cl 3 ct_is_whole)) {ct : WE} (vc : ∀ (τ0 : Ta) (Xp : XP) (Q : D → Ta → Prop), τ0.length = 2 → okPar τ0 → ct τ0 Xp Q → b_fits_told ct_fits_value ct_is_list ct_is_whole (endE τ0 Q) (endX τ0 Xp) (τ0 ++ List.replicate 0 .un)) :
    FnG P w K mg base (k + 1) m.a_fits_told m.fd_fits_told ["word", "value"] (spOf K cl 2 ct) :=
  gn_def m.F_fits_told sc_fits_told (fun cdv A outer s H E hr hg0 => d_fits_told m h_fits_value h_is_list h_is_whole cdv A outer s H E hr hg0) vc
theorem f_fits_test (m : M K mg) {k : Nat} {ct_fits_path : WE} {ct_fits_told : WE} (h_fits_path : FnG P w K mg base k m.a_fits_path m.fd_fits_path ["value"] (spOf K cl 1 ct_fits_path)) (h_fits_told : FnG P w K mg base k m.a_fits_told m.fd_fits_told ["word", "value"] (spOf K cl 2 ct_fits_told)) {ct : WE} (vc : ∀ (τ0 : Ta) (Xp : XP) (Q : D → Ta → Prop), τ0.length = 1 → okPar τ0 → ct τ0 Xp Q → b_fits_test ct_fits_path ct_fits_told (endE τ0 Q) (endX τ0 Xp) (τ0 ++ List.replicate 0 .un)) :
    FnG P w K mg base (k + 1) m.a_fits_test m.fd_fits_test ["value"] (spOf K cl 1 ct) :=
  gn_def m.F_fits_test sc_fits_test (fun cdv A outer s H E hr hg0 => d_fits_test m h_fits_path h_fits_told cdv A outer s H E hr hg0) vc
theorem f_inner_filters (m : M K mg) {k : Nat} {ct_fits_path : WE} {ct_fits_test : WE} {ct_is_tuple_of : WE} (h_fits_path : FnG P w K mg base k m.a_fits_path m.fd_fits_path ["value"] (spOf K cl 1 ct_fits_path)) (h_fits_test : FnG P w K mg base k m.a_fits_test m.fd_fits_test ["value"] (spOf K cl 1 ct_fits_test)) (h_is_tuple_of : FnG P w K mg base k m.a_is_tuple_of m.fd_is_tuple_of ["value", "low", "high"] (spOf K cl 3 ct_is_tuple_of)) {ct : WE} (vc : ∀ (τ0 : Ta) (Xp : XP) (Q : D → Ta → Prop), τ0.length = 1 → okPar τ0 → ct τ0 Xp Q → b_inner_filters ct_fits_path ct_fits_test ct_is_tuple_of (endE τ0 Q) (endX τ0 Xp) (τ0 ++ List.replicate 2 .un)) :
    FnG P w K mg base (k + 1) m.a_inner_filters m.fd_inner_filters ["value"] (spOf K cl 1 ct) :=
  gn_def m.F_inner_filters sc_inner_filters (fun cdv A outer s H E hr hg0 => d_inner_filters m h_fits_path h_fits_test h_is_tuple_of cdv A outer s H E hr hg0) vc
theorem f_fits_filter (m : M K mg) {k : Nat} {ct_inner_filters : WE} {ct_is_tuple_of : WE} (h_inner_filters : FnG P w K mg base k m.a_inner_filters m.fd_inner_filters ["value"] (spOf K cl 1 ct_inner_filters)) (h_is_tuple_of : FnG P w K mg base k m.a_is_tuple_of m.fd_is_tuple_of ["value", "low", "high"] (spOf K cl 3 ct_is_tuple_of)) {ct : WE} (vc : ∀ (τ0 : Ta) (Xp : XP) (Q : D → Ta → Prop), τ0.length = 1 → okPar τ0 → ct τ0 Xp Q → b_fits_filter ct_inner_filters ct_is_tuple_of (endE τ0 Q) (endX τ0 Xp) (τ0 ++ List.replicate 6 .un)) :
    FnG P w K mg base (k + 1) m.a_fits_filter m.fd_fits_filter ["value"] (spOf K cl 1 ct) :=
  gn_def m.F_fits_filter sc_fits_filter (fun cdv A outer s H E hr hg0 => d_fits_filter m h_inner_filters h_is_tuple_of cdv A outer s H E hr hg0) vc
theorem f_is_filter (m : M K mg) {k : Nat} {ct_fits_filter : WE} (h_fits_filter : FnG P w K mg base k m.a_fits_filter m.fd_fits_filter ["value"] (spOf K cl 1 ct_fits_filter)) {ct : WE} (vc : ∀ (τ0 : Ta) (Xp : XP) (Q : D → Ta → Prop), τ0.length = 1 → okPar τ0 → ct τ0 Xp Q → b_is_filter ct_fits_filter (endE τ0 Q) (endX τ0 Xp) (τ0 ++ List.replicate 0 .un)) :
    FnG P w K mg base (k + 1) m.a_is_filter m.fd_is_filter ["value"] (spOf K cl 1 ct) :=
  gn_def m.F_is_filter sc_is_filter (fun cdv A outer s H E hr hg0 => d_is_filter m h_fits_filter cdv A outer s H E hr hg0) vc
theorem f__law_cup (m : M K mg) {k : Nat} {ct : WA} (vc : ∀ (τ0 : Ta) (Xp : XP) (Q : List D → Ta → Prop), τ0.length = 1 → okPar τ0 → ct τ0 Xp Q → b__law_cup (endF τ0 Q) (endX τ0 Xp) (τ0 ++ List.replicate 1 .un)) :
    FnG P w K mg base (k + 1) m.a__law_cup m.fd__law_cup ["script"] (spOfF K cl 1 ct) :=
  gn_defF m.F__law_cup sc__law_cup (fun cdv A outer s H E hr hg0 => d__law_cup m cdv A outer s H E hr hg0) vc
theorem f__law_roll (m : M K mg) {k : Nat} {ct : WE} (vc : ∀ (τ0 : Ta) (Xp : XP) (Q : D → Ta → Prop), τ0.length = 2 → okPar τ0 → ct τ0 Xp Q → b__law_roll (endE τ0 Q) (endX τ0 Xp) (τ0 ++ List.replicate 2 .un)) :
    FnG P w K mg base (k + 1) m.a__law_roll m.fd__law_roll ["cup", "many"] (spOf K cl 2 ct) :=
  gn_def m.F__law_roll sc__law_roll (fun cdv A outer s H E hr hg0 => d__law_roll m cdv A outer s H E hr hg0) vc
theorem f__law_some (m : M K mg) {k : Nat} {ct__law_roll : WE} (h__law_roll : FnG P w K mg base k m.a__law_roll m.fd__law_roll ["cup", "many"] (spOf K cl 2 ct__law_roll)) {ct : WE} (vc : ∀ (τ0 : Ta) (Xp : XP) (Q : D → Ta → Prop), τ0.length = 2 → okPar τ0 → ct τ0 Xp Q → b__law_some ct__law_roll (endE τ0 Q) (endX τ0 Xp) (τ0 ++ List.replicate 0 .un)) :
    FnG P w K mg base (k + 1) m.a__law_some m.fd__law_some ["cup", "things"] (spOf K cl 2 ct) :=
  gn_def m.F__law_some sc__law_some (fun cdv A outer s H E hr hg0 => d__law_some m h__law_roll cdv A outer s H E hr hg0) vc
theorem f__law_value (m : M K mg) {k : Nat} {ct__law_drawn_fields : WE} {ct__law_roll : WE} {ct__law_some : WE} {ct__law_value : WE} (h__law_drawn_fields : FnG P w K mg base k m.a__law_drawn_fields m.fd__law_drawn_fields ["cup", "deep", "many"] (spOf K cl 3 ct__law_drawn_fields)) (h__law_roll : FnG P w K mg base k m.a__law_roll m.fd__law_roll ["cup", "many"] (spOf K cl 2 ct__law_roll)) (h__law_some : FnG P w K mg base k m.a__law_some m.fd__law_some ["cup", "things"] (spOf K cl 2 ct__law_some)) (h__law_value : FnG P w K mg base k m.a__law_value m.fd__law_value ["cup", "deep"] (spOf K cl 2 ct__law_value)) {ct : WE} (vc : ∀ (τ0 : Ta) (Xp : XP) (Q : D → Ta → Prop), τ0.length = 2 → okPar τ0 → ct τ0 Xp Q → b__law_value ct__law_drawn_fields ct__law_roll ct__law_some ct__law_value (endE τ0 Q) (endX τ0 Xp) (τ0 ++ List.replicate 2 .un)) :
    FnG P w K mg base (k + 1) m.a__law_value m.fd__law_value ["cup", "deep"] (spOf K cl 2 ct) :=
  gn_def m.F__law_value sc__law_value (fun cdv A outer s H E hr hg0 => d__law_value m h__law_drawn_fields h__law_roll h__law_some h__law_value cdv A outer s H E hr hg0) vc
theorem f__law_drawn_fields (m : M K mg) {k : Nat} {ct__law_some : WE} {ct__law_value : WE} (h__law_some : FnG P w K mg base k m.a__law_some m.fd__law_some ["cup", "things"] (spOf K cl 2 ct__law_some)) (h__law_value : FnG P w K mg base k m.a__law_value m.fd__law_value ["cup", "deep"] (spOf K cl 2 ct__law_value)) {ct : WE} (vc : ∀ (τ0 : Ta) (Xp : XP) (Q : D → Ta → Prop), τ0.length = 3 → okPar τ0 → ct τ0 Xp Q → b__law_drawn_fields ct__law_some ct__law_value (endE τ0 Q) (endX τ0 Xp) (τ0 ++ List.replicate 5 .un)) :
    FnG P w K mg base (k + 1) m.a__law_drawn_fields m.fd__law_drawn_fields ["cup", "deep", "many"] (spOf K cl 3 ct) :=
  gn_def m.F__law_drawn_fields sc__law_drawn_fields (fun cdv A outer s H E hr hg0 => d__law_drawn_fields m h__law_some h__law_value cdv A outer s H E hr hg0) vc
theorem f__law_path (m : M K mg) {k : Nat} {ct__law_some : WE} (h__law_some : FnG P w K mg base k m.a__law_some m.fd__law_some ["cup", "things"] (spOf K cl 2 ct__law_some)) {ct : WE} (vc : ∀ (τ0 : Ta) (Xp : XP) (Q : D → Ta → Prop), τ0.length = 1 → okPar τ0 → ct τ0 Xp Q → b__law_path ct__law_some (endE τ0 Q) (endX τ0 Xp) (τ0 ++ List.replicate 1 .un)) :
    FnG P w K mg base (k + 1) m.a__law_path m.fd__law_path ["cup"] (spOf K cl 1 ct) :=
  gn_def m.F__law_path sc__law_path (fun cdv A outer s H E hr hg0 => d__law_path m h__law_some cdv A outer s H E hr hg0) vc
theorem f__law_told (m : M K mg) {k : Nat} {ct__law_roll : WE} {ct__law_some : WE} {ct__law_value : WE} (h__law_roll : FnG P w K mg base k m.a__law_roll m.fd__law_roll ["cup", "many"] (spOf K cl 2 ct__law_roll)) (h__law_some : FnG P w K mg base k m.a__law_some m.fd__law_some ["cup", "things"] (spOf K cl 2 ct__law_some)) (h__law_value : FnG P w K mg base k m.a__law_value m.fd__law_value ["cup", "deep"] (spOf K cl 2 ct__law_value)) {ct : WE} (vc : ∀ (τ0 : Ta) (Xp : XP) (Q : D → Ta → Prop), τ0.length = 2 → okPar τ0 → ct τ0 Xp Q → b__law_told ct__law_roll ct__law_some ct__law_value (endE τ0 Q) (endX τ0 Xp) (τ0 ++ List.replicate 1 .un)) :
    FnG P w K mg base (k + 1) m.a__law_told m.fd__law_told ["cup", "word"] (spOf K cl 2 ct) :=
  gn_def m.F__law_told sc__law_told (fun cdv A outer s H E hr hg0 => d__law_told m h__law_roll h__law_some h__law_value cdv A outer s H E hr hg0) vc
theorem f__law_words (m : M K mg) {k : Nat} {ct : WE} (vc : ∀ (τ0 : Ta) (Xp : XP) (Q : D → Ta → Prop), τ0.length = 0 → okPar τ0 → ct τ0 Xp Q → b__law_words (endE τ0 Q) (endX τ0 Xp) (τ0 ++ List.replicate 0 .un)) :
    FnG P w K mg base (k + 1) m.a__law_words m.fd__law_words [] (spOf K cl 0 ct) :=
  gn_def m.F__law_words sc__law_words (fun cdv A outer s H E hr hg0 => d__law_words m cdv A outer s H E hr hg0) vc
theorem f__law_filter (m : M K mg) {k : Nat} {ct__law_filter : WE} {ct__law_path : WE} {ct__law_roll : WE} {ct__law_some : WE} {ct__law_told : WE} {ct__law_words : WE} (h__law_filter : FnG P w K mg base k m.a__law_filter m.fd__law_filter ["cup", "deep"] (spOf K cl 2 ct__law_filter)) (h__law_path : FnG P w K mg base k m.a__law_path m.fd__law_path ["cup"] (spOf K cl 1 ct__law_path)) (h__law_roll : FnG P w K mg base k m.a__law_roll m.fd__law_roll ["cup", "many"] (spOf K cl 2 ct__law_roll)) (h__law_some : FnG P w K mg base k m.a__law_some m.fd__law_some ["cup", "things"] (spOf K cl 2 ct__law_some)) (h__law_told : FnG P w K mg base k m.a__law_told m.fd__law_told ["cup", "word"] (spOf K cl 2 ct__law_told)) (h__law_words : FnG P w K mg base k m.a__law_words m.fd__law_words [] (spOf K cl 0 ct__law_words)) {ct : WE} (vc : ∀ (τ0 : Ta) (Xp : XP) (Q : D → Ta → Prop), τ0.length = 2 → okPar τ0 → ct τ0 Xp Q → b__law_filter ct__law_filter ct__law_path ct__law_roll ct__law_some ct__law_told ct__law_words (endE τ0 Q) (endX τ0 Xp) (τ0 ++ List.replicate 3 .un)) :
    FnG P w K mg base (k + 1) m.a__law_filter m.fd__law_filter ["cup", "deep"] (spOf K cl 2 ct) :=
  gn_def m.F__law_filter sc__law_filter (fun cdv A outer s H E hr hg0 => d__law_filter m h__law_filter h__law_path h__law_roll h__law_some h__law_told h__law_words cdv A outer s H E hr hg0) vc
theorem f__law_near (m : M K mg) {k : Nat} {ct__law_some : WE} (h__law_some : FnG P w K mg base k m.a__law_some m.fd__law_some ["cup", "things"] (spOf K cl 2 ct__law_some)) {ct : WE} (vc : ∀ (τ0 : Ta) (Xp : XP) (Q : D → Ta → Prop), τ0.length = 2 → okPar τ0 → ct τ0 Xp Q → b__law_near ct__law_some (endE τ0 Q) (endX τ0 Xp) (τ0 ++ List.replicate 1 .un)) :
    FnG P w K mg base (k + 1) m.a__law_near m.fd__law_near ["cup", "asked"] (spOf K cl 2 ct) :=
  gn_def m.F__law_near sc__law_near (fun cdv A outer s H E hr hg0 => d__law_near m h__law_some cdv A outer s H E hr hg0) vc
theorem f_law (m : M K mg) {k : Nat} {ct__law_cup : WA} {ct__law_filter : WE} {ct__law_near : WE} {ct_is_filter : WE} (h__law_cup : FnG P w K mg base k m.a__law_cup m.fd__law_cup ["script"] (spOfF K cl 1 ct__law_cup)) (h__law_filter : FnG P w K mg base k m.a__law_filter m.fd__law_filter ["cup", "deep"] (spOf K cl 2 ct__law_filter)) (h__law_near : FnG P w K mg base k m.a__law_near m.fd__law_near ["cup", "asked"] (spOf K cl 2 ct__law_near)) (h_is_filter : FnG P w K mg base k m.a_is_filter m.fd_is_filter ["value"] (spOf K cl 1 ct_is_filter)) {ct : WE} (vc : ∀ (τ0 : Ta) (Xp : XP) (Q : D → Ta → Prop), τ0.length = 1 → okPar τ0 → ct τ0 Xp Q → b_law ct__law_cup ct__law_filter ct__law_near ct_is_filter (endE τ0 Q) (endX τ0 Xp) (τ0 ++ List.replicate 19 .un)) :
    FnG P w K mg base (k + 1) m.a_law m.fd_law ["script"] (spOf K cl 1 ct) :=
  gn_def m.F_law sc_law (fun cdv A outer s H E hr hg0 => d_law m h__law_cup h__law_filter h__law_near h_is_filter cdv A outer s H E hr hg0) vc
end
end K16
end

section
set_option maxRecDepth 100000
namespace K16
open PySem PySem.Spec PyProof.Rows L2 PV
set_option autoImplicit false
abbrev VC (ct : WE) (b : WS) (n m : Nat) : Prop := ∀ (τ0 : Ta) (Xp : XP) (Q : D → Ta → Prop), τ0.length = n → okPar τ0 → ct τ0 Xp Q → b (endE τ0 Q) (endX τ0 Xp) (τ0 ++ List.replicate m .un)
theorem len_str {z : Str} (h : z.length ≤ sizeLine) : lenD [.str z] = some (.int z.length) := if_pos h
theorem idx_str {z : Str} (h : z.length ≤ sizeLine) (i : Int) : idxD (.str z) (.int i) = (atI z.cps.toList i).map fun c => .str ⟨#[c]⟩ := if_pos h
theorem in_chr (q : Nat) (z : Str) : inD (.str ⟨#[q]⟩) (.str z) = some (.bool (decide (q ∈ z.cps.toList))) := rfl
theorem notin_chr (q : Nat) (z : Str) : notInD (.str ⟨#[q]⟩) (.str z) = some (.bool (!decide (q ∈ z.cps.toList))) := rfl
theorem len_eq (z : Str) : z.length = z.cps.toList.length := rfl

theorem signs_len (z : Str) : (signsD z).length = z.length := by simp [signsD, Str.length]
/-- a sign's code -/
def chr1 : D → Nat
  | .str y => y.cps.toList.headD 0
  | _ => 0
def ct_is_whole : WE := fun τ _ P => ∃ d lo hi, τ = [.val d, .val (.int lo), .val (.int hi)] ∧ P (.bool (isWhole lo hi d)) τ
theorem c_is_whole (d : D) (lo hi : Int) (X : XP) (P : D → Ta → Prop) : ct_is_whole [.val d, .val (.int lo), .val (.int hi)] X P ↔ P (.bool (isWhole lo hi d)) [.val d, .val (.int lo), .val (.int hi)] := ⟨fun ⟨_, _, _, e, h⟩ => by cases e; exact h, fun h => ⟨_, _, _, rfl, h⟩⟩
theorem v_is_whole : VC ct_is_whole b_is_whole 3 0 := by
  rintro τ0 Xp Q - - ⟨d, lo, hi, rfl, h⟩
  cases d with
  | int v => by_cases h1 : lo ≤ v <;> simp [b_is_whole, sRet, sIf, sCons, sNil, sAsg, sSetL, sSetF, sPar, sParF, sExtF, sPut, sExpr, sNever, wAndV, wOrV, wNotV, wAnd, wOr, wNot, wTru, wIf, wIsi, wVar, wC, wOp, wUn, wCall, wCons, wNil, wTup, wLst, wLstF, wOf, wChain, wFn, wFnF, arE, arS, arNil, wSlice, wPN, wPS, wPkIx, wPk, wPop, gN, gNil', gCons', gTup', okSet, endE, endX, endT, endF, pars, slotsA, backA, getL, hasL, setL, isiS, tyD, sz1, sz2, sz3, sz4, sz5, sz6, sz7, sz8, sz9, sz10, sz11, sz12, sz13, sz14, sz15, sz16, sz17, sz18, sz19, sz20, sz21, sz22, sz23, sz24, sz25, sz26, sz27, sz28, sz29, sz30, leD, isWhole, h1] at h ⊢ <;> exact h
  | _ => simp [b_is_whole, sRet, sIf, sCons, sNil, sAsg, sSetL, sSetF, sPar, sParF, sExtF, sPut, sExpr, sNever, wAndV, wOrV, wNotV, wAnd, wOr, wNot, wTru, wIf, wIsi, wVar, wC, wOp, wUn, wCall, wCons, wNil, wTup, wLst, wLstF, wOf, wChain, wFn, wFnF, arE, arS, arNil, wSlice, wPN, wPS, wPkIx, wPk, wPop, gN, gNil', gCons', gTup', okSet, endE, endX, endT, endF, pars, slotsA, backA, getL, hasL, setL, isiS, tyD, sz1, sz2, sz3, sz4, sz5, sz6, sz7, sz8, sz9, sz10, sz11, sz12, sz13, sz14, sz15, sz16, sz17, sz18, sz19, sz20, sz21, sz22, sz23, sz24, sz25, sz26, sz27, sz28, sz29, sz30, isWhole] at h ⊢; exact h
def ct_is_tuple_of : WE := fun τ _ P => ∃ d lo hi, τ = [.val d, .val (.int lo), .val (.int hi)] ∧ P (.bool (isTup lo hi d)) τ
theorem c_is_tuple_of (d : D) (lo hi : Int) (X : XP) (P : D → Ta → Prop) : ct_is_tuple_of [.val d, .val (.int lo), .val (.int hi)] X P ↔ P (.bool (isTup lo hi d)) [.val d, .val (.int lo), .val (.int hi)] := ⟨fun ⟨_, _, _, e, h⟩ => by cases e; exact h, fun h => ⟨_, _, _, rfl, h⟩⟩
theorem v_is_tuple_of : VC ct_is_tuple_of b_is_tuple_of 3 0 := by
  rintro τ0 Xp Q - - ⟨d, lo, hi, rfl, h⟩
  cases d with
  | tuple v => by_cases h1 : lo ≤ v.length <;> simp [b_is_tuple_of, sRet, sIf, sCons, sNil, sAsg, sSetL, sSetF, sPar, sParF, sExtF, sPut, sExpr, sNever, wAndV, wOrV, wNotV, wAnd, wOr, wNot, wTru, wIf, wIsi, wVar, wC, wOp, wUn, wCall, wCons, wNil, wTup, wLst, wLstF, wOf, wChain, wFn, wFnF, arE, arS, arNil, wSlice, wPN, wPS, wPkIx, wPk, wPop, gN, gNil', gCons', gTup', okSet, endE, endX, endT, endF, pars, slotsA, backA, getL, hasL, setL, isiS, tyD, sz1, sz2, sz3, sz4, sz5, sz6, sz7, sz8, sz9, sz10, sz11, sz12, sz13, sz14, sz15, sz16, sz17, sz18, sz19, sz20, sz21, sz22, sz23, sz24, sz25, sz26, sz27, sz28, sz29, sz30, leD, isTup, lenD, h1] at h ⊢ <;> exact h
  | _ => simp [b_is_tuple_of, sRet, sIf, sCons, sNil, sAsg, sSetL, sSetF, sPar, sParF, sExtF, sPut, sExpr, sNever, wAndV, wOrV, wNotV, wAnd, wOr, wNot, wTru, wIf, wIsi, wVar, wC, wOp, wUn, wCall, wCons, wNil, wTup, wLst, wLstF, wOf, wChain, wFn, wFnF, arE, arS, arNil, wSlice, wPN, wPS, wPkIx, wPk, wPop, gN, gNil', gCons', gTup', okSet, endE, endX, endT, endF, pars, slotsA, backA, getL, hasL, setL, isiS, tyD, sz1, sz2, sz3, sz4, sz5, sz6, sz7, sz8, sz9, sz10, sz11, sz12, sz13, sz14, sz15, sz16, sz17, sz18, sz19, sz20, sz21, sz22, sz23, sz24, sz25, sz26, sz27, sz28, sz29, sz30, isTup] at h ⊢; exact h
def ct_is_name : WE := fun τ _ P => ∃ d, τ = [.val d] ∧ shortS d = true ∧ P (.bool (isName d)) τ
theorem c_is_name (d : D) (X : XP) (P : D → Ta → Prop) : ct_is_name [.val d] X P ↔ (shortS d = true ∧ P (.bool (isName d)) [.val d]) := ⟨fun ⟨_, e, h⟩ => by cases e; exact h, fun h => ⟨_, rfl, h⟩⟩
theorem v_is_name : VC ct_is_name b_is_name 1 1 := by
  rintro τ0 Xp Q - - ⟨d, rfl, hs, h⟩
  cases d with
  | str z =>
    have hl : z.length ≤ sizeLine := of_decide_eq_true hs
    simp only [isName] at h
    cases e : z.cps.toList with
    | nil =>
      have e2 : z.length = 0 := by rw [len_eq, e]; rfl
      simp [nameS, e] at h
      simp [b_is_name, sRet, sIf, sCons, sNil, sAsg, sSetL, sSetF, sPar, sParF, sExtF, sPut, sExpr, sNever, wAndV, wOrV, wNotV, wAnd, wOr, wNot, wTru, wIf, wIsi, wVar, wC, wOp, wUn, wCall, wCons, wNil, wTup, wLst, wLstF, wOf, wChain, wFn, wFnF, arE, arS, arNil, wSlice, wPN, wPS, wPkIx, wPk, wPop, gN, gNil', gCons', gTup', okSet, endE, endX, endT, endF, pars, slotsA, backA, getL, hasL, setL, isiS, tyD, sz1, sz2, sz3, sz4, sz5, sz6, sz7, sz8, sz9, sz10, sz11, sz12, sz13, sz14, sz15, sz16, sz17, sz18, sz19, sz20, sz21, sz22, sz23, sz24, sz25, sz26, sz27, sz28, sz29, sz30, leD, len_str hl, e2]
      exact h
    | cons q r =>
      have e2 : z.length = r.length + 1 := by rw [len_eq, e]; rfl
      have e3 : (1 : Int) ≤ (r.length : Int) + 1 := by omega
      have e4 : atI (q :: r) 0 = some q := atI_nat (j := 0) rfl
      simp [b_is_name, sRet, sIf, sCons, sNil, sAsg, sSetL, sSetF, sPar, sParF, sExtF, sPut, sExpr, sNever, wAndV, wOrV, wNotV, wAnd, wOr, wNot, wTru, wIf, wIsi, wVar, wC, wOp, wUn, wCall, wCons, wNil, wTup, wLst, wLstF, wOf, wChain, wFn, wFnF, arE, arS, arNil, wSlice, wPN, wPS, wPkIx, wPk, wPop, gN, gNil', gCons', gTup', okSet, endE, endX, endT, endF, pars, slotsA, backA, getL, hasL, setL, isiS, tyD, sz1, sz2, sz3, sz4, sz5, sz6, sz7, sz8, sz9, sz10, sz11, sz12, sz13, sz14, sz15, sz16, sz17, sz18, sz19, sz20, sz21, sz22, sz23, sz24, sz25, sz26, sz27, sz28, sz29, sz30, leD, len_str hl, e2, e3, idx_str hl, e, e4, notin_chr]
      simp [nameS, e] at h
      by_cases h1 : r.length < 8
      · have h1' : (r.length : Int) + 1 ≤ 8 := by omega
        have h1'' : ¬ (8 : Int) < (r.length : Int) + 1 := by omega
        by_cases h2 : q ∈ (Str.ofString "abcdefghijklmnopqrstuvwxyz").cps
        · simp [h1, h1', h1'', h2] at h ⊢
          refine wlc_map (ds := signsD z) (fun P p => ⟨_, rfl, z, rfl, p⟩) (fun d => .bool (decide (chr1 d ∈ signsC))) (u := .un) rfl trivial (by rw [signs_len]; exact hl) (fun d m P p => ?_) ⟨.bool (z.cps.toList.all fun s => decide (s ∈ signsC)), ?_, ?_⟩
          · obtain ⟨s, hs, rfl⟩ := List.mem_map.mp m
            exact ⟨_, rfl, _, rfl, p⟩
          · rw [signsD, List.map_map]
            exact all_map (fun s => decide (s ∈ signsC)) z.cps.toList
          · rw [e]
            simpa [sRet, sIf, sCons, sNil, sAsg, sSetL, sSetF, sPar, sParF, sExtF, sPut, sExpr, sNever, wAndV, wOrV, wNotV, wAnd, wOr, wNot, wTru, wIf, wIsi, wVar, wC, wOp, wUn, wCall, wCons, wNil, wTup, wLst, wLstF, wOf, wChain, wFn, wFnF, arE, arS, arNil, wSlice, wPN, wPS, wPkIx, wPk, wPop, gN, gNil', gCons', gTup', okSet, endE, endX, endT, endF, pars, slotsA, backA, getL, hasL, setL, isiS, tyD, sz1, sz2, sz3, sz4, sz5, sz6, sz7, sz8, sz9, sz10, sz11, sz12, sz13, sz14, sz15, sz16, sz17, sz18, sz19, sz20, sz21, sz22, sz23, sz24, sz25, sz26, sz27, sz28, sz29, sz30] using h
        · simp [h1, h1', h1'', h2] at h ⊢
          exact h
      · have h1' : ¬ (r.length : Int) + 1 ≤ 8 := by omega
        have h1'' : (8 : Int) < (r.length : Int) + 1 := by omega
        simp [h1, h1', h1''] at h ⊢
        exact h
  | _ => simp [b_is_name, sRet, sIf, sCons, sNil, sAsg, sSetL, sSetF, sPar, sParF, sExtF, sPut, sExpr, sNever, wAndV, wOrV, wNotV, wAnd, wOr, wNot, wTru, wIf, wIsi, wVar, wC, wOp, wUn, wCall, wCons, wNil, wTup, wLst, wLstF, wOf, wChain, wFn, wFnF, arE, arS, arNil, wSlice, wPN, wPS, wPkIx, wPk, wPop, gN, gNil', gCons', gTup', okSet, endE, endX, endT, endF, pars, slotsA, backA, getL, hasL, setL, isiS, tyD, sz1, sz2, sz3, sz4, sz5, sz6, sz7, sz8, sz9, sz10, sz11, sz12, sz13, sz14, sz15, sz16, sz17, sz18, sz19, sz20, sz21, sz22, sz23, sz24, sz25, sz26, sz27, sz28, sz29, sz30, isName] at h ⊢; exact h
theorem le_sp (q : Nat) : leD (.str " ") (.str ⟨#[q]⟩) = some (.bool (decide (32 ≤ q))) := by
  show some (PyData.bool (!decide ([q] < [32]))) = _
  congr 2
  by_cases h : 32 ≤ q <;> simp [List.cons_lt_cons_iff, h] <;> omega
theorem le_til (q : Nat) : leD (.str ⟨#[q]⟩) (.str "~") = some (.bool (decide (q ≤ 126))) := by
  show some (PyData.bool (!decide ([126] < [q]))) = _
  congr 2
  by_cases h : q ≤ 126 <;> simp [List.cons_lt_cons_iff, h] <;> omega
theorem notin2 (z a b : Str) : notInD (.str z) (.tuple [.str a, .str b]) = some (.bool (!(a == z || b == z))) := by
  unfold notInD
  rw [show [PyData.str a, .str b] = [a, b].map .str from rfl, in_strs]
  simp [notD]
theorem notin2i (z a b : Int) : notInD (.int z) (.tuple [.int a, .int b]) = some (.bool (!(a == z || b == z))) := by
  show (some (PyData.bool ([PyData.int a, .int b].any fun y => PyData.eqv y (.int z)))).bind notD = _
  simp [notD, PyData.eqv]
def ct_is_text_sign : WE := fun τ _ P => ∃ q, τ = [.val (.str ⟨#[q]⟩)] ∧ P (.bool (textC q)) τ
theorem v_is_text_sign : VC ct_is_text_sign b_is_text_sign 1 0 := by
  rintro τ0 Xp Q - - ⟨q, rfl, h⟩
  have e : ordD [.str ⟨#[q]⟩] = some (.int q) := rfl
  by_cases h1 : 32 ≤ q <;> by_cases h2 : q ≤ 126 <;> simp [b_is_text_sign, sRet, sIf, sCons, sNil, sAsg, sSetL, sSetF, sPar, sParF, sExtF, sPut, sExpr, sNever, wAndV, wOrV, wNotV, wAnd, wOr, wNot, wTru, wIf, wIsi, wVar, wC, wOp, wUn, wCall, wCons, wNil, wTup, wLst, wLstF, wOf, wChain, wFn, wFnF, arE, arS, arNil, wSlice, wPN, wPS, wPkIx, wPk, wPop, gN, gNil', gCons', gTup', okSet, endE, endX, endT, endF, pars, slotsA, backA, getL, hasL, setL, isiS, tyD, sz1, sz2, sz3, sz4, sz5, sz6, sz7, sz8, sz9, sz10, sz11, sz12, sz13, sz14, sz15, sz16, sz17, sz18, sz19, sz20, sz21, sz22, sz23, sz24, sz25, sz26, sz27, sz28, sz29, sz30, le_sp, le_til, e, notin2i, h1, h2, textC, sizeLine] at h ⊢ <;> try exact h
  have a1 : ((37 : Int) == q) = decide (q = 37) := by rw [Bool.eq_iff_iff]; simp; omega
  have a2 : ((39 : Int) == q) = decide (q = 39) := by rw [Bool.eq_iff_iff]; simp; omega
  rw [a1, a2]
  simpa using h
def ct_fits_plain : WE := fun τ _ P => ∃ d, τ = [.val d] ∧ shortS d = true ∧ P (.bool (plainOk d)) τ
theorem c_fits_plain (d : D) (X : XP) (P : D → Ta → Prop) : ct_fits_plain [.val d] X P ↔ (shortS d = true ∧ P (.bool (plainOk d)) [.val d]) := ⟨fun ⟨_, e, h⟩ => by cases e; exact h, fun h => ⟨_, rfl, h⟩⟩
theorem v_fits_plain : VC ct_fits_plain (b_fits_plain ct_is_text_sign ct_is_whole) 1 1 := by
  rintro τ0 Xp Q - - ⟨d, rfl, hs, h⟩
  cases d with
  | str z =>
    have hl : z.length ≤ sizeLine := of_decide_eq_true hs
    simp [b_fits_plain, sRet, sIf, sCons, sNil, sAsg, sSetL, sSetF, sPar, sParF, sExtF, sPut, sExpr, sNever, wAndV, wOrV, wNotV, wAnd, wOr, wNot, wTru, wIf, wIsi, wVar, wC, wOp, wUn, wCall, wCons, wNil, wTup, wLst, wLstF, wOf, wChain, wFn, wFnF, arE, arS, arNil, wSlice, wPN, wPS, wPkIx, wPk, wPop, gN, gNil', gCons', gTup', okSet, endE, endX, endT, endF, pars, slotsA, backA, getL, hasL, setL, isiS, tyD, sz1, sz2, sz3, sz4, sz5, sz6, sz7, sz8, sz9, sz10, sz11, sz12, sz13, sz14, sz15, sz16, sz17, sz18, sz19, sz20, sz21, sz22, sz23, sz24, sz25, sz26, sz27, sz28, sz29, sz30, isd_none, isN, len_str hl, leD]
    by_cases h1 : z.length ≤ 40
    · have h1' : (z.length : Int) ≤ 40 := by omega
      have h1'' : ¬ (40 : Int) < (z.length : Int) := by omega
      simp [h1', h1'']
      refine wlc_map (ds := signsD z) (fun P p => ⟨_, rfl, z, rfl, p⟩) (fun d => .bool (textC (chr1 d))) (u := .un) rfl trivial (by rw [signs_len]; exact hl) (fun d m P p => ?_) ⟨.bool (z.cps.toList.all textC), ?_, ?_⟩
      · obtain ⟨s, hs, rfl⟩ := List.mem_map.mp m
        exact ⟨_, rfl, _, rfl, ⟨rfl, .nil⟩, s, rfl, p⟩
      · rw [signsD, List.map_map]
        exact all_map textC z.cps.toList
      · simp [plainOk, h1] at h
        simpa [sRet, sIf, sCons, sNil, sAsg, sSetL, sSetF, sPar, sParF, sExtF, sPut, sExpr, sNever, wAndV, wOrV, wNotV, wAnd, wOr, wNot, wTru, wIf, wIsi, wVar, wC, wOp, wUn, wCall, wCons, wNil, wTup, wLst, wLstF, wOf, wChain, wFn, wFnF, arE, arS, arNil, wSlice, wPN, wPS, wPkIx, wPk, wPop, gN, gNil', gCons', gTup', okSet, endE, endX, endT, endF, pars, slotsA, backA, getL, hasL, setL, isiS, tyD, sz1, sz2, sz3, sz4, sz5, sz6, sz7, sz8, sz9, sz10, sz11, sz12, sz13, sz14, sz15, sz16, sz17, sz18, sz19, sz20, sz21, sz22, sz23, sz24, sz25, sz26, sz27, sz28, sz29, sz30] using h
    · have h1' : ¬ (z.length : Int) ≤ 40 := by omega
      have h1'' : (40 : Int) < (z.length : Int) := by omega
      simp [h1', h1'']
      simp [plainOk, h1] at h
      exact h
  | int v => simp [b_fits_plain, sRet, sIf, sCons, sNil, sAsg, sSetL, sSetF, sPar, sParF, sExtF, sPut, sExpr, sNever, wAndV, wOrV, wNotV, wAnd, wOr, wNot, wTru, wIf, wIsi, wVar, wC, wOp, wUn, wCall, wCons, wNil, wTup, wLst, wLstF, wOf, wChain, wFn, wFnF, arE, arS, arNil, wSlice, wPN, wPS, wPkIx, wPk, wPop, gN, gNil', gCons', gTup', okSet, endE, endX, endT, endF, pars, slotsA, backA, getL, hasL, setL, isiS, tyD, sz1, sz2, sz3, sz4, sz5, sz6, sz7, sz8, sz9, sz10, sz11, sz12, sz13, sz14, sz15, sz16, sz17, sz18, sz19, sz20, sz21, sz22, sz23, sz24, sz25, sz26, sz27, sz28, sz29, sz30, isd_none, isN, negD, c_is_whole, isWhole, plainOk] at h ⊢; exact h
  | bool v => simp [b_fits_plain, sRet, sIf, sCons, sNil, sAsg, sSetL, sSetF, sPar, sParF, sExtF, sPut, sExpr, sNever, wAndV, wOrV, wNotV, wAnd, wOr, wNot, wTru, wIf, wIsi, wVar, wC, wOp, wUn, wCall, wCons, wNil, wTup, wLst, wLstF, wOf, wChain, wFn, wFnF, arE, arS, arNil, wSlice, wPN, wPS, wPkIx, wPk, wPop, gN, gNil', gCons', gTup', okSet, endE, endX, endT, endF, pars, slotsA, backA, getL, hasL, setL, isiS, tyD, sz1, sz2, sz3, sz4, sz5, sz6, sz7, sz8, sz9, sz10, sz11, sz12, sz13, sz14, sz15, sz16, sz17, sz18, sz19, sz20, sz21, sz22, sz23, sz24, sz25, sz26, sz27, sz28, sz29, sz30, isd_none, isN, plainOk] at h ⊢; exact h
  | none => simp [b_fits_plain, sRet, sIf, sCons, sNil, sAsg, sSetL, sSetF, sPar, sParF, sExtF, sPut, sExpr, sNever, wAndV, wOrV, wNotV, wAnd, wOr, wNot, wTru, wIf, wIsi, wVar, wC, wOp, wUn, wCall, wCons, wNil, wTup, wLst, wLstF, wOf, wChain, wFn, wFnF, arE, arS, arNil, wSlice, wPN, wPS, wPkIx, wPk, wPop, gN, gNil', gCons', gTup', okSet, endE, endX, endT, endF, pars, slotsA, backA, getL, hasL, setL, isiS, tyD, sz1, sz2, sz3, sz4, sz5, sz6, sz7, sz8, sz9, sz10, sz11, sz12, sz13, sz14, sz15, sz16, sz17, sz18, sz19, sz20, sz21, sz22, sz23, sz24, sz25, sz26, sz27, sz28, sz29, sz30, isd_none, isN, plainOk] at h ⊢; exact h
  | _ => simp [b_fits_plain, sRet, sIf, sCons, sNil, sAsg, sSetL, sSetF, sPar, sParF, sExtF, sPut, sExpr, sNever, wAndV, wOrV, wNotV, wAnd, wOr, wNot, wTru, wIf, wIsi, wVar, wC, wOp, wUn, wCall, wCons, wNil, wTup, wLst, wLstF, wOf, wChain, wFn, wFnF, arE, arS, arNil, wSlice, wPN, wPS, wPkIx, wPk, wPop, gN, gNil', gCons', gTup', okSet, endE, endX, endT, endF, pars, slotsA, backA, getL, hasL, setL, isiS, tyD, sz1, sz2, sz3, sz4, sz5, sz6, sz7, sz8, sz9, sz10, sz11, sz12, sz13, sz14, sz15, sz16, sz17, sz18, sz19, sz20, sz21, sz22, sz23, sz24, sz25, sz26, sz27, sz28, sz29, sz30, isd_none, isN, negD, c_is_whole, isWhole, plainOk] at h ⊢; exact h
def ct_is_knot : WE := fun τ _ P => ∃ d, τ = [.val d] ∧ P (.bool (isKnot d)) τ
theorem idx0 (a : D) (r : List D) : idxD (.tuple (a :: r)) (.int 0) = some a := atI_nat (xs := a :: r) (j := 0) rfl
theorem idx1 (a b : D) (r : List D) : idxD (.tuple (a :: b :: r)) (.int 1) = some b := atI_nat (xs := a :: b :: r) (j := 1) rfl
theorem c_is_knot (d : D) (X : XP) (P : D → Ta → Prop) : ct_is_knot [.val d] X P ↔ P (.bool (isKnot d)) [.val d] := ⟨fun ⟨_, e, h⟩ => by cases e; exact h, fun h => ⟨_, rfl, h⟩⟩
theorem v_is_knot : VC ct_is_knot (b_is_knot ct_is_tuple_of) 1 0 := by
  rintro τ0 Xp Q - - ⟨d, rfl, h⟩
  cases d with
  | tuple xs =>
    match xs, h with
    | [], h => simp [b_is_knot, sRet, sIf, sCons, sNil, sAsg, sSetL, sSetF, sPar, sParF, sExtF, sPut, sExpr, sNever, wAndV, wOrV, wNotV, wAnd, wOr, wNot, wTru, wIf, wIsi, wVar, wC, wOp, wUn, wCall, wCons, wNil, wTup, wLst, wLstF, wOf, wChain, wFn, wFnF, arE, arS, arNil, wSlice, wPN, wPS, wPkIx, wPk, wPop, gN, gNil', gCons', gTup', okSet, endE, endX, endT, endF, pars, slotsA, backA, getL, hasL, setL, isiS, tyD, sz1, sz2, sz3, sz4, sz5, sz6, sz7, sz8, sz9, sz10, sz11, sz12, sz13, sz14, sz15, sz16, sz17, sz18, sz19, sz20, sz21, sz22, sz23, sz24, sz25, sz26, sz27, sz28, sz29, sz30, c_is_tuple_of, isTup, isKnot] at h ⊢; exact h
    | [a], h => simp [b_is_knot, sRet, sIf, sCons, sNil, sAsg, sSetL, sSetF, sPar, sParF, sExtF, sPut, sExpr, sNever, wAndV, wOrV, wNotV, wAnd, wOr, wNot, wTru, wIf, wIsi, wVar, wC, wOp, wUn, wCall, wCons, wNil, wTup, wLst, wLstF, wOf, wChain, wFn, wFnF, arE, arS, arNil, wSlice, wPN, wPS, wPkIx, wPk, wPop, gN, gNil', gCons', gTup', okSet, endE, endX, endT, endF, pars, slotsA, backA, getL, hasL, setL, isiS, tyD, sz1, sz2, sz3, sz4, sz5, sz6, sz7, sz8, sz9, sz10, sz11, sz12, sz13, sz14, sz15, sz16, sz17, sz18, sz19, sz20, sz21, sz22, sz23, sz24, sz25, sz26, sz27, sz28, sz29, sz30, c_is_tuple_of, isTup, isKnot] at h ⊢; exact h
    | [a, b], h =>
      cases a with
      | str w =>
        by_cases h1 : w = "list"
        · subst h1
          simp [b_is_knot, sRet, sIf, sCons, sNil, sAsg, sSetL, sSetF, sPar, sParF, sExtF, sPut, sExpr, sNever, wAndV, wOrV, wNotV, wAnd, wOr, wNot, wTru, wIf, wIsi, wVar, wC, wOp, wUn, wCall, wCons, wNil, wTup, wLst, wLstF, wOf, wChain, wFn, wFnF, arE, arS, arNil, wSlice, wPN, wPS, wPkIx, wPk, wPop, gN, gNil', gCons', gTup', okSet, endE, endX, endT, endF, pars, slotsA, backA, getL, hasL, setL, isiS, tyD, sz1, sz2, sz3, sz4, sz5, sz6, sz7, sz8, sz9, sz10, sz11, sz12, sz13, sz14, sz15, sz16, sz17, sz18, sz19, sz20, sz21, sz22, sz23, sz24, sz25, sz26, sz27, sz28, sz29, sz30, c_is_tuple_of, isTup, isKnot, idx0, idx1, notin2] at h ⊢; exact h
        · by_cases h2 : w = "doc"
          · subst h2
            simp [b_is_knot, sRet, sIf, sCons, sNil, sAsg, sSetL, sSetF, sPar, sParF, sExtF, sPut, sExpr, sNever, wAndV, wOrV, wNotV, wAnd, wOr, wNot, wTru, wIf, wIsi, wVar, wC, wOp, wUn, wCall, wCons, wNil, wTup, wLst, wLstF, wOf, wChain, wFn, wFnF, arE, arS, arNil, wSlice, wPN, wPS, wPkIx, wPk, wPop, gN, gNil', gCons', gTup', okSet, endE, endX, endT, endF, pars, slotsA, backA, getL, hasL, setL, isiS, tyD, sz1, sz2, sz3, sz4, sz5, sz6, sz7, sz8, sz9, sz10, sz11, sz12, sz13, sz14, sz15, sz16, sz17, sz18, sz19, sz20, sz21, sz22, sz23, sz24, sz25, sz26, sz27, sz28, sz29, sz30, c_is_tuple_of, isTup, isKnot, idx0, idx1, notin2] at h ⊢; exact h
          · have e1 : (Str.ofString "list" == w) = false := by simpa using fun z => h1 z.symm
            have e2 : (Str.ofString "doc" == w) = false := by simpa using fun z => h2 z.symm
            have e3 : (w == Str.ofString "list") = false := by simpa using h1
            have e4 : (w == Str.ofString "doc") = false := by simpa using h2
            simp [b_is_knot, sRet, sIf, sCons, sNil, sAsg, sSetL, sSetF, sPar, sParF, sExtF, sPut, sExpr, sNever, wAndV, wOrV, wNotV, wAnd, wOr, wNot, wTru, wIf, wIsi, wVar, wC, wOp, wUn, wCall, wCons, wNil, wTup, wLst, wLstF, wOf, wChain, wFn, wFnF, arE, arS, arNil, wSlice, wPN, wPS, wPkIx, wPk, wPop, gN, gNil', gCons', gTup', okSet, endE, endX, endT, endF, pars, slotsA, backA, getL, hasL, setL, isiS, tyD, sz1, sz2, sz3, sz4, sz5, sz6, sz7, sz8, sz9, sz10, sz11, sz12, sz13, sz14, sz15, sz16, sz17, sz18, sz19, sz20, sz21, sz22, sz23, sz24, sz25, sz26, sz27, sz28, sz29, sz30, c_is_tuple_of, isTup, isKnot, idx0, idx1, notin2, e1, e2, e3, e4] at h ⊢; exact h
      | _ => simp [b_is_knot, sRet, sIf, sCons, sNil, sAsg, sSetL, sSetF, sPar, sParF, sExtF, sPut, sExpr, sNever, wAndV, wOrV, wNotV, wAnd, wOr, wNot, wTru, wIf, wIsi, wVar, wC, wOp, wUn, wCall, wCons, wNil, wTup, wLst, wLstF, wOf, wChain, wFn, wFnF, arE, arS, arNil, wSlice, wPN, wPS, wPkIx, wPk, wPop, gN, gNil', gCons', gTup', okSet, endE, endX, endT, endF, pars, slotsA, backA, getL, hasL, setL, isiS, tyD, sz1, sz2, sz3, sz4, sz5, sz6, sz7, sz8, sz9, sz10, sz11, sz12, sz13, sz14, sz15, sz16, sz17, sz18, sz19, sz20, sz21, sz22, sz23, sz24, sz25, sz26, sz27, sz28, sz29, sz30, c_is_tuple_of, isTup, isKnot, idx0, idx1] at h ⊢; exact h
    | a :: b :: c :: r, h =>
      have e : ¬ ((r.length : Int) + 1 + 1 + 1 ≤ 2) := by omega
      simp [b_is_knot, sRet, sIf, sCons, sNil, sAsg, sSetL, sSetF, sPar, sParF, sExtF, sPut, sExpr, sNever, wAndV, wOrV, wNotV, wAnd, wOr, wNot, wTru, wIf, wIsi, wVar, wC, wOp, wUn, wCall, wCons, wNil, wTup, wLst, wLstF, wOf, wChain, wFn, wFnF, arE, arS, arNil, wSlice, wPN, wPS, wPkIx, wPk, wPop, gN, gNil', gCons', gTup', okSet, endE, endX, endT, endF, pars, slotsA, backA, getL, hasL, setL, isiS, tyD, sz1, sz2, sz3, sz4, sz5, sz6, sz7, sz8, sz9, sz10, sz11, sz12, sz13, sz14, sz15, sz16, sz17, sz18, sz19, sz20, sz21, sz22, sz23, sz24, sz25, sz26, sz27, sz28, sz29, sz30, c_is_tuple_of, isTup, isKnot, e] at h ⊢; exact h
  | _ => simp [b_is_knot, sRet, sIf, sCons, sNil, sAsg, sSetL, sSetF, sPar, sParF, sExtF, sPut, sExpr, sNever, wAndV, wOrV, wNotV, wAnd, wOr, wNot, wTru, wIf, wIsi, wVar, wC, wOp, wUn, wCall, wCons, wNil, wTup, wLst, wLstF, wOf, wChain, wFn, wFnF, arE, arS, arNil, wSlice, wPN, wPS, wPkIx, wPk, wPop, gN, gNil', gCons', gTup', okSet, endE, endX, endT, endF, pars, slotsA, backA, getL, hasL, setL, isiS, tyD, sz1, sz2, sz3, sz4, sz5, sz6, sz7, sz8, sz9, sz10, sz11, sz12, sz13, sz14, sz15, sz16, sz17, sz18, sz19, sz20, sz21, sz22, sz23, sz24, sz25, sz26, sz27, sz28, sz29, sz30, c_is_tuple_of, isTup, isKnot] at h ⊢; exact h
end K16
end

section
set_option maxRecDepth 100000
namespace K16
open PySem PySem.Spec PyProof.Rows L2 PV
set_option autoImplicit false
theorem len_list (ds : List D) : lenD [.list ds] = some (.int ds.length) := rfl
theorem len_tup (ds : List D) : lenD [.tuple ds] = some (.int ds.length) := rfl
theorem strsD_map : ∀ xs : List Str, strsD (xs.map .str) = some xs
  | [] => rfl
  | x :: xs => by rw [List.map_cons, strsD, strsD_map xs]; rfl
theorem lenSet_map (xs : List Str) (h : xs.length ≤ 4000) : lenSetD (.list (xs.map .str)) = some (.int (metS xs xs.length).length) := by
  show (match strsD (xs.map PyData.str) with
    | some xs => if xs.length ≤ 4000 then some (PyData.int (metS xs xs.length).length) else none
    | none => none) = _
  rw [strsD_map]
  exact if_pos h
theorem isTup2 (d : D) : isTup 2 2 d = true → ∃ a b, d = .tuple [a, b] := by
  cases d with
  | tuple xs =>
    match xs with
    | [a, b] => exact fun _ => ⟨a, b, rfl⟩
    | [] => simp [isTup]
    | [a] => simp [isTup]
    | a :: b :: c :: r => simp [isTup]; omega
  | _ => simp [isTup]
theorem isTup2n (d : D) : isTup 2 2 d = false → fieldOk d = false := by
  cases d with
  | tuple xs =>
    match xs with
    | [a, b] => simp [isTup]
    | [] => simp [fieldOk]
    | [a] => simp [fieldOk]
    | a :: b :: c :: r => simp [fieldOk]
  | _ => simp [fieldOk]
theorem fieldOk_of {d : D} (h : fieldOk d = true) : ∃ z x, d = .tuple [.str z, x] ∧ nameS z = true := by
  match d, h with
  | .tuple [.str z, x], h => exact ⟨z, x, rfl, h⟩
  | .tuple [.none, x], h => exact nomatch h
  | .tuple [.bool _, x], h => exact nomatch h
  | .tuple [.int _, x], h => exact nomatch h
  | .tuple [.list _, x], h => exact nomatch h
  | .tuple [.tuple _, x], h => exact nomatch h
  | .tuple [.dict _, x], h => exact nomatch h
def ct_fits_fields : WE := fun τ _ P => ∃ fs, τ = [.val (.tuple fs)] ∧ fs.length ≤ 16 ∧ shortA fs = true ∧ P (.bool (fieldsOk (.tuple fs))) τ
theorem c_fits_fields (fs : List D) (X : XP) (P : D → Ta → Prop) : ct_fits_fields [.val (.tuple fs)] X P ↔ (fs.length ≤ 16 ∧ shortA fs = true ∧ P (.bool (fieldsOk (.tuple fs))) [.val (.tuple fs)]) := ⟨fun ⟨_, e, h⟩ => by cases e; exact h, fun h => ⟨_, rfl, h⟩⟩
theorem v_fits_fields : VC ct_fits_fields (b_fits_fields ct_is_name ct_is_tuple_of) 1 2 := by
  rintro τ0 Xp Q - - ⟨fs, rfl, hl, hs, h⟩
  have hl2 : fs.length ≤ sizeLine := Nat.le_trans hl (by decide)
  simp only [b_fits_fields, sCons, sIf, wNot, wTru, wCall, wCons, wNil, wOf]
  refine wlc_map (ds := fs) (fun P p => ⟨_, rfl, _, rfl, p⟩) (fun d => .bool (fieldOk d)) (u := .un) rfl trivial hl2 (fun d m P p => ?_) ⟨.bool (fs.all fieldOk), all_map fieldOk fs, _, rfl, ?_⟩
  · cases ht : isTup 2 2 d with
    | false =>
      rw [isTup2n d ht] at p
      simp [sRet, sIf, sCons, sNil, sAsg, sSetL, sSetF, sPar, sParF, sExtF, sPut, sExpr, sNever, wAndV, wOrV, wNotV, wAnd, wOr, wNot, wTru, wIf, wIsi, wVar, wC, wOp, wUn, wCall, wCons, wNil, wTup, wLst, wLstF, wOf, wChain, wFn, wFnF, arE, arS, arNil, wSlice, wPN, wPS, wPkIx, wPk, wPop, gN, gNil', gCons', gTup', okSet, endE, endX, endT, endF, pars, slotsA, backA, getL, hasL, setL, isiS, tyD, sz1, sz2, sz3, sz4, sz5, sz6, sz7, sz8, sz9, sz10, sz11, sz12, sz13, sz14, sz15, sz16, sz17, sz18, sz19, sz20, sz21, sz22, sz23, sz24, sz25, sz26, sz27, sz28, sz29, sz30, c_is_tuple_of, ht]
      simpa using p
    | true =>
      obtain ⟨a, b, rfl⟩ := isTup2 d ht
      have hs2 := short_mem hs _ m
      have hs3 : shortS a = true := by
        cases a <;> simp [short, shortA, shortS] at hs2 ⊢
        exact hs2.1
      simp [sRet, sIf, sCons, sNil, sAsg, sSetL, sSetF, sPar, sParF, sExtF, sPut, sExpr, sNever, wAndV, wOrV, wNotV, wAnd, wOr, wNot, wTru, wIf, wIsi, wVar, wC, wOp, wUn, wCall, wCons, wNil, wTup, wLst, wLstF, wOf, wChain, wFn, wFnF, arE, arS, arNil, wSlice, wPN, wPS, wPkIx, wPk, wPop, gN, gNil', gCons', gTup', okSet, endE, endX, endT, endF, pars, slotsA, backA, getL, hasL, setL, isiS, tyD, sz1, sz2, sz3, sz4, sz5, sz6, sz7, sz8, sz9, sz10, sz11, sz12, sz13, sz14, sz15, sz16, sz17, sz18, sz19, sz20, sz21, sz22, sz23, sz24, sz25, sz26, sz27, sz28, sz29, sz30, c_is_tuple_of, ht, idx0, c_is_name, hs3]
      simpa [fieldOk] using p
  · cases hk : fs.all fieldOk with
    | false =>
      simp [fieldsOk, hk] at h
      simp [sRet, sIf, sCons, sNil, sAsg, sSetL, sSetF, sPar, sParF, sExtF, sPut, sExpr, sNever, wAndV, wOrV, wNotV, wAnd, wOr, wNot, wTru, wIf, wIsi, wVar, wC, wOp, wUn, wCall, wCons, wNil, wTup, wLst, wLstF, wOf, wChain, wFn, wFnF, arE, arS, arNil, wSlice, wPN, wPS, wPkIx, wPk, wPop, gN, gNil', gCons', gTup', okSet, endE, endX, endT, endF, pars, slotsA, backA, getL, hasL, setL, isiS, tyD, sz1, sz2, sz3, sz4, sz5, sz6, sz7, sz8, sz9, sz10, sz11, sz12, sz13, sz14, sz15, sz16, sz17, sz18, sz19, sz20, sz21, sz22, sz23, sz24, sz25, sz26, sz27, sz28, sz29, sz30]
      exact h
    | true =>
      have hk' : ∀ d ∈ fs, fieldOk d = true := by simpa using hk
      simp only [Bool.not_true, Bool.false_eq_true, if_false, sNil, endE, sSetL]
      refine wlc_map (ds := fs) (fun P p => ⟨_, rfl, _, rfl, p⟩) (fun d => .str (kOf d)) (u := .un) rfl trivial hl2 (fun d m P p => ?_) ?_
      · obtain ⟨z, x, rfl, _⟩ := fieldOk_of (hk' d m)
        exact ⟨_, rfl, _, idx0 _ _, p⟩
      · have e1 : lenSetD (.list (fs.map fun d => .str (kOf d))) = some (.int (metS (fs.map kOf) (fs.map kOf).length).length) := by
          rw [show (fs.map fun d => PyData.str (kOf d)) = (fs.map kOf).map .str by rw [List.map_map]; rfl]
          exact lenSet_map _ (by rw [List.length_map]; omega)
        simp [sRet, sIf, sCons, sNil, sAsg, sSetL, sSetF, sPar, sParF, sExtF, sPut, sExpr, sNever, wAndV, wOrV, wNotV, wAnd, wOr, wNot, wTru, wIf, wIsi, wVar, wC, wOp, wUn, wCall, wCons, wNil, wTup, wLst, wLstF, wOf, wChain, wFn, wFnF, arE, arS, arNil, wSlice, wPN, wPS, wPkIx, wPk, wPop, gN, gNil', gCons', gTup', okSet, endE, endX, endT, endF, pars, slotsA, backA, getL, hasL, setL, isiS, tyD, sz1, sz2, sz3, sz4, sz5, sz6, sz7, sz8, sz9, sz10, sz11, sz12, sz13, sz14, sz15, sz16, sz17, sz18, sz19, sz20, sz21, sz22, sz23, sz24, sz25, sz26, sz27, sz28, sz29, sz30, e1, len_list, deq_int]
        simp [fieldsOk, hk, distinct] at h
        have e2 : (((metS (fs.map kOf) fs.length).length : Int) == (fs.length : Int)) = ((metS (fs.map kOf) fs.length).length == fs.length) := by
          rw [Bool.eq_iff_iff]; simp; omega
        rw [e2]
        exact h
def ct_inner_of : WE := fun τ _ P => ∃ d, τ = [.val d] ∧ isKnot d = true ∧ (isDoc d = true → fieldsOk (vOf d) = true) ∧ P (.list (innerOf d)) τ
theorem c_inner_of (d : D) (X : XP) (P : D → Ta → Prop) : ct_inner_of [.val d] X P ↔ (isKnot d = true ∧ (isDoc d = true → fieldsOk (vOf d) = true) ∧ P (.list (innerOf d)) [.val d]) := ⟨fun ⟨_, e, h⟩ => by cases e; exact h, fun h => ⟨_, rfl, h⟩⟩
theorem knot_of {d : D} (h : isKnot d = true) : ∃ w xs, d = .tuple [.str w, .tuple xs] ∧ xs.length ≤ 16 ∧ (w = "list" ∨ w = "doc") := by
  match d, h with
  | .tuple [.str w, .tuple xs], h =>
    simp [isKnot, isTup] at h
    exact ⟨w, xs, rfl, by omega, h.1⟩
  | .tuple [.str w, .none], h => simp [isKnot, isTup] at h
  | .tuple [.str w, .bool _], h => simp [isKnot, isTup] at h
  | .tuple [.str w, .int _], h => simp [isKnot, isTup] at h
  | .tuple [.str w, .str _], h => simp [isKnot, isTup] at h
  | .tuple [.str w, .list _], h => simp [isKnot, isTup] at h
  | .tuple [.str w, .dict _], h => simp [isKnot, isTup] at h
theorem v_inner_of : VC ct_inner_of b_inner_of 1 1 := by
  rintro τ0 Xp Q - - ⟨d, rfl, hk, hf, h⟩
  obtain ⟨w, xs, rfl, hl, hw⟩ := knot_of hk
  have hl2 : xs.length ≤ sizeLine := Nat.le_trans hl (by decide)
  rcases hw with rfl | rfl
  · have e : (Str.ofString "list" == Str.ofString "doc") = false := by decide
    simp only [innerOf, e] at h
    refine ⟨_, rfl, _, idx0 _ _, _, deq_str _ _, _, rfl, ?_⟩
    refine ifF e ?_
    exact ⟨_, rfl, _, idx1 _ _ _, _, rfl, _, rfl, h⟩
  · simp [b_inner_of, sRet, sIf, sCons, sNil, sAsg, sSetL, sSetF, sPar, sParF, sExtF, sPut, sExpr, sNever, wAndV, wOrV, wNotV, wAnd, wOr, wNot, wTru, wIf, wIsi, wVar, wC, wOp, wUn, wCall, wCons, wNil, wTup, wLst, wLstF, wOf, wChain, wFn, wFnF, arE, arS, arNil, wSlice, wPN, wPS, wPkIx, wPk, wPop, gN, gNil', gCons', gTup', okSet, endE, endX, endT, endF, pars, slotsA, backA, getL, hasL, setL, isiS, tyD, sz1, sz2, sz3, sz4, sz5, sz6, sz7, sz8, sz9, sz10, sz11, sz12, sz13, sz14, sz15, sz16, sz17, sz18, sz19, sz20, sz21, sz22, sz23, sz24, sz25, sz26, sz27, sz28, sz29, sz30, idx0, idx1, deq_str]
    have hf' := hf rfl
    simp [vOf, fieldsOk] at hf'
    refine wlc_map (ds := xs) (fun P p => ⟨_, rfl, _, idx1 _ _ _, _, rfl, p⟩) vOf (u := .un) rfl trivial hl2 (fun d m P p => ?_) ?_
    · obtain ⟨z, x, rfl, _⟩ := fieldOk_of (hf'.1 d m)
      exact ⟨_, rfl, _, idx1 _ _ _, p⟩
    · simpa [innerOf, sRet, sIf, sCons, sNil, sAsg, sSetL, sSetF, sPar, sParF, sExtF, sPut, sExpr, sNever, wAndV, wOrV, wNotV, wAnd, wOr, wNot, wTru, wIf, wIsi, wVar, wC, wOp, wUn, wCall, wCons, wNil, wTup, wLst, wLstF, wOf, wChain, wFn, wFnF, arE, arS, arNil, wSlice, wPN, wPS, wPkIx, wPk, wPop, gN, gNil', gCons', gTup', okSet, endE, endX, endT, endF, pars, slotsA, backA, getL, hasL, setL, isiS, tyD, sz1, sz2, sz3, sz4, sz5, sz6, sz7, sz8, sz9, sz10, sz11, sz12, sz13, sz14, sz15, sz16, sz17, sz18, sz19, sz20, sz21, sz22, sz23, sz24, sz25, sz26, sz27, sz28, sz29, sz30] using h
end K16
end

section
set_option maxRecDepth 100000
namespace K16
open PySem PySem.Spec PyProof.Rows L2 PV
set_option autoImplicit false
def pairD (p : D × Int) : D := .tuple [p.1, .int p.2]
def lineD (l : List (D × Int)) : List D := l.reverse.map pairD
theorem line_last (p : D × Int) (l : List (D × Int)) : (lineD (p :: l))[(lineD (p :: l)).length - 1]? = some (pairD p) := by
  simp [lineD]
theorem line_drop (p : D × Int) (l : List (D × Int)) : (lineD (p :: l)).dropLast = lineD l := by
  simp [lineD]
theorem line_more (new l : List (D × Int)) : lineD l ++ new.map pairD = lineD (new.reverse ++ l) := by
  simp [lineD]
theorem line_len (l : List (D × Int)) : (lineD l).length = l.length := by simp [lineD]
theorem gt_int (a b : Int) : gtD (.int a) (.int b) = some (.bool (decide (b < a))) := rfl
theorem add_int (a b : Int) : addD (.int a) (.int b) = some (.int (a + b)) := rfl
/-- a slot that holds no list of ours -/
def slotV (s : Sl) : Prop := s = .un ∨ ∃ d, s = .val d
theorem okSet_at {τ : Ta} {i : Nat} {s : Sl} (h : τ[i]? = some s) (v : slotV s) : okSet τ i := by
  unfold okSet
  rw [h]
  rcases v with rfl | ⟨_, rfl⟩ <;> trivial
theorem short_of {d : D} (h : short d = true) : shortS d = true := by cases d <;> simp [short, shortS] at h ⊢; exact h
theorem inner_len (d : D) (hk : isKnot d = true) : (innerOf d).length ≤ 16 := by
  obtain ⟨w, xs, rfl, hl, _⟩ := knot_of hk
  simp only [innerOf]
  split
  · rw [List.length_map]; exact hl
  · exact hl
theorem inner_short (d : D) (hk : isKnot d = true) (hs : short d = true) (hf : isDoc d = true → fieldsOk (vOf d) = true) : ∀ x ∈ innerOf d, short x = true := by
  obtain ⟨w, xs, rfl, hl, hw⟩ := knot_of hk
  have h2 : shortA xs = true := by simp [short, shortA] at hs; exact hs.2
  intro x m
  simp only [innerOf] at m
  split at m
  · rename_i e
    obtain ⟨f, hf1, rfl⟩ := List.mem_map.mp m
    have := hf e
    simp [vOf, fieldsOk] at this
    obtain ⟨z, y, rfl, _⟩ := fieldOk_of (this.1 f hf1)
    have h3 := short_mem h2 _ hf1
    simp [short, shortA] at h3
    exact h3.2
  · exact short_mem h2 x m
def ct_fits_value : WE := fun τ _ P => ∃ d b, τ = [.val d] ∧ short d = true ∧ fitsV d = some b ∧ P (.bool b) τ
theorem c_fits_value (d : D) (X : XP) (P : D → Ta → Prop) : ct_fits_value [.val d] X P ↔ ∃ b, short d = true ∧ fitsV d = some b ∧ P (.bool b) [.val d] := ⟨fun ⟨_, b, e, h⟩ => by cases e; exact ⟨b, h⟩, fun ⟨b, h⟩ => ⟨_, b, rfl, h⟩⟩
theorem v_fits_value : VC ct_fits_value (b_fits_value ct_fits_fields ct_fits_plain ct_inner_of ct_is_knot) 1 4 := by
  rintro τ0 Xp Q - - ⟨d, b, rfl, hs, hb, h⟩
  refine ⟨_, rfl, ?_⟩
  refine ⟨show (2 : Nat) ≤ sizeLine by decide, show (1 : Nat) ≤ sizeLine by decide, trivial, ?_⟩
  refine ⟨fun m τ => ∃ line s2 s3 s4, τ = [.val d, .own (lineD line), s2, s3, s4] ∧ slotV s2 ∧ slotV s3 ∧ slotV s4 ∧ runV m line = some b ∧ line.length + 16 * m ≤ 20000 ∧ ∀ p ∈ line, short p.1 = true,
    ⟨900, [(d, 1)], .un, .un, .un, rfl, .inl rfl, .inl rfl, .inl rfl, hb, show (1 : Nat) + 16 * 900 ≤ 20000 by decide, fun p m => ?_⟩, ?_⟩
  · rw [List.mem_singleton.mp m]; exact hs
  rintro m τ ⟨line, s2, s3, s4, rfl, v2, v3, v4, hr, hl, hss⟩
  refine ⟨⟨_, rfl⟩, by decide, _, _, rfl, ne_nil _, rfl, _, rfl, ?_⟩
  cases line with
  | nil =>
    refine ifF rfl ?_
    have : b = true := by cases m <;> (cases hr; rfl)
    subst this
    exact ⟨_, rfl, h⟩
  | cons p rest =>
    obtain ⟨one, deep⟩ := p
    refine ifT (by simp [lineD]) ?_
    cases m with
    | zero => cases hr
    | succ m =>
    have so : short one = true := hss _ List.mem_cons_self
    have hl' : rest.length + 1 + 16 * (m + 1) ≤ 20000 := hl
    have hsr : ∀ p ∈ rest, short p.1 = true := fun p q => hss p (List.mem_cons_of_mem _ q)
    refine ⟨_, _, rfl, line_last _ _, _, rfl, rfl, one, [.int deep], rfl, okSet_at rfl v2, .int deep, [], rfl, okSet_at rfl v3, rfl, ?_⟩
    simp only [line_drop]
    refine ⟨_, rfl, _, rfl, ⟨rfl, .nil⟩, (c_fits_plain _ _ _).mpr ⟨short_of so, _, rfl, ?_⟩⟩
    have hr' : (match stepV one deep with
      | none => some false
      | some new => runV m (new.reverse ++ rest)) = some b := hr
    cases hp : plainOk one with
    | true =>
      rw [stepV, if_pos hp] at hr'
      exact ifF rfl ⟨m, Nat.lt_succ_self _, rest, _, _, _, rfl, .inr ⟨_, rfl⟩, .inr ⟨_, rfl⟩, v4, hr', by omega, hsr⟩
    | false =>
      rw [stepV, if_neg (by rw [hp]; decide)] at hr'
      refine ifT rfl ?_
      refine ⟨_, rfl, _, gt_int _ _, _, rfl, ?_⟩
      by_cases h6 : 6 < deep
      · refine ifT (decide_eq_true h6) ?_
        rw [if_pos (by simp [h6])] at hr'
        cases hr'
        exact ⟨_, rfl, h⟩
      refine ifF (decide_eq_false h6) ?_
      refine ⟨_, rfl, _, rfl, ⟨rfl, .nil⟩, (c_is_knot _ _ _).mpr ⟨_, rfl, ?_⟩⟩
      cases hk : isKnot one with
      | false =>
        refine ifT rfl ?_
        rw [if_pos (by simp [hk])] at hr'
        cases hr'
        exact ⟨_, rfl, h⟩
      | true =>
      refine ifF rfl ?_
      obtain ⟨w, xs, rfl, hlx, hw⟩ := knot_of hk
      refine ⟨_, rfl, _, idx0 _ _, _, deq_str _ _, _, rfl, ?_⟩
      have more : (isDoc (.tuple [.str w, .tuple xs]) = true → fieldsOk (vOf (.tuple [.str w, .tuple xs])) = true) → runV m (((innerOf (.tuple [.str w, .tuple xs])).map fun x => (x, deep + 1)).reverse ++ rest) = some b →
          sExtF 1 (wLC (iL (wFn 1 ct_inner_of (arE (wVar 2) (arNil)))) (gN 4) (wYes) (wTup (wCons (wVar 4) (wCons (wOp addD (wVar 3) (wC (.int 1))) (wNil)))) [4])
            { endE [.val d] Q with nx := fun τ2 => ∃ m', m' < m + 1 ∧ ∃ line s2 s3 s4, τ2 = [.val d, .own (lineD line), s2, s3, s4] ∧ slotV s2 ∧ slotV s3 ∧ slotV s4 ∧ runV m' line = some b ∧ line.length + 16 * m' ≤ 20000 ∧ ∀ p ∈ line, short p.1 = true, ct := fun τ2 => ∃ m', m' < m + 1 ∧ ∃ line s2 s3 s4, τ2 = [.val d, .own (lineD line), s2, s3, s4] ∧ slotV s2 ∧ slotV s3 ∧ slotV s4 ∧ runV m' line = some b ∧ line.length + 16 * m' ≤ 20000 ∧ ∀ p ∈ line, short p.1 = true, bk := fun τ1 => sRet (wC (.bool true)) (endE [.val d] Q) (endX [.val d] Xp) τ1 }
            (endX [.val d] Xp) [.val d, .own (lineD rest), .val (.tuple [.str w, .tuple xs]), .val (.int deep), s4] := fun hf hr => by
        have il := inner_len _ hk
        refine ⟨⟨_, rfl⟩, ?_⟩
        refine wlc_map (ds := innerOf (.tuple [.str w, .tuple xs])) (τ1 := [.val d, .own (lineD rest), .val (.tuple [.str w, .tuple xs]), .val (.int deep), s4]) (fun P p => ⟨_, rfl, _, rfl, ⟨rfl, .nil⟩, (c_inner_of _ _ _).mpr ⟨hk, hf, _, rfl, p⟩⟩) (fun x => pairD (x, deep + 1)) (u := s4) rfl ?_ (Nat.le_trans il (by decide)) (fun x mx P p => ?_) ?_
        · rcases v4 with rfl | ⟨_, rfl⟩ <;> trivial
        · exact ⟨_, rfl, _, rfl, _, rfl, show (2 : Nat) ≤ sizeLine by decide, p⟩
        · refine ⟨_, rfl, ?_, m, Nat.lt_succ_self _, ((innerOf (.tuple [.str w, .tuple xs])).map fun x => (x, deep + 1)).reverse ++ rest, .val (.tuple [.str w, .tuple xs]), .val (.int deep), s4, ?_, .inr ⟨_, rfl⟩, .inr ⟨_, rfl⟩, v4, hr, ?_, fun p mp => ?_⟩
          · rw [line_len, List.length_map]
            exact Nat.le_trans (by omega : rest.length + (innerOf (.tuple [.str w, .tuple xs])).length ≤ 20000) (by decide)
          · rw [← line_more, List.map_map]
            rfl
          · rw [List.length_append, List.length_reverse, List.length_map]
            omega
          · rcases List.mem_append.mp mp with q | q
            · obtain ⟨x, mx, rfl⟩ := List.mem_map.mp (List.mem_reverse.mp q)
              exact inner_short _ hk so hf x mx
            · exact hsr p q
      cases hd : (w == Str.ofString "doc") with
      | false =>
        refine ifF rfl ?_
        refine ifF rfl ?_
        have hnd : isDoc (.tuple [.str w, .tuple xs]) = false := hd
        rw [if_neg (by simp [h6, hk, hnd])] at hr'
        exact more (fun z => by rw [hnd] at z; cases z) hr'
      | true =>
        refine ifT rfl ?_
        have hid : isDoc (.tuple [.str w, .tuple xs]) = true := hd
        have sx : shortA xs = true := by simp [short, shortA] at so; exact so.2
        refine ⟨_, rfl, _, idx1 _ _ _, _, rfl, ⟨rfl, .nil⟩, (c_fits_fields _ _ _).mpr ⟨hlx, sx, _, rfl, ?_⟩⟩
        cases hf : fieldsOk (.tuple xs) with
        | false =>
          refine ifT rfl ?_
          rw [if_pos (by simp [hid, vOf, hf])] at hr'
          cases hr'
          exact ⟨_, rfl, h⟩
        | true =>
          refine ifF rfl ?_
          rw [if_neg (by simp [h6, hk, hid, vOf, hf])] at hr'
          exact more (fun _ => hf) hr'
end K16
end

section
set_option maxRecDepth 100000
namespace K16
open PySem PySem.Spec PyProof.Rows L2 PV
set_option autoImplicit false
/-! ### filters -/
def isListD : D → Bool
  | .tuple (.str w :: _) => w == "list"
  | _ => false
def listDom : D → Prop
  | .tuple (.str _ :: _) => True
  | .tuple _ => False
  | _ => True
def ct_is_list : WE := fun τ _ P => ∃ d, τ = [.val d] ∧ listDom d ∧ P (.bool (isListD d)) τ
theorem c_is_list (d : D) (X : XP) (P : D → Ta → Prop) : ct_is_list [.val d] X P ↔ (listDom d ∧ P (.bool (isListD d)) [.val d]) := ⟨fun ⟨_, e, h⟩ => by cases e; exact h, fun h => ⟨_, rfl, h⟩⟩
theorem v_is_list : VC ct_is_list b_is_list 1 0 := by
  rintro τ0 Xp Q - - ⟨d, rfl, hd, h⟩
  match d, hd, h with
  | .tuple (.str w :: r), hd, h => exact ⟨_, rfl, true, rfl, _, rfl, _, idx0 _ _, _, deq_str _ _, _, rfl, h⟩
  | .none, hd, h => exact ⟨_, rfl, false, rfl, _, rfl, h⟩
  | .bool _, hd, h => exact ⟨_, rfl, false, rfl, _, rfl, h⟩
  | .int _, hd, h => exact ⟨_, rfl, false, rfl, _, rfl, h⟩
  | .str _, hd, h => exact ⟨_, rfl, false, rfl, _, rfl, h⟩
  | .list _, hd, h => exact ⟨_, rfl, false, rfl, _, rfl, h⟩
  | .dict _, hd, h => exact ⟨_, rfl, false, rfl, _, rfl, h⟩
def stepOk (x : D) : Bool := isName x || isWhole 0 15 x
def pathOk (d : D) : Bool := isTup 0 6 d && match d with
  | .tuple xs => xs.all stepOk
  | _ => false
def ct_fits_path : WE := fun τ _ P => ∃ d, τ = [.val d] ∧ short d = true ∧ P (.bool (pathOk d)) τ
theorem c_fits_path (d : D) (X : XP) (P : D → Ta → Prop) : ct_fits_path [.val d] X P ↔ (short d = true ∧ P (.bool (pathOk d)) [.val d]) := ⟨fun ⟨_, e, h⟩ => by cases e; exact h, fun h => ⟨_, rfl, h⟩⟩
theorem v_fits_path : VC ct_fits_path (b_fits_path ct_is_name ct_is_tuple_of ct_is_whole) 1 1 := by
  rintro τ0 Xp Q - - ⟨d, rfl, hs, h⟩
  refine ⟨_, rfl, _, rfl, ⟨rfl, .nil⟩, (c_is_tuple_of _ _ _ _ _).mpr ⟨_, rfl, ?_⟩⟩
  cases ht : isTup 0 6 d with
  | false =>
    rw [show pathOk d = false by unfold pathOk; rw [ht]; rfl] at h
    exact ifT rfl ⟨_, rfl, h⟩
  | true =>
    refine ifF rfl ?_
    cases d with
    | tuple xs =>
      rw [show pathOk (.tuple xs) = xs.all stepOk by unfold pathOk; rw [ht]; rfl] at h
      have hl : xs.length ≤ sizeLine := by
        simp [isTup] at ht
        exact Nat.le_trans (by omega : xs.length ≤ 6) (by decide)
      have hs' : shortA xs = true := hs
      simp only [sNil, sRet, wCall, wCons, wNil, wOf]
      refine wlc_map (ds := xs) (fun P p => ⟨_, rfl, _, rfl, p⟩) (fun x => .bool (stepOk x)) (u := .un) rfl trivial hl (fun x m P p => ?_) ⟨.bool (xs.all stepOk), all_map stepOk xs, _, rfl, h⟩
      refine ⟨_, rfl, _, rfl, ⟨rfl, .nil⟩, (c_is_name _ _ _).mpr ⟨short_of (short_mem hs' x m), _, rfl, ?_⟩⟩
      cases hn : isName x with
      | true =>
        rw [show stepOk x = true by rw [stepOk, hn]; rfl] at p
        exact ifT rfl p
      | false =>
        rw [show stepOk x = isWhole 0 15 x by rw [stepOk, hn]; rfl] at p
        exact ifF rfl ⟨_, rfl, _, rfl, ⟨rfl, .nil⟩, (c_is_whole _ _ _ _ _).mpr p⟩
    | _ => exact nomatch ht
def asks (w : Str) : Bool := (Str.ofString "same" == w || Str.ofString "other" == w) || ([("less" : Str), "atmost", "more", "atleast"].any fun y => y == w)
def lists (w : Str) : Bool := [("in" : Str), "has"].any fun y => y == w
def kindD : D → Bool
  | .str z => [("null" : Str), "number", "text", "doc", "list", "truth"].any fun y => y == z
  | _ => false
def isBoolD : D → Bool
  | .bool _ => true
  | _ => false
def told (w : Str) (d : D) : Option Bool :=
  if asks w then fitsV d else if lists w then (fitsV d).map fun b => b && isListD d else if w == "size" then some (isWhole 0 16 d) else if w == "is" then some (kindD d) else some ((w == "exists") && isBoolD d)
theorem fitsV_dom {d : D} (h : fitsV d = some true) : listDom d := by
  have h2 : (match stepV d 1 with
    | none => some false
    | some new => runV 899 (new.reverse ++ [])) = some true := h
  cases hp : plainOk d with
  | true => cases d <;> first | trivial | (exact nomatch hp)
  | false =>
    rw [stepV, if_neg (by rw [hp]; decide)] at h2
    cases hk : isKnot d with
    | true =>
      obtain ⟨w, xs, rfl, _⟩ := knot_of hk
      trivial
    | false =>
      rw [if_pos (by simp [hk])] at h2
      cases h2
theorem in2 (z a b : Str) : inD (.str z) (.tuple [.str a, .str b]) = some (.bool (a == z || b == z)) := by
  rw [show [PyData.str a, .str b] = [a, b].map .str from rfl, in_strs]
  simp
def ct_fits_told : WE := fun τ _ P => ∃ w d b, τ = [.val (.str w), .val d] ∧ short d = true ∧ told w d = some b ∧ P (.bool b) τ
theorem c_fits_told (w : Str) (d : D) (X : XP) (P : D → Ta → Prop) : ct_fits_told [.val (.str w), .val d] X P ↔ ∃ b, short d = true ∧ told w d = some b ∧ P (.bool b) [.val (.str w), .val d] := ⟨fun ⟨_, _, b, e, h⟩ => by cases e; exact ⟨b, h⟩, fun ⟨b, h⟩ => ⟨_, _, b, rfl, h⟩⟩
theorem v_fits_told : VC ct_fits_told (b_fits_told ct_fits_value ct_is_list ct_is_whole) 2 0 := by
  rintro τ0 Xp Q - - ⟨w, d, b, rfl, hs, hb, h⟩
  have last : asks w = false → sCons (sIf (wTru (wOp inD (wVar 0) (wC (.tuple [(.str "in"), (.str "has")])))) (sRet (wAndV (wFn 1 ct_fits_value (arE (wVar 1) (arNil))) (wFn 1 ct_is_list (arE (wVar 1) (arNil))))) (sNil))
      (sCons (sIf (wTru (wOp eqD (wVar 0) (wC (.str "size")))) (sRet (wFn 3 ct_is_whole (arE (wVar 1) (arE (wC (.int 0)) (arE (wC (.int 16)) (arNil)))))) (sNil))
      (sCons (sIf (wTru (wOp eqD (wVar 0) (wC (.str "is")))) (sRet (wAndV (wIsi "str" (wVar 1)) (wOp inD (wVar 1) (wC (.tuple [(.str "null"), (.str "number"), (.str "text"), (.str "doc"), (.str "list"), (.str "truth")]))))) (sNil))
      (sRet (wAndV (wOp eqD (wVar 0) (wC (.str "exists"))) (wIsi "bool" (wVar 1)))))) (endE [.val (.str w), .val d] Q) (endX [.val (.str w), .val d] Xp) [.val (.str w), .val d] := fun ha => by
    rw [told, if_neg (by rw [ha]; decide)] at hb
    refine ⟨_, rfl, _, in_strs w ["in", "has"], _, rfl, ?_⟩
    cases hl : lists w with
    | true =>
      refine ifT hl ?_
      rw [if_pos hl] at hb
      obtain ⟨c, h1, h2⟩ := Option.map_eq_some_iff.mp hb
      refine ⟨_, rfl, _, rfl, ⟨rfl, .nil⟩, (c_fits_value _ _ _).mpr ⟨c, hs, h1, _, rfl, ?_⟩⟩
      cases c with
      | false =>
        cases h2
        exact ifF rfl ⟨_, rfl, h⟩
      | true =>
        rw [Bool.true_and] at h2
        subst h2
        exact ifT rfl ⟨_, rfl, _, rfl, ⟨rfl, .nil⟩, (c_is_list _ _ _).mpr ⟨fitsV_dom h1, _, rfl, h⟩⟩
    | false =>
    refine ifF hl ?_
    rw [if_neg (by rw [hl]; decide)] at hb
    refine ⟨_, rfl, _, deq_str _ _, _, rfl, ?_⟩
    cases h1 : (w == Str.ofString "size") with
    | true =>
      rw [if_pos h1] at hb
      cases hb
      exact ifT rfl ⟨_, rfl, _, rfl, ⟨rfl, .nil⟩, (c_is_whole _ _ _ _ _).mpr ⟨_, rfl, h⟩⟩
    | false =>
    rw [if_neg (by rw [h1]; decide)] at hb
    refine ifF rfl ⟨_, rfl, _, deq_str _ _, _, rfl, ?_⟩
    cases h2 : (w == Str.ofString "is") with
    | true =>
      rw [if_pos h2] at hb
      cases hb
      refine ifT rfl ?_
      cases d with
      | str z => exact ⟨_, rfl, true, rfl, ifT rfl ⟨_, rfl, _, in_strs z ["null", "number", "text", "doc", "list", "truth"], _, rfl, h⟩⟩
      | _ => exact ⟨_, rfl, false, rfl, ifF rfl ⟨_, rfl, h⟩⟩
    | false =>
    rw [if_neg (by rw [h2]; decide)] at hb
    cases hb
    refine ifF rfl ⟨_, rfl, _, deq_str _ _, _, rfl, ?_⟩
    cases h3 : (w == Str.ofString "exists") with
    | true =>
      rw [h3, Bool.true_and] at h
      refine ifT rfl ⟨_, rfl, _, rfl, ?_⟩
      cases d <;> exact h
    | false =>
      rw [h3, Bool.false_and] at h
      exact ifF rfl ⟨_, rfl, h⟩
  refine ⟨_, rfl, show (2 : Nat) ≤ sizeLine by decide, _, in2 _ _ _, _, rfl, ?_⟩
  cases h1 : (Str.ofString "same" == w || Str.ofString "other" == w) with
  | true =>
    refine ifT rfl (ifT rfl ?_)
    rw [told, if_pos (by rw [asks, h1]; rfl)] at hb
    exact ⟨_, rfl, _, rfl, ⟨rfl, .nil⟩, (c_fits_value _ _ _).mpr ⟨b, hs, hb, _, rfl, h⟩⟩
  | false =>
    refine ifF rfl ⟨_, rfl, _, in_strs w ["less", "atmost", "more", "atleast"], _, rfl, ?_⟩
    cases h2 : ([("less" : Str), "atmost", "more", "atleast"].any fun y => y == w) with
    | true =>
      refine ifT rfl ?_
      rw [told, if_pos (by rw [asks, h1, h2]; rfl)] at hb
      exact ⟨_, rfl, _, rfl, ⟨rfl, .nil⟩, (c_fits_value _ _ _).mpr ⟨b, hs, hb, _, rfl, h⟩⟩
    | false => exact ifF rfl (last (by rw [asks, h1, h2]; rfl))
def testOk : List D → Option Bool
  | [p, .str w, v] => if pathOk p then told w v else some false
  | _ => some false
def ct_fits_test : WE := fun τ _ P => ∃ a ds b, τ = [.val (.tuple (a :: ds))] ∧ shortA ds = true ∧ testOk ds = some b ∧ P (.bool b) τ
theorem c_fits_test (a : D) (ds : List D) (X : XP) (P : D → Ta → Prop) : ct_fits_test [.val (.tuple (a :: ds))] X P ↔ ∃ b, shortA ds = true ∧ testOk ds = some b ∧ P (.bool b) [.val (.tuple (a :: ds))] := ⟨fun ⟨_, _, b, e, h⟩ => by cases e; exact ⟨b, h⟩, fun ⟨b, h⟩ => ⟨_, _, b, rfl, h⟩⟩
theorem idx2 (a b c : D) (r : List D) : idxD (.tuple (a :: b :: c :: r)) (.int 2) = some c := atI_nat (xs := a :: b :: c :: r) (j := 2) rfl
theorem idx3 (a b c d : D) (r : List D) : idxD (.tuple (a :: b :: c :: d :: r)) (.int 3) = some d := atI_nat (xs := a :: b :: c :: d :: r) (j := 3) rfl
theorem v_fits_test : VC ct_fits_test (b_fits_test ct_fits_path ct_fits_told) 1 0 := by
  rintro τ0 Xp Q - - ⟨a, ds, b, rfl, hs, hb, h⟩
  refine ⟨_, rfl, _, len_tup _, _, dne_int _ _, _, rfl, ?_⟩
  match ds, hs, hb, h with
  | [], hs, hb, h => cases hb; exact ifT rfl (ifT rfl ⟨_, rfl, h⟩)
  | [_], hs, hb, h => cases hb; exact ifT rfl (ifT rfl ⟨_, rfl, h⟩)
  | [x, y], hs, hb, h =>
    have e : testOk [x, y] = some false := by cases y <;> rfl
    rw [e] at hb
    cases hb
    exact ifT rfl (ifT rfl ⟨_, rfl, h⟩)
  | x :: y :: z :: u :: r, hs, hb, h =>
    have e : testOk (x :: y :: z :: u :: r) = some false := by cases y <;> rfl
    rw [e] at hb
    cases hb
    exact ifT (by simp; omega) (ifT rfl ⟨_, rfl, h⟩)
  | [p, w, v], hs, hb, h =>
    have h1 : short p = true ∧ short v = true := by simp [shortA] at hs; exact ⟨hs.1, hs.2.2⟩
    refine ifF rfl ⟨_, rfl, _, idx1 _ _ _, _, rfl, ⟨rfl, .nil⟩, (c_fits_path _ _ _).mpr ⟨h1.1, _, rfl, ?_⟩⟩
    cases hp : pathOk p with
    | false =>
      have e : testOk [p, w, v] = some false := by cases w <;> simp [testOk, hp]
      rw [e] at hb
      cases hb
      exact ifT rfl (ifT rfl ⟨_, rfl, h⟩)
    | true =>
      refine ifF rfl ⟨_, rfl, _, idx2 _ _ _ _, ?_⟩
      cases w with
      | str w =>
        have hb' : told w v = some b := by rw [testOk, if_pos hp] at hb; exact hb
        exact ⟨true, rfl, ifF rfl ⟨_, rfl, _, idx2 _ _ _ _, _, rfl, _, idx3 _ _ _ _ _, _, rfl, ⟨rfl, .nil⟩, (c_fits_told _ _ _ _).mpr ⟨b, h1.2, hb', _, rfl, h⟩⟩⟩
      | _ =>
        cases hb
        exact ⟨false, rfl, ifT rfl ⟨_, rfl, h⟩⟩
def rowsOf : List D → Option (List D)
  | [.tuple xs] => if xs.length ≤ 8 then some xs else none
  | _ => none
def anyOf : List D → Option (List D)
  | [p, x] => if pathOk p then some [x] else none
  | _ => none
def oneOf1 : List D → Option (List D)
  | [x] => some [x]
  | _ => none
def innerF (w : Str) (r : List D) : Option (Option (List D)) :=
  if w == "every" then some (if r.isEmpty then some [] else none)
  else if w == "test" then (testOk r).map fun b => if b then some [] else none
  else if w == "not" then some (oneOf1 r)
  else if w == "any" then some (anyOf r)
  else if Str.ofString "and" == w || Str.ofString "or" == w then some (rowsOf r) else some none
def optD : Option (List D) → D
  | none => .none
  | some xs => .tuple xs
def ct_inner_filters : WE := fun τ _ P => ∃ w ds x, τ = [.val (.tuple (.str w :: ds))] ∧ shortA ds = true ∧ innerF w ds = some x ∧ P (optD x) τ
theorem c_inner_filters (w : Str) (ds : List D) (X : XP) (P : D → Ta → Prop) : ct_inner_filters [.val (.tuple (.str w :: ds))] X P ↔ ∃ x, shortA ds = true ∧ innerF w ds = some x ∧ P (optD x) [.val (.tuple (.str w :: ds))] := ⟨fun ⟨_, _, b, e, h⟩ => by cases e; exact ⟨b, h⟩, fun ⟨b, h⟩ => ⟨_, _, b, rfl, h⟩⟩
theorem cut1 (a : D) (r : List D) : sliceD (.tuple (a :: r)) (some 1) none = some (.tuple r) := by
  show some (PyData.tuple (PV.cutD (a :: r) (some 1) none)) = _
  unfold PV.cutD
  rw [show HT.sIx (a :: r).length 0 (some 1) = min 1 (a :: r).length from HT.sIx_nat _ 0 1, HT.sIx_none, show min 1 (a :: r).length = 1 by rw [List.length_cons]; omega]
  show some (PyData.tuple (r.take (r.length + 1 - 1))) = _
  rw [Nat.add_sub_cancel, List.take_length]
theorem cut2 (a b : D) (r : List D) : sliceD (.tuple (a :: b :: r)) (some 2) none = some (.tuple r) := by
  show some (PyData.tuple (PV.cutD (a :: b :: r) (some 2) none)) = _
  unfold PV.cutD
  rw [show HT.sIx (a :: b :: r).length 0 (some 2) = min 2 (a :: b :: r).length from HT.sIx_nat _ 0 2, HT.sIx_none, show min 2 (a :: b :: r).length = 2 by rw [List.length_cons, List.length_cons]; omega]
  show some (PyData.tuple (r.take (r.length + 1 + 1 - 2))) = _
  rw [show r.length + 1 + 1 - 2 = r.length by omega, List.take_length]
theorem v_inner_filters : VC ct_inner_filters (b_inner_filters ct_fits_path ct_fits_test ct_is_tuple_of) 1 2 := by
  rintro τ0 Xp Q - - ⟨w, ds, x, rfl, hs, hx, h⟩
  refine ⟨_, rfl, _, idx0 _ _, _, rfl, _, len_tup _, trivial, trivial, by decide, ?_⟩
  refine ⟨_, rfl, _, deq_str _ _, _, rfl, ?_⟩
  unfold innerF at hx
  cases h1 : (w == Str.ofString "every") with
  | true =>
    rw [if_pos h1] at hx
    cases hx
    refine ifT rfl ⟨_, rfl, _, deq_int _ _, _, rfl, ?_⟩
    cases ds with
    | nil => exact ifT rfl ⟨Nat.zero_le _, _, rfl, h⟩
    | cons y r => exact ifF (by simp; omega) ⟨_, rfl, h⟩
  | false =>
  rw [if_neg (by rw [h1]; decide)] at hx
  refine ifF rfl ⟨_, rfl, _, deq_str _ _, _, rfl, ?_⟩
  cases h2 : (w == Str.ofString "test") with
  | true =>
    rw [if_pos h2] at hx
    obtain ⟨b, e1, e2⟩ := Option.map_eq_some_iff.mp hx
    refine ifT rfl ⟨_, rfl, _, rfl, ⟨rfl, .nil⟩, (c_fits_test _ _ _ _).mpr ⟨b, hs, e1, _, rfl, ?_⟩⟩
    cases b with
    | true => subst e2; exact ifT rfl ⟨Nat.zero_le _, _, rfl, h⟩
    | false => subst e2; exact ifF rfl ⟨_, rfl, h⟩
  | false =>
  rw [if_neg (by rw [h2]; decide)] at hx
  refine ifF rfl ⟨_, rfl, _, deq_str _ _, _, rfl, ?_⟩
  cases h3 : (w == Str.ofString "not") with
  | true =>
    rw [if_pos h3] at hx
    cases hx
    refine ifT rfl ⟨_, rfl, _, deq_int _ _, _, rfl, ?_⟩
    match ds, h with
    | [], h => exact ifF rfl ⟨_, rfl, h⟩
    | [y], h => exact ifT rfl ⟨_, rfl, _, rfl, _, cut1 _ _, _, rfl, h⟩
    | y :: z :: r, h => exact ifF (by simp; omega) ⟨_, rfl, h⟩
  | false =>
  rw [if_neg (by rw [h3]; decide)] at hx
  refine ifF rfl ⟨_, rfl, _, deq_str _ _, _, rfl, ?_⟩
  cases h4 : (w == Str.ofString "any") with
  | true =>
    rw [if_pos h4] at hx
    cases hx
    refine ifT rfl ⟨_, rfl, _, deq_int _ _, _, rfl, ?_⟩
    match ds, hs, h with
    | [], hs, h => exact ifF rfl (ifF rfl ⟨_, rfl, h⟩)
    | [y], hs, h => exact ifF rfl (ifF rfl ⟨_, rfl, h⟩)
    | [p, y], hs, h =>
      have h5 : short p = true := by simp [shortA] at hs; exact hs.1
      refine ifT rfl ⟨_, rfl, _, idx1 _ _ _, _, rfl, ⟨rfl, .nil⟩, (c_fits_path _ _ _).mpr ⟨h5, _, rfl, ?_⟩⟩
      cases hp : pathOk p with
      | true =>
        rw [anyOf, if_pos hp] at h
        exact ifT rfl ⟨_, rfl, _, rfl, _, cut2 _ _ _, _, rfl, h⟩
      | false =>
        rw [anyOf, if_neg (by rw [hp]; decide)] at h
        exact ifF rfl ⟨_, rfl, h⟩
    | y :: z :: u :: r, hs, h => exact ifF (by simp; omega) (ifF rfl ⟨_, rfl, h⟩)
  | false =>
  rw [if_neg (by rw [h4]; decide)] at hx
  refine ifF rfl ⟨_, rfl, show (2 : Nat) ≤ sizeLine by decide, _, notin2 _ _ _, _, rfl, ?_⟩
  cases h5 : (Str.ofString "and" == w || Str.ofString "or" == w) with
  | false =>
    rw [if_neg (by rw [h5]; decide)] at hx
    cases hx
    exact ifT rfl (ifT rfl ⟨_, rfl, h⟩)
  | true =>
    rw [if_pos h5] at hx
    cases hx
    refine ifF rfl ⟨_, rfl, _, dne_int _ _, _, rfl, ?_⟩
    match ds, h with
    | [], h => exact ifT rfl (ifT rfl ⟨_, rfl, h⟩)
    | y :: z :: r, h =>
      have e : rowsOf (y :: z :: r) = none := by cases y <;> rfl
      rw [e] at h
      exact ifT (by simp; omega) (ifT rfl ⟨_, rfl, h⟩)
    | [y], h =>
      refine ifF rfl ⟨_, rfl, _, idx1 _ _ _, _, rfl, ⟨rfl, .nil⟩, (c_is_tuple_of _ _ _ _ _).mpr ⟨_, rfl, ?_⟩⟩
      cases y with
      | tuple xs =>
        by_cases hl : xs.length ≤ 8
        · rw [rowsOf, if_pos hl] at h
          exact ifF (by simp [isTup]; omega) ⟨_, rfl, _, idx1 _ _ _, _, rfl, h⟩
        · rw [rowsOf, if_neg hl] at h
          exact ifT (by simp [isTup]; omega) ⟨_, rfl, h⟩
      | _ => exact ifT rfl ⟨_, rfl, h⟩
end K16
end

section
set_option maxRecDepth 100000
namespace K16
open PySem PySem.Spec PyProof.Rows L2 PV
set_option autoImplicit false
def stepF : D → Option (Option (List D))
  | .tuple (.str w :: r) => if r.length ≤ 3 then innerF w r else some none
  | _ => some none
def runF : Nat → List (D × Int) → Int → Option Bool
  | _, [], _ => some true
  | 0, _ :: _, _ => none
  | n + 1, (d, deep) :: rest, many => if decide (40 < many + 1) || decide (5 < deep) then some false else match stepF d with
    | none => none
    | some none => some false
    | some (some new) => runF n ((new.map fun x => (x, deep + 1)).reverse ++ rest) (many + 1)
def fitsF (d : D) : Option Bool := runF 60 [(d, 1)] 0
theorem inner_f {w : Str} {r new : List D} (h : innerF w r = some (some new)) (hs : shortA r = true) (hr : r.length ≤ 3) : new.length ≤ 8 ∧ ∀ x ∈ new, short x = true := by
  unfold innerF at h
  split at h
  · injection h with h
    split at h <;> cases h
    exact ⟨by decide, fun _ m => nomatch m⟩
  split at h
  · obtain ⟨b, _, e⟩ := Option.map_eq_some_iff.mp h
    cases b <;> cases e
    exact ⟨by decide, fun _ m => nomatch m⟩
  split at h
  · injection h with h
    match r, h, hs with
    | [x], h, hs =>
      cases h
      simp [shortA] at hs
      exact ⟨by show 1 ≤ 8; decide, fun y m => by rw [List.mem_singleton.mp m]; exact hs⟩
    | [], h, hs => cases h
    | _ :: _ :: _, h, hs => cases h
  split at h
  · injection h with h
    match r, h, hs with
    | [p, x], h, hs =>
      by_cases hp : pathOk p = true
      case neg => rw [anyOf, if_neg hp] at h; cases h
      rw [anyOf, if_pos hp] at h
      cases h
      simp [shortA] at hs
      exact ⟨by show 1 ≤ 8; decide, fun y m => by rw [List.mem_singleton.mp m]; exact hs.2⟩
    | [], h, hs => cases h
    | [_], h, hs => cases h
    | _ :: _ :: _ :: _, h, hs => cases h
  split at h
  · injection h with h
    match r, h, hs with
    | [.tuple xs], h, hs =>
      by_cases hl : xs.length ≤ 8
      case neg => rw [rowsOf, if_neg hl] at h; cases h
      rw [rowsOf, if_pos hl] at h
      cases h
      simp [shortA, short] at hs
      exact ⟨hl, short_mem hs⟩
    | [], h, hs => cases h
    | [.none], h, hs => cases h
    | [.bool _], h, hs => cases h
    | [.int _], h, hs => cases h
    | [.str _], h, hs => cases h
    | [.list _], h, hs => cases h
    | [.dict _], h, hs => cases h
    | x :: y :: r, h, hs => cases x <;> cases h
  · cases h
def ct_fits_filter : WE := fun τ _ P => ∃ d b, τ = [.val d] ∧ short d = true ∧ fitsF d = some b ∧ P (.bool b) τ
theorem c_fits_filter (d : D) (X : XP) (P : D → Ta → Prop) : ct_fits_filter [.val d] X P ↔ ∃ b, short d = true ∧ fitsF d = some b ∧ P (.bool b) [.val d] := ⟨fun ⟨_, b, e, h⟩ => by cases e; exact ⟨b, h⟩, fun ⟨b, h⟩ => ⟨_, b, rfl, h⟩⟩
theorem isTup14 (a : D) (r : List D) : isTup 1 4 (.tuple (a :: r)) = decide (r.length ≤ 3) := by
  rw [Bool.eq_iff_iff]; simp [isTup]; omega
theorem v_fits_filter : VC ct_fits_filter (b_fits_filter ct_inner_filters ct_is_tuple_of) 1 6 := by
  rintro τ0 Xp Q - - ⟨d, b, rfl, hs, hb, h⟩
  refine ⟨_, rfl, show (2 : Nat) ≤ sizeLine by decide, show (1 : Nat) ≤ sizeLine by decide, trivial, trivial, by decide, ?_⟩
  refine ⟨fun m τ => ∃ line many s3 s4 s5 s6, τ = [.val d, .own (lineD line), .val (.int many), s3, s4, s5, s6] ∧ slotV s3 ∧ slotV s4 ∧ slotV s5 ∧ slotV s6 ∧ runF m line many = some b ∧ line.length + 8 * m ≤ 20000 ∧ ∀ p ∈ line, short p.1 = true,
    ⟨60, [(d, 1)], 0, .un, .un, .un, .un, rfl, .inl rfl, .inl rfl, .inl rfl, .inl rfl, hb, show (1 : Nat) + 8 * 60 ≤ 20000 by decide, fun p m => ?_⟩, ?_⟩
  · rw [List.mem_singleton.mp m]; exact hs
  rintro m τ ⟨line, many, s3, s4, s5, s6, rfl, v3, v4, v5, v6, hr, hl, hss⟩
  refine ⟨⟨_, rfl⟩, by decide, _, _, rfl, ne_nil _, rfl, _, rfl, ?_⟩
  cases line with
  | nil =>
    refine ifF rfl ?_
    have : b = true := by cases m <;> (cases hr; rfl)
    subst this
    exact ⟨_, rfl, h⟩
  | cons p rest =>
    obtain ⟨one, deep⟩ := p
    refine ifT (by simp [lineD]) ?_
    cases m with
    | zero => cases hr
    | succ m =>
    have so : short one = true := hss _ List.mem_cons_self
    have hl' : rest.length + 1 + 8 * (m + 1) ≤ 20000 := hl
    have hsr : ∀ p ∈ rest, short p.1 = true := fun p q => hss p (List.mem_cons_of_mem _ q)
    refine ⟨_, _, rfl, line_last _ _, _, rfl, rfl, one, [.int deep], rfl, okSet_at rfl v3, .int deep, [], rfl, okSet_at rfl v4, rfl, ?_⟩
    simp only [line_drop]
    refine ⟨_, rfl, _, add_int _ _, trivial, ?_⟩
    refine ⟨_, rfl, _, gt_int _ _, _, rfl, ?_⟩
    have hr' : (if decide (40 < many + 1) || decide (5 < deep) then some false else match stepF one with
      | none => none
      | some none => some false
      | some (some new) => runF m ((new.map fun x => (x, deep + 1)).reverse ++ rest) (many + 1)) = some b := hr
    by_cases h40 : 40 < many + 1
    · rw [if_pos (by simp [h40])] at hr'
      cases hr'
      exact ifT (decide_eq_true h40) (ifT rfl ⟨_, rfl, h⟩)
    refine ifF (decide_eq_false h40) ⟨_, rfl, _, gt_int _ _, _, rfl, ?_⟩
    by_cases h5 : 5 < deep
    · rw [if_pos (by simp [h5])] at hr'
      cases hr'
      exact ifT (decide_eq_true h5) (ifT rfl ⟨_, rfl, h⟩)
    rw [if_neg (by simp [h40, h5])] at hr'
    refine ifF (decide_eq_false h5) ⟨_, rfl, _, rfl, ⟨rfl, .nil⟩, (c_is_tuple_of _ _ _ _ _).mpr ⟨_, rfl, ?_⟩⟩
    match one, so, hr' with
    | .tuple (a :: r), so, hr' =>
      have sa : short a = true ∧ shortA r = true := by simp [short, shortA] at so; exact so
      by_cases hl3 : r.length ≤ 3
      · refine ifF (by rw [isTup14, decide_eq_true hl3]; rfl) ⟨_, rfl, _, idx0 _ _, ?_⟩
        cases a with
        | str w =>
          refine ⟨true, rfl, ifF rfl ⟨_, rfl, _, rfl, ⟨rfl, .nil⟩, ?_⟩⟩
          rw [stepF, if_pos hl3] at hr'
          cases hx : innerF w r with
          | none => rw [hx] at hr'; cases hr'
          | some x =>
            rw [hx] at hr'
            refine (c_inner_filters _ _ _ _).mpr ⟨x, sa.2, hx, okSet_at rfl v5, ⟨_, rfl, _, isd_none _, _, rfl, ?_⟩⟩
            cases x with
            | none =>
              cases hr'
              exact ifT rfl ⟨_, rfl, h⟩
            | some new =>
              obtain ⟨n1, n2⟩ := inner_f hx sa.2 hl3
              refine ifF rfl ⟨⟨_, rfl⟩, ?_⟩
              refine wlc_map (ds := new) (τ1 := [.val d, .own (lineD rest), .val (.int (many + 1)), .val (.tuple (.str w :: r)), .val (.int deep), .val (.tuple new), s6]) (fun P p => ⟨_, rfl, _, rfl, p⟩) (fun x => pairD (x, deep + 1)) (u := s6) rfl ?_ (Nat.le_trans n1 (by decide)) (fun x mx P p => ?_) ?_
              · rcases v6 with rfl | ⟨_, rfl⟩ <;> trivial
              · exact ⟨_, rfl, _, rfl, _, rfl, show (2 : Nat) ≤ sizeLine by decide, p⟩
              · refine ⟨_, rfl, ?_, m, Nat.lt_succ_self _, (new.map fun x => (x, deep + 1)).reverse ++ rest, many + 1, .val (.tuple (.str w :: r)), .val (.int deep), .val (.tuple new), s6, ?_, .inr ⟨_, rfl⟩, .inr ⟨_, rfl⟩, .inr ⟨_, rfl⟩, v6, hr', ?_, fun p mp => ?_⟩
                · rw [line_len, List.length_map]
                  exact Nat.le_trans (by omega : rest.length + new.length ≤ 20000) (by decide)
                · rw [← line_more, List.map_map]
                  rfl
                · rw [List.length_append, List.length_reverse, List.length_map]
                  omega
                · rcases List.mem_append.mp mp with q | q
                  · obtain ⟨x, mx, rfl⟩ := List.mem_map.mp (List.mem_reverse.mp q)
                    exact n2 x mx
                  · exact hsr p q
        | _ =>
          cases hr'
          exact ⟨false, rfl, ifT rfl ⟨_, rfl, h⟩⟩
      · have e : stepF (.tuple (a :: r)) = some none := by
          cases a <;> simp [stepF, hl3]
        rw [e] at hr'
        cases hr'
        exact ifT (by rw [isTup14, decide_eq_false hl3]; rfl) (ifT rfl ⟨_, rfl, h⟩)
    | .tuple [], so, hr' => cases hr'; exact ifT rfl (ifT rfl ⟨_, rfl, h⟩)
    | .none, so, hr' => cases hr'; exact ifT rfl (ifT rfl ⟨_, rfl, h⟩)
    | .bool _, so, hr' => cases hr'; exact ifT rfl (ifT rfl ⟨_, rfl, h⟩)
    | .int _, so, hr' => cases hr'; exact ifT rfl (ifT rfl ⟨_, rfl, h⟩)
    | .str _, so, hr' => cases hr'; exact ifT rfl (ifT rfl ⟨_, rfl, h⟩)
    | .list _, so, hr' => cases hr'; exact ifT rfl (ifT rfl ⟨_, rfl, h⟩)
    | .dict _, so, hr' => cases hr'; exact ifT rfl (ifT rfl ⟨_, rfl, h⟩)
theorem v_is_filter : VC ct_fits_filter (b_is_filter ct_fits_filter) 1 0 := by
  rintro τ0 Xp Q - - ⟨d, b, rfl, hs, hb, h⟩
  exact ⟨_, rfl, _, rfl, ⟨rfl, .nil⟩, (c_fits_filter _ _ _).mpr ⟨b, hs, hb, _, rfl, h⟩⟩
end K16
end

section
set_option maxRecDepth 100000
namespace K16
open PySem PySem.Spec PyProof.Rows L2 PV
set_option autoImplicit false
abbrev VCF (ct : WA) (b : WS) (n m : Nat) : Prop := ∀ (τ0 : Ta) (Xp : XP) (Q : List D → Ta → Prop), τ0.length = n → okPar τ0 → ct τ0 Xp Q → b (endF τ0 Q) (endX τ0 Xp) (τ0 ++ List.replicate m .un)
/-! ### the drawing -/
theorem nd0 : ([0] : List Nat).Nodup := by decide
theorem nd1 : ([1] : List Nat).Nodup := by decide
theorem mod_pos (i j : Int) (h : 0 < j) : modD (.int i) (.int j) = some (.int (i % j)) := if_pos h
theorem fdiv_pos (i j : Int) (h : 0 < j) (h2 : j.natAbs.log2 < 9000) : fdivD (.int i) (.int j) = some (.int (i / j)) := if_pos ⟨h, h2⟩
def ct_cup : WA := fun τ _ P => ∃ ns : List Int, τ = [.val (.list (ns.map PyData.int))] ∧ ns.length ≤ 63 ∧ ∀ a b : Int, P [.int a, .int b] τ
theorem pow18 : powD (.int 10) (.int 18) = some (.int (10 ^ 18)) := rfl
theorem v__law_cup : VCF ct_cup b__law_cup 1 1 := by
  rintro τ0 Xp Q - - ⟨ns, rfl, hl, h⟩
  have hcell : ∃ c : Int, atI (ns.map PyData.int ++ [.int 0]) 0 = some (.int c) := by
    cases ns with
    | nil => exact ⟨0, atI_nat (j := 0) rfl⟩
    | cons c r => exact ⟨c, atI_nat (xs := (c :: r).map PyData.int ++ [.int 0]) (j := 0) rfl⟩
  obtain ⟨c, hc⟩ := hcell
  refine ⟨_, rfl, _, rfl, show (1 : Nat) ≤ sizeLine by decide, .list (ns.map PyData.int ++ [.int 0]), ?_, _, (show idxD (.list (ns.map PyData.int ++ [.int 0])) (.int 0) = some (.int c) from hc), _, rfl, trivial, ?_⟩
  · exact if_pos (by rw [List.length_map]; exact Nat.le_trans (by show ns.length + 1 ≤ 64; omega) (by decide))
  generalize (if c < 0 then -c else c) = e
  refine ⟨_, rfl, _, pow18, _, rfl, _, rfl, ?_⟩
  have rest : ∀ u : Int, wCons (wOp addD (wOp modD (wCall intD (wCons (wOp addD (wOp mulD (wVar 1) (wC (.int 311))) (wC (.int 3109))) (wNil))) (wC (.int 2077503101))) (wC (.int 191))) (wNil)
      [.val (.list (ns.map PyData.int)), .val (.int e)] (endX [.val (.list (ns.map PyData.int))] Xp) (fun ds τ2 => (.int u :: ds : List D).length ≤ sizeLine ∧ (endF [.val (.list (ns.map PyData.int))] Q).rf (.int u :: ds) τ2) := fun u => by
    refine ⟨_, rfl, .int (e * 311), if_pos (.inr ⟨by decide, by decide⟩), _, rfl, _, rfl, _, mod_pos _ _ (by decide), _, rfl, show (2 : Nat) ≤ sizeLine by decide, _, rfl, h _ _⟩
  cases hq : decide ((10 : Int) ^ 18 ≤ e) with
  | true => exact ifT rfl ⟨_, rfl, _, fdiv_pos _ _ (by decide) (by decide), rest _⟩
  | false => exact ifF rfl (rest 0)
def ct_roll : WE := fun τ _ P => ∃ a b many : Int, τ = [.io [.int a, .int b], .val (.int many)] ∧ 0 < many ∧ many < 2 ^ 62 ∧ ∀ r a' b' : Int, 0 ≤ r → r < many → P (.int r) [.io [.int a', .int b'], .val (.int many)]
theorem small_log {i : Int} (h0 : 0 < i) (h : i < 2 ^ 62) : i.natAbs.log2 < 9000 := by
  have : i.natAbs.log2 < 62 := (Nat.log2_lt (by omega)).mpr (by omega)
  omega
theorem at0 (a b : D) : atI [a, b] 0 = some a := atI_nat (xs := [a, b]) (j := 0) rfl
theorem at1 (a b : D) : atI [a, b] 1 = some b := atI_nat (xs := [a, b]) (j := 1) rfl
theorem gt_int0 (a : Int) : gtD (.int a) (.int 0) = some (.bool (decide (0 < a))) := rfl
theorem v__law_roll : VC ct_roll b__law_roll 2 2 := by
  rintro τ0 Xp Q - - ⟨a, b, many, rfl, h0, h1, h⟩
  have m1 : ∀ i : Int, modD (.int i) (.int many) = some (.int (i % many)) := fun i => if_pos h0
  have f1 : ∀ i : Int, fdivD (.int i) (.int many) = some (.int (i / many)) := fun i => if_pos ⟨h0, small_log h0 h1⟩
  refine ⟨⟨_, rfl⟩, _, _, _, rfl, rfl, at0 _ _, _, gt_int0 _, _, rfl, ?_⟩
  cases hp : decide (0 < a) with
  | true =>
    refine ifT rfl ⟨⟨_, rfl⟩, _, _, _, rfl, rfl, at0 _ _, _, rfl, _, rfl, _, m1 _, trivial, ?_⟩
    refine ⟨⟨_, rfl⟩, _, _, _, rfl, rfl, at0 _ _, _, rfl, _, f1 _, ⟨_, rfl⟩, _, _, 0, rfl, rfl, rfl, ?_⟩
    exact ⟨_, rfl, _, rfl, h _ _ _ (Int.emod_nonneg _ (by omega)) (Int.emod_lt_of_pos _ h0)⟩
  | false =>
    refine ifF rfl ?_
    refine ⟨⟨_, rfl⟩, _, _, _, rfl, rfl, at1 _ _, .int (b * 31091), if_pos (.inr ⟨by decide, by decide⟩), _, rfl, _, rfl, _, mod_pos _ _ (by decide), ⟨_, rfl⟩, _, _, 1, rfl, rfl, rfl, ?_⟩
    have lo : 0 ≤ (b * 31091 + 8053) % 2147483423 := Int.emod_nonneg _ (by decide)
    have hi : (b * 31091 + 8053) % 2147483423 < 2147483423 := Int.emod_lt_of_pos _ (by decide)
    generalize (b * 31091 + 8053) % 2147483423 = c at lo hi
    refine ⟨⟨_, rfl⟩, _, _, _, rfl, rfl, at1 _ _, ⟨_, rfl⟩, _, _, _, rfl, rfl, at1 _ _, _, rfl, .int (c * (c + 257)), if_pos (.inl ⟨by omega, by omega⟩), _, rfl, _, mod_pos _ _ (by decide), trivial, ?_⟩
    refine ⟨_, rfl, _, fdiv_pos _ _ (by decide) (by decide), _, rfl, _, rfl, _, m1 _, _, rfl, h _ _ _ (Int.emod_nonneg _ (by omega)) (Int.emod_lt_of_pos _ h0)⟩
def ct_some : WE := fun τ _ P => ∃ (a b : Int) (ds : List D), τ = [.io [.int a, .int b], .val (.list ds)] ∧ ds ≠ [] ∧ ds.length ≤ 1000 ∧ ∀ (d : D) (a' b' : Int), d ∈ ds → P d [.io [.int a', .int b'], .val (.list ds)]
theorem at_lt {ds : List D} {r : Int} (h0 : 0 ≤ r) (h1 : r < ds.length) : ∃ d ∈ ds, atI ds r = some d := by
  have hl : r.toNat < ds.length := by omega
  refine ⟨ds[r.toNat], List.getElem_mem hl, ?_⟩
  have := atI_nat (xs := ds) (j := r.toNat) (List.getElem?_eq_getElem hl)
  rwa [Int.toNat_of_nonneg h0] at this
theorem v__law_some : VC ct_some (b__law_some ct_roll) 2 0 := by
  rintro τ0 Xp Q - - ⟨a, b, ds, rfl, hn, hl, h⟩
  have hp : 0 < ds.length := List.length_pos_iff.mpr hn
  refine ⟨_, rfl, ⟨_, rfl⟩, _, rfl, _, len_list _, _, rfl, ⟨rfl, nd0⟩, _, _, _, rfl, by omega, Int.lt_of_le_of_lt (b := 1000) (by omega) (by decide), fun r a' b' r0 r1 => ?_⟩
  obtain ⟨d, m, e⟩ := at_lt r0 r1
  exact ⟨_, e, _, rfl, h d a' b' m⟩
end K16
end

section
set_option maxRecDepth 100000
namespace K16
open PySem PySem.Spec PyProof.Rows L2 PV
set_option autoImplicit false
/-! ### comprehensions that draw -/
theorem lc_cup {i : Nat} {S : Int → Int → Ta} {e : WE} {G : D → Prop} (h0 : ∀ a b, (S a b)[i]? = some .un) : ∀ (ds acc : List D) (P : List D → Ta → Prop) (a b : Int),
    (∀ d ∈ ds, ∀ (a b : Int) (P : D → Ta → Prop), (∀ (r : D) (a' b' : Int), G r → P r ((S a' b').set i (.val d))) → e ((S a b).set i (.val d)) (fun _ _ => False) P) →
    acc.length + ds.length ≤ sizeLine → (∀ (rs : List D) (a' b' : Int), rs.length = ds.length → (∀ r ∈ rs, G r) → P (acc ++ rs) (S a' b')) → lcW (gN i) wYes e [i] ds acc P (S a b)
  | [], acc, P, a, b, _, _, h => by
    have := h [] a b rfl (fun _ m => nomatch m)
    rw [List.append_nil] at this
    exact this
  | d :: ds, acc, P, a, b, he, hl, h => by
    rw [List.length_cons] at hl
    refine ⟨okSet_at (h0 a b) (.inl rfl), ?_⟩
    show (if true = true then e ((S a b).set i (.val d)) (fun _ _ => False) (fun r τ3 => acc.length < sizeLine ∧ lcW (gN i) wYes e [i] ds (acc ++ [r]) P (wipeT τ3 [i])) else lcW (gN i) wYes e [i] ds acc P (wipeT ((S a b).set i (.val d)) [i]))
    rw [if_pos rfl]
    refine he d List.mem_cons_self a b _ fun r a' b' g => ⟨by omega, ?_⟩
    have back : wipeT ((S a' b').set i (.val d)) [i] = S a' b' := set_id (h0 a' b') _
    rw [back]
    refine lc_cup h0 ds (acc ++ [r]) P a' b' (fun d m => he d (List.mem_cons_of_mem _ m)) (by rw [List.length_append, List.length_singleton]; omega) fun rs a2 b2 hn hg => ?_
    rw [List.append_assoc]
    exact h (r :: rs) a2 b2 (congrArg (· + 1) hn) fun x m => (List.mem_cons.mp m).elim (fun e => by rw [e]; exact g) (hg x)
theorem wlc_cup {i : Nat} {S : Int → Int → Ta} {s : WI} {e : WE} {G : D → Prop} {ds : List D} {τ : Ta} {X : XP} {P : List D → Ta → Prop} (src : ∀ P : List D → Ta → Prop, (∀ a b, P ds (S a b)) → s τ X P) (h0 : ∀ a b, (S a b)[i]? = some .un) (hl : ds.length ≤ sizeLine)
    (he : ∀ d ∈ ds, ∀ (a b : Int) (P : D → Ta → Prop), (∀ (r : D) (a' b' : Int), G r → P r ((S a' b').set i (.val d))) → e ((S a b).set i (.val d)) (fun _ _ => False) P)
    (h : ∀ (rs : List D) (a' b' : Int), rs.length = ds.length → (∀ r ∈ rs, G r) → P rs (S a' b')) : wLC s (gN i) wYes e [i] τ X P := by
  refine src _ fun a b => ⟨⟨by rw [h0]; trivial, trivial⟩, ?_⟩
  have e1 : wipeT (S a b) [i] = S a b := by
    have := set_id (h0 a b) Sl.un
    rwa [List.set_set] at this
  rw [e1]
  refine lc_cup h0 ds [] _ a b he (by simpa using hl) fun rs a' b' hn hg => ?_
  have e2 : backT (S a b) (S a' b') [i] = S a' b' := by
    unfold backT
    rw [h0]
    have := set_id (h0 a' b') Sl.un
    rwa [List.set_set] at this
  rw [e2]
  exact h rs a' b' hn hg
/-! ### values as they are drawn -/
def fieldD (f : Str × D) : D := .tuple [.str f.1, f.2]
inductive GV : Nat → D → Prop
  | plain {n : Nat} {d : D} : plainOk d = true → short d = true → GV n d
  | list {n : Nat} {xs : List D} : xs.length ≤ 3 → (∀ x ∈ xs, GV n x) → GV (n + 1) (.tuple [.str "list", .tuple xs])
  | doc {n : Nat} {fs : List (Str × D)} : fs.length ≤ 3 → (∀ f ∈ fs, nameS f.1 = true ∧ f.1.length ≤ sizeLine) → (fs.map (·.1)).Nodup → (∀ f ∈ fs, GV n f.2) → GV (n + 1) (.tuple [.str "doc", .tuple (fs.map fieldD)])
theorem GV.short {n : Nat} {d : D} (h : GV n d) : PV.short d = true := by
  induction h with
  | plain _ h => exact h
  | list _ _ ih =>
    have : shortA _ = true := short_mem' ih
    simp only [PV.short, shortA, this]
    decide
  | @doc n fs _ hn _ _ ih =>
    have : shortA (fs.map fieldD) = true := short_mem' fun d m => by
      obtain ⟨f, hf, rfl⟩ := List.mem_map.mp m
      have h1 := ih f hf
      have h2 := (hn f hf).2
      simp [fieldD, PV.short, shortA, h1, h2]
    simp only [PV.short, shortA, this]
    decide
theorem fields_ok {fs : List (Str × D)} (hn : ∀ f ∈ fs, nameS f.1 = true ∧ f.1.length ≤ sizeLine) (hd : (fs.map (·.1)).Nodup) : fieldsOk (.tuple (fs.map fieldD)) = true := by
  have e : (fs.map fieldD).map kOf = fs.map (·.1) := by rw [List.map_map]; rfl
  have h1 : (fs.map fieldD).all fieldOk = true := by
    rw [List.all_eq_true]
    intro d m
    obtain ⟨f, hf, rfl⟩ := List.mem_map.mp m
    exact (hn f hf).1
  show ((fs.map fieldD).all fieldOk && distinct ((fs.map fieldD).map kOf)) = true
  rw [h1, Bool.true_and, e, distinct, metS_nodup hd _ (Nat.le_refl _), List.take_length]
  exact beq_self_eq_true _
def cntV : Nat → Nat
  | 0 => 1
  | n + 1 => 1 + 3 * cntV n
theorem cntV_pos : ∀ n, 1 ≤ cntV n
  | 0 => Nat.le_refl _
  | n + 1 => by unfold cntV; omega
/-- a row of values, each judged in at most k steps -/
theorem runV_rows {k : Nat} {deep : Int} : ∀ xs : List D, (∀ x ∈ xs, ∃ c, c ≤ k ∧ ∀ fuel rest, runV (fuel + c) ((x, deep) :: rest) = runV fuel rest) →
    ∃ c, c ≤ xs.length * k ∧ ∀ fuel rest, runV (fuel + c) ((xs.map fun x => (x, deep)).reverse ++ rest) = runV fuel rest
  | [], _ => ⟨0, by simp, fun _ _ => rfl⟩
  | x :: xs, h => by
    obtain ⟨c1, l1, e1⟩ := h x List.mem_cons_self
    obtain ⟨c2, l2, e2⟩ := runV_rows xs fun y m => h y (List.mem_cons_of_mem _ m)
    refine ⟨c1 + c2, by rw [List.length_cons, Nat.add_mul]; omega, fun fuel rest => ?_⟩
    rw [List.map_cons, List.reverse_cons, List.append_assoc, ← Nat.add_assoc, e2]
    exact e1 fuel rest
theorem runV_step {n : Nat} {d : D} {deep : Int} {rest new : List (D × Int)} (h : stepV d deep = some new) : runV (n + 1) ((d, deep) :: rest) = runV n (new.reverse ++ rest) := by
  show (match stepV d deep with
    | none => some false
    | some new => runV n (new.reverse ++ rest)) = _
  rw [h]
theorem runV_GV {n : Nat} {d : D} (h : GV n d) : ∀ deep : Int, deep + n ≤ 7 → ∃ c, c ≤ cntV n ∧ ∀ fuel rest, runV (fuel + c) ((d, deep) :: rest) = runV fuel rest := by
  induction h with
  | plain h _ => exact fun deep _ => ⟨1, cntV_pos _, fun fuel rest => runV_step (new := []) (by rw [stepV, if_pos h])⟩
  | @list n xs hl _ ih =>
    intro deep hd
    obtain ⟨c, l, e⟩ := runV_rows (k := cntV n) (deep := deep + 1) xs fun x m => ih x m (deep + 1) (by omega)
    refine ⟨1 + c, by
      have := Nat.mul_le_mul_right (cntV n) hl
      unfold cntV
      omega, fun fuel rest => ?_⟩
    rw [Nat.add_comm 1 c, ← Nat.add_assoc, runV_step (new := xs.map fun x => (x, deep + 1))]
    · exact e fuel rest
    · have hd' : ¬ 6 < deep := by omega
      have hk : isKnot (.tuple [.str "list", .tuple xs]) = true := by
        have : isTup 0 16 (.tuple xs) = true := by simp [isTup]; omega
        simp only [isKnot, this]
        decide
      have hdoc : isDoc (.tuple [.str "list", .tuple xs]) = false := by show (("list" : Str) == "doc") = false; decide
      rw [stepV, if_neg (fun z => nomatch z), if_neg (by simp [hd', hk, hdoc])]
      have : innerOf (.tuple [.str "list", .tuple xs]) = xs := by
        show (if (("list" : Str) == "doc") = true then xs.map vOf else xs) = xs
        exact if_neg (by decide)
      rw [this]
  | @doc n fs hl hn hdis _ ih =>
    intro deep hd
    obtain ⟨c, l, e⟩ := runV_rows (k := cntV n) (deep := deep + 1) (fs.map (·.2)) fun x m => by
      obtain ⟨f, hf, rfl⟩ := List.mem_map.mp m
      exact ih f hf (deep + 1) (by omega)
    rw [List.length_map] at l
    refine ⟨1 + c, by
      have := Nat.mul_le_mul_right (cntV n) hl
      unfold cntV
      omega, fun fuel rest => ?_⟩
    rw [Nat.add_comm 1 c, ← Nat.add_assoc, runV_step (new := (fs.map (·.2)).map fun x => (x, deep + 1))]
    · exact e fuel rest
    · have hd' : ¬ 6 < deep := by omega
      have hk : isKnot (.tuple [.str "doc", .tuple (fs.map fieldD)]) = true := by
        have : isTup 0 16 (.tuple (fs.map fieldD)) = true := by simp [isTup]; omega
        simp only [isKnot, this]
        decide
      have hf : fieldsOk (vOf (.tuple [.str "doc", .tuple (fs.map fieldD)])) = true := fields_ok hn hdis
      rw [stepV, if_neg (fun z => nomatch z), if_neg (by simp [hd', hk, hf])]
      have : innerOf (.tuple [.str "doc", .tuple (fs.map fieldD)]) = (fs.map fieldD).map vOf := by
        show (if (("doc" : Str) == "doc") = true then (fs.map fieldD).map vOf else fs.map fieldD) = _
        exact if_pos (by decide)
      rw [this, List.map_map, List.map_map, List.map_map]
      rfl
theorem fitsV_GV {n : Nat} {d : D} (h : GV n d) (hn : n ≤ 5) : fitsV d = some true := by
  obtain ⟨c, l, e⟩ := runV_GV h 1 (by omega)
  have hc : c ≤ 900 := Nat.le_trans l (by
    have h5 : ∀ n, n ≤ 5 → cntV n ≤ 900 := by decide
    exact h5 n hn)
  have := e (900 - c) []
  rw [Nat.sub_add_cancel hc] at this
  unfold fitsV
  rw [this]
  cases 900 - c <;> rfl
end K16
end

section
set_option maxRecDepth 100000
namespace K16
open PySem PySem.Spec PyProof.Rows L2 PV
set_option autoImplicit false
theorem lcc {i : Nat} {S : Int → Int → Ta} {e : WE} {G : D → Prop} {ds : List D} {P : List D → Ta → Prop} (h0 : ∀ a b, (S a b)[i]? = some .un) (hl : ds.length ≤ sizeLine)
    (he : ∀ d ∈ ds, ∀ (a b : Int) (P : D → Ta → Prop), (∀ (r : D) (a' b' : Int), G r → P r ((S a' b').set i (.val d))) → e ((S a b).set i (.val d)) (fun _ _ => False) P)
    (h : ∀ (rs : List D) (a' b' : Int), rs.length = ds.length → (∀ r ∈ rs, G r) → P rs (S a' b')) (a b : Int) :
    okW (S a b) [i] ∧ lcW (gN i) wYes e [i] ds [] (fun acc τ2 => P acc (backT (S a b) τ2 [i])) (wipeT (S a b) [i]) :=
  wlc_cup (s := fun τ _ P => P ds τ) (τ := S a b) (X := fun _ _ => False) (fun P p => p a b) h0 hl he h
theorem sC {a b : WS} {E : PEn} {X : XP} {τ : Ta} (h : a { E with nx := fun τ1 => b E X τ1 } X τ) : sCons a b E X τ := h
theorem sL {i : Nat} {w : WA} {E : PEn} {X : XP} {τ : Ta} (h : w τ X fun ds τ1 => okSet τ1 i ∧ E.nx (τ1.set i (.val (.list ds)))) : sSetL i w E X τ := h
theorem for_go {g : WG} {b : WS} {E : PEn} {X : XP} (I : List D → Ta → Prop) (done : ∀ τ, I [] τ → E.nx τ)
    (step : ∀ d ds τ, I (d :: ds) τ → (∀ τ', I ds τ' → forW g b ds E X τ') → g d τ fun τ1 => b { E with nx := fun τ2 => forW g b ds E X τ2, ct := fun τ2 => forW g b ds E X τ2, bk := E.nx } X τ1) :
    ∀ ds τ, I ds τ → forW g b ds E X τ
  | [], τ, h => done τ h
  | d :: ds, τ, h => step d ds τ h fun τ' h' => for_go I done step ds τ' h'
theorem lt_int (a b : Int) : ltD (.int a) (.int b) = some (.bool (decide (a < b))) := rfl
theorem sub_int (a b : Int) : subD (.int a) (.int b) = some (.int (a - b)) := rfl
theorem pow12 : powD (.int 10) (.int 12) = some (.int (10 ^ 12)) := rfl
theorem plainL {n : Nat} {L : List D} (h : (L.all fun d => plainOk d && short d) = true) : ∀ d ∈ L, GV n d := fun d m => by
  have := List.all_eq_true.mp h d m
  rw [Bool.and_eq_true] at this
  exact .plain this.1 this.2
theorem rng_len (j : Int) : (rngD 0 j.toNat).length = j.toNat := by simp [rngD]
def ct_V (n : Nat) : WE := fun τ _ P => ∃ a b k : Int, τ = [.io [.int a, .int b], .val (.int k)] ∧ k = n ∧ ∀ (d : D) (a' b' : Int), GV n d → P d [.io [.int a', .int b'], .val (.int k)]
def ct_D (n : Nat) : WE := fun τ _ P => ∃ a b k m : Int, τ = [.io [.int a, .int b], .val (.int k), .val (.int m)] ∧ k = n ∧ 0 ≤ m ∧ m ≤ 3 ∧
  ∀ (fs : List (Str × D)) (a' b' : Int), fs.length ≤ 3 → (∀ f ∈ fs, nameS f.1 = true ∧ f.1.length ≤ sizeLine) → (fs.map (·.1)).Nodup → (∀ f ∈ fs, GV n f.2) → P (.tuple (fs.map fieldD)) [.io [.int a', .int b'], .val (.int k), .val (.int m)]
theorem v_value_plain {n : Nat} {ct1 ct2 : WE} {Q : D → Ta → Prop} {Xp : XP} {a0 b0 a b k r : Int} (hr : r < 7) (h : ∀ (d : D) (a' b' : Int), GV n d → Q d [.io [.int a', .int b'], .val (.int k)]) {rest : WS} :
    sCons (sIf (wTru (wOp ltD (wVar 2) (wC (.int 4)))) (sRet (wFn 2 ct_some (arS 0 (arE (wLst (wCons (wC (.int 0)) (wCons (wC (.int 1)) (wCons (wC (.int 2)) (wCons (wC (.int 3)) (wCons (wC (.int 5)) (wCons (wC (.int 7)) (wCons (wUn negD (wC (.int 1))) (wCons (wC (.int 10)) (wCons (wOp powD (wC (.int 10)) (wC (.int 12))) (wNil))))))))))) (arNil))))) (sNil))
      (sCons (sIf (wTru (wOp ltD (wVar 2) (wC (.int 7)))) (sRet (wIf (wTru (wOp eqD (wVar 2) (wC (.int 4)))) (wFn 2 ct_some (arS 0 (arE (wLst (wCons (wC .none) (wCons (wC (.bool true)) (wCons (wC (.bool false)) (wNil))))) (arNil)))) (wFn 2 ct_some (arS 0 (arE (wLst (wCons (wC (.str "")) (wCons (wC (.str "a")) (wCons (wC (.str "b")) (wCons (wC (.str "ab")) (wCons (wC (.str "B 7")) (wCons (wC (.str "~")) (wNil)))))))) (arNil)))))) (sNil)) rest)
      (endE [.io [.int a0, .int b0], .val (.int k)] Q) (endX [.io [.int a0, .int b0], .val (.int k)] Xp) [.io [.int a, .int b], .val (.int k), .val (.int r), .un] := by
  refine ⟨_, rfl, _, lt_int _ _, _, rfl, ?_⟩
  by_cases h4 : r < 4
  · refine ifT (decide_eq_true h4) ⟨⟨_, rfl⟩, _, rfl, _, pow12, show (9 : Nat) ≤ sizeLine by decide, _, rfl, ⟨rfl, nd0⟩, _, _, _, rfl, List.cons_ne_nil _ _, show (9 : Nat) ≤ 1000 by decide, fun d a' b' m => ⟨_, rfl, h d a' b' (plainL (by decide +kernel) d m)⟩⟩
  refine ifF (decide_eq_false h4) ⟨_, rfl, _, lt_int _ _, _, rfl, ifT (decide_eq_true hr) ⟨_, rfl, _, deq_int _ _, _, rfl, ?_⟩⟩
  cases h5 : (r == 4) with
  | true => exact ifT rfl ⟨⟨_, rfl⟩, show (3 : Nat) ≤ sizeLine by decide, _, rfl, ⟨rfl, nd0⟩, _, _, _, rfl, List.cons_ne_nil _ _, show (3 : Nat) ≤ 1000 by decide, fun d a' b' m => ⟨_, rfl, h d a' b' (plainL (by decide +kernel) d m)⟩⟩
  | false => exact ifF rfl ⟨⟨_, rfl⟩, show (6 : Nat) ≤ sizeLine by decide, _, rfl, ⟨rfl, nd0⟩, _, _, _, rfl, List.cons_ne_nil _ _, show (6 : Nat) ≤ 1000 by decide, fun d a' b' m => ⟨_, rfl, h d a' b' (plainL (by decide +kernel) d m)⟩⟩
theorem v__law_value0 {ct1 ct2 : WE} : VC (ct_V 0) (b__law_value ct1 ct_roll ct_some ct2) 2 2 := by
  rintro τ0 Xp Q - - ⟨a, b, k, rfl, hk, h⟩
  have h0 : ¬ 0 < k := by omega
  refine ⟨⟨_, rfl⟩, _, rfl, _, gt_int0 _, _, rfl, ifF (decide_eq_false h0) ⟨_, rfl, ⟨rfl, nd0⟩, _, _, _, rfl, by decide, by decide, fun r a' b' r0 r1 => ⟨trivial, ?_⟩⟩⟩
  exact v_value_plain (n := 0) (by omega) h (ct1 := ct1) (ct2 := ct2)
theorem v__law_value {n : Nat} : VC (ct_V (n + 1)) (b__law_value (ct_D n) ct_roll ct_some (ct_V n)) 2 2 := by
  rintro τ0 Xp Q - - ⟨a, b, k, rfl, hk, h⟩
  have h0 : 0 < k := by omega
  refine ⟨⟨_, rfl⟩, _, rfl, _, gt_int0 _, _, rfl, ifT (decide_eq_true h0) ⟨_, rfl, ⟨rfl, nd0⟩, _, _, _, rfl, by decide, by decide, fun r a' b' r0 r1 => ⟨trivial, ?_⟩⟩⟩
  by_cases h7 : r < 7
  · exact v_value_plain (n := n + 1) h7 h (ct1 := ctNo) (ct2 := ctNo)
  have h4 : ¬ r < 4 := by omega
  refine ⟨_, rfl, _, lt_int _ _, _, rfl, ifF (decide_eq_false h4) ⟨_, rfl, _, lt_int _ _, _, rfl, ifF (decide_eq_false h7) ⟨_, rfl, _, lt_int _ _, _, rfl, ?_⟩⟩⟩
  by_cases h10 : r < 10
  · refine ifT (decide_eq_true h10) ⟨⟨_, rfl⟩, _, rfl, ⟨rfl, nd0⟩, _, _, _, rfl, by decide, by decide, fun q a2 b2 q0 q1 => ⟨q, rfl, ⟨by omega, by omega⟩, ?_⟩⟩
    refine lcc (S := fun a b => [.io [.int a, .int b], .val (.int k), .val (.int r), .un]) (G := GV n) (fun _ _ => rfl) (by rw [rng_len]; exact Nat.le_trans (by omega : q.toNat ≤ 4) (by decide)) (fun d m a b P p => ?_) (fun rs a3 b3 hn hg => ?_) a2 b2
    · exact ⟨⟨_, rfl⟩, _, rfl, _, sub_int _ _, _, rfl, ⟨rfl, nd0⟩, _, _, _, rfl, by omega, fun d a' b' g => p d a' b' g⟩
    · rw [rng_len] at hn
      exact ⟨_, rfl, show (2 : Nat) ≤ sizeLine by decide, _, rfl, h _ _ _ (.list (by omega) hg)⟩
  · refine ifF (decide_eq_false h10) ⟨⟨_, rfl⟩, _, rfl, _, sub_int _ _, ⟨_, rfl⟩, _, rfl, ⟨rfl, nd0⟩, _, _, _, rfl, by decide, by decide, fun q a2 b2 q0 q1 => ?_⟩
    exact ⟨_, rfl, ⟨rfl, nd0⟩, _, _, _, _, rfl, by omega, q0, by omega, fun fs a3 b3 f1 f2 f3 f4 => ⟨show (2 : Nat) ≤ sizeLine by decide, _, rfl, h _ _ _ (.doc f1 f2 f3 f4)⟩⟩
def base4 : List Str := ["a", "b", "c", "d1"]
theorem base4_ok : ∀ z ∈ base4, nameS z = true ∧ z.length ≤ sizeLine := fun z m => by
  have : (base4.all fun z => nameS z && decide (z.length ≤ sizeLine)) = true := by decide +kernel
  have := List.all_eq_true.mp this z m
  rw [Bool.and_eq_true, decide_eq_true_eq] at this
  exact this
def neS (z : Str) : D → Bool
  | .str y => !(y == z)
  | _ => false
theorem v__law_drawn_fields {n : Nat} : VC (ct_D n) (b__law_drawn_fields ct_some (ct_V n)) 3 5 := by
  rintro τ0 Xp Q - - ⟨a, b, k, m, rfl, hk, m0, m3, h⟩
  refine ⟨Nat.zero_le _, show (4 : Nat) ≤ sizeLine by decide, trivial, trivial, by decide, ?_⟩
  refine ⟨_, rfl, m, rfl, ⟨by omega, by omega⟩, ?_⟩
  refine for_go (fun ds τ => ∃ (a b : Int) (fs : List (Str × D)) (ns : List Str) (s5 s6 s7 : Sl), τ = [.io [.int a, .int b], .val (.int k), .val (.int m), .val (.tuple (fs.map fieldD)), .val (.list (ns.map .str)), s5, s6, s7] ∧ slotV s5 ∧ slotV s6 ∧ slotV s7 ∧
      fs.length + ds.length ≤ 3 ∧ (fs.map (·.1) ++ ns).Perm base4 ∧ ∀ f ∈ fs, GV n f.2) ?_ ?_ _ _ ⟨a, b, [], base4, .un, .un, .un, rfl, .inl rfl, .inl rfl, .inl rfl, by rw [rng_len]; simp; omega, List.Perm.refl _, fun _ m => nomatch m⟩
  · rintro τ ⟨a, b, fs, ns, s5, s6, s7, rfl, v5, v6, v7, hl, hp, hg⟩
    refine ⟨_, rfl, _, rfl, h fs a b (by simpa using hl) (fun f hf => base4_ok _ (hp.subset (List.mem_append_left _ (List.mem_map_of_mem hf)))) ?_ hg⟩
    exact (List.nodup_append.mp (hp.nodup_iff.mpr (by decide +kernel))).1
  · rintro d ds τ ⟨a, b, fs, ns, s5, s6, s7, rfl, v5, v6, v7, hl, hp, hg⟩ next
    rw [List.length_cons] at hl
    have hlen := hp.length_eq
    rw [List.length_append, List.length_map, show base4.length = 4 from rfl] at hlen
    have hne : ns ≠ [] := fun e => by rw [e] at hlen; simp at hlen; omega
    refine ⟨okSet_at rfl v5, ⟨_, rfl⟩, _, rfl, _, rfl, ⟨rfl, nd0⟩, _, _, _, rfl, fun e => hne (by simpa using e), by rw [List.length_map]; omega, fun d2 a' b' md => ?_⟩
    obtain ⟨z, hz, rfl⟩ := List.mem_map.mp md
    refine ⟨okSet_at rfl v6, ?_⟩
    have hnd : (fs.map (·.1) ++ ns).Nodup := hp.nodup_iff.mpr (by decide +kernel)
    dsimp only [sCons, sSetL]
    refine wlc_filter (ds := ns.map .str) (τ1 := [.io [.int a', .int b'], .val (.int k), .val (.int m), .val (.tuple (fs.map fieldD)), .val (.list (ns.map .str)), .val d, .val (.str z), s7]) (fun P p => ⟨_, rfl, _, rfl, p⟩) (neS z) id (u := s7) rfl ?_ (by rw [List.length_map]; exact Nat.le_trans (by omega : ns.length ≤ 4) (by decide)) (fun d2 m2 P p => ?_) (fun d2 m2 _ P p => ⟨_, rfl, p⟩) ?_
    · rcases v7 with rfl | ⟨_, rfl⟩ <;> trivial
    · obtain ⟨y, hy, rfl⟩ := List.mem_map.mp m2
      exact ⟨_, rfl, _, rfl, _, dne_str _ _, _, rfl, p⟩
    · have e1 : ((ns.map PyData.str).filter (neS z)).map id = (ns.erase z).map .str := by
        rw [List.map_id, List.Nodup.erase_eq_filter (List.nodup_append.mp hnd).2.1, List.filter_map]
        rfl
      rw [e1]
      refine ⟨trivial, ?_⟩
      refine ⟨_, rfl, _, rfl, ⟨_, rfl⟩, _, rfl, _, rfl, ⟨rfl, nd0⟩, _, _, _, rfl, hk, fun v a2 b2 gv => ?_⟩
      refine ⟨show (2 : Nat) ≤ sizeLine by decide, show (1 : Nat) ≤ sizeLine by decide, .tuple ((fs ++ [(z, v)]).map fieldD), ?_, trivial, ?_⟩
      · rw [List.map_append]
        exact if_pos (by rw [List.length_map]; exact Nat.le_trans (by show fs.length + 1 ≤ 4; omega) (by decide))
      · refine next _ ⟨a2, b2, fs ++ [(z, v)], ns.erase z, .val d, .val (.str z), s7, rfl, .inr ⟨_, rfl⟩, .inr ⟨_, rfl⟩, v7, by rw [List.length_append, List.length_singleton]; omega, ?_, fun f hf => ?_⟩
        · rw [List.map_append, List.append_assoc]
          exact (List.Perm.append_left _ (List.perm_cons_erase hz).symm).trans hp
        · rcases List.mem_append.mp hf with q | q
          · exact hg f q
          · rw [List.mem_singleton.mp q]; exact gv
end K16
end

section
set_option maxRecDepth 100000
namespace K16
open PySem PySem.Spec PyProof.Rows L2 PV
set_option autoImplicit false
/-! ### filters as they are drawn -/
theorem in_every (r : List D) : innerF "every" r = some (if r.isEmpty then some [] else none) := if_pos (by decide)
theorem in_test (r : List D) : innerF "test" r = (testOk r).map fun b => if b then some [] else none := by
  unfold innerF
  rw [if_neg (by decide), if_pos (by decide)]
theorem in_not (r : List D) : innerF "not" r = some (oneOf1 r) := by
  unfold innerF
  rw [if_neg (by decide), if_neg (by decide), if_pos (by decide)]
theorem in_any (r : List D) : innerF "any" r = some (anyOf r) := by
  unfold innerF
  rw [if_neg (by decide), if_neg (by decide), if_neg (by decide), if_pos (by decide)]
theorem in_and (r : List D) : innerF "and" r = some (rowsOf r) := by
  unfold innerF
  rw [if_neg (by decide), if_neg (by decide), if_neg (by decide), if_neg (by decide), if_pos (by decide)]
theorem in_or (r : List D) : innerF "or" r = some (rowsOf r) := by
  unfold innerF
  rw [if_neg (by decide), if_neg (by decide), if_neg (by decide), if_neg (by decide), if_pos (by decide)]
def fwords : List Str := ["every", "test", "not", "any", "and", "or"]
theorem in_other {w : Str} (h : w ∉ fwords) (r : List D) : innerF w r = some none := by
  simp [fwords] at h
  obtain ⟨h1, h2, h3, h4, h5, h6⟩ := h
  unfold innerF
  rw [if_neg (by simpa using h1), if_neg (by simpa using h2), if_neg (by simpa using h3), if_neg (by simpa using h4), if_neg (by simp; exact ⟨fun e => h5 e.symm, fun e => h6 e.symm⟩)]
def bad (d : D) : Bool := match stepF d with
  | some none => true
  | _ => false
theorem bad_iff {d : D} (h : bad d = true) : stepF d = some none := by
  unfold bad at h
  split at h
  · assumption
  · cases h
theorem bad_word {w : Str} (h : w ∉ fwords) (r : List D) : stepF (.tuple (.str w :: r)) = some none := by
  show (if r.length ≤ 3 then innerF w r else some none) = _
  rw [in_other h]
  split <;> rfl
theorem GV.bad {n : Nat} {d : D} (h : GV n d) : stepF d = some none := by
  cases h with
  | plain h _ => cases d <;> first | rfl | (exact nomatch h)
  | list => exact bad_word (by decide) _
  | doc => exact bad_word (by decide) _
inductive GF : Nat → D → Prop
  | every {n : Nat} : GF n (.tuple [.str "every"])
  | test {n : Nat} {p v : D} {w : Str} : pathOk p = true → short p = true → stepF p = some none → told w v = some true → short v = true → stepF v = some none → w.length ≤ sizeLine → GF n (.tuple [.str "test", p, .str w, v])
  | not {n : Nat} {d : D} : GF n d → GF (n + 1) (.tuple [.str "not", d])
  | any {n : Nat} {p d : D} : pathOk p = true → short p = true → stepF p = some none → GF n d → GF (n + 1) (.tuple [.str "any", p, d])
  | all {n : Nat} {xs : List D} : xs.length ≤ 3 → (∀ x ∈ xs, GF n x) → GF (n + 1) (.tuple [.str "and", .tuple xs])
  | or {n : Nat} {xs : List D} : xs.length ≤ 3 → (∀ x ∈ xs, GF n x) → GF (n + 1) (.tuple [.str "or", .tuple xs])
theorem GF.short {n : Nat} {d : D} (h : GF n d) : PV.short d = true := by
  induction h with
  | every => decide
  | test _ h1 _ _ h2 _ h3 => simp only [PV.short, shortA, h1, h2, decide_eq_true h3]; decide
  | not _ ih => simp only [PV.short, shortA, ih]; decide
  | any _ h1 _ _ ih => simp only [PV.short, shortA, h1, ih]; decide
  | all _ _ ih =>
    have : shortA _ = true := short_mem' ih
    simp only [PV.short, shortA, this]; decide
  | or _ _ ih =>
    have : shortA _ = true := short_mem' ih
    simp only [PV.short, shortA, this]; decide
def cntF : Nat → Nat
  | 0 => 1
  | n + 1 => 1 + 3 * cntF n
theorem cntF_pos : ∀ n, 1 ≤ cntF n
  | 0 => Nat.le_refl _
  | n + 1 => by unfold cntF; omega
theorem runF_step {n : Nat} {d : D} {deep many : Int} {rest : List (D × Int)} {new : List D} (h : stepF d = some (some new)) (h1 : many + 1 ≤ 40) (h2 : deep ≤ 5) :
    runF (n + 1) ((d, deep) :: rest) many = runF n ((new.map fun x => (x, deep + 1)).reverse ++ rest) (many + 1) := by
  show (if decide (40 < many + 1) || decide (5 < deep) then some false else match stepF d with
    | none => none
    | some none => some false
    | some (some new) => runF n ((new.map fun x => (x, deep + 1)).reverse ++ rest) (many + 1)) = _
  rw [if_neg (by simp; omega), h]
theorem runF_bad {n : Nat} {d : D} {deep many : Int} {rest : List (D × Int)} (h : stepF d = some none) : runF (n + 1) ((d, deep) :: rest) many = some false := by
  show (if decide (40 < many + 1) || decide (5 < deep) then some false else match stepF d with
    | none => none
    | some none => some false
    | some (some new) => runF n ((new.map fun x => (x, deep + 1)).reverse ++ rest) (many + 1)) = _
  rw [h]
  split <;> rfl
def Runs (n : Nat) (d : D) (c : Nat) : Prop := ∀ (fuel : Nat) (rest : List (D × Int)) (many deep : Int), deep + n ≤ 5 → many + c ≤ 40 → runF (fuel + c) ((d, deep) :: rest) many = runF fuel rest (many + c)
theorem runF_rows {n k : Nat} : ∀ xs : List D, (∀ x ∈ xs, ∃ c, c ≤ k ∧ Runs n x c) →
    ∃ c, c ≤ xs.length * k ∧ ∀ (fuel : Nat) (rest : List (D × Int)) (many deep : Int), deep + n ≤ 5 → many + c ≤ 40 → runF (fuel + c) ((xs.map fun x => (x, deep)).reverse ++ rest) many = runF fuel rest (many + c)
  | [], _ => ⟨0, by simp, fun _ _ many _ _ _ => by simp⟩
  | x :: xs, h => by
    obtain ⟨c1, l1, e1⟩ := h x List.mem_cons_self
    obtain ⟨c2, l2, e2⟩ := runF_rows xs fun y m => h y (List.mem_cons_of_mem _ m)
    refine ⟨c1 + c2, by rw [List.length_cons, Nat.add_mul]; omega, fun fuel rest many deep hd hm => ?_⟩
    rw [List.map_cons, List.reverse_cons, List.append_assoc, ← Nat.add_assoc, e2 _ _ _ _ hd (by omega)]
    show runF (fuel + c1) ((x, deep) :: rest) (many + c2) = _
    rw [e1 _ _ _ _ hd (by omega)]
    congr 1
    omega
theorem GF.rows {n : Nat} {xs : List D} (hl : xs.length ≤ 3) (ih : ∀ x ∈ xs, ∃ c, c ≤ cntF n ∧ Runs n x c) {d : D} (hs : stepF d = some (some xs)) : ∃ c, c ≤ cntF (n + 1) ∧ Runs (n + 1) d c := by
  obtain ⟨c, l, e⟩ := runF_rows xs ih
  refine ⟨1 + c, by
    have := Nat.mul_le_mul_right (cntF n) hl
    unfold cntF
    omega, fun fuel rest many deep hd hm => ?_⟩
  rw [Nat.add_comm 1 c, ← Nat.add_assoc, runF_step hs (by omega) (by omega), e _ _ _ _ (by omega) (by omega)]
  congr 1
  omega
theorem GF.runs {n : Nat} {d : D} (h : GF n d) : ∃ c, c ≤ cntF n ∧ Runs n d c := by
  induction h with
  | @every n => exact ⟨1, cntF_pos _, fun fuel rest many deep hd hm => runF_step (new := []) (in_every []) (by omega) (by omega)⟩
  | @test n p v w h1 _ _ h2 _ _ _ =>
    refine ⟨1, cntF_pos _, fun fuel rest many deep hd hm => runF_step (new := []) ?_ (by omega) (by omega)⟩
    show innerF "test" [p, .str w, v] = _
    rw [in_test, testOk, if_pos h1, h2]
    rfl
  | @not n d _ ih => exact GF.rows (xs := [d]) (by show 1 ≤ 3; decide) (fun x m => by rw [List.mem_singleton.mp m]; exact ih) (in_not [d])
  | @any n p d h1 _ _ _ ih =>
    refine GF.rows (xs := [d]) (by show 1 ≤ 3; decide) (fun x m => by rw [List.mem_singleton.mp m]; exact ih) ?_
    show innerF "any" [p, d] = _
    rw [in_any, anyOf, if_pos h1]
  | @all n xs hl _ ih =>
    refine GF.rows hl ih ?_
    show innerF "and" [.tuple xs] = _
    rw [in_and, rowsOf, if_pos (by omega)]
  | @or n xs hl _ ih =>
    refine GF.rows hl ih ?_
    show innerF "or" [.tuple xs] = _
    rw [in_or, rowsOf, if_pos (by omega)]
theorem cntF3 {n : Nat} (h : n ≤ 3) : cntF n ≤ 40 := by
  have : ∀ n, n ≤ 3 → cntF n ≤ 40 := by decide
  exact this n h
theorem GF.fits {n : Nat} {d : D} (h : GF n d) (hn : n ≤ 3) : fitsF d = some true := by
  obtain ⟨c, l, e⟩ := h.runs
  have hc := Nat.le_trans l (cntF3 hn)
  have := e (60 - c) [] 0 1 (by omega) (by omega)
  rw [Nat.sub_add_cancel (by omega)] at this
  unfold fitsF
  rw [this]
  cases 60 - c <;> rfl
end K16
end

section
set_option maxRecDepth 100000
namespace K16
open PySem PySem.Spec PyProof.Rows L2 PV
set_option autoImplicit false
def goodP (p : D) : Bool := pathOk p && short p && bad p
def ct_path : WE := fun τ _ P => ∃ a b : Int, τ = [.io [.int a, .int b]] ∧ ∀ (p : D) (a' b' : Int), pathOk p = true → short p = true → stepF p = some none → P p [.io [.int a', .int b']]
theorem goodL {L : List D} (h : L.all goodP = true) : ∀ p ∈ L, pathOk p = true ∧ short p = true ∧ stepF p = some none := fun p m => by
  have := List.all_eq_true.mp h p m
  rw [goodP, Bool.and_eq_true, Bool.and_eq_true] at this
  exact ⟨this.1.1, this.1.2, bad_iff this.2⟩
theorem add_list (x y : List D) (h : x.length + y.length ≤ sizeLine) : addD (.list x) (.list y) = some (.list (x ++ y)) := if_pos h
theorem v__law_path : VC ct_path (b__law_path ct_some) 1 1 := by
  rintro τ0 Xp Q - - ⟨a, b, rfl, h⟩
  refine ⟨show (1 : Nat) ≤ sizeLine by decide, show (1 : Nat) ≤ sizeLine by decide, show (1 : Nat) ≤ sizeLine by decide, show (1 : Nat) ≤ sizeLine by decide, show (1 : Nat) ≤ sizeLine by decide, show (2 : Nat) ≤ sizeLine by decide, show (2 : Nat) ≤ sizeLine by decide, show (2 : Nat) ≤ sizeLine by decide, show (2 : Nat) ≤ sizeLine by decide, show (2 : Nat) ≤ sizeLine by decide, show (10 : Nat) ≤ sizeLine by decide, trivial, ?_⟩
  refine ⟨⟨_, rfl⟩, _, rfl, show (3 : Nat) ≤ sizeLine by decide, show (3 : Nat) ≤ sizeLine by decide, show (1 : Nat) ≤ sizeLine by decide, show (0 : Nat) ≤ sizeLine by decide, show (4 : Nat) ≤ sizeLine by decide, _, add_list _ _ (show (14 : Nat) ≤ sizeLine by decide), _, rfl, ⟨rfl, nd0⟩, _, _, _, rfl, List.cons_ne_nil _ _, show (14 : Nat) ≤ 1000 by decide, fun d a' b' m => ?_⟩
  obtain ⟨h1, h2, h3⟩ := goodL (by decide +kernel) d m
  exact ⟨_, rfl, h d a' b' h1 h2 h3⟩
def wordsL : List Str := ["same", "other", "less", "atmost", "more", "atleast", "in", "has", "size", "is", "exists"]
def ct_words : WE := fun τ _ P => τ = [] ∧ P (.list (wordsL.map .str)) τ
theorem v__law_words : VC ct_words b__law_words 0 0 := by
  rintro τ0 Xp Q - - ⟨rfl, h⟩
  exact ⟨show (11 : Nat) ≤ sizeLine by decide, _, rfl, h⟩
def ct_told : WE := fun τ _ P => ∃ (a b : Int) (w : Str), τ = [.io [.int a, .int b], .val (.str w)] ∧ w ∈ wordsL ∧ ∀ (v : D) (a' b' : Int), told w v = some true → short v = true → stepF v = some none → P v [.io [.int a', .int b'], .val (.str w)]
theorem told_asks {w : Str} {d : D} {b : Bool} (h : asks w = true) (hv : fitsV d = some b) : told w d = some b := by rw [told, if_pos h]; exact hv
theorem told_lists {w : Str} {d : D} {b : Bool} (h : asks w = false) (h2 : lists w = true) (hv : fitsV d = some b) : told w d = some (b && isListD d) := by
  rw [told, if_neg (by rw [h]; decide), if_pos h2, hv]
  rfl
theorem told_size (d : D) : told "size" d = some (isWhole 0 16 d) := by
  unfold told
  rw [if_neg (by decide), if_neg (by decide), if_pos (by decide)]
theorem told_is (d : D) : told "is" d = some (kindD d) := by
  unfold told
  rw [if_neg (by decide), if_neg (by decide), if_neg (by decide), if_pos (by decide)]
theorem told_exists (d : D) : told "exists" d = some (isBoolD d) := by
  unfold told
  rw [if_neg (by decide), if_neg (by decide), if_neg (by decide), if_neg (by decide)]
  rfl
theorem words_of {w : Str} (m : w ∈ wordsL) : ((w = "in" ∨ w = "has") ∧ asks w = false ∧ lists w = true) ∨ w = "size" ∨ w = "is" ∨ w = "exists" ∨ ((("in" : Str) == w || ("has" : Str) == w) = false ∧ (w == "size") = false ∧ (w == "is") = false ∧ (w == "exists") = false ∧ asks w = true) := by
  revert w
  decide +kernel
theorem v__law_told : VC ct_told (b__law_told ct_roll ct_some (ct_V 1)) 2 1 := by
  rintro τ0 Xp Q - - ⟨a, b, w, rfl, hw, h⟩
  refine ⟨_, rfl, show (2 : Nat) ≤ sizeLine by decide, _, in2 _ _ _, _, rfl, ?_⟩
  rcases words_of hw with ⟨hw2, ha, hl⟩ | rfl | rfl | rfl | ⟨n1, n2, n3, n4, ha⟩
  · have e : (Str.ofString "in" == w || Str.ofString "has" == w) = true := by rcases hw2 with rfl | rfl <;> decide
    refine ifT e ⟨⟨_, rfl⟩, _, rfl, ⟨rfl, nd0⟩, _, _, _, rfl, by decide, by decide, fun q a2 b2 q0 q1 => ⟨q, rfl, ⟨by omega, by omega⟩, ?_⟩⟩
    refine lcc (S := fun a b => [.io [.int a, .int b], .val (.str w), .un]) (G := GV 1) (fun _ _ => rfl) (by rw [rng_len]; exact Nat.le_trans (by omega : q.toNat ≤ 4) (by decide)) (fun d m a b P p => ?_) (fun rs a3 b3 hn hg => ?_) a2 b2
    · exact ⟨⟨_, rfl⟩, _, rfl, ⟨rfl, nd0⟩, _, _, _, rfl, rfl, fun d a' b' g => p d a' b' g⟩
    · rw [rng_len] at hn
      have gl : GV 2 (.tuple [.str "list", .tuple rs]) := .list (by omega) hg
      exact ⟨_, rfl, show (2 : Nat) ≤ sizeLine by decide, _, rfl, h _ _ _ (told_lists ha hl (fitsV_GV gl (by decide))) gl.short gl.bad⟩
  · refine ifF rfl ⟨_, rfl, _, deq_str _ _, _, rfl, ifT rfl ⟨⟨_, rfl⟩, show (5 : Nat) ≤ sizeLine by decide, _, rfl, ⟨rfl, nd0⟩, _, _, _, rfl, List.cons_ne_nil _ _, show (5 : Nat) ≤ 1000 by decide, fun d a' b' m => ?_⟩⟩
    have hh : ∀ d ∈ ([.int 0, .int 1, .int 2, .int 3, .int 16] : List D), (isWhole 0 16 d && short d && bad d) = true := List.all_eq_true.mp (by decide +kernel)
    have := hh d m
    rw [Bool.and_eq_true, Bool.and_eq_true] at this
    exact ⟨_, rfl, h d a' b' (by rw [told_size, this.1.1]) this.1.2 (bad_iff this.2)⟩
  · refine ifF rfl ⟨_, rfl, _, deq_str _ _, _, rfl, ifF rfl ⟨_, rfl, _, deq_str _ _, _, rfl, ifF rfl ⟨_, rfl, _, deq_str _ _, _, rfl, ifT rfl ⟨⟨_, rfl⟩, show (6 : Nat) ≤ sizeLine by decide, _, rfl, ⟨rfl, nd0⟩, _, _, _, rfl, List.cons_ne_nil _ _, show (6 : Nat) ≤ 1000 by decide, fun d a' b' m => ?_⟩⟩⟩⟩
    have hh : ∀ d ∈ ([.str "null", .str "number", .str "text", .str "doc", .str "list", .str "truth"] : List D), (kindD d && short d && bad d) = true := List.all_eq_true.mp (by decide +kernel)
    have := hh d m
    rw [Bool.and_eq_true, Bool.and_eq_true] at this
    exact ⟨_, rfl, h d a' b' (by rw [told_is, this.1.1]) this.1.2 (bad_iff this.2)⟩
  · refine ifF rfl ⟨_, rfl, _, deq_str _ _, _, rfl, ifF rfl ⟨_, rfl, _, deq_str _ _, _, rfl, ifT rfl ⟨⟨_, rfl⟩, _, rfl, ⟨rfl, nd0⟩, _, _, _, rfl, by decide, by decide, fun q a2 b2 q0 q1 => ⟨_, deq_int _ _, _, rfl, h _ _ _ (by rw [told_exists]; rfl) rfl rfl⟩⟩⟩⟩
  · refine ifF n1 ⟨_, rfl, _, deq_str _ _, _, rfl, ifF n2 ⟨_, rfl, _, deq_str _ _, _, rfl, ifF n4 ⟨_, rfl, _, deq_str _ _, _, rfl, ifF n3 ⟨⟨_, rfl⟩, _, rfl, ⟨rfl, nd0⟩, _, _, _, rfl, rfl, fun d a' b' g => ⟨_, rfl, h d a' b' (told_asks ha (fitsV_GV g (by decide))) g.short g.bad⟩⟩⟩⟩⟩
def ct_F (n : Nat) : WE := fun τ _ P => ∃ a b k : Int, τ = [.io [.int a, .int b], .val (.int k)] ∧ k = n ∧ ∀ (d : D) (a' b' : Int), GF n d → P d [.io [.int a', .int b'], .val (.int k)]
theorem v_filter_plain {n : Nat} {Q : D → Ta → Prop} {Xp : XP} {a0 b0 a b k r : Int} (hr : r < 5) (h : ∀ (d : D) (a' b' : Int), GF n d → Q d [.io [.int a', .int b'], .val (.int k)]) {rest : WS} :
    sCons (sIf (wTru (wOp ltD (wVar 2) (wC (.int 5)))) (sCons (sAsg (wFn 2 ct_some (arS 0 (arE (wFn 0 ct_words arNil) (arNil)))) (gN 3))
  (sRet (wTup (wCons (wC (.str "test")) (wCons (wFn 1 ct_path (arS 0 (arNil))) (wCons (wVar 3) (wCons (wFn 2 ct_told (arS 0 (arE (wVar 3) (arNil)))) (wNil)))))))) (sNil)) rest
      (endE [.io [.int a0, .int b0], .val (.int k)] Q) (endX [.io [.int a0, .int b0], .val (.int k)] Xp) [.io [.int a, .int b], .val (.int k), .val (.int r), .un, .un] := by
  refine ⟨_, rfl, _, lt_int _ _, _, rfl, ifT (decide_eq_true hr) ?_⟩
  refine ⟨⟨_, rfl⟩, _, rfl, ⟨rfl, .nil⟩, rfl, _, rfl, ⟨rfl, nd0⟩, _, _, _, rfl, List.cons_ne_nil _ _, show (11 : Nat) ≤ 1000 by decide, fun d a1 b1 m => ?_⟩
  obtain ⟨w, hw, rfl⟩ := List.mem_map.mp m
  refine ⟨trivial, ⟨_, rfl⟩, _, rfl, ⟨rfl, nd0⟩, _, _, rfl, fun p a2 b2 p1 p2 p3 => ⟨_, rfl, ⟨_, rfl⟩, _, rfl, _, rfl, ⟨rfl, nd0⟩, _, _, _, rfl, hw, fun v a3 b3 v1 v2 v3 => ⟨show (4 : Nat) ≤ sizeLine by decide, _, rfl, h _ _ _ (.test p1 p2 p3 v1 v2 v3 ?_)⟩⟩⟩
  have : ∀ w ∈ wordsL, w.length ≤ sizeLine := by decide +kernel
  exact this w hw
theorem v__law_filter0 {ct : WE} : VC (ct_F 0) (b__law_filter ct ct_path ct_roll ct_some ct_told ct_words) 2 3 := by
  rintro τ0 Xp Q - - ⟨a, b, k, rfl, hk, h⟩
  have h0 : ¬ 0 < k := by omega
  refine ⟨⟨_, rfl⟩, _, rfl, _, gt_int0 _, _, rfl, ifF (decide_eq_false h0) ⟨_, rfl, ⟨rfl, nd0⟩, _, _, _, rfl, by decide, by decide, fun r a' b' r0 r1 => ⟨trivial, ?_⟩⟩⟩
  exact v_filter_plain (n := 0) r1 h
theorem v__law_filter {n : Nat} : VC (ct_F (n + 1)) (b__law_filter (ct_F n) ct_path ct_roll ct_some ct_told ct_words) 2 3 := by
  rintro τ0 Xp Q - - ⟨a, b, k, rfl, hk, h⟩
  have h0 : 0 < k := by omega
  refine ⟨⟨_, rfl⟩, _, rfl, _, gt_int0 _, _, rfl, ifT (decide_eq_true h0) ⟨_, rfl, ⟨rfl, nd0⟩, _, _, _, rfl, by decide, by decide, fun r a' b' r0 r1 => ⟨trivial, ?_⟩⟩⟩
  by_cases h5 : r < 5
  · exact v_filter_plain (n := n + 1) h5 h
  refine ⟨_, rfl, _, lt_int _ _, _, rfl, ifF (decide_eq_false h5) ⟨_, rfl, _, deq_int _ _, _, rfl, ?_⟩⟩
  cases e5 : (r == 5) with
  | true =>
    refine ifT rfl ⟨⟨_, rfl⟩, show (1 : Nat) ≤ sizeLine by decide, ⟨_, rfl⟩, _, rfl, _, sub_int _ _, _, rfl, ⟨rfl, nd0⟩, _, _, _, rfl, by omega, fun d a2 b2 g => ?_⟩
    refine ⟨show (2 : Nat) ≤ sizeLine by decide, show (2 : Nat) ≤ sizeLine by decide, _, rfl, ⟨rfl, nd0⟩, _, _, _, rfl, List.cons_ne_nil _ _, show (2 : Nat) ≤ 1000 by decide, fun d2 a3 b3 m => ⟨_, rfl, h d2 a3 b3 ?_⟩⟩
    rcases List.mem_cons.mp m with rfl | m
    · exact .every
    · rw [List.mem_singleton.mp m]
      exact .not g
  | false =>
  refine ifF rfl ⟨_, rfl, _, deq_int _ _, _, rfl, ?_⟩
  cases e6 : (r == 6) with
  | true =>
    exact ifT rfl ⟨⟨_, rfl⟩, _, rfl, ⟨rfl, nd0⟩, _, _, rfl, fun p a2 b2 p1 p2 p3 => ⟨⟨_, rfl⟩, _, rfl, _, sub_int _ _, _, rfl, ⟨rfl, nd0⟩, _, _, _, rfl, by omega, fun d a3 b3 g => ⟨show (3 : Nat) ≤ sizeLine by decide, _, rfl, h _ _ _ (.any p1 p2 p3 g)⟩⟩⟩
  | false =>
  refine ifF rfl ⟨⟨_, rfl⟩, show (2 : Nat) ≤ sizeLine by decide, _, rfl, ⟨rfl, nd0⟩, _, _, _, rfl, List.cons_ne_nil _ _, show (2 : Nat) ≤ 1000 by decide, fun d a2 b2 m => ?_⟩
  refine ⟨⟨_, rfl⟩, _, rfl, ⟨rfl, nd0⟩, _, _, _, rfl, by decide, by decide, fun q a3 b3 q0 q1 => ⟨q, rfl, ⟨by omega, by omega⟩, ?_⟩⟩
  refine lcc (S := fun a b => [.io [.int a, .int b], .val (.int k), .val (.int r), .un, .un]) (G := GF n) (fun _ _ => rfl) (by rw [rng_len]; exact Nat.le_trans (by omega : q.toNat ≤ 4) (by decide)) (fun d m a b P p => ?_) (fun rs a4 b4 hn hg => ?_) a3 b3
  · exact ⟨⟨_, rfl⟩, _, rfl, _, sub_int _ _, _, rfl, ⟨rfl, nd0⟩, _, _, _, rfl, by omega, fun d a' b' g => p d a' b' g⟩
  · rw [rng_len] at hn
    refine ⟨_, rfl, show (2 : Nat) ≤ sizeLine by decide, _, rfl, h _ _ _ ?_⟩
    rcases List.mem_cons.mp m with rfl | m
    · exact .all (by omega) hg
    · rw [List.mem_singleton.mp m]
      exact .or (by omega) hg
end K16
end

section
set_option maxRecDepth 100000
namespace K16
open PySem PySem.Spec PyProof.Rows L2 PV
set_option autoImplicit false
theorem q0 : (0 : Nat) ≤ sizeLine := by decide
theorem q1 : (1 : Nat) ≤ sizeLine := by decide
theorem q2 : (2 : Nat) ≤ sizeLine := by decide
theorem q3 : (3 : Nat) ≤ sizeLine := by decide
theorem q4 : (4 : Nat) ≤ sizeLine := by decide
theorem q5 : (5 : Nat) ≤ sizeLine := by decide
theorem q6 : (6 : Nat) ≤ sizeLine := by decide
theorem q7 : (7 : Nat) ≤ sizeLine := by decide
theorem q8 : (8 : Nat) ≤ sizeLine := by decide
theorem q9 : (9 : Nat) ≤ sizeLine := by decide
theorem q10 : (10 : Nat) ≤ sizeLine := by decide
theorem q11 : (11 : Nat) ≤ sizeLine := by decide
theorem q12 : (12 : Nat) ≤ sizeLine := by decide
theorem q13 : (13 : Nat) ≤ sizeLine := by decide
theorem q14 : (14 : Nat) ≤ sizeLine := by decide
theorem q15 : (15 : Nat) ≤ sizeLine := by decide
theorem q16 : (16 : Nat) ≤ sizeLine := by decide
theorem q17 : (17 : Nat) ≤ sizeLine := by decide
theorem q18 : (18 : Nat) ≤ sizeLine := by decide
theorem q19 : (19 : Nat) ≤ sizeLine := by decide
theorem q20 : (20 : Nat) ≤ sizeLine := by decide
theorem q21 : (21 : Nat) ≤ sizeLine := by decide
theorem q22 : (22 : Nat) ≤ sizeLine := by decide
theorem q23 : (23 : Nat) ≤ sizeLine := by decide
theorem q24 : (24 : Nat) ≤ sizeLine := by decide
theorem q25 : (25 : Nat) ≤ sizeLine := by decide
theorem q26 : (26 : Nat) ≤ sizeLine := by decide
theorem q27 : (27 : Nat) ≤ sizeLine := by decide
theorem q28 : (28 : Nat) ≤ sizeLine := by decide
theorem q29 : (29 : Nat) ≤ sizeLine := by decide
theorem q30 : (30 : Nat) ≤ sizeLine := by decide
theorem q31 : (31 : Nat) ≤ sizeLine := by decide
theorem q32 : (32 : Nat) ≤ sizeLine := by decide
theorem q33 : (33 : Nat) ≤ sizeLine := by decide
theorem q34 : (34 : Nat) ≤ sizeLine := by decide
theorem q35 : (35 : Nat) ≤ sizeLine := by decide
theorem q36 : (36 : Nat) ≤ sizeLine := by decide
theorem q37 : (37 : Nat) ≤ sizeLine := by decide
theorem q38 : (38 : Nat) ≤ sizeLine := by decide
theorem q39 : (39 : Nat) ≤ sizeLine := by decide
theorem q40 : (40 : Nat) ≤ sizeLine := by decide
theorem q41 : (41 : Nat) ≤ sizeLine := by decide
theorem q42 : (42 : Nat) ≤ sizeLine := by decide
theorem q43 : (43 : Nat) ≤ sizeLine := by decide
theorem q44 : (44 : Nat) ≤ sizeLine := by decide
theorem q45 : (45 : Nat) ≤ sizeLine := by decide
theorem q46 : (46 : Nat) ≤ sizeLine := by decide
theorem q47 : (47 : Nat) ≤ sizeLine := by decide
theorem q48 : (48 : Nat) ≤ sizeLine := by decide
theorem q49 : (49 : Nat) ≤ sizeLine := by decide
theorem q50 : (50 : Nat) ≤ sizeLine := by decide
theorem q51 : (51 : Nat) ≤ sizeLine := by decide
theorem q52 : (52 : Nat) ≤ sizeLine := by decide
theorem q53 : (53 : Nat) ≤ sizeLine := by decide
theorem q54 : (54 : Nat) ≤ sizeLine := by decide
theorem q55 : (55 : Nat) ≤ sizeLine := by decide
theorem q56 : (56 : Nat) ≤ sizeLine := by decide
theorem q57 : (57 : Nat) ≤ sizeLine := by decide
theorem q58 : (58 : Nat) ≤ sizeLine := by decide
theorem q59 : (59 : Nat) ≤ sizeLine := by decide
theorem q60 : (60 : Nat) ≤ sizeLine := by decide
theorem q61 : (61 : Nat) ≤ sizeLine := by decide
theorem q62 : (62 : Nat) ≤ sizeLine := by decide
theorem q63 : (63 : Nat) ≤ sizeLine := by decide
theorem q64 : (64 : Nat) ≤ sizeLine := by decide
theorem q65 : (65 : Nat) ≤ sizeLine := by decide
theorem q66 : (66 : Nat) ≤ sizeLine := by decide
theorem q67 : (67 : Nat) ≤ sizeLine := by decide
theorem q68 : (68 : Nat) ≤ sizeLine := by decide
theorem q69 : (69 : Nat) ≤ sizeLine := by decide
theorem q70 : (70 : Nat) ≤ sizeLine := by decide
theorem q71 : (71 : Nat) ≤ sizeLine := by decide
theorem q72 : (72 : Nat) ≤ sizeLine := by decide
theorem q73 : (73 : Nat) ≤ sizeLine := by decide
theorem q74 : (74 : Nat) ≤ sizeLine := by decide
theorem q75 : (75 : Nat) ≤ sizeLine := by decide
theorem q76 : (76 : Nat) ≤ sizeLine := by decide
theorem q77 : (77 : Nat) ≤ sizeLine := by decide
theorem q78 : (78 : Nat) ≤ sizeLine := by decide
theorem q79 : (79 : Nat) ≤ sizeLine := by decide
/-! ### what is no filter, though near to one -/
def Odd (d : D) : Prop := short d = true ∧ fitsF d = some false
theorem fits_bad {d : D} (h : stepF d = some none) : fitsF d = some false := runF_bad h
theorem fits_last {d y : D} {xs : List D} (h : stepF d = some (some (xs ++ [y]))) (hy : stepF y = some none) : fitsF d = some false := by
  unfold fitsF
  rw [runF_step h (by decide) (by decide), List.map_append, List.reverse_append]
  exact runF_bad hy
theorem fits_last2 {d x y : D} {xs : List D} {n : Nat} (h : stepF d = some (some (xs ++ [y, x]))) (hx : GF n x) (hn : n ≤ 2) (hy : stepF y = some none) : fitsF d = some false := by
  obtain ⟨c, l, e⟩ := hx.runs
  have hc : c ≤ 13 := Nat.le_trans l (by
    have : ∀ n, n ≤ 2 → cntF n ≤ 13 := by decide
    exact this n hn)
  unfold fitsF
  rw [runF_step h (by decide) (by decide), List.map_append, List.reverse_append]
  have := e (58 - c + 1) ((y, 2) :: (xs.map fun x => (x, 2)).reverse ++ []) 1 2 (by omega) (by omega)
  rw [show 58 - c + 1 + c = 59 by omega] at this
  exact this.trans (runF_bad hy)
theorem rows_bad {n : Nat} {xs : List D} (h : ∀ x ∈ xs, GF n x) : stepF (.tuple xs) = some none := by
  cases xs with
  | nil => rfl
  | cons x r =>
    have := h x List.mem_cons_self
    cases this <;> rfl
theorem st_not (r : List D) (h : r.length ≤ 3) : stepF (.tuple (.str "not" :: r)) = some (oneOf1 r) := (if_pos h).trans (in_not r)
theorem st_any (r : List D) (h : r.length ≤ 3) : stepF (.tuple (.str "any" :: r)) = some (anyOf r) := (if_pos h).trans (in_any r)
theorem st_and (r : List D) (h : r.length ≤ 3) : stepF (.tuple (.str "and" :: r)) = some (rowsOf r) := (if_pos h).trans (in_and r)
theorem st_or (r : List D) (h : r.length ≤ 3) : stepF (.tuple (.str "or" :: r)) = some (rowsOf r) := (if_pos h).trans (in_or r)
theorem st_every (r : List D) (h : r.length ≤ 3) : stepF (.tuple (.str "every" :: r)) = some (if r.isEmpty then some [] else none) := (if_pos h).trans (in_every r)
theorem or_asked {n : Nat} {A : D} (h : GF n A) (hn : n ≤ 3) : fitsF (.tuple [.str "or", A]) = some false := by
  cases h with
  | every => exact fits_last (xs := []) (y := .str "every") (st_or _ (by simp)) rfl
  | @test _ p v w h1 h2 h3 h4 h5 h6 h7 => exact fits_last (xs := [.str "test", p, .str w]) (y := v) (st_or _ (by simp)) h6
  | @not n x hx => exact fits_last2 (xs := []) (y := .str "not") (x := x) (st_or _ (by simp)) hx (by omega) rfl
  | @any n p x h1 h2 h3 hx => exact fits_last2 (xs := [.str "any"]) (y := p) (x := x) (st_or _ (by simp)) hx (by omega) h3
  | @all n xs hl hx => exact fits_last (xs := [.str "and"]) (y := .tuple xs) (st_or _ (by simp)) (rows_bad hx)
  | @or n xs hl hx => exact fits_last (xs := [.str "or"]) (y := .tuple xs) (st_or _ (by simp)) (rows_bad hx)
theorem fwords_ok : ∀ w ∈ fwords, w.length ≤ sizeLine ∧ (w ++ "s").length ≤ sizeLine ∧ (w ++ "s") ∉ fwords ∧ w.length + ("s" : Str).length ≤ sizeLine := by decide +kernel
theorem GF.shape {n : Nat} {A : D} (h : GF n A) : ∃ w r, A = .tuple (.str w :: r) ∧ w ∈ fwords ∧ r.length ≤ 3 ∧ shortA r = true ∧ stepF (.tuple (.str w :: (r ++ [.int 0]))) = some none := by
  have hs := h.short
  have split : ∀ {w : Str} {r : List D}, PV.short (.tuple (.str w :: r)) = true → shortA r = true := fun {w r} h => by
    have h2 : (decide (w.length ≤ sizeLine) && shortA r) = true := h
    rw [Bool.and_eq_true] at h2
    exact h2.2
  cases h with
  | every => exact ⟨_, _, rfl, by decide, by simp, split hs, st_every _ (by simp)⟩
  | test => exact ⟨_, _, rfl, by decide, by simp, split hs, rfl⟩
  | not => exact ⟨_, _, rfl, by decide, by simp, split hs, st_not _ (by simp)⟩
  | any => exact ⟨_, _, rfl, by decide, by simp, split hs, st_any _ (by simp)⟩
  | all => exact ⟨_, _, rfl, by decide, by simp, split hs, st_and _ (by simp)⟩
  | or => exact ⟨_, _, rfl, by decide, by simp, split hs, st_or _ (by simp)⟩
def nearL (w : Str) (r : List D) (A : D) : List D :=
  [.list (.str w :: r), .tuple (.str w :: (r ++ [.int 0])), .tuple (.str (w ++ "s") :: r), .tuple (.none :: r), .tuple [], .none, .str "every", .tuple [.str "not"],
   .tuple [.str "not", A, A], .tuple [.str "and", .list [A]], .tuple [.str "or", A], .tuple [.str "any", .tuple [.str "a"]], .tuple [.str "any", .list [.str "a"], A], .tuple [.str "any", .tuple [.str "A"], A],
   .tuple [.str "and", .tuple [A, A, A, A, A, A, A, A, A]], .tuple [.str "and", .tuple [.none]], .tuple [.str "every", .tuple []], .tuple [.str "or", .tuple [A, .tuple [.str "every", .int 1]]], .tuple [.str "not", .tuple [.str "and", .tuple [A, .list [.str "every"]]]]]
theorem shortA_app {xs ys : List D} (h1 : shortA xs = true) (h2 : shortA ys = true) : shortA (xs ++ ys) = true := short_mem' fun d m => (List.mem_append.mp m).elim (short_mem h1 d) (short_mem h2 d)
theorem near_odd {n : Nat} {w : Str} {r : List D} (h : GF n (.tuple (.str w :: r))) (hn : n ≤ 3) (hw : w ∈ fwords) (hr : r.length ≤ 3) (hs : shortA r = true) (h0 : stepF (.tuple (.str w :: (r ++ [.int 0]))) = some none) :
    ∀ d ∈ nearL w r (.tuple (.str w :: r)), Odd d := by
  obtain ⟨w1, w2, w3, _⟩ := fwords_ok w hw
  have hA := h.short
  have orA := or_asked h hn
  have hs0 : shortA (r ++ [.int 0]) = true := shortA_app hs rfl
  have p1 : pathOk (.list [.str "a"]) = false := by decide +kernel
  have p2 : pathOk (.tuple [.str "A"]) = false := by decide +kernel
  have cons : ∀ {x : D} {xs : List D}, short x = true → shortA xs = true → shortA (x :: xs) = true := fun {x xs} a b => by rw [shortA, a, b]; rfl
  have tp : ∀ {xs : List D}, shortA xs = true → short (.tuple xs) = true := fun {xs} a => a
  have ls : ∀ {xs : List D}, shortA xs = true → short (.list xs) = true := fun {xs} a => a
  have st : ∀ {z : Str}, z.length ≤ sizeLine → short (.str z) = true := fun {z} a => decide_eq_true a
  generalize hAe : PyData.tuple (.str w :: r) = A at h hA orA ⊢
  intro d m
  simp only [nearL, List.mem_cons, List.not_mem_nil, or_false] at m
  rcases m with rfl | rfl | rfl | rfl | rfl | rfl | rfl | rfl | rfl | rfl | rfl | rfl | rfl | rfl | rfl | rfl | rfl | rfl | rfl
  · exact ⟨ls (cons (st w1) hs), fits_bad rfl⟩
  · exact ⟨tp (cons (st w1) hs0), fits_bad h0⟩
  · exact ⟨tp (cons (st w2) hs), fits_bad (bad_word w3 _)⟩
  · exact ⟨tp (cons rfl hs), fits_bad rfl⟩
  · exact ⟨rfl, fits_bad rfl⟩
  · exact ⟨rfl, fits_bad rfl⟩
  · exact ⟨by decide +kernel, fits_bad rfl⟩
  · exact ⟨by decide +kernel, fits_bad (st_not [] (by decide))⟩
  · exact ⟨tp (cons (by decide +kernel) (cons hA (cons hA rfl))), fits_bad (st_not [A, A] (by simp))⟩
  · exact ⟨tp (cons (by decide +kernel) (cons (ls (cons hA rfl)) rfl)), fits_bad (st_and [.list [A]] (by simp))⟩
  · exact ⟨tp (cons (by decide +kernel) (cons hA rfl)), orA⟩
  · exact ⟨by decide +kernel, fits_bad (st_any [.tuple [.str "a"]] (by simp))⟩
  · exact ⟨tp (cons (by decide +kernel) (cons (by decide +kernel) (cons hA rfl))), fits_bad ((st_any [.list [.str "a"], A] (by simp)).trans (by rw [anyOf, if_neg (by rw [p1]; decide)]))⟩
  · exact ⟨tp (cons (by decide +kernel) (cons (by decide +kernel) (cons hA rfl))), fits_bad ((st_any [.tuple [.str "A"], A] (by simp)).trans (by rw [anyOf, if_neg (by rw [p2]; decide)]))⟩
  · exact ⟨tp (cons (by decide +kernel) (cons (tp (cons hA (cons hA (cons hA (cons hA (cons hA (cons hA (cons hA (cons hA (cons hA rfl)))))))))) rfl)), fits_bad ((st_and _ (by simp)).trans (by rw [rowsOf, if_neg (by simp)]))⟩
  · exact ⟨by decide +kernel, fits_last (xs := []) (y := .none) (st_and [.tuple [.none]] (by simp)) rfl⟩
  · exact ⟨by decide +kernel, fits_bad (st_every [.tuple []] (by simp))⟩
  · exact ⟨tp (cons (by decide +kernel) (cons (tp (cons hA (cons (by decide +kernel) rfl))) rfl)), fits_last (xs := [A]) (y := .tuple [.str "every", .int 1]) (st_or [.tuple [A, .tuple [.str "every", .int 1]]] (by simp)) (st_every [.int 1] (by simp))⟩
  · refine ⟨tp (cons (by decide +kernel) (cons (tp (cons (by decide +kernel) (cons (tp (cons hA (cons (by decide +kernel) rfl))) rfl))) rfl)), ?_⟩
    unfold fitsF
    rw [runF_step (st_not [.tuple [.str "and", .tuple [A, .list [.str "every"]]]] (by simp)) (by decide) (by decide)]
    show runF (58 + 1) ((.tuple [.str "and", .tuple [A, .list [.str "every"]]], 2) :: []) 1 = _
    rw [runF_step (new := [A, .list [.str "every"]]) (st_and [.tuple [A, .list [.str "every"]]] (by simp)) (by decide) (by decide)]
    exact runF_bad (n := 57) rfl
def ct_near : WE := fun τ _ P => ∃ (a b : Int) (n : Nat) (A : D), τ = [.io [.int a, .int b], .val A] ∧ GF n A ∧ n ≤ 3 ∧ ∀ (d : D) (a' b' : Int), Odd d → P d [.io [.int a', .int b'], .val A]
theorem add_tup (x y : List D) (h : x.length + y.length ≤ sizeLine) : addD (.tuple x) (.tuple y) = some (.tuple (x ++ y)) := if_pos h
theorem add_str (x y : Str) (h : x.length + y.length ≤ sizeLine) : addD (.str x) (.str y) = some (.str (x ++ y)) := if_pos h
theorem tmul_tup (x : List D) (k : Int) (h : x ≠ [] ∧ x.length ≤ 1000 ∧ k ≠ 1 ∧ k ≤ 1000 ∧ -(2 ^ 63) ≤ k) : tmulD (.tuple x) (.int k) = some (.tuple (List.replicate k.toNat x).flatten) := if_pos h
theorem v__law_near : VC ct_near (b__law_near ct_some) 2 1 := by
  rintro τ0 Xp Q - - ⟨a, b, n, A, rfl, g, hn, h⟩
  obtain ⟨w, r, rfl, hw, hr, hs, h0⟩ := g.shape
  have odd := near_odd g hn hw hr hs h0
  obtain ⟨w1, w2, w3, w4⟩ := fwords_ok w hw
  have c5 : (.str w :: r : List D).length + 1 ≤ sizeLine := Nat.le_trans (by show r.length + 1 + 1 ≤ 5; omega) q5
  have c4 : (1 : Nat) + r.length ≤ sizeLine := Nat.le_trans (by omega : 1 + r.length ≤ 4) q4
  refine ⟨_, rfl, _, rfl, _, rfl, q1, _, add_tup _ _ c5, _, rfl, _, idx0 _ _, _, add_str _ _ w4, q1, _, rfl, _, rfl, _, cut1 _ _, _, add_tup _ _ c4, q1, _, rfl, _, rfl, _, cut1 _ _, _, add_tup _ _ c4, q0, q1, q8, trivial, ?_⟩
  refine ⟨_, rfl, _, rfl, _, rfl, q3, q1, _, add_list _ _ q9, trivial, ?_⟩
  refine ⟨_, rfl, _, rfl, q1, q2, _, rfl, q2, q1, q2, q1, _, rfl, q3, q1, _, rfl, q3, q5, _, add_list _ _ (show (14 : Nat) ≤ sizeLine by decide), trivial, ?_⟩
  refine ⟨_, rfl, _, rfl, q1, _, tmul_tup _ _ ⟨List.cons_ne_nil _ _, by simp, by decide, by decide, by decide⟩, q2, q1, q2, q2, _, add_list _ _ (show (16 : Nat) ≤ sizeLine by decide), trivial, ?_⟩
  refine ⟨⟨_, rfl⟩, _, rfl, q0, q2, _, rfl, q2, q2, q2, _, rfl, q1, q2, q2, q2, q3, _, add_list _ _ (show (19 : Nat) ≤ sizeLine by decide), _, rfl, ⟨rfl, nd0⟩, _, _, _, rfl, List.cons_ne_nil _ _, show (19 : Nat) ≤ 1000 by decide, fun d a' b' m => ⟨_, rfl, h d a' b' (odd d m)⟩⟩
end K16
end

section
set_option maxRecDepth 100000
set_option maxHeartbeats 0
namespace K16
open PySem PySem.Spec PyProof.Rows L2 PV
set_option autoImplicit false
def leafD : D := .tuple [.str "every"]
def pathD : D := .tuple [.str "a", .int 15, .str "b9"]
def fourD : D := .tuple [.str "not", .tuple [.str "not", .tuple [.str "not", .tuple [.str "not", .tuple [.str "every"]]]]]
def fortyD : D := .tuple [.str "and", .tuple [.tuple [.str "or", .tuple [.tuple [.str "every"], .tuple [.str "every"], .tuple [.str "every"], .tuple [.str "every"], .tuple [.str "every"], .tuple [.str "every"], .tuple [.str "every"], .tuple [.str "every"]]], .tuple [.str "or", .tuple [.tuple [.str "every"], .tuple [.str "every"], .tuple [.str "every"], .tuple [.str "every"], .tuple [.str "every"], .tuple [.str "every"], .tuple [.str "every"], .tuple [.str "every"]]], .tuple [.str "or", .tuple [.tuple [.str "every"], .tuple [.str "every"], .tuple [.str "every"], .tuple [.str "every"], .tuple [.str "every"], .tuple [.str "every"], .tuple [.str "every"], .tuple [.str "every"]]], .tuple [.str "or", .tuple [.tuple [.str "every"], .tuple [.str "every"], .tuple [.str "every"], .tuple [.str "every"], .tuple [.str "every"], .tuple [.str "every"], .tuple [.str "every"], .tuple [.str "every"]]], .tuple [.str "not", .tuple [.str "every"]], .tuple [.str "every"]]]
def goods0 : List D := [.tuple [.str "every"],
  .tuple [.str "not", .tuple [.str "not", .tuple [.str "not", .tuple [.str "not", .tuple [.str "every"]]]]],
  .tuple [.str "and", .tuple []],
  .tuple [.str "or", .tuple [.tuple [.str "every"], .tuple [.str "every"], .tuple [.str "every"], .tuple [.str "every"], .tuple [.str "every"], .tuple [.str "every"], .tuple [.str "every"], .tuple [.str "every"]]],
  .tuple [.str "and", .tuple [.tuple [.str "or", .tuple [.tuple [.str "every"], .tuple [.str "every"], .tuple [.str "every"], .tuple [.str "every"], .tuple [.str "every"], .tuple [.str "every"], .tuple [.str "every"], .tuple [.str "every"]]], .tuple [.str "or", .tuple [.tuple [.str "every"], .tuple [.str "every"], .tuple [.str "every"], .tuple [.str "every"], .tuple [.str "every"], .tuple [.str "every"], .tuple [.str "every"], .tuple [.str "every"]]], .tuple [.str "or", .tuple [.tuple [.str "every"], .tuple [.str "every"], .tuple [.str "every"], .tuple [.str "every"], .tuple [.str "every"], .tuple [.str "every"], .tuple [.str "every"], .tuple [.str "every"]]], .tuple [.str "or", .tuple [.tuple [.str "every"], .tuple [.str "every"], .tuple [.str "every"], .tuple [.str "every"], .tuple [.str "every"], .tuple [.str "every"], .tuple [.str "every"], .tuple [.str "every"]]], .tuple [.str "not", .tuple [.str "every"]]]],
  .tuple [.str "and", .tuple [.tuple [.str "or", .tuple [.tuple [.str "every"], .tuple [.str "every"], .tuple [.str "every"], .tuple [.str "every"], .tuple [.str "every"], .tuple [.str "every"], .tuple [.str "every"], .tuple [.str "every"]]], .tuple [.str "or", .tuple [.tuple [.str "every"], .tuple [.str "every"], .tuple [.str "every"], .tuple [.str "every"], .tuple [.str "every"], .tuple [.str "every"], .tuple [.str "every"], .tuple [.str "every"]]], .tuple [.str "or", .tuple [.tuple [.str "every"], .tuple [.str "every"], .tuple [.str "every"], .tuple [.str "every"], .tuple [.str "every"], .tuple [.str "every"], .tuple [.str "every"], .tuple [.str "every"]]], .tuple [.str "or", .tuple [.tuple [.str "every"], .tuple [.str "every"], .tuple [.str "every"], .tuple [.str "every"], .tuple [.str "every"], .tuple [.str "every"], .tuple [.str "every"], .tuple [.str "every"]]], .tuple [.str "not", .tuple [.str "every"]], .tuple [.str "every"]]]]
def odds0 : List D := [.tuple [.str "not", .tuple [.str "not", .tuple [.str "not", .tuple [.str "not", .tuple [.str "not", .tuple [.str "every"]]]]]],
  .tuple [.str "and", .tuple [.tuple [.str "or", .tuple [.tuple [.str "every"], .tuple [.str "every"], .tuple [.str "every"], .tuple [.str "every"], .tuple [.str "every"], .tuple [.str "every"], .tuple [.str "every"], .tuple [.str "every"]]], .tuple [.str "or", .tuple [.tuple [.str "every"], .tuple [.str "every"], .tuple [.str "every"], .tuple [.str "every"], .tuple [.str "every"], .tuple [.str "every"], .tuple [.str "every"], .tuple [.str "every"]]], .tuple [.str "or", .tuple [.tuple [.str "every"], .tuple [.str "every"], .tuple [.str "every"], .tuple [.str "every"], .tuple [.str "every"], .tuple [.str "every"], .tuple [.str "every"], .tuple [.str "every"]]], .tuple [.str "or", .tuple [.tuple [.str "every"], .tuple [.str "every"], .tuple [.str "every"], .tuple [.str "every"], .tuple [.str "every"], .tuple [.str "every"], .tuple [.str "every"], .tuple [.str "every"]]], .tuple [.str "not", .tuple [.str "every"]], .tuple [.str "every"], .tuple [.str "every"]]],
  .tuple [.str "or", .tuple [.tuple [.str "every"], .tuple [.str "every"], .tuple [.str "every"], .tuple [.str "every"], .tuple [.str "every"], .tuple [.str "every"], .tuple [.str "every"], .tuple [.str "every"], .tuple [.str "every"]]]]
def testsD : List D := [.tuple [.str "same", .none, .bool true],
  .tuple [.str "same", .list [.int 1], .bool false],
  .tuple [.str "other", .str "it's", .bool false],
  .tuple [.str "less", .int 1000000000001, .bool false],
  .tuple [.str "atmost", .tuple [.str "list", .tuple []], .bool true],
  .tuple [.str "more", .tuple [.str "doc", .tuple [.tuple [.str "id", .int 1]]], .bool true],
  .tuple [.str "in", .tuple [.str "list", .tuple [.int 1, .str "a"]], .bool true],
  .tuple [.str "in", .int 1, .bool false],
  .tuple [.str "in", .tuple [.str "doc", .tuple []], .bool false],
  .tuple [.str "has", .tuple [.str "list", .tuple []], .bool true],
  .tuple [.str "has", .tuple [.int 1], .bool false],
  .tuple [.str "size", .int 0, .bool true],
  .tuple [.str "size", .int 16, .bool true],
  .tuple [.str "size", .int 17, .bool false],
  .tuple [.str "size", .int (-1), .bool false],
  .tuple [.str "size", .bool true, .bool false],
  .tuple [.str "size", .none, .bool false],
  .tuple [.str "size", .bool false, .bool false],
  .tuple [.str "is", .str "", .bool false],
  .tuple [.str "in", .tuple [.str "list", .tuple [.int 1000000000001]], .bool false],
  .tuple [.str "has", .tuple [.str "list", .tuple [.str "it's"]], .bool false],
  .tuple [.str "in", .tuple [.str "list", .list [.int 1]], .bool false],
  .tuple [.str "has", .tuple [.str "list", .tuple [.int 1, .int 1, .int 1, .int 1, .int 1, .int 1, .int 1, .int 1, .int 1, .int 1, .int 1, .int 1, .int 1, .int 1, .int 1, .int 1, .int 1]], .bool false],
  .tuple [.str "has", .tuple [.str "list", .tuple [.int 1, .int 1, .int 1, .int 1, .int 1, .int 1, .int 1, .int 1, .int 1, .int 1, .int 1, .int 1, .int 1, .int 1, .int 1, .int 1]], .bool true],
  .tuple [.str "in", .tuple [.str "list", .tuple [.tuple [.str "list", .int 5]]], .bool false],
  .tuple [.str "atmost", .str "it's", .bool false],
  .tuple [.str "more", .str "it's", .bool false],
  .tuple [.str "atleast", .str "it's", .bool false],
  .tuple [.str "atmost", .list [.str "a"], .bool false],
  .tuple [.str "more", .list [.str "a"], .bool false],
  .tuple [.str "atleast", .list [.str "a"], .bool false],
  .tuple [.str "other", .list [.str "a"], .bool false],
  .tuple [.str "is", .str "truth", .bool true],
  .tuple [.str "is", .str "null", .bool true],
  .tuple [.str "is", .str "bool", .bool false],
  .tuple [.str "is", .none, .bool false],
  .tuple [.str "is", .int 1, .bool false],
  .tuple [.str "exists", .bool true, .bool true],
  .tuple [.str "exists", .int 1, .bool false],
  .tuple [.str "exists", .none, .bool false],
  .tuple [.str "Same", .int 1, .bool false],
  .tuple [.str "like", .str "a", .bool false],
  .tuple [.none, .int 1, .bool false],
  .tuple [.str "", .int 1, .bool false]]
def pathsD : List D := [.tuple [.tuple [], .bool true],
  .tuple [.tuple [.str "a", .str "a", .str "a", .str "a", .str "a", .str "a"], .bool true],
  .tuple [.tuple [.str "a", .str "a", .str "a", .str "a", .str "a", .str "a", .str "a"], .bool false],
  .tuple [.tuple [.int 16], .bool false],
  .tuple [.tuple [.int (-1)], .bool false],
  .tuple [.tuple [.bool true], .bool false],
  .tuple [.tuple [.str "Ab"], .bool false],
  .tuple [.list [.str "a"], .bool false],
  .tuple [.none, .bool false]]
def goodsF : List D := [.tuple [.str "every"],
  .tuple [.str "not", .tuple [.str "not", .tuple [.str "not", .tuple [.str "not", .tuple [.str "every"]]]]],
  .tuple [.str "and", .tuple []],
  .tuple [.str "or", .tuple [.tuple [.str "every"], .tuple [.str "every"], .tuple [.str "every"], .tuple [.str "every"], .tuple [.str "every"], .tuple [.str "every"], .tuple [.str "every"], .tuple [.str "every"]]],
  .tuple [.str "and", .tuple [.tuple [.str "or", .tuple [.tuple [.str "every"], .tuple [.str "every"], .tuple [.str "every"], .tuple [.str "every"], .tuple [.str "every"], .tuple [.str "every"], .tuple [.str "every"], .tuple [.str "every"]]], .tuple [.str "or", .tuple [.tuple [.str "every"], .tuple [.str "every"], .tuple [.str "every"], .tuple [.str "every"], .tuple [.str "every"], .tuple [.str "every"], .tuple [.str "every"], .tuple [.str "every"]]], .tuple [.str "or", .tuple [.tuple [.str "every"], .tuple [.str "every"], .tuple [.str "every"], .tuple [.str "every"], .tuple [.str "every"], .tuple [.str "every"], .tuple [.str "every"], .tuple [.str "every"]]], .tuple [.str "or", .tuple [.tuple [.str "every"], .tuple [.str "every"], .tuple [.str "every"], .tuple [.str "every"], .tuple [.str "every"], .tuple [.str "every"], .tuple [.str "every"], .tuple [.str "every"]]], .tuple [.str "not", .tuple [.str "every"]]]],
  .tuple [.str "and", .tuple [.tuple [.str "or", .tuple [.tuple [.str "every"], .tuple [.str "every"], .tuple [.str "every"], .tuple [.str "every"], .tuple [.str "every"], .tuple [.str "every"], .tuple [.str "every"], .tuple [.str "every"]]], .tuple [.str "or", .tuple [.tuple [.str "every"], .tuple [.str "every"], .tuple [.str "every"], .tuple [.str "every"], .tuple [.str "every"], .tuple [.str "every"], .tuple [.str "every"], .tuple [.str "every"]]], .tuple [.str "or", .tuple [.tuple [.str "every"], .tuple [.str "every"], .tuple [.str "every"], .tuple [.str "every"], .tuple [.str "every"], .tuple [.str "every"], .tuple [.str "every"], .tuple [.str "every"]]], .tuple [.str "or", .tuple [.tuple [.str "every"], .tuple [.str "every"], .tuple [.str "every"], .tuple [.str "every"], .tuple [.str "every"], .tuple [.str "every"], .tuple [.str "every"], .tuple [.str "every"]]], .tuple [.str "not", .tuple [.str "every"]], .tuple [.str "every"]]],
  .tuple [.str "any", .tuple [.str "a"], .tuple [.str "or", .tuple [.tuple [.str "every"], .tuple [.str "and", .tuple [.tuple [.str "any", .tuple [.str "b"], .tuple [.str "test", .tuple [.str "a"], .str "same", .int 1]], .tuple [.str "every"]]]]]],
  .tuple [.str "or", .tuple [.tuple [.str "every"], .tuple [.str "and", .tuple [.tuple [.str "or", .tuple [.tuple [.str "not", .tuple [.str "test", .tuple [.str "a"], .str "same", .int 1]]]]]]]],
  .tuple [.str "and", .tuple [.tuple [.str "or", .tuple [.tuple [.str "test", .tuple [.str "a"], .str "same", .int 1], .tuple [.str "test", .tuple [.str "a"], .str "same", .int 1], .tuple [.str "test", .tuple [.str "a"], .str "same", .int 1], .tuple [.str "test", .tuple [.str "a"], .str "same", .int 1], .tuple [.str "test", .tuple [.str "a"], .str "same", .int 1], .tuple [.str "test", .tuple [.str "a"], .str "same", .int 1], .tuple [.str "test", .tuple [.str "a"], .str "same", .int 1], .tuple [.str "test", .tuple [.str "a"], .str "same", .int 1]]], .tuple [.str "or", .tuple [.tuple [.str "test", .tuple [.str "a"], .str "same", .int 1], .tuple [.str "test", .tuple [.str "a"], .str "same", .int 1], .tuple [.str "test", .tuple [.str "a"], .str "same", .int 1], .tuple [.str "test", .tuple [.str "a"], .str "same", .int 1], .tuple [.str "test", .tuple [.str "a"], .str "same", .int 1], .tuple [.str "test", .tuple [.str "a"], .str "same", .int 1], .tuple [.str "test", .tuple [.str "a"], .str "same", .int 1], .tuple [.str "test", .tuple [.str "a"], .str "same", .int 1]]], .tuple [.str "or", .tuple [.tuple [.str "test", .tuple [.str "a"], .str "same", .int 1], .tuple [.str "test", .tuple [.str "a"], .str "same", .int 1], .tuple [.str "test", .tuple [.str "a"], .str "same", .int 1], .tuple [.str "test", .tuple [.str "a"], .str "same", .int 1], .tuple [.str "test", .tuple [.str "a"], .str "same", .int 1], .tuple [.str "test", .tuple [.str "a"], .str "same", .int 1], .tuple [.str "test", .tuple [.str "a"], .str "same", .int 1], .tuple [.str "test", .tuple [.str "a"], .str "same", .int 1]]], .tuple [.str "or", .tuple [.tuple [.str "test", .tuple [.str "a"], .str "same", .int 1], .tuple [.str "test", .tuple [.str "a"], .str "same", .int 1], .tuple [.str "test", .tuple [.str "a"], .str "same", .int 1], .tuple [.str "test", .tuple [.str "a"], .str "same", .int 1], .tuple [.str "test", .tuple [.str "a"], .str "same", .int 1], .tuple [.str "test", .tuple [.str "a"], .str "same", .int 1], .tuple [.str "test", .tuple [.str "a"], .str "same", .int 1], .tuple [.str "test", .tuple [.str "a"], .str "same", .int 1]]], .tuple [.str "any", .tuple [.str "a"], .tuple [.str "test", .tuple [.str "a"], .str "same", .int 1]], .tuple [.str "test", .tuple [.str "a"], .str "same", .int 1]]]]
def oddsF : List D := [.tuple [.str "not", .tuple [.str "not", .tuple [.str "not", .tuple [.str "not", .tuple [.str "not", .tuple [.str "every"]]]]]],
  .tuple [.str "and", .tuple [.tuple [.str "or", .tuple [.tuple [.str "every"], .tuple [.str "every"], .tuple [.str "every"], .tuple [.str "every"], .tuple [.str "every"], .tuple [.str "every"], .tuple [.str "every"], .tuple [.str "every"]]], .tuple [.str "or", .tuple [.tuple [.str "every"], .tuple [.str "every"], .tuple [.str "every"], .tuple [.str "every"], .tuple [.str "every"], .tuple [.str "every"], .tuple [.str "every"], .tuple [.str "every"]]], .tuple [.str "or", .tuple [.tuple [.str "every"], .tuple [.str "every"], .tuple [.str "every"], .tuple [.str "every"], .tuple [.str "every"], .tuple [.str "every"], .tuple [.str "every"], .tuple [.str "every"]]], .tuple [.str "or", .tuple [.tuple [.str "every"], .tuple [.str "every"], .tuple [.str "every"], .tuple [.str "every"], .tuple [.str "every"], .tuple [.str "every"], .tuple [.str "every"], .tuple [.str "every"]]], .tuple [.str "not", .tuple [.str "every"]], .tuple [.str "every"], .tuple [.str "every"]]],
  .tuple [.str "or", .tuple [.tuple [.str "every"], .tuple [.str "every"], .tuple [.str "every"], .tuple [.str "every"], .tuple [.str "every"], .tuple [.str "every"], .tuple [.str "every"], .tuple [.str "every"], .tuple [.str "every"]]],
  .tuple [.list [.str "and"], .tuple []],
  .tuple [.list [.str "every"]],
  .tuple [.str "test", .tuple [.str "a"], .list [.str "same"], .int 1],
  .tuple [.str "test", .tuple [.str "a"], .str "is", .list [.str "text"]],
  .tuple [.str "test", .tuple [.str "a"], .tuple [.str "same"], .int 1],
  .tuple [.tuple [], .tuple []],
  .tuple [.str "test"],
  .tuple [.str "test", .tuple [.str "a"]],
  .tuple [.str "test", .tuple [.str "a"], .str "same"],
  .tuple [.str "and"],
  .tuple [.str "or"],
  .tuple [.str "any"],
  .tuple [.str "not"],
  .tuple [.str "any", .tuple [.str "a"]],
  .tuple [.str "or", .list [.tuple [.str "every"]]],
  .tuple [.str "and", .tuple [], .tuple []],
  .tuple [.str "test", .tuple [.str "a"], .str "same", .int 1, .int 1],
  .tuple [.str "and", .tuple [.tuple [.str "every"], .tuple [.str "any", .tuple [.str "a"], .tuple [.str "or", .tuple [.tuple [.str "every"], .tuple [.str "and", .tuple [.tuple [.str "any", .tuple [.str "b"], .tuple [.str "test", .tuple [.str "a"], .str "same", .int 1]], .tuple [.str "every"]]]]]]]],
  .tuple [.str "or", .tuple [.tuple [.str "any", .tuple [.str "a"], .tuple [.str "or", .tuple [.tuple [.str "every"], .tuple [.str "and", .tuple [.tuple [.str "any", .tuple [.str "b"], .tuple [.str "test", .tuple [.str "a"], .str "same", .int 1]], .tuple [.str "every"]]]]]]]],
  .tuple [.str "any", .tuple [], .tuple [.str "any", .tuple [.str "a"], .tuple [.str "or", .tuple [.tuple [.str "every"], .tuple [.str "and", .tuple [.tuple [.str "any", .tuple [.str "b"], .tuple [.str "test", .tuple [.str "a"], .str "same", .int 1]], .tuple [.str "every"]]]]]]],
  .tuple [.str "and", .tuple [.tuple [.str "or", .tuple [.tuple [.str "test", .tuple [.str "a"], .str "same", .int 1], .tuple [.str "test", .tuple [.str "a"], .str "same", .int 1], .tuple [.str "test", .tuple [.str "a"], .str "same", .int 1], .tuple [.str "test", .tuple [.str "a"], .str "same", .int 1], .tuple [.str "test", .tuple [.str "a"], .str "same", .int 1], .tuple [.str "test", .tuple [.str "a"], .str "same", .int 1], .tuple [.str "test", .tuple [.str "a"], .str "same", .int 1], .tuple [.str "test", .tuple [.str "a"], .str "same", .int 1]]], .tuple [.str "or", .tuple [.tuple [.str "test", .tuple [.str "a"], .str "same", .int 1], .tuple [.str "test", .tuple [.str "a"], .str "same", .int 1], .tuple [.str "test", .tuple [.str "a"], .str "same", .int 1], .tuple [.str "test", .tuple [.str "a"], .str "same", .int 1], .tuple [.str "test", .tuple [.str "a"], .str "same", .int 1], .tuple [.str "test", .tuple [.str "a"], .str "same", .int 1], .tuple [.str "test", .tuple [.str "a"], .str "same", .int 1], .tuple [.str "test", .tuple [.str "a"], .str "same", .int 1]]], .tuple [.str "or", .tuple [.tuple [.str "test", .tuple [.str "a"], .str "same", .int 1], .tuple [.str "test", .tuple [.str "a"], .str "same", .int 1], .tuple [.str "test", .tuple [.str "a"], .str "same", .int 1], .tuple [.str "test", .tuple [.str "a"], .str "same", .int 1], .tuple [.str "test", .tuple [.str "a"], .str "same", .int 1], .tuple [.str "test", .tuple [.str "a"], .str "same", .int 1], .tuple [.str "test", .tuple [.str "a"], .str "same", .int 1], .tuple [.str "test", .tuple [.str "a"], .str "same", .int 1]]], .tuple [.str "or", .tuple [.tuple [.str "test", .tuple [.str "a"], .str "same", .int 1], .tuple [.str "test", .tuple [.str "a"], .str "same", .int 1], .tuple [.str "test", .tuple [.str "a"], .str "same", .int 1], .tuple [.str "test", .tuple [.str "a"], .str "same", .int 1], .tuple [.str "test", .tuple [.str "a"], .str "same", .int 1], .tuple [.str "test", .tuple [.str "a"], .str "same", .int 1], .tuple [.str "test", .tuple [.str "a"], .str "same", .int 1], .tuple [.str "test", .tuple [.str "a"], .str "same", .int 1]]], .tuple [.str "any", .tuple [.str "a"], .tuple [.str "test", .tuple [.str "a"], .str "same", .int 1]], .tuple [.str "test", .tuple [.str "a"], .str "same", .int 1], .tuple [.str "test", .tuple [.str "a"], .str "same", .int 1]]],
  .tuple [.str "and", .tuple [.tuple [.str "or", .tuple [.tuple [.str "test", .tuple [.str "a"], .str "same", .int 1], .tuple [.str "test", .tuple [.str "a"], .str "same", .int 1], .tuple [.str "test", .tuple [.str "a"], .str "same", .int 1], .tuple [.str "test", .tuple [.str "a"], .str "same", .int 1], .tuple [.str "test", .tuple [.str "a"], .str "same", .int 1], .tuple [.str "test", .tuple [.str "a"], .str "same", .int 1], .tuple [.str "test", .tuple [.str "a"], .str "same", .int 1], .tuple [.str "test", .tuple [.str "a"], .str "same", .int 1]]], .tuple [.str "or", .tuple [.tuple [.str "test", .tuple [.str "a"], .str "same", .int 1], .tuple [.str "test", .tuple [.str "a"], .str "same", .int 1], .tuple [.str "test", .tuple [.str "a"], .str "same", .int 1], .tuple [.str "test", .tuple [.str "a"], .str "same", .int 1], .tuple [.str "test", .tuple [.str "a"], .str "same", .int 1], .tuple [.str "test", .tuple [.str "a"], .str "same", .int 1], .tuple [.str "test", .tuple [.str "a"], .str "same", .int 1], .tuple [.str "test", .tuple [.str "a"], .str "same", .int 1]]], .tuple [.str "or", .tuple [.tuple [.str "test", .tuple [.str "a"], .str "same", .int 1], .tuple [.str "test", .tuple [.str "a"], .str "same", .int 1], .tuple [.str "test", .tuple [.str "a"], .str "same", .int 1], .tuple [.str "test", .tuple [.str "a"], .str "same", .int 1], .tuple [.str "test", .tuple [.str "a"], .str "same", .int 1], .tuple [.str "test", .tuple [.str "a"], .str "same", .int 1], .tuple [.str "test", .tuple [.str "a"], .str "same", .int 1], .tuple [.str "test", .tuple [.str "a"], .str "same", .int 1]]], .tuple [.str "or", .tuple [.tuple [.str "test", .tuple [.str "a"], .str "same", .int 1], .tuple [.str "test", .tuple [.str "a"], .str "same", .int 1], .tuple [.str "test", .tuple [.str "a"], .str "same", .int 1], .tuple [.str "test", .tuple [.str "a"], .str "same", .int 1], .tuple [.str "test", .tuple [.str "a"], .str "same", .int 1], .tuple [.str "test", .tuple [.str "a"], .str "same", .int 1], .tuple [.str "test", .tuple [.str "a"], .str "same", .int 1], .tuple [.str "test", .tuple [.str "a"], .str "same", .int 1]]], .tuple [.str "any", .tuple [.str "a"], .tuple [.str "any", .tuple [], .tuple [.str "test", .tuple [.str "a"], .str "same", .int 1]]], .tuple [.str "test", .tuple [.str "a"], .str "same", .int 1]]],
  .tuple [.str "or", .tuple [.tuple [.str "or", .tuple [.tuple [.str "test", .tuple [.str "a"], .str "same", .int 1], .tuple [.str "test", .tuple [.str "a"], .str "same", .int 1], .tuple [.str "test", .tuple [.str "a"], .str "same", .int 1], .tuple [.str "test", .tuple [.str "a"], .str "same", .int 1], .tuple [.str "test", .tuple [.str "a"], .str "same", .int 1], .tuple [.str "test", .tuple [.str "a"], .str "same", .int 1], .tuple [.str "test", .tuple [.str "a"], .str "same", .int 1], .tuple [.str "test", .tuple [.str "a"], .str "same", .int 1]]], .tuple [.str "or", .tuple [.tuple [.str "test", .tuple [.str "a"], .str "same", .int 1], .tuple [.str "test", .tuple [.str "a"], .str "same", .int 1], .tuple [.str "test", .tuple [.str "a"], .str "same", .int 1], .tuple [.str "test", .tuple [.str "a"], .str "same", .int 1], .tuple [.str "test", .tuple [.str "a"], .str "same", .int 1], .tuple [.str "test", .tuple [.str "a"], .str "same", .int 1], .tuple [.str "test", .tuple [.str "a"], .str "same", .int 1], .tuple [.str "test", .tuple [.str "a"], .str "same", .int 1]]], .tuple [.str "or", .tuple [.tuple [.str "test", .tuple [.str "a"], .str "same", .int 1], .tuple [.str "test", .tuple [.str "a"], .str "same", .int 1], .tuple [.str "test", .tuple [.str "a"], .str "same", .int 1], .tuple [.str "test", .tuple [.str "a"], .str "same", .int 1], .tuple [.str "test", .tuple [.str "a"], .str "same", .int 1], .tuple [.str "test", .tuple [.str "a"], .str "same", .int 1], .tuple [.str "test", .tuple [.str "a"], .str "same", .int 1], .tuple [.str "test", .tuple [.str "a"], .str "same", .int 1]]], .tuple [.str "or", .tuple [.tuple [.str "test", .tuple [.str "a"], .str "same", .int 1], .tuple [.str "test", .tuple [.str "a"], .str "same", .int 1], .tuple [.str "test", .tuple [.str "a"], .str "same", .int 1], .tuple [.str "test", .tuple [.str "a"], .str "same", .int 1], .tuple [.str "test", .tuple [.str "a"], .str "same", .int 1], .tuple [.str "test", .tuple [.str "a"], .str "same", .int 1], .tuple [.str "test", .tuple [.str "a"], .str "same", .int 1], .tuple [.str "test", .tuple [.str "a"], .str "same", .int 1]]], .tuple [.str "or", .tuple [.tuple [.str "test", .tuple [.str "a"], .str "same", .int 1], .tuple [.str "test", .tuple [.str "a"], .str "same", .int 1], .tuple [.str "test", .tuple [.str "a"], .str "same", .int 1], .tuple [.str "test", .tuple [.str "a"], .str "same", .int 1], .tuple [.str "test", .tuple [.str "a"], .str "same", .int 1], .tuple [.str "test", .tuple [.str "a"], .str "same", .int 1], .tuple [.str "test", .tuple [.str "a"], .str "same", .int 1], .tuple [.str "test", .tuple [.str "a"], .str "same", .int 1]]]]]]
def testOk1 : D → Bool
  | .tuple [word, told, .bool due] => short (.tuple [.str "test", pathD, word, told]) && fitsF (.tuple [.str "test", pathD, word, told]) == some due
  | _ => false
def pathOk1 : D → Bool
  | .tuple [way, .bool due] => short (.tuple [.str "test", way, .str "same", .int 1]) && (fitsF (.tuple [.str "test", way, .str "same", .int 1]) == some due && fitsF (.tuple [.str "any", way, leafD]) == some due)
  | _ => false
theorem tests_ok : testsD.all testOk1 = true := by decide +kernel
theorem paths_ok : pathsD.all pathOk1 = true := by decide +kernel
theorem goods_ok : (goodsF.all fun d => short d && fitsF d == some true) = true := by decide +kernel
theorem odds_ok : (oddsF.all fun d => short d && fitsF d == some false) = true := by decide +kernel
end K16
end

section
set_option maxRecDepth 100000
set_option maxHeartbeats 0
namespace K16
open PySem PySem.Spec PyProof.Rows L2 PV
set_option autoImplicit false
def tests14 : List D := [.tuple [.str "same", .none, .bool true],
  .tuple [.str "same", .list [.int 1], .bool false],
  .tuple [.str "other", .str "it's", .bool false],
  .tuple [.str "less", .int 1000000000001, .bool false],
  .tuple [.str "atmost", .tuple [.str "list", .tuple []], .bool true],
  .tuple [.str "more", .tuple [.str "doc", .tuple [.tuple [.str "id", .int 1]]], .bool true],
  .tuple [.str "in", .tuple [.str "list", .tuple [.int 1, .str "a"]], .bool true],
  .tuple [.str "in", .int 1, .bool false],
  .tuple [.str "in", .tuple [.str "doc", .tuple []], .bool false],
  .tuple [.str "has", .tuple [.str "list", .tuple []], .bool true],
  .tuple [.str "has", .tuple [.int 1], .bool false],
  .tuple [.str "size", .int 0, .bool true],
  .tuple [.str "size", .int 16, .bool true],
  .tuple [.str "size", .int 17, .bool false],
  .tuple [.str "size", .int (-1), .bool false],
  .tuple [.str "size", .bool true, .bool false],
  .tuple [.str "size", .none, .bool false],
  .tuple [.str "size", .bool false, .bool false],
  .tuple [.str "is", .str "", .bool false],
  .tuple [.str "in", .tuple [.str "list", .tuple [.int 1000000000001]], .bool false],
  .tuple [.str "has", .tuple [.str "list", .tuple [.str "it's"]], .bool false],
  .tuple [.str "in", .tuple [.str "list", .list [.int 1]], .bool false],
  .tuple [.str "has", .tuple [.str "list", .tuple [.int 1, .int 1, .int 1, .int 1, .int 1, .int 1, .int 1, .int 1, .int 1, .int 1, .int 1, .int 1, .int 1, .int 1, .int 1, .int 1, .int 1]], .bool false],
  .tuple [.str "has", .tuple [.str "list", .tuple [.int 1, .int 1, .int 1, .int 1, .int 1, .int 1, .int 1, .int 1, .int 1, .int 1, .int 1, .int 1, .int 1, .int 1, .int 1, .int 1]], .bool true],
  .tuple [.str "in", .tuple [.str "list", .tuple [.tuple [.str "list", .int 5]]], .bool false]]
def tests15 : List D := [.tuple [.str "same", .none, .bool true],
  .tuple [.str "same", .list [.int 1], .bool false],
  .tuple [.str "other", .str "it's", .bool false],
  .tuple [.str "less", .int 1000000000001, .bool false],
  .tuple [.str "atmost", .tuple [.str "list", .tuple []], .bool true],
  .tuple [.str "more", .tuple [.str "doc", .tuple [.tuple [.str "id", .int 1]]], .bool true],
  .tuple [.str "in", .tuple [.str "list", .tuple [.int 1, .str "a"]], .bool true],
  .tuple [.str "in", .int 1, .bool false],
  .tuple [.str "in", .tuple [.str "doc", .tuple []], .bool false],
  .tuple [.str "has", .tuple [.str "list", .tuple []], .bool true],
  .tuple [.str "has", .tuple [.int 1], .bool false],
  .tuple [.str "size", .int 0, .bool true],
  .tuple [.str "size", .int 16, .bool true],
  .tuple [.str "size", .int 17, .bool false],
  .tuple [.str "size", .int (-1), .bool false],
  .tuple [.str "size", .bool true, .bool false],
  .tuple [.str "size", .none, .bool false],
  .tuple [.str "size", .bool false, .bool false],
  .tuple [.str "is", .str "", .bool false],
  .tuple [.str "in", .tuple [.str "list", .tuple [.int 1000000000001]], .bool false],
  .tuple [.str "has", .tuple [.str "list", .tuple [.str "it's"]], .bool false],
  .tuple [.str "in", .tuple [.str "list", .list [.int 1]], .bool false],
  .tuple [.str "has", .tuple [.str "list", .tuple [.int 1, .int 1, .int 1, .int 1, .int 1, .int 1, .int 1, .int 1, .int 1, .int 1, .int 1, .int 1, .int 1, .int 1, .int 1, .int 1, .int 1]], .bool false],
  .tuple [.str "has", .tuple [.str "list", .tuple [.int 1, .int 1, .int 1, .int 1, .int 1, .int 1, .int 1, .int 1, .int 1, .int 1, .int 1, .int 1, .int 1, .int 1, .int 1, .int 1]], .bool true],
  .tuple [.str "in", .tuple [.str "list", .tuple [.tuple [.str "list", .int 5]]], .bool false],
  .tuple [.str "atmost", .str "it's", .bool false],
  .tuple [.str "more", .str "it's", .bool false],
  .tuple [.str "atleast", .str "it's", .bool false],
  .tuple [.str "atmost", .list [.str "a"], .bool false],
  .tuple [.str "more", .list [.str "a"], .bool false],
  .tuple [.str "atleast", .list [.str "a"], .bool false],
  .tuple [.str "other", .list [.str "a"], .bool false]]
def odds26 : List D := [.tuple [.str "not", .tuple [.str "not", .tuple [.str "not", .tuple [.str "not", .tuple [.str "not", .tuple [.str "every"]]]]]],
  .tuple [.str "and", .tuple [.tuple [.str "or", .tuple [.tuple [.str "every"], .tuple [.str "every"], .tuple [.str "every"], .tuple [.str "every"], .tuple [.str "every"], .tuple [.str "every"], .tuple [.str "every"], .tuple [.str "every"]]], .tuple [.str "or", .tuple [.tuple [.str "every"], .tuple [.str "every"], .tuple [.str "every"], .tuple [.str "every"], .tuple [.str "every"], .tuple [.str "every"], .tuple [.str "every"], .tuple [.str "every"]]], .tuple [.str "or", .tuple [.tuple [.str "every"], .tuple [.str "every"], .tuple [.str "every"], .tuple [.str "every"], .tuple [.str "every"], .tuple [.str "every"], .tuple [.str "every"], .tuple [.str "every"]]], .tuple [.str "or", .tuple [.tuple [.str "every"], .tuple [.str "every"], .tuple [.str "every"], .tuple [.str "every"], .tuple [.str "every"], .tuple [.str "every"], .tuple [.str "every"], .tuple [.str "every"]]], .tuple [.str "not", .tuple [.str "every"]], .tuple [.str "every"], .tuple [.str "every"]]],
  .tuple [.str "or", .tuple [.tuple [.str "every"], .tuple [.str "every"], .tuple [.str "every"], .tuple [.str "every"], .tuple [.str "every"], .tuple [.str "every"], .tuple [.str "every"], .tuple [.str "every"], .tuple [.str "every"]]],
  .tuple [.list [.str "and"], .tuple []],
  .tuple [.list [.str "every"]],
  .tuple [.str "test", .tuple [.str "a"], .list [.str "same"], .int 1],
  .tuple [.str "test", .tuple [.str "a"], .str "is", .list [.str "text"]],
  .tuple [.str "test", .tuple [.str "a"], .tuple [.str "same"], .int 1],
  .tuple [.tuple [], .tuple []],
  .tuple [.str "test"],
  .tuple [.str "test", .tuple [.str "a"]],
  .tuple [.str "test", .tuple [.str "a"], .str "same"],
  .tuple [.str "and"],
  .tuple [.str "or"],
  .tuple [.str "any"],
  .tuple [.str "not"],
  .tuple [.str "any", .tuple [.str "a"]],
  .tuple [.str "or", .list [.tuple [.str "every"]]],
  .tuple [.str "and", .tuple [], .tuple []],
  .tuple [.str "test", .tuple [.str "a"], .str "same", .int 1, .int 1]]
def testV : D := .tuple [.str "test", .tuple [.str "a"], .str "same", .int 1]
def deepV : D := .tuple [.str "any", .tuple [.str "a"], .tuple [.str "or", .tuple [.tuple [.str "every"], .tuple [.str "and", .tuple [.tuple [.str "any", .tuple [.str "b"], .tuple [.str "test", .tuple [.str "a"], .str "same", .int 1]], .tuple [.str "every"]]]]]]
def goods29 : List D := [.tuple [.str "every"],
  .tuple [.str "not", .tuple [.str "not", .tuple [.str "not", .tuple [.str "not", .tuple [.str "every"]]]]],
  .tuple [.str "and", .tuple []],
  .tuple [.str "or", .tuple [.tuple [.str "every"], .tuple [.str "every"], .tuple [.str "every"], .tuple [.str "every"], .tuple [.str "every"], .tuple [.str "every"], .tuple [.str "every"], .tuple [.str "every"]]],
  .tuple [.str "and", .tuple [.tuple [.str "or", .tuple [.tuple [.str "every"], .tuple [.str "every"], .tuple [.str "every"], .tuple [.str "every"], .tuple [.str "every"], .tuple [.str "every"], .tuple [.str "every"], .tuple [.str "every"]]], .tuple [.str "or", .tuple [.tuple [.str "every"], .tuple [.str "every"], .tuple [.str "every"], .tuple [.str "every"], .tuple [.str "every"], .tuple [.str "every"], .tuple [.str "every"], .tuple [.str "every"]]], .tuple [.str "or", .tuple [.tuple [.str "every"], .tuple [.str "every"], .tuple [.str "every"], .tuple [.str "every"], .tuple [.str "every"], .tuple [.str "every"], .tuple [.str "every"], .tuple [.str "every"]]], .tuple [.str "or", .tuple [.tuple [.str "every"], .tuple [.str "every"], .tuple [.str "every"], .tuple [.str "every"], .tuple [.str "every"], .tuple [.str "every"], .tuple [.str "every"], .tuple [.str "every"]]], .tuple [.str "not", .tuple [.str "every"]]]],
  .tuple [.str "and", .tuple [.tuple [.str "or", .tuple [.tuple [.str "every"], .tuple [.str "every"], .tuple [.str "every"], .tuple [.str "every"], .tuple [.str "every"], .tuple [.str "every"], .tuple [.str "every"], .tuple [.str "every"]]], .tuple [.str "or", .tuple [.tuple [.str "every"], .tuple [.str "every"], .tuple [.str "every"], .tuple [.str "every"], .tuple [.str "every"], .tuple [.str "every"], .tuple [.str "every"], .tuple [.str "every"]]], .tuple [.str "or", .tuple [.tuple [.str "every"], .tuple [.str "every"], .tuple [.str "every"], .tuple [.str "every"], .tuple [.str "every"], .tuple [.str "every"], .tuple [.str "every"], .tuple [.str "every"]]], .tuple [.str "or", .tuple [.tuple [.str "every"], .tuple [.str "every"], .tuple [.str "every"], .tuple [.str "every"], .tuple [.str "every"], .tuple [.str "every"], .tuple [.str "every"], .tuple [.str "every"]]], .tuple [.str "not", .tuple [.str "every"]], .tuple [.str "every"]]],
  .tuple [.str "any", .tuple [.str "a"], .tuple [.str "or", .tuple [.tuple [.str "every"], .tuple [.str "and", .tuple [.tuple [.str "any", .tuple [.str "b"], .tuple [.str "test", .tuple [.str "a"], .str "same", .int 1]], .tuple [.str "every"]]]]]],
  .tuple [.str "or", .tuple [.tuple [.str "every"], .tuple [.str "and", .tuple [.tuple [.str "or", .tuple [.tuple [.str "not", .tuple [.str "test", .tuple [.str "a"], .str "same", .int 1]]]]]]]]]
def odds29 : List D := [.tuple [.str "not", .tuple [.str "not", .tuple [.str "not", .tuple [.str "not", .tuple [.str "not", .tuple [.str "every"]]]]]],
  .tuple [.str "and", .tuple [.tuple [.str "or", .tuple [.tuple [.str "every"], .tuple [.str "every"], .tuple [.str "every"], .tuple [.str "every"], .tuple [.str "every"], .tuple [.str "every"], .tuple [.str "every"], .tuple [.str "every"]]], .tuple [.str "or", .tuple [.tuple [.str "every"], .tuple [.str "every"], .tuple [.str "every"], .tuple [.str "every"], .tuple [.str "every"], .tuple [.str "every"], .tuple [.str "every"], .tuple [.str "every"]]], .tuple [.str "or", .tuple [.tuple [.str "every"], .tuple [.str "every"], .tuple [.str "every"], .tuple [.str "every"], .tuple [.str "every"], .tuple [.str "every"], .tuple [.str "every"], .tuple [.str "every"]]], .tuple [.str "or", .tuple [.tuple [.str "every"], .tuple [.str "every"], .tuple [.str "every"], .tuple [.str "every"], .tuple [.str "every"], .tuple [.str "every"], .tuple [.str "every"], .tuple [.str "every"]]], .tuple [.str "not", .tuple [.str "every"]], .tuple [.str "every"], .tuple [.str "every"]]],
  .tuple [.str "or", .tuple [.tuple [.str "every"], .tuple [.str "every"], .tuple [.str "every"], .tuple [.str "every"], .tuple [.str "every"], .tuple [.str "every"], .tuple [.str "every"], .tuple [.str "every"], .tuple [.str "every"]]],
  .tuple [.list [.str "and"], .tuple []],
  .tuple [.list [.str "every"]],
  .tuple [.str "test", .tuple [.str "a"], .list [.str "same"], .int 1],
  .tuple [.str "test", .tuple [.str "a"], .str "is", .list [.str "text"]],
  .tuple [.str "test", .tuple [.str "a"], .tuple [.str "same"], .int 1],
  .tuple [.tuple [], .tuple []],
  .tuple [.str "test"],
  .tuple [.str "test", .tuple [.str "a"]],
  .tuple [.str "test", .tuple [.str "a"], .str "same"],
  .tuple [.str "and"],
  .tuple [.str "or"],
  .tuple [.str "any"],
  .tuple [.str "not"],
  .tuple [.str "any", .tuple [.str "a"]],
  .tuple [.str "or", .list [.tuple [.str "every"]]],
  .tuple [.str "and", .tuple [], .tuple []],
  .tuple [.str "test", .tuple [.str "a"], .str "same", .int 1, .int 1],
  .tuple [.str "and", .tuple [.tuple [.str "every"], .tuple [.str "any", .tuple [.str "a"], .tuple [.str "or", .tuple [.tuple [.str "every"], .tuple [.str "and", .tuple [.tuple [.str "any", .tuple [.str "b"], .tuple [.str "test", .tuple [.str "a"], .str "same", .int 1]], .tuple [.str "every"]]]]]]]],
  .tuple [.str "or", .tuple [.tuple [.str "any", .tuple [.str "a"], .tuple [.str "or", .tuple [.tuple [.str "every"], .tuple [.str "and", .tuple [.tuple [.str "any", .tuple [.str "b"], .tuple [.str "test", .tuple [.str "a"], .str "same", .int 1]], .tuple [.str "every"]]]]]]]],
  .tuple [.str "any", .tuple [], .tuple [.str "any", .tuple [.str "a"], .tuple [.str "or", .tuple [.tuple [.str "every"], .tuple [.str "and", .tuple [.tuple [.str "any", .tuple [.str "b"], .tuple [.str "test", .tuple [.str "a"], .str "same", .int 1]], .tuple [.str "every"]]]]]]]]
def wideV : D := .tuple [.tuple [.str "or", .tuple [.tuple [.str "test", .tuple [.str "a"], .str "same", .int 1], .tuple [.str "test", .tuple [.str "a"], .str "same", .int 1], .tuple [.str "test", .tuple [.str "a"], .str "same", .int 1], .tuple [.str "test", .tuple [.str "a"], .str "same", .int 1], .tuple [.str "test", .tuple [.str "a"], .str "same", .int 1], .tuple [.str "test", .tuple [.str "a"], .str "same", .int 1], .tuple [.str "test", .tuple [.str "a"], .str "same", .int 1], .tuple [.str "test", .tuple [.str "a"], .str "same", .int 1]]], .tuple [.str "or", .tuple [.tuple [.str "test", .tuple [.str "a"], .str "same", .int 1], .tuple [.str "test", .tuple [.str "a"], .str "same", .int 1], .tuple [.str "test", .tuple [.str "a"], .str "same", .int 1], .tuple [.str "test", .tuple [.str "a"], .str "same", .int 1], .tuple [.str "test", .tuple [.str "a"], .str "same", .int 1], .tuple [.str "test", .tuple [.str "a"], .str "same", .int 1], .tuple [.str "test", .tuple [.str "a"], .str "same", .int 1], .tuple [.str "test", .tuple [.str "a"], .str "same", .int 1]]], .tuple [.str "or", .tuple [.tuple [.str "test", .tuple [.str "a"], .str "same", .int 1], .tuple [.str "test", .tuple [.str "a"], .str "same", .int 1], .tuple [.str "test", .tuple [.str "a"], .str "same", .int 1], .tuple [.str "test", .tuple [.str "a"], .str "same", .int 1], .tuple [.str "test", .tuple [.str "a"], .str "same", .int 1], .tuple [.str "test", .tuple [.str "a"], .str "same", .int 1], .tuple [.str "test", .tuple [.str "a"], .str "same", .int 1], .tuple [.str "test", .tuple [.str "a"], .str "same", .int 1]]], .tuple [.str "or", .tuple [.tuple [.str "test", .tuple [.str "a"], .str "same", .int 1], .tuple [.str "test", .tuple [.str "a"], .str "same", .int 1], .tuple [.str "test", .tuple [.str "a"], .str "same", .int 1], .tuple [.str "test", .tuple [.str "a"], .str "same", .int 1], .tuple [.str "test", .tuple [.str "a"], .str "same", .int 1], .tuple [.str "test", .tuple [.str "a"], .str "same", .int 1], .tuple [.str "test", .tuple [.str "a"], .str "same", .int 1], .tuple [.str "test", .tuple [.str "a"], .str "same", .int 1]]]]
def T34 : WS := sRet (wAndV (wOp eqD (wOf (wLC (iL (wVar 8)) (gN 19) (wTru (wOp isnotD (wFn 1 ct_fits_filter (arE (wVar 19) arNil)) (wC (.bool true)))) (wVar 19) [19])) (wLst wNil)) (wOp eqD (wOf (wLC (iL (wVar 9)) (gN 19) (wTru (wOp isnotD (wFn 1 ct_fits_filter (arE (wVar 19) arNil)) (wC (.bool false)))) (wVar 19) [19])) (wLst wNil)))
def T30 : WS := sCons (sAsg (wOp tmulD (wTup (wCons (wTup (wCons (wC (.str "or")) (wCons (wOp tmulD (wTup (wCons (wVar 16) wNil)) (wC (.int 8))) wNil))) wNil)) (wC (.int 4))) (gN 18))
  (sCons (sAsg (wOp addD (wVar 8) (wLst (wCons (wTup (wCons (wC (.str "and")) (wCons (wOp addD (wVar 18) (wTup (wCons (wTup (wCons (wC (.str "any")) (wCons (wTup (wCons (wC (.str "a")) wNil)) (wCons (wVar 16) wNil)))) (wCons (wVar 16) wNil)))) wNil))) wNil))) (gN 8))
  (sCons (sAsg (wOp addD (wVar 9) (wLst (wCons (wTup (wCons (wC (.str "and")) (wCons (wOp addD (wVar 18) (wTup (wCons (wTup (wCons (wC (.str "any")) (wCons (wTup (wCons (wC (.str "a")) wNil)) (wCons (wVar 16) wNil)))) (wCons (wVar 16) (wCons (wVar 16) wNil))))) wNil))) (wCons (wTup (wCons (wC (.str "and")) (wCons (wOp addD (wVar 18) (wTup (wCons (wTup (wCons (wC (.str "any")) (wCons (wTup (wCons (wC (.str "a")) wNil)) (wCons (wTup (wCons (wC (.str "any")) (wCons (wTup wNil) (wCons (wVar 16) wNil)))) wNil)))) (wCons (wVar 16) wNil)))) wNil))) wNil)))) (gN 9))
  (sCons (sAsg (wOp addD (wVar 9) (wLst (wCons (wTup (wCons (wC (.str "or")) (wCons (wOp tmulD (wTup (wCons (wTup (wCons (wC (.str "or")) (wCons (wOp tmulD (wTup (wCons (wVar 16) wNil)) (wC (.int 8))) wNil))) wNil)) (wC (.int 5))) wNil))) wNil))) (gN 9))
  (T34))))
def T27 : WS := sCons (sAsg (wTup (wCons (wC (.str "test")) (wCons (wTup (wCons (wC (.str "a")) wNil)) (wCons (wC (.str "same")) (wCons (wC (.int 1)) wNil))))) (gN 16))
  (sCons (sAsg (wTup (wCons (wC (.str "any")) (wCons (wTup (wCons (wC (.str "a")) wNil)) (wCons (wTup (wCons (wC (.str "or")) (wCons (wTup (wCons (wVar 4) (wCons (wTup (wCons (wC (.str "and")) (wCons (wTup (wCons (wTup (wCons (wC (.str "any")) (wCons (wTup (wCons (wC (.str "b")) wNil)) (wCons (wVar 16) wNil)))) (wCons (wVar 4) wNil))) wNil))) wNil))) wNil))) wNil)))) (gN 17))
  (sCons (sPar 8 9 (wOp addD (wVar 8) (wLst (wCons (wVar 17) (wCons (wTup (wCons (wC (.str "or")) (wCons (wTup (wCons (wVar 4) (wCons (wTup (wCons (wC (.str "and")) (wCons (wTup (wCons (wTup (wCons (wC (.str "or")) (wCons (wTup (wCons (wTup (wCons (wC (.str "not")) (wCons (wVar 16) wNil))) wNil)) wNil))) wNil)) wNil))) wNil))) wNil))) wNil)))) (wOp addD (wVar 9) (wLst (wCons (wTup (wCons (wC (.str "and")) (wCons (wTup (wCons (wVar 4) (wCons (wVar 17) wNil))) wNil))) (wCons (wTup (wCons (wC (.str "or")) (wCons (wTup (wCons (wVar 17) wNil)) wNil))) (wCons (wTup (wCons (wC (.str "any")) (wCons (wTup wNil) (wCons (wVar 17) wNil)))) wNil))))))
  (T30)))
def T23 : WS := sCons (sAsg (wOp addD (wVar 9) (wLst (wCons (wTup (wCons (wLst (wCons (wC (.str "and")) wNil)) (wCons (wTup wNil) wNil))) (wCons (wTup (wCons (wLst (wCons (wC (.str "every")) wNil)) wNil)) (wCons (wTup (wCons (wC (.str "test")) (wCons (wTup (wCons (wC (.str "a")) wNil)) (wCons (wLst (wCons (wC (.str "same")) wNil)) (wCons (wC (.int 1)) wNil))))) (wCons (wTup (wCons (wC (.str "test")) (wCons (wTup (wCons (wC (.str "a")) wNil)) (wCons (wC (.str "is")) (wCons (wLst (wCons (wC (.str "text")) wNil)) wNil))))) wNil)))))) (gN 9))
  (sCons (sAsg (wOp addD (wVar 9) (wLst (wCons (wTup (wCons (wC (.str "test")) (wCons (wTup (wCons (wC (.str "a")) wNil)) (wCons (wTup (wCons (wC (.str "same")) wNil)) (wCons (wC (.int 1)) wNil))))) (wCons (wTup (wCons (wTup wNil) (wCons (wTup wNil) wNil))) wNil)))) (gN 9))
  (sCons (sAsg (wOp addD (wVar 9) (wLst (wCons (wTup (wCons (wC (.str "test")) wNil)) (wCons (wTup (wCons (wC (.str "test")) (wCons (wTup (wCons (wC (.str "a")) wNil)) wNil))) (wCons (wTup (wCons (wC (.str "test")) (wCons (wTup (wCons (wC (.str "a")) wNil)) (wCons (wC (.str "same")) wNil)))) (wCons (wTup (wCons (wC (.str "and")) wNil)) (wCons (wTup (wCons (wC (.str "or")) wNil)) (wCons (wTup (wCons (wC (.str "any")) wNil)) (wCons (wTup (wCons (wC (.str "not")) wNil)) (wCons (wTup (wCons (wC (.str "any")) (wCons (wTup (wCons (wC (.str "a")) wNil)) wNil))) (wCons (wTup (wCons (wC (.str "or")) (wCons (wLst (wCons (wVar 4) wNil)) wNil))) wNil))))))))))) (gN 9))
  (sCons (sAsg (wOp addD (wVar 9) (wLst (wCons (wTup (wCons (wC (.str "and")) (wCons (wTup wNil) (wCons (wTup wNil) wNil)))) (wCons (wTup (wCons (wC (.str "test")) (wCons (wTup (wCons (wC (.str "a")) wNil)) (wCons (wC (.str "same")) (wCons (wC (.int 1)) (wCons (wC (.int 1)) wNil)))))) wNil)))) (gN 9))
  (T27))))
def T22 : WS := sCons (sFor (iL (wVar 14)) (gTup' 2 (gCons' (gN 15) (gCons' (gN 13) gNil'))) (sIf (wOr (wTru (wOp neD (wCall reprD (wCons (wFn 1 ct_fits_filter (arE (wTup (wCons (wC (.str "test")) (wCons (wVar 15) (wCons (wC (.str "same")) (wCons (wC (.int 1)) wNil))))) arNil)) wNil)) (wCall reprD (wCons (wVar 13) wNil)))) (wTru (wOp neD (wCall reprD (wCons (wFn 1 ct_fits_filter (arE (wTup (wCons (wC (.str "any")) (wCons (wVar 15) (wCons (wVar 4) wNil)))) arNil)) wNil)) (wCall reprD (wCons (wVar 13) wNil))))) (sRet (wC (.bool false))) sNil))
  (T23)
def T20 : WS := sCons (sAsg (wLst (wCons (wTup (wCons (wTup wNil) (wCons (wC (.bool true)) wNil))) (wCons (wTup (wCons (wOp tmulD (wTup (wCons (wC (.str "a")) wNil)) (wC (.int 6))) (wCons (wC (.bool true)) wNil))) (wCons (wTup (wCons (wOp tmulD (wTup (wCons (wC (.str "a")) wNil)) (wC (.int 7))) (wCons (wC (.bool false)) wNil))) (wCons (wTup (wCons (wTup (wCons (wC (.int 16)) wNil)) (wCons (wC (.bool false)) wNil))) (wCons (wTup (wCons (wTup (wCons (wUn negD (wC (.int 1))) wNil)) (wCons (wC (.bool false)) wNil))) (wCons (wTup (wCons (wTup (wCons (wC (.bool true)) wNil)) (wCons (wC (.bool false)) wNil))) (wCons (wTup (wCons (wTup (wCons (wC (.str "Ab")) wNil)) (wCons (wC (.bool false)) wNil))) wNil)))))))) (gN 14))
  (sCons (sAsg (wOp addD (wVar 14) (wLst (wCons (wTup (wCons (wLst (wCons (wC (.str "a")) wNil)) (wCons (wC (.bool false)) wNil))) (wCons (wTup (wCons (wC .none) (wCons (wC (.bool false)) wNil))) wNil)))) (gN 14))
  (T22))
def T19 : WS := sCons (sFor (iL (wVar 10)) (gTup' 3 (gCons' (gN 11) (gCons' (gN 12) (gCons' (gN 13) gNil')))) (sIf (wTru (wOp neD (wCall reprD (wCons (wFn 1 ct_fits_filter (arE (wTup (wCons (wC (.str "test")) (wCons (wVar 5) (wCons (wVar 11) (wCons (wVar 12) wNil))))) arNil)) wNil)) (wCall reprD (wCons (wVar 13) wNil)))) (sRet (wC (.bool false))) sNil))
  (T20)
def T16 : WS := sCons (sAsg (wOp addD (wVar 10) (wLst (wCons (wTup (wCons (wC (.str "is")) (wCons (wC (.str "truth")) (wCons (wC (.bool true)) wNil)))) (wCons (wTup (wCons (wC (.str "is")) (wCons (wC (.str "null")) (wCons (wC (.bool true)) wNil)))) (wCons (wTup (wCons (wC (.str "is")) (wCons (wC (.str "bool")) (wCons (wC (.bool false)) wNil)))) (wCons (wTup (wCons (wC (.str "is")) (wCons (wC .none) (wCons (wC (.bool false)) wNil)))) (wCons (wTup (wCons (wC (.str "is")) (wCons (wC (.int 1)) (wCons (wC (.bool false)) wNil)))) wNil))))))) (gN 10))
  (sCons (sAsg (wOp addD (wVar 10) (wLst (wCons (wTup (wCons (wC (.str "exists")) (wCons (wC (.bool true)) (wCons (wC (.bool true)) wNil)))) (wCons (wTup (wCons (wC (.str "exists")) (wCons (wC (.int 1)) (wCons (wC (.bool false)) wNil)))) (wCons (wTup (wCons (wC (.str "exists")) (wCons (wC .none) (wCons (wC (.bool false)) wNil)))) wNil))))) (gN 10))
  (sCons (sAsg (wOp addD (wVar 10) (wLst (wCons (wTup (wCons (wC (.str "Same")) (wCons (wC (.int 1)) (wCons (wC (.bool false)) wNil)))) (wCons (wTup (wCons (wC (.str "like")) (wCons (wC (.str "a")) (wCons (wC (.bool false)) wNil)))) (wCons (wTup (wCons (wC .none) (wCons (wC (.int 1)) (wCons (wC (.bool false)) wNil)))) (wCons (wTup (wCons (wC (.str "")) (wCons (wC (.int 1)) (wCons (wC (.bool false)) wNil)))) wNil)))))) (gN 10))
  (T19)))
def T15 : WS := sCons (sAsg (wOp addD (wOp addD (wVar 10) (wOf (wLC (iT (wTup (wCons (wC (.str "atmost")) (wCons (wC (.str "more")) (wCons (wC (.str "atleast")) wNil))))) (gN 11) wYes (wTup (wCons (wVar 11) (wCons (wC (.str "it's")) (wCons (wC (.bool false)) wNil)))) [11]))) (wOf (wLC (iT (wTup (wCons (wC (.str "atmost")) (wCons (wC (.str "more")) (wCons (wC (.str "atleast")) (wCons (wC (.str "other")) wNil)))))) (gN 11) wYes (wTup (wCons (wVar 11) (wCons (wLst (wCons (wC (.str "a")) wNil)) (wCons (wC (.bool false)) wNil)))) [11]))) (gN 10))
  (T16)
def T2 : WS := sCons (sAsg (wTup (wCons (wTup (wCons (wC (.str "every")) wNil)) (wCons (wTup (wCons (wC (.str "a")) (wCons (wC (.int 15)) (wCons (wC (.str "b9")) wNil)))) wNil))) (gTup' 2 (gCons' (gN 4) (gCons' (gN 5) gNil'))))
  (sCons (sAsg (wTup (wCons (wC (.str "not")) (wCons (wTup (wCons (wC (.str "not")) (wCons (wTup (wCons (wC (.str "not")) (wCons (wTup (wCons (wC (.str "not")) (wCons (wVar 4) wNil))) wNil))) wNil))) wNil))) (gN 6))
  (sCons (sAsg (wTup (wCons (wC (.str "and")) (wCons (wTup (wCons (wTup (wCons (wC (.str "or")) (wCons (wOp tmulD (wTup (wCons (wVar 4) wNil)) (wC (.int 8))) wNil))) (wCons (wTup (wCons (wC (.str "or")) (wCons (wOp tmulD (wTup (wCons (wVar 4) wNil)) (wC (.int 8))) wNil))) (wCons (wTup (wCons (wC (.str "or")) (wCons (wOp tmulD (wTup (wCons (wVar 4) wNil)) (wC (.int 8))) wNil))) (wCons (wTup (wCons (wC (.str "or")) (wCons (wOp tmulD (wTup (wCons (wVar 4) wNil)) (wC (.int 8))) wNil))) (wCons (wTup (wCons (wC (.str "not")) (wCons (wVar 4) wNil))) (wCons (wVar 4) wNil))))))) wNil))) (gN 7))
  (sCons (sAsg (wLst (wCons (wVar 4) (wCons (wVar 6) (wCons (wTup (wCons (wC (.str "and")) (wCons (wTup wNil) wNil))) (wCons (wTup (wCons (wC (.str "or")) (wCons (wOp tmulD (wTup (wCons (wVar 4) wNil)) (wC (.int 8))) wNil))) (wCons (wTup (wCons (wC (.str "and")) (wCons (wSlice (wOp idxD (wVar 7) (wC (.int 1))) wPN (wPS (wC (.int 5)))) wNil))) (wCons (wTup (wCons (wC (.str "and")) (wCons (wOp idxD (wVar 7) (wC (.int 1))) wNil))) wNil))))))) (gN 8))
  (sCons (sAsg (wLst (wCons (wTup (wCons (wC (.str "not")) (wCons (wVar 6) wNil))) (wCons (wTup (wCons (wC (.str "and")) (wCons (wOp addD (wOp idxD (wVar 7) (wC (.int 1))) (wTup (wCons (wVar 4) wNil))) wNil))) (wCons (wTup (wCons (wC (.str "or")) (wCons (wOp tmulD (wTup (wCons (wVar 4) wNil)) (wC (.int 9))) wNil))) wNil)))) (gN 9))
  (sCons (sAsg (wLst (wCons (wTup (wCons (wC (.str "same")) (wCons (wC .none) (wCons (wC (.bool true)) wNil)))) (wCons (wTup (wCons (wC (.str "same")) (wCons (wLst (wCons (wC (.int 1)) wNil)) (wCons (wC (.bool false)) wNil)))) (wCons (wTup (wCons (wC (.str "other")) (wCons (wC (.str "it's")) (wCons (wC (.bool false)) wNil)))) (wCons (wTup (wCons (wC (.str "less")) (wCons (wOp addD (wOp powD (wC (.int 10)) (wC (.int 12))) (wC (.int 1))) (wCons (wC (.bool false)) wNil)))) wNil))))) (gN 10))
  (sCons (sAsg (wOp addD (wVar 10) (wLst (wCons (wTup (wCons (wC (.str "atmost")) (wCons (wTup (wCons (wC (.str "list")) (wCons (wTup wNil) wNil))) (wCons (wC (.bool true)) wNil)))) (wCons (wTup (wCons (wC (.str "more")) (wCons (wTup (wCons (wC (.str "doc")) (wCons (wTup (wCons (wTup (wCons (wC (.str "id")) (wCons (wC (.int 1)) wNil))) wNil)) wNil))) (wCons (wC (.bool true)) wNil)))) wNil)))) (gN 10))
  (sCons (sAsg (wOp addD (wVar 10) (wLst (wCons (wTup (wCons (wC (.str "in")) (wCons (wTup (wCons (wC (.str "list")) (wCons (wTup (wCons (wC (.int 1)) (wCons (wC (.str "a")) wNil))) wNil))) (wCons (wC (.bool true)) wNil)))) (wCons (wTup (wCons (wC (.str "in")) (wCons (wC (.int 1)) (wCons (wC (.bool false)) wNil)))) (wCons (wTup (wCons (wC (.str "in")) (wCons (wTup (wCons (wC (.str "doc")) (wCons (wTup wNil) wNil))) (wCons (wC (.bool false)) wNil)))) (wCons (wTup (wCons (wC (.str "has")) (wCons (wTup (wCons (wC (.str "list")) (wCons (wTup wNil) wNil))) (wCons (wC (.bool true)) wNil)))) wNil)))))) (gN 10))
  (sCons (sAsg (wOp addD (wVar 10) (wLst (wCons (wTup (wCons (wC (.str "has")) (wCons (wTup (wCons (wC (.int 1)) wNil)) (wCons (wC (.bool false)) wNil)))) wNil))) (gN 10))
  (sCons (sAsg (wOp addD (wVar 10) (wLst (wCons (wTup (wCons (wC (.str "size")) (wCons (wC (.int 0)) (wCons (wC (.bool true)) wNil)))) (wCons (wTup (wCons (wC (.str "size")) (wCons (wC (.int 16)) (wCons (wC (.bool true)) wNil)))) (wCons (wTup (wCons (wC (.str "size")) (wCons (wC (.int 17)) (wCons (wC (.bool false)) wNil)))) (wCons (wTup (wCons (wC (.str "size")) (wCons (wUn negD (wC (.int 1))) (wCons (wC (.bool false)) wNil)))) (wCons (wTup (wCons (wC (.str "size")) (wCons (wC (.bool true)) (wCons (wC (.bool false)) wNil)))) wNil))))))) (gN 10))
  (sCons (sAsg (wOp addD (wVar 10) (wLst (wCons (wTup (wCons (wC (.str "size")) (wCons (wC .none) (wCons (wC (.bool false)) wNil)))) (wCons (wTup (wCons (wC (.str "size")) (wCons (wC (.bool false)) (wCons (wC (.bool false)) wNil)))) (wCons (wTup (wCons (wC (.str "is")) (wCons (wC (.str "")) (wCons (wC (.bool false)) wNil)))) wNil))))) (gN 10))
  (sCons (sAsg (wOp addD (wVar 10) (wLst (wCons (wTup (wCons (wC (.str "in")) (wCons (wTup (wCons (wC (.str "list")) (wCons (wTup (wCons (wOp addD (wOp powD (wC (.int 10)) (wC (.int 12))) (wC (.int 1))) wNil)) wNil))) (wCons (wC (.bool false)) wNil)))) (wCons (wTup (wCons (wC (.str "has")) (wCons (wTup (wCons (wC (.str "list")) (wCons (wTup (wCons (wC (.str "it's")) wNil)) wNil))) (wCons (wC (.bool false)) wNil)))) (wCons (wTup (wCons (wC (.str "in")) (wCons (wTup (wCons (wC (.str "list")) (wCons (wLst (wCons (wC (.int 1)) wNil)) wNil))) (wCons (wC (.bool false)) wNil)))) wNil))))) (gN 10))
  (sCons (sAsg (wOp addD (wVar 10) (wLst (wCons (wTup (wCons (wC (.str "has")) (wCons (wTup (wCons (wC (.str "list")) (wCons (wOp tmulD (wTup (wCons (wC (.int 1)) wNil)) (wC (.int 17))) wNil))) (wCons (wC (.bool false)) wNil)))) (wCons (wTup (wCons (wC (.str "has")) (wCons (wTup (wCons (wC (.str "list")) (wCons (wOp tmulD (wTup (wCons (wC (.int 1)) wNil)) (wC (.int 16))) wNil))) (wCons (wC (.bool true)) wNil)))) (wCons (wTup (wCons (wC (.str "in")) (wCons (wTup (wCons (wC (.str "list")) (wCons (wTup (wCons (wTup (wCons (wC (.str "list")) (wCons (wC (.int 5)) wNil))) wNil)) wNil))) (wCons (wC (.bool false)) wNil)))) wNil))))) (gN 10))
  (T15)))))))))))))
theorem repr_bool (b : Bool) : reprD [.bool b] = some (.str (PyData.shown (.bool b))) := by
  show (if PyData.showable (.bool b) = true ∧ (PyData.bool b).depth ≤ 100 ∧ (PyData.shown (.bool b)).length ≤ sizeLine then some (PyData.str (PyData.shown (.bool b))) else none) = _
  exact if_pos (by cases b <;> decide +kernel)
theorem wof_map {i : Nat} {τ τ1 : Ta} {X : XP} {u : Sl} {s : WI} {e : WE} {ds : List D} {P : D → Ta → Prop} (src : ∀ P : List D → Ta → Prop, P ds τ1 → s τ X P) (f : D → D) (h0 : τ1[i]? = some u) (hs : isVal (some u)) (hl : ds.length ≤ sizeLine)
    (he : ∀ d ∈ ds, ∀ P : D → Ta → Prop, P (f d) (τ1.set i (.val d)) → e (τ1.set i (.val d)) (fun _ _ => False) P) (h : P (.list (ds.map f)) τ1) : wOf (wLC s (gN i) wYes e [i]) τ X P := wlc_map src f h0 hs hl he h
theorem wof_none {i : Nat} {τ τ1 : Ta} {X : XP} {u : Sl} {s : WI} {t : WT} {e : WE} {ds : List D} {P : D → Ta → Prop} (src : ∀ P : List D → Ta → Prop, P ds τ1 → s τ X P) (h0 : τ1[i]? = some u) (hs : isVal (some u)) (hl : ds.length ≤ sizeLine)
    (ht : ∀ d ∈ ds, ∀ P : Bool → Ta → Prop, P false (τ1.set i (.val d)) → t (τ1.set i (.val d)) (fun _ _ => False) P) (h : P (.list []) τ1) : wOf (wLC s (gN i) t e [i]) τ X P :=
  wlc_filter src (fun _ => false) id h0 hs hl ht (fun _ _ h => nomatch h) (by rw [show ds.filter (fun _ => false) = [] from List.filter_eq_nil_iff.mpr fun _ _ h => nomatch h]; exact h)
theorem endSeg {f : Ta → Prop} {τ τ' : Ta} (h : f τ') (e : τ = τ') : f τ := by rw [e]; exact h

def S0 (x0 x1 s2 s3 : Sl) : Ta := [x0, x1, s2, s3, .un, .un, .un, .un, .un, .un, .un, .un, .un, .un, .un, .un, .un, .un, .un, .un]
def S15 (x0 x1 s2 s3 : Sl) (ts : List D) : Ta := [x0, x1, s2, s3, .val leafD, .val pathD, .val fourD, .val fortyD, .val (.list goods0), .val (.list odds0), .val (.list ts), .un, .un, .un, .un, .un, .un, .un, .un, .un]
def S20 (x0 x1 s2 s3 s11 s12 s13 s14 s15 : Sl) (gs os : List D) (s16 s17 s18 : Sl) : Ta := [x0, x1, s2, s3, .val leafD, .val pathD, .val fourD, .val fortyD, .val (.list gs), .val (.list os), .val (.list testsD), s11, s12, s13, s14, s15, s16, s17, s18, .un]
end K16
end

section
set_option maxRecDepth 100000
set_option maxHeartbeats 0
namespace K16
open PySem PySem.Spec PyProof.Rows L2 PV
set_option autoImplicit false
section
variable {E : PEn} {X : XP} {x0 x1 s2 s3 s11 s12 s13 s15 : Sl}
theorem seg2 (h : T15 E X (S15 x0 x1 s2 s3 tests14)) : T2 E X (S0 x0 x1 s2 s3) := by
  refine ⟨q1, q3, q2, _, rfl, rfl, _, _, rfl, trivial, _, _, rfl, trivial, rfl, ?_⟩
  refine ⟨_, rfl, q2, q2, q2, q2, trivial, ?_⟩
  refine ⟨_, rfl, q1, _, tmul_tup _ _ ⟨by simp, by decide, by decide, by decide, by decide⟩, q2, _, rfl, q1, _, tmul_tup _ _ ⟨by simp, by decide, by decide, by decide, by decide⟩, q2, _, rfl, q1, _, tmul_tup _ _ ⟨by simp, by decide, by decide, by decide, by decide⟩, q2, _, rfl, q1, _, tmul_tup _ _ ⟨by simp, by decide, by decide, by decide, by decide⟩, q2, _, rfl, q2, _, rfl, q6, q2, trivial, ?_⟩
  refine ⟨_, rfl, _, rfl, q0, q2, _, rfl, q1, _, tmul_tup _ _ ⟨by simp, by decide, by decide, by decide, by decide⟩, q2, _, rfl, _, idx1 _ _ _, _, rfl, _, rfl, q2, _, rfl, _, idx1 _ _ _, q2, q6, trivial, ?_⟩
  refine ⟨_, rfl, q2, _, rfl, _, idx1 _ _ _, _, rfl, q1, _, add_tup _ _ (by decide +kernel), q2, _, rfl, q1, _, tmul_tup _ _ ⟨by simp, by decide, by decide, by decide, by decide⟩, q2, q3, trivial, ?_⟩
  refine ⟨q3, q1, q3, q3, _, pow12, _, add_int _ _, q3, q4, trivial, ?_⟩
  refine ⟨_, rfl, q0, q2, q3, q2, q1, q2, q3, q2, _, add_list _ _ (by decide +kernel), trivial, ?_⟩
  refine ⟨_, rfl, q2, q2, q3, q3, q0, q2, q3, q0, q2, q3, q4, _, add_list _ _ (by decide +kernel), trivial, ?_⟩
  refine ⟨_, rfl, q1, q3, q1, _, add_list _ _ (by decide +kernel), trivial, ?_⟩
  refine ⟨_, rfl, q3, q3, q3, _, rfl, q3, q3, q5, _, add_list _ _ (by decide +kernel), trivial, ?_⟩
  refine ⟨_, rfl, q3, q3, q3, q3, _, add_list _ _ (by decide +kernel), trivial, ?_⟩
  refine ⟨_, rfl, _, pow12, _, add_int _ _, q1, q2, q3, q1, q2, q3, q1, q2, q3, q3, _, add_list _ _ (by decide +kernel), trivial, ?_⟩
  refine ⟨_, rfl, q1, _, tmul_tup _ _ ⟨by simp, by decide, by decide, by decide, by decide⟩, q2, q3, q1, _, tmul_tup _ _ ⟨by simp, by decide, by decide, by decide, by decide⟩, q2, q3, q2, q1, q2, q3, q3, _, add_list _ _ (by decide +kernel), trivial, ?_⟩
  refine endSeg (f := T15 E X) h ?_
  kernel_rfl
end
end K16
end

section
set_option maxRecDepth 100000
set_option maxHeartbeats 0
namespace K16
open PySem PySem.Spec PyProof.Rows L2 PV
set_option autoImplicit false
section
variable {E : PEn} {X : XP} {x0 x1 s2 s3 s11 s12 s13 s15 : Sl}
theorem seg15 (h : T16 E X (S15 x0 x1 s2 s3 tests15)) : T15 E X (S15 x0 x1 s2 s3 tests14) := by
  refine ⟨_, rfl, ?_⟩
  refine wof_map (τ1 := S15 x0 x1 s2 s3 tests14) (ds := [.str "atmost", .str "more", .str "atleast"]) (fun P p => ⟨q3, _, rfl, p⟩) (fun x => .tuple [x, .str "it's", .bool false]) (u := .un) rfl trivial q3 (fun d m P p => ⟨_, rfl, q3, p⟩) ?_
  refine ⟨_, add_list _ _ (by decide +kernel), ?_⟩
  refine wof_map (τ1 := S15 x0 x1 s2 s3 tests14) (ds := [.str "atmost", .str "more", .str "atleast", .str "other"]) (fun P p => ⟨q4, _, rfl, p⟩) (fun x => .tuple [x, .list [.str "a"], .bool false]) (u := .un) rfl trivial q4 (fun d m P p => ⟨_, rfl, q1, q3, p⟩) ?_
  refine ⟨_, add_list _ _ (by decide +kernel), trivial, ?_⟩
  refine endSeg (f := T16 E X) h ?_
  kernel_rfl
end
end K16
end

section
set_option maxRecDepth 100000
set_option maxHeartbeats 0
namespace K16
open PySem PySem.Spec PyProof.Rows L2 PV
set_option autoImplicit false
section
variable {E : PEn} {X : XP} {x0 x1 s2 s3 s11 s12 s13 s15 : Sl}
theorem seg16 (h : T19 E X (S15 x0 x1 s2 s3 testsD)) : T16 E X (S15 x0 x1 s2 s3 tests15) := by
  refine ⟨_, rfl, q3, q3, q3, q3, q3, q5, _, add_list _ _ (by decide +kernel), trivial, ?_⟩
  refine ⟨_, rfl, q3, q3, q3, q3, _, add_list _ _ (by decide +kernel), trivial, ?_⟩
  refine ⟨_, rfl, q3, q3, q3, q3, q4, _, add_list _ _ (by decide +kernel), trivial, ?_⟩
  refine endSeg (f := T19 E X) h ?_
  kernel_rfl
end
end K16
end

section
set_option maxRecDepth 100000
set_option maxHeartbeats 0
namespace K16
open PySem PySem.Spec PyProof.Rows L2 PV
set_option autoImplicit false
section
variable {E : PEn} {X : XP} {x0 x1 s2 s3 s11 s12 s13 s15 : Sl}
theorem seg19 (h : ∀ s11 s12 s13, slotV s11 → slotV s12 → slotV s13 → T20 E X (S20 x0 x1 s2 s3 s11 s12 s13 .un .un goods0 odds0 .un .un .un)) : T19 E X (S15 x0 x1 s2 s3 testsD) := by
  refine ⟨_, rfl, testsD, rfl, ?_⟩
  refine for_go (fun ds τ => ds.all testOk1 = true ∧ ∃ (s11 s12 s13 : Sl), τ = S20 x0 x1 s2 s3 s11 s12 s13 .un .un goods0 odds0 .un .un .un ∧ slotV s11 ∧ slotV s12 ∧ slotV s13) ?_ ?_ testsD _ ⟨tests_ok, .un, .un, .un, rfl, .inl rfl, .inl rfl, .inl rfl⟩
  case refine_2 =>
    rintro d ds τ ⟨hd, s11, s12, s13, rfl, v11, v12, v13⟩ next
    rw [List.all_cons, Bool.and_eq_true] at hd
    obtain ⟨hd, hds⟩ := hd
    match d, hd with
    | .tuple [word, told, .bool due], hd =>
      rw [testOk1, Bool.and_eq_true, beq_iff_eq] at hd
      refine ⟨_, rfl, rfl, _, _, rfl, okSet_at rfl v11, _, _, rfl, okSet_at rfl v12, _, _, rfl, okSet_at rfl v13, rfl, ?_⟩
      refine ⟨pathD, rfl, word, rfl, told, rfl, q4, _, rfl, ⟨rfl, .nil⟩, (c_fits_filter _ _ _).mpr ⟨due, hd.1, hd.2, _, repr_bool due, _, rfl, _, repr_bool due, _, dne_str _ _, _, rfl, ifF (by simp) ?_⟩⟩
      exact next _ ⟨hds, _, _, _, rfl, .inr ⟨_, rfl⟩, .inr ⟨_, rfl⟩, .inr ⟨_, rfl⟩⟩
  rintro τ ⟨-, s11, s12, s13, rfl, v11, v12, v13⟩
  exact h _ _ _ v11 v12 v13
end
end K16
end

section
set_option maxRecDepth 100000
set_option maxHeartbeats 0
namespace K16
open PySem PySem.Spec PyProof.Rows L2 PV
set_option autoImplicit false
section
variable {E : PEn} {X : XP} {x0 x1 s2 s3 s11 s12 s13 s15 : Sl}
theorem seg20 (h : T22 E X (S20 x0 x1 s2 s3 s11 s12 s13 (.val (.list pathsD)) .un goods0 odds0 .un .un .un)) : T20 E X (S20 x0 x1 s2 s3 s11 s12 s13 .un .un goods0 odds0 .un .un .un) := by
  refine ⟨q0, q2, q1, _, tmul_tup _ _ ⟨by simp, by decide, by decide, by decide, by decide⟩, q2, q1, _, tmul_tup _ _ ⟨by simp, by decide, by decide, by decide, by decide⟩, q2, q1, q2, _, rfl, q1, q2, q1, q2, q1, q2, q7, trivial, ?_⟩
  refine ⟨_, rfl, q1, q2, q2, q2, _, add_list _ _ (by decide +kernel), trivial, ?_⟩
  refine endSeg (f := T22 E X) h ?_
  kernel_rfl
end
end K16
end

section
set_option maxRecDepth 100000
set_option maxHeartbeats 0
namespace K16
open PySem PySem.Spec PyProof.Rows L2 PV
set_option autoImplicit false
section
variable {E : PEn} {X : XP} {x0 x1 s2 s3 s11 s12 s13 s15 : Sl}
theorem seg22 (v13 : slotV s13) (h : ∀ s13 s15, T23 E X (S20 x0 x1 s2 s3 s11 s12 s13 (.val (.list pathsD)) s15 goods0 odds0 .un .un .un)) : T22 E X (S20 x0 x1 s2 s3 s11 s12 s13 (.val (.list pathsD)) .un goods0 odds0 .un .un .un) := by
  refine ⟨_, rfl, pathsD, rfl, ?_⟩
  refine for_go (fun ds τ => ds.all pathOk1 = true ∧ ∃ (s13 s15 : Sl), τ = S20 x0 x1 s2 s3 s11 s12 s13 (.val (.list pathsD)) s15 goods0 odds0 .un .un .un ∧ slotV s13 ∧ slotV s15) ?_ ?_ pathsD _ ⟨paths_ok, s13, .un, rfl, v13, .inl rfl⟩
  case refine_2 =>
    rintro d ds τ ⟨hd, s13, s15, rfl, v13, v15⟩ next
    rw [List.all_cons, Bool.and_eq_true] at hd
    obtain ⟨hd, hds⟩ := hd
    match d, hd with
    | .tuple [way, .bool due], hd =>
      rw [pathOk1, Bool.and_eq_true, Bool.and_eq_true, beq_iff_eq, beq_iff_eq] at hd
      have hw : short way = true := by
        have h1 := short_mem (ds := [.str "test", way, .str "same", .int 1]) hd.1 way (by simp)
        exact h1
      have hs2 : short (.tuple [.str "any", way, leafD]) = true := by
        show shortA [.str "any", way, leafD] = true
        rw [shortA, shortA, hw]
        decide +kernel
      refine ⟨_, rfl, rfl, _, _, rfl, okSet_at rfl v15, _, _, rfl, okSet_at rfl v13, rfl, ?_⟩
      refine ⟨way, rfl, q4, _, rfl, ⟨rfl, .nil⟩, (c_fits_filter _ _ _).mpr ⟨due, hd.1, hd.2.1, _, repr_bool due, _, rfl, _, repr_bool due, _, dne_str _ _, _, rfl, ifF (by simp) ?_⟩⟩
      refine ⟨way, rfl, leafD, rfl, q3, _, rfl, ⟨rfl, .nil⟩, (c_fits_filter _ _ _).mpr ⟨due, hs2, hd.2.2, _, repr_bool due, _, rfl, _, repr_bool due, _, dne_str _ _, _, rfl, ifF (by simp) ?_⟩⟩
      exact next _ ⟨hds, _, _, rfl, .inr ⟨_, rfl⟩, .inr ⟨_, rfl⟩⟩
  rintro τ ⟨-, s13, s15, rfl, v13, v15⟩
  exact h _ _
end
end K16
end

section
set_option maxRecDepth 100000
set_option maxHeartbeats 0
namespace K16
open PySem PySem.Spec PyProof.Rows L2 PV
set_option autoImplicit false
section
variable {E : PEn} {X : XP} {x0 x1 s2 s3 s11 s12 s13 s15 : Sl}
theorem seg23 (h : T27 E X (S20 x0 x1 s2 s3 s11 s12 s13 (.val (.list pathsD)) s15 goods0 odds26 .un .un .un)) : T23 E X (S20 x0 x1 s2 s3 s11 s12 s13 (.val (.list pathsD)) s15 goods0 odds0 .un .un .un) := by
  refine ⟨_, rfl, q1, q0, q2, q1, q1, q1, q1, q4, q1, q1, q4, q4, _, add_list _ _ (by decide +kernel), trivial, ?_⟩
  refine ⟨_, rfl, q1, q1, q4, q0, q0, q2, q2, _, add_list _ _ (by decide +kernel), trivial, ?_⟩
  refine ⟨_, rfl, q1, q1, q2, q1, q3, q1, q1, q1, q1, q1, q2, _, rfl, q1, q2, q9, _, add_list _ _ (by decide +kernel), trivial, ?_⟩
  refine ⟨_, rfl, q0, q0, q3, q1, q5, q2, _, add_list _ _ (by decide +kernel), trivial, ?_⟩
  refine endSeg (f := T27 E X) h ?_
  kernel_rfl
end
end K16
end

section
set_option maxRecDepth 100000
set_option maxHeartbeats 0
namespace K16
open PySem PySem.Spec PyProof.Rows L2 PV
set_option autoImplicit false
section
variable {E : PEn} {X : XP} {x0 x1 s2 s3 s11 s12 s13 s15 : Sl}
theorem seg27 (h : T30 E X (S20 x0 x1 s2 s3 s11 s12 s13 (.val (.list pathsD)) s15 goods29 odds29 (.val testV) (.val deepV) .un)) : T27 E X (S20 x0 x1 s2 s3 s11 s12 s13 (.val (.list pathsD)) s15 goods0 odds26 .un .un .un) := by
  refine ⟨q1, q4, trivial, ?_⟩
  refine ⟨q1, _, rfl, q1, _, rfl, q3, _, rfl, q2, q2, q2, q2, q3, trivial, ?_⟩
  refine ⟨_, rfl, _, rfl, _, rfl, _, rfl, q2, q1, q2, q1, q2, q2, q2, q2, _, add_list _ _ (by decide +kernel), _, rfl, _, rfl, _, rfl, q2, q2, _, rfl, q1, q2, q0, _, rfl, q3, q3, _, add_list _ _ (by decide +kernel), trivial, trivial, by decide, ?_⟩
  refine endSeg (f := T30 E X) h ?_
  kernel_rfl
end
end K16
end

section
set_option maxRecDepth 100000
set_option maxHeartbeats 0
namespace K16
open PySem PySem.Spec PyProof.Rows L2 PV
set_option autoImplicit false
section
variable {E : PEn} {X : XP} {x0 x1 s2 s3 s11 s12 s13 s15 : Sl}
theorem seg30 (h : T34 E X (S20 x0 x1 s2 s3 s11 s12 s13 (.val (.list pathsD)) s15 goodsF oddsF (.val testV) (.val deepV) (.val wideV))) : T30 E X (S20 x0 x1 s2 s3 s11 s12 s13 (.val (.list pathsD)) s15 goods29 odds29 (.val testV) (.val deepV) .un) := by
  refine ⟨_, rfl, q1, _, tmul_tup _ _ ⟨by simp, by decide, by decide, by decide, by decide⟩, q2, q1, _, tmul_tup _ _ ⟨by simp, by decide, by decide, by decide, by decide⟩, trivial, ?_⟩
  refine ⟨_, rfl, _, rfl, q1, _, rfl, q3, _, rfl, q2, _, add_tup _ _ (by decide +kernel), q2, q1, _, add_list _ _ (by decide +kernel), trivial, ?_⟩
  refine ⟨_, rfl, _, rfl, q1, _, rfl, q3, _, rfl, _, rfl, q3, _, add_tup _ _ (by decide +kernel), q2, _, rfl, q1, q0, _, rfl, q3, q3, _, rfl, q2, _, add_tup _ _ (by decide +kernel), q2, q2, _, add_list _ _ (by decide +kernel), trivial, ?_⟩
  refine ⟨_, rfl, _, rfl, q1, _, tmul_tup _ _ ⟨by simp, by decide, by decide, by decide, by decide⟩, q2, q1, _, tmul_tup _ _ ⟨by simp, by decide, by decide, by decide, by decide⟩, q2, q1, _, add_list _ _ (by decide +kernel), trivial, ?_⟩
  refine endSeg (f := T34 E X) h ?_
  kernel_rfl
end
end K16
end

section
set_option maxRecDepth 100000
set_option maxHeartbeats 0
namespace K16
open PySem PySem.Spec PyProof.Rows L2 PV
set_option autoImplicit false
section
variable {E : PEn} {X : XP} {x0 x1 s2 s3 s11 s12 s13 s15 : Sl}
theorem seg34 (h : E.rt (.bool true) (S20 x0 x1 s2 s3 s11 s12 s13 (.val (.list pathsD)) s15 goodsF oddsF (.val testV) (.val deepV) (.val wideV))) : T34 E X (S20 x0 x1 s2 s3 s11 s12 s13 (.val (.list pathsD)) s15 goodsF oddsF (.val testV) (.val deepV) (.val wideV)) := by
  simp only [T34, sRet, wAndV, wOp]
  refine wof_none (τ1 := S20 x0 x1 s2 s3 s11 s12 s13 (.val (.list pathsD)) s15 goodsF oddsF (.val testV) (.val deepV) (.val wideV)) (ds := goodsF) (fun P p => ⟨_, rfl, goodsF, rfl, p⟩) (u := .un) rfl trivial (by decide +kernel) (fun d m P p => ?_) ?_
  · have := List.all_eq_true.mp goods_ok d m
    rw [Bool.and_eq_true, beq_iff_eq] at this
    exact ⟨d, rfl, _, rfl, ⟨rfl, .nil⟩, (c_fits_filter _ _ _).mpr ⟨true, this.1, this.2, _, rfl, _, rfl, p⟩⟩
  refine ⟨q0, _, eq_nil [], true, rfl, ifT rfl ?_⟩
  refine wof_none (τ1 := S20 x0 x1 s2 s3 s11 s12 s13 (.val (.list pathsD)) s15 goodsF oddsF (.val testV) (.val deepV) (.val wideV)) (ds := oddsF) (fun P p => ⟨_, rfl, oddsF, rfl, p⟩) (u := .un) rfl trivial (by decide +kernel) (fun d m P p => ?_) ?_
  · have := List.all_eq_true.mp odds_ok d m
    rw [Bool.and_eq_true, beq_iff_eq] at this
    exact ⟨d, rfl, _, rfl, ⟨rfl, .nil⟩, (c_fits_filter _ _ _).mpr ⟨false, this.1, this.2, _, rfl, _, rfl, p⟩⟩
  exact ⟨q0, _, eq_nil [], h⟩
end
end K16
end

section
set_option maxRecDepth 100000
set_option maxHeartbeats 0
namespace K16
open PySem PySem.Spec PyProof.Rows L2 PV
set_option autoImplicit false
theorem v_law : VC (lawCt 63) (b_law ct_cup (ct_F 3) ct_near ct_fits_filter) 1 19 := by
  rintro τ0 Xp Q - - ⟨⟨ns, hl, rfl⟩, h⟩
  refine ⟨_, rfl, _, rfl, ⟨rfl, .nil⟩, ns, rfl, hl, fun a b => ⟨trivial, ?_⟩⟩
  refine ⟨5, rfl, ⟨by decide, by decide⟩, ?_⟩
  refine for_go (fun _ τ => ∃ (a b : Int) (s2 s3 : Sl), τ = S0 (.val (.list (ns.map PyData.int))) (.own [.int a, .int b]) s2 s3 ∧ slotV s2 ∧ slotV s3) ?_ ?_ _ _ ⟨a, b, .un, .un, rfl, .inl rfl, .inl rfl⟩
  case refine_2 =>
    rintro d ds τ ⟨a, b, s2, s3, rfl, v2, v3⟩ next
    refine ⟨okSet_at rfl v2, ⟨_, rfl⟩, _, rfl, ⟨rfl, nd1⟩, _, _, _, rfl, rfl, fun A a1 b1 g => ⟨okSet_at rfl v3, ?_⟩⟩
    refine ⟨_, rfl, _, rfl, ⟨rfl, .nil⟩, (c_fits_filter _ _ _).mpr ⟨true, g.short, g.fits (by decide), _, rfl, _, rfl, ifF rfl ?_⟩⟩
    refine ⟨⟨_, rfl⟩, _, rfl, _, rfl, ⟨rfl, nd1⟩, _, _, _, _, rfl, g, by decide, fun o a2 b2 odd => ?_⟩
    refine ⟨_, rfl, ⟨rfl, .nil⟩, (c_fits_filter _ _ _).mpr ⟨false, odd.1, odd.2, _, rfl, _, rfl, ifF rfl ?_⟩⟩
    exact next _ ⟨a2, b2, .val d, .val A, rfl, .inr ⟨_, rfl⟩, .inr ⟨_, rfl⟩⟩
  rintro τ ⟨a, b, s2, s3, rfl, v2, v3⟩
  exact seg2 (seg15 (seg16 (seg19 fun s11 s12 s13 v11 v12 v13 => seg20 (seg22 v13 fun s13 s15 => seg23 (seg27 (seg30 (seg34 ⟨_, rfl, h⟩)))))))
end K16
end

section
set_option maxRecDepth 100000
set_option maxHeartbeats 0
namespace K16
open PySem PySem.Spec PyProof.Rows L2 PV
set_option autoImplicit false
/-- what the top has written -/
def all_mk {K : Fg} {h : Heap} {mg : Str → Option Value} (X : K.In h) (G : h.Ns mainGlobals mg)
    (z_abs : PySem.W.nsIn K mainGlobals "abs" = some none)
    (z_all : PySem.W.nsIn K mainGlobals "all" = some none)
    (z_bool : PySem.W.nsIn K mainGlobals "bool" = some none)
    (z_int : PySem.W.nsIn K mainGlobals "int" = some none)
    (z_isinstance : PySem.W.nsIn K mainGlobals "isinstance" = some none)
    (z_len : PySem.W.nsIn K mainGlobals "len" = some none)
    (z_list : PySem.W.nsIn K mainGlobals "list" = some none)
    (z_ord : PySem.W.nsIn K mainGlobals "ord" = some none)
    (z_range : PySem.W.nsIn K mainGlobals "range" = some none)
    (z_repr : PySem.W.nsIn K mainGlobals "repr" = some none)
    (z_set : PySem.W.nsIn K mainGlobals "set" = some none)
    (z_str : PySem.W.nsIn K mainGlobals "str" = some none)
    (z_tuple : PySem.W.nsIn K mainGlobals "tuple" = some none)
    {t_DEEP : Tok} (c_DEEP : PySem.W.nsIn K mainGlobals "DEEP" = some (some (.int 6 t_DEEP)))
    {t_FILTERS : Tok} (c_FILTERS : PySem.W.nsIn K mainGlobals "FILTERS" = some (some (.int 40 t_FILTERS)))
    {t_HIGHEST : Tok} (c_HIGHEST : PySem.W.nsIn K mainGlobals "HIGHEST" = some (some (.int 1000000000000 t_HIGHEST)))
    {t_INDEX : Tok} (c_INDEX : PySem.W.nsIn K mainGlobals "INDEX" = some (some (.int 15 t_INDEX)))
    {a_KINDS : Addr} {t_KINDS_0 t_KINDS_1 t_KINDS_2 t_KINDS_3 t_KINDS_4 t_KINDS_5 : Tok} {n_KINDS : Nat} (c_KINDS : PySem.W.nsIn K mainGlobals "KINDS" = some (some (.ref a_KINDS))) (d_KINDS : K.lookup a_KINDS = some ⟨.type "tuple", none, .seq #[.str "null" t_KINDS_0, .str "number" t_KINDS_1, .str "text" t_KINDS_2, .str "doc" t_KINDS_3, .str "list" t_KINDS_4, .str "truth" t_KINDS_5] n_KINDS, #[]⟩)
    {a_LISTS : Addr} {t_LISTS_0 t_LISTS_1 : Tok} {n_LISTS : Nat} (c_LISTS : PySem.W.nsIn K mainGlobals "LISTS" = some (some (.ref a_LISTS))) (d_LISTS : K.lookup a_LISTS = some ⟨.type "tuple", none, .seq #[.str "in" t_LISTS_0, .str "has" t_LISTS_1] n_LISTS, #[]⟩)
    {t_LONGEST : Tok} (c_LONGEST : PySem.W.nsIn K mainGlobals "LONGEST" = some (some (.int 40 t_LONGEST)))
    {t_MOST : Tok} (c_MOST : PySem.W.nsIn K mainGlobals "MOST" = some (some (.int 16 t_MOST)))
    {t_NAME : Tok} (c_NAME : PySem.W.nsIn K mainGlobals "NAME" = some (some (.int 8 t_NAME)))
    {t_NESTED : Tok} (c_NESTED : PySem.W.nsIn K mainGlobals "NESTED" = some (some (.int 5 t_NESTED)))
    {a_ORDERS : Addr} {t_ORDERS_0 t_ORDERS_1 t_ORDERS_2 t_ORDERS_3 : Tok} {n_ORDERS : Nat} (c_ORDERS : PySem.W.nsIn K mainGlobals "ORDERS" = some (some (.ref a_ORDERS))) (d_ORDERS : K.lookup a_ORDERS = some ⟨.type "tuple", none, .seq #[.str "less" t_ORDERS_0, .str "atmost" t_ORDERS_1, .str "more" t_ORDERS_2, .str "atleast" t_ORDERS_3] n_ORDERS, #[]⟩)
    {t_PARTS : Tok} (c_PARTS : PySem.W.nsIn K mainGlobals "PARTS" = some (some (.int 8 t_PARTS)))
    {t_SIGNS : Tok} (c_SIGNS : PySem.W.nsIn K mainGlobals "SIGNS" = some (some (.str "abcdefghijklmnopqrstuvwxyz0123456789" t_SIGNS)))
    {t_SIZE : Tok} (c_SIZE : PySem.W.nsIn K mainGlobals "SIZE" = some (some (.int 16 t_SIZE)))
    {t_SMALL : Tok} (c_SMALL : PySem.W.nsIn K mainGlobals "SMALL" = some (some (.str "abcdefghijklmnopqrstuvwxyz" t_SMALL)))
    {t_STEPS : Tok} (c_STEPS : PySem.W.nsIn K mainGlobals "STEPS" = some (some (.int 6 t_STEPS)))
    {a_is_whole : Addr} {od_is_whole an_is_whole : Option Addr} {sl_is_whole : Array (Option Value)} {oc_is_whole kV_is_whole dc_is_whole pm_is_whole cd_is_whole ct_is_whole : Value} (g_is_whole : PySem.W.nsIn K mainGlobals "is_whole" = some (some (.ref a_is_whole))) (l_is_whole : K.lookup a_is_whole = some ⟨oc_is_whole, od_is_whole, .func (PySem.W.fnOf "is_whole" "is_whole" (defArgs s_is_whole) (defBody s_is_whole) (defScope s_is_whole) .none kV_is_whole dc_is_whole pm_is_whole an_is_whole cd_is_whole ct_is_whole), sl_is_whole⟩) (c_is_whole : PySem.W.codeIn K cd_is_whole "is_whole" = true) (k_is_whole : PySem.W.keepIn K (.ref a_is_whole) = true)
    {a_is_tuple_of : Addr} {od_is_tuple_of an_is_tuple_of : Option Addr} {sl_is_tuple_of : Array (Option Value)} {oc_is_tuple_of kV_is_tuple_of dc_is_tuple_of pm_is_tuple_of cd_is_tuple_of ct_is_tuple_of : Value} (g_is_tuple_of : PySem.W.nsIn K mainGlobals "is_tuple_of" = some (some (.ref a_is_tuple_of))) (l_is_tuple_of : K.lookup a_is_tuple_of = some ⟨oc_is_tuple_of, od_is_tuple_of, .func (PySem.W.fnOf "is_tuple_of" "is_tuple_of" (defArgs s_is_tuple_of) (defBody s_is_tuple_of) (defScope s_is_tuple_of) .none kV_is_tuple_of dc_is_tuple_of pm_is_tuple_of an_is_tuple_of cd_is_tuple_of ct_is_tuple_of), sl_is_tuple_of⟩) (c_is_tuple_of : PySem.W.codeIn K cd_is_tuple_of "is_tuple_of" = true) (k_is_tuple_of : PySem.W.keepIn K (.ref a_is_tuple_of) = true)
    {a_is_name : Addr} {od_is_name an_is_name : Option Addr} {sl_is_name : Array (Option Value)} {oc_is_name kV_is_name dc_is_name pm_is_name cd_is_name ct_is_name : Value} (g_is_name : PySem.W.nsIn K mainGlobals "is_name" = some (some (.ref a_is_name))) (l_is_name : K.lookup a_is_name = some ⟨oc_is_name, od_is_name, .func (PySem.W.fnOf "is_name" "is_name" (defArgs s_is_name) (defBody s_is_name) (defScope s_is_name) .none kV_is_name dc_is_name pm_is_name an_is_name cd_is_name ct_is_name), sl_is_name⟩) (c_is_name : PySem.W.codeIn K cd_is_name "is_name" = true) (k_is_name : PySem.W.keepIn K (.ref a_is_name) = true)
    {a_is_text_sign : Addr} {od_is_text_sign an_is_text_sign : Option Addr} {sl_is_text_sign : Array (Option Value)} {oc_is_text_sign kV_is_text_sign dc_is_text_sign pm_is_text_sign cd_is_text_sign ct_is_text_sign : Value} (g_is_text_sign : PySem.W.nsIn K mainGlobals "is_text_sign" = some (some (.ref a_is_text_sign))) (l_is_text_sign : K.lookup a_is_text_sign = some ⟨oc_is_text_sign, od_is_text_sign, .func (PySem.W.fnOf "is_text_sign" "is_text_sign" (defArgs s_is_text_sign) (defBody s_is_text_sign) (defScope s_is_text_sign) .none kV_is_text_sign dc_is_text_sign pm_is_text_sign an_is_text_sign cd_is_text_sign ct_is_text_sign), sl_is_text_sign⟩) (c_is_text_sign : PySem.W.codeIn K cd_is_text_sign "is_text_sign" = true) (k_is_text_sign : PySem.W.keepIn K (.ref a_is_text_sign) = true)
    {a_fits_plain : Addr} {od_fits_plain an_fits_plain : Option Addr} {sl_fits_plain : Array (Option Value)} {oc_fits_plain kV_fits_plain dc_fits_plain pm_fits_plain cd_fits_plain ct_fits_plain : Value} (g_fits_plain : PySem.W.nsIn K mainGlobals "fits_plain" = some (some (.ref a_fits_plain))) (l_fits_plain : K.lookup a_fits_plain = some ⟨oc_fits_plain, od_fits_plain, .func (PySem.W.fnOf "fits_plain" "fits_plain" (defArgs s_fits_plain) (defBody s_fits_plain) (defScope s_fits_plain) .none kV_fits_plain dc_fits_plain pm_fits_plain an_fits_plain cd_fits_plain ct_fits_plain), sl_fits_plain⟩) (c_fits_plain : PySem.W.codeIn K cd_fits_plain "fits_plain" = true) (k_fits_plain : PySem.W.keepIn K (.ref a_fits_plain) = true)
    {a_is_knot : Addr} {od_is_knot an_is_knot : Option Addr} {sl_is_knot : Array (Option Value)} {oc_is_knot kV_is_knot dc_is_knot pm_is_knot cd_is_knot ct_is_knot : Value} (g_is_knot : PySem.W.nsIn K mainGlobals "is_knot" = some (some (.ref a_is_knot))) (l_is_knot : K.lookup a_is_knot = some ⟨oc_is_knot, od_is_knot, .func (PySem.W.fnOf "is_knot" "is_knot" (defArgs s_is_knot) (defBody s_is_knot) (defScope s_is_knot) .none kV_is_knot dc_is_knot pm_is_knot an_is_knot cd_is_knot ct_is_knot), sl_is_knot⟩) (c_is_knot : PySem.W.codeIn K cd_is_knot "is_knot" = true) (k_is_knot : PySem.W.keepIn K (.ref a_is_knot) = true)
    {a_fits_fields : Addr} {od_fits_fields an_fits_fields : Option Addr} {sl_fits_fields : Array (Option Value)} {oc_fits_fields kV_fits_fields dc_fits_fields pm_fits_fields cd_fits_fields ct_fits_fields : Value} (g_fits_fields : PySem.W.nsIn K mainGlobals "fits_fields" = some (some (.ref a_fits_fields))) (l_fits_fields : K.lookup a_fits_fields = some ⟨oc_fits_fields, od_fits_fields, .func (PySem.W.fnOf "fits_fields" "fits_fields" (defArgs s_fits_fields) (defBody s_fits_fields) (defScope s_fits_fields) .none kV_fits_fields dc_fits_fields pm_fits_fields an_fits_fields cd_fits_fields ct_fits_fields), sl_fits_fields⟩) (c_fits_fields : PySem.W.codeIn K cd_fits_fields "fits_fields" = true) (k_fits_fields : PySem.W.keepIn K (.ref a_fits_fields) = true)
    {a_inner_of : Addr} {od_inner_of an_inner_of : Option Addr} {sl_inner_of : Array (Option Value)} {oc_inner_of kV_inner_of dc_inner_of pm_inner_of cd_inner_of ct_inner_of : Value} (g_inner_of : PySem.W.nsIn K mainGlobals "inner_of" = some (some (.ref a_inner_of))) (l_inner_of : K.lookup a_inner_of = some ⟨oc_inner_of, od_inner_of, .func (PySem.W.fnOf "inner_of" "inner_of" (defArgs s_inner_of) (defBody s_inner_of) (defScope s_inner_of) .none kV_inner_of dc_inner_of pm_inner_of an_inner_of cd_inner_of ct_inner_of), sl_inner_of⟩) (c_inner_of : PySem.W.codeIn K cd_inner_of "inner_of" = true) (k_inner_of : PySem.W.keepIn K (.ref a_inner_of) = true)
    {a_fits_value : Addr} {od_fits_value an_fits_value : Option Addr} {sl_fits_value : Array (Option Value)} {oc_fits_value kV_fits_value dc_fits_value pm_fits_value cd_fits_value ct_fits_value : Value} (g_fits_value : PySem.W.nsIn K mainGlobals "fits_value" = some (some (.ref a_fits_value))) (l_fits_value : K.lookup a_fits_value = some ⟨oc_fits_value, od_fits_value, .func (PySem.W.fnOf "fits_value" "fits_value" (defArgs s_fits_value) (defBody s_fits_value) (defScope s_fits_value) .none kV_fits_value dc_fits_value pm_fits_value an_fits_value cd_fits_value ct_fits_value), sl_fits_value⟩) (c_fits_value : PySem.W.codeIn K cd_fits_value "fits_value" = true) (k_fits_value : PySem.W.keepIn K (.ref a_fits_value) = true)
    {a_is_list : Addr} {od_is_list an_is_list : Option Addr} {sl_is_list : Array (Option Value)} {oc_is_list kV_is_list dc_is_list pm_is_list cd_is_list ct_is_list : Value} (g_is_list : PySem.W.nsIn K mainGlobals "is_list" = some (some (.ref a_is_list))) (l_is_list : K.lookup a_is_list = some ⟨oc_is_list, od_is_list, .func (PySem.W.fnOf "is_list" "is_list" (defArgs s_is_list) (defBody s_is_list) (defScope s_is_list) .none kV_is_list dc_is_list pm_is_list an_is_list cd_is_list ct_is_list), sl_is_list⟩) (c_is_list : PySem.W.codeIn K cd_is_list "is_list" = true) (k_is_list : PySem.W.keepIn K (.ref a_is_list) = true)
    {a_fits_path : Addr} {od_fits_path an_fits_path : Option Addr} {sl_fits_path : Array (Option Value)} {oc_fits_path kV_fits_path dc_fits_path pm_fits_path cd_fits_path ct_fits_path : Value} (g_fits_path : PySem.W.nsIn K mainGlobals "fits_path" = some (some (.ref a_fits_path))) (l_fits_path : K.lookup a_fits_path = some ⟨oc_fits_path, od_fits_path, .func (PySem.W.fnOf "fits_path" "fits_path" (defArgs s_fits_path) (defBody s_fits_path) (defScope s_fits_path) .none kV_fits_path dc_fits_path pm_fits_path an_fits_path cd_fits_path ct_fits_path), sl_fits_path⟩) (c_fits_path : PySem.W.codeIn K cd_fits_path "fits_path" = true) (k_fits_path : PySem.W.keepIn K (.ref a_fits_path) = true)
    {a_fits_told : Addr} {od_fits_told an_fits_told : Option Addr} {sl_fits_told : Array (Option Value)} {oc_fits_told kV_fits_told dc_fits_told pm_fits_told cd_fits_told ct_fits_told : Value} (g_fits_told : PySem.W.nsIn K mainGlobals "fits_told" = some (some (.ref a_fits_told))) (l_fits_told : K.lookup a_fits_told = some ⟨oc_fits_told, od_fits_told, .func (PySem.W.fnOf "fits_told" "fits_told" (defArgs s_fits_told) (defBody s_fits_told) (defScope s_fits_told) .none kV_fits_told dc_fits_told pm_fits_told an_fits_told cd_fits_told ct_fits_told), sl_fits_told⟩) (c_fits_told : PySem.W.codeIn K cd_fits_told "fits_told" = true) (k_fits_told : PySem.W.keepIn K (.ref a_fits_told) = true)
    {a_fits_test : Addr} {od_fits_test an_fits_test : Option Addr} {sl_fits_test : Array (Option Value)} {oc_fits_test kV_fits_test dc_fits_test pm_fits_test cd_fits_test ct_fits_test : Value} (g_fits_test : PySem.W.nsIn K mainGlobals "fits_test" = some (some (.ref a_fits_test))) (l_fits_test : K.lookup a_fits_test = some ⟨oc_fits_test, od_fits_test, .func (PySem.W.fnOf "fits_test" "fits_test" (defArgs s_fits_test) (defBody s_fits_test) (defScope s_fits_test) .none kV_fits_test dc_fits_test pm_fits_test an_fits_test cd_fits_test ct_fits_test), sl_fits_test⟩) (c_fits_test : PySem.W.codeIn K cd_fits_test "fits_test" = true) (k_fits_test : PySem.W.keepIn K (.ref a_fits_test) = true)
    {a_inner_filters : Addr} {od_inner_filters an_inner_filters : Option Addr} {sl_inner_filters : Array (Option Value)} {oc_inner_filters kV_inner_filters dc_inner_filters pm_inner_filters cd_inner_filters ct_inner_filters : Value} (g_inner_filters : PySem.W.nsIn K mainGlobals "inner_filters" = some (some (.ref a_inner_filters))) (l_inner_filters : K.lookup a_inner_filters = some ⟨oc_inner_filters, od_inner_filters, .func (PySem.W.fnOf "inner_filters" "inner_filters" (defArgs s_inner_filters) (defBody s_inner_filters) (defScope s_inner_filters) .none kV_inner_filters dc_inner_filters pm_inner_filters an_inner_filters cd_inner_filters ct_inner_filters), sl_inner_filters⟩) (c_inner_filters : PySem.W.codeIn K cd_inner_filters "inner_filters" = true) (k_inner_filters : PySem.W.keepIn K (.ref a_inner_filters) = true)
    {a_fits_filter : Addr} {od_fits_filter an_fits_filter : Option Addr} {sl_fits_filter : Array (Option Value)} {oc_fits_filter kV_fits_filter dc_fits_filter pm_fits_filter cd_fits_filter ct_fits_filter : Value} (g_fits_filter : PySem.W.nsIn K mainGlobals "fits_filter" = some (some (.ref a_fits_filter))) (l_fits_filter : K.lookup a_fits_filter = some ⟨oc_fits_filter, od_fits_filter, .func (PySem.W.fnOf "fits_filter" "fits_filter" (defArgs s_fits_filter) (defBody s_fits_filter) (defScope s_fits_filter) .none kV_fits_filter dc_fits_filter pm_fits_filter an_fits_filter cd_fits_filter ct_fits_filter), sl_fits_filter⟩) (c_fits_filter : PySem.W.codeIn K cd_fits_filter "fits_filter" = true) (k_fits_filter : PySem.W.keepIn K (.ref a_fits_filter) = true)
    {a_is_filter : Addr} {od_is_filter an_is_filter : Option Addr} {sl_is_filter : Array (Option Value)} {oc_is_filter kV_is_filter dc_is_filter pm_is_filter cd_is_filter ct_is_filter : Value} (g_is_filter : PySem.W.nsIn K mainGlobals "is_filter" = some (some (.ref a_is_filter))) (l_is_filter : K.lookup a_is_filter = some ⟨oc_is_filter, od_is_filter, .func (PySem.W.fnOf "is_filter" "is_filter" (defArgs s_is_filter) (defBody s_is_filter) (defScope s_is_filter) .none kV_is_filter dc_is_filter pm_is_filter an_is_filter cd_is_filter ct_is_filter), sl_is_filter⟩) (c_is_filter : PySem.W.codeIn K cd_is_filter "is_filter" = true) (k_is_filter : PySem.W.keepIn K (.ref a_is_filter) = true)
    {a__law_cup : Addr} {od__law_cup an__law_cup : Option Addr} {sl__law_cup : Array (Option Value)} {oc__law_cup kV__law_cup dc__law_cup pm__law_cup cd__law_cup ct__law_cup : Value} (g__law_cup : PySem.W.nsIn K mainGlobals "_law_cup" = some (some (.ref a__law_cup))) (l__law_cup : K.lookup a__law_cup = some ⟨oc__law_cup, od__law_cup, .func (PySem.W.fnOf "_law_cup" "_law_cup" (defArgs s__law_cup) (defBody s__law_cup) (defScope s__law_cup) .none kV__law_cup dc__law_cup pm__law_cup an__law_cup cd__law_cup ct__law_cup), sl__law_cup⟩) (c__law_cup : PySem.W.codeIn K cd__law_cup "_law_cup" = true) (k__law_cup : PySem.W.keepIn K (.ref a__law_cup) = true)
    {a__law_roll : Addr} {od__law_roll an__law_roll : Option Addr} {sl__law_roll : Array (Option Value)} {oc__law_roll kV__law_roll dc__law_roll pm__law_roll cd__law_roll ct__law_roll : Value} (g__law_roll : PySem.W.nsIn K mainGlobals "_law_roll" = some (some (.ref a__law_roll))) (l__law_roll : K.lookup a__law_roll = some ⟨oc__law_roll, od__law_roll, .func (PySem.W.fnOf "_law_roll" "_law_roll" (defArgs s__law_roll) (defBody s__law_roll) (defScope s__law_roll) .none kV__law_roll dc__law_roll pm__law_roll an__law_roll cd__law_roll ct__law_roll), sl__law_roll⟩) (c__law_roll : PySem.W.codeIn K cd__law_roll "_law_roll" = true) (k__law_roll : PySem.W.keepIn K (.ref a__law_roll) = true)
    {a__law_some : Addr} {od__law_some an__law_some : Option Addr} {sl__law_some : Array (Option Value)} {oc__law_some kV__law_some dc__law_some pm__law_some cd__law_some ct__law_some : Value} (g__law_some : PySem.W.nsIn K mainGlobals "_law_some" = some (some (.ref a__law_some))) (l__law_some : K.lookup a__law_some = some ⟨oc__law_some, od__law_some, .func (PySem.W.fnOf "_law_some" "_law_some" (defArgs s__law_some) (defBody s__law_some) (defScope s__law_some) .none kV__law_some dc__law_some pm__law_some an__law_some cd__law_some ct__law_some), sl__law_some⟩) (c__law_some : PySem.W.codeIn K cd__law_some "_law_some" = true) (k__law_some : PySem.W.keepIn K (.ref a__law_some) = true)
    {a__law_value : Addr} {od__law_value an__law_value : Option Addr} {sl__law_value : Array (Option Value)} {oc__law_value kV__law_value dc__law_value pm__law_value cd__law_value ct__law_value : Value} (g__law_value : PySem.W.nsIn K mainGlobals "_law_value" = some (some (.ref a__law_value))) (l__law_value : K.lookup a__law_value = some ⟨oc__law_value, od__law_value, .func (PySem.W.fnOf "_law_value" "_law_value" (defArgs s__law_value) (defBody s__law_value) (defScope s__law_value) .none kV__law_value dc__law_value pm__law_value an__law_value cd__law_value ct__law_value), sl__law_value⟩) (c__law_value : PySem.W.codeIn K cd__law_value "_law_value" = true) (k__law_value : PySem.W.keepIn K (.ref a__law_value) = true)
    {a__law_drawn_fields : Addr} {od__law_drawn_fields an__law_drawn_fields : Option Addr} {sl__law_drawn_fields : Array (Option Value)} {oc__law_drawn_fields kV__law_drawn_fields dc__law_drawn_fields pm__law_drawn_fields cd__law_drawn_fields ct__law_drawn_fields : Value} (g__law_drawn_fields : PySem.W.nsIn K mainGlobals "_law_drawn_fields" = some (some (.ref a__law_drawn_fields))) (l__law_drawn_fields : K.lookup a__law_drawn_fields = some ⟨oc__law_drawn_fields, od__law_drawn_fields, .func (PySem.W.fnOf "_law_drawn_fields" "_law_drawn_fields" (defArgs s__law_drawn_fields) (defBody s__law_drawn_fields) (defScope s__law_drawn_fields) .none kV__law_drawn_fields dc__law_drawn_fields pm__law_drawn_fields an__law_drawn_fields cd__law_drawn_fields ct__law_drawn_fields), sl__law_drawn_fields⟩) (c__law_drawn_fields : PySem.W.codeIn K cd__law_drawn_fields "_law_drawn_fields" = true) (k__law_drawn_fields : PySem.W.keepIn K (.ref a__law_drawn_fields) = true)
    {a__law_path : Addr} {od__law_path an__law_path : Option Addr} {sl__law_path : Array (Option Value)} {oc__law_path kV__law_path dc__law_path pm__law_path cd__law_path ct__law_path : Value} (g__law_path : PySem.W.nsIn K mainGlobals "_law_path" = some (some (.ref a__law_path))) (l__law_path : K.lookup a__law_path = some ⟨oc__law_path, od__law_path, .func (PySem.W.fnOf "_law_path" "_law_path" (defArgs s__law_path) (defBody s__law_path) (defScope s__law_path) .none kV__law_path dc__law_path pm__law_path an__law_path cd__law_path ct__law_path), sl__law_path⟩) (c__law_path : PySem.W.codeIn K cd__law_path "_law_path" = true) (k__law_path : PySem.W.keepIn K (.ref a__law_path) = true)
    {a__law_told : Addr} {od__law_told an__law_told : Option Addr} {sl__law_told : Array (Option Value)} {oc__law_told kV__law_told dc__law_told pm__law_told cd__law_told ct__law_told : Value} (g__law_told : PySem.W.nsIn K mainGlobals "_law_told" = some (some (.ref a__law_told))) (l__law_told : K.lookup a__law_told = some ⟨oc__law_told, od__law_told, .func (PySem.W.fnOf "_law_told" "_law_told" (defArgs s__law_told) (defBody s__law_told) (defScope s__law_told) .none kV__law_told dc__law_told pm__law_told an__law_told cd__law_told ct__law_told), sl__law_told⟩) (c__law_told : PySem.W.codeIn K cd__law_told "_law_told" = true) (k__law_told : PySem.W.keepIn K (.ref a__law_told) = true)
    {a__law_words : Addr} {od__law_words an__law_words : Option Addr} {sl__law_words : Array (Option Value)} {oc__law_words kV__law_words dc__law_words pm__law_words cd__law_words ct__law_words : Value} (g__law_words : PySem.W.nsIn K mainGlobals "_law_words" = some (some (.ref a__law_words))) (l__law_words : K.lookup a__law_words = some ⟨oc__law_words, od__law_words, .func (PySem.W.fnOf "_law_words" "_law_words" (defArgs s__law_words) (defBody s__law_words) (defScope s__law_words) .none kV__law_words dc__law_words pm__law_words an__law_words cd__law_words ct__law_words), sl__law_words⟩) (c__law_words : PySem.W.codeIn K cd__law_words "_law_words" = true) (k__law_words : PySem.W.keepIn K (.ref a__law_words) = true)
    {a__law_filter : Addr} {od__law_filter an__law_filter : Option Addr} {sl__law_filter : Array (Option Value)} {oc__law_filter kV__law_filter dc__law_filter pm__law_filter cd__law_filter ct__law_filter : Value} (g__law_filter : PySem.W.nsIn K mainGlobals "_law_filter" = some (some (.ref a__law_filter))) (l__law_filter : K.lookup a__law_filter = some ⟨oc__law_filter, od__law_filter, .func (PySem.W.fnOf "_law_filter" "_law_filter" (defArgs s__law_filter) (defBody s__law_filter) (defScope s__law_filter) .none kV__law_filter dc__law_filter pm__law_filter an__law_filter cd__law_filter ct__law_filter), sl__law_filter⟩) (c__law_filter : PySem.W.codeIn K cd__law_filter "_law_filter" = true) (k__law_filter : PySem.W.keepIn K (.ref a__law_filter) = true)
    {a__law_near : Addr} {od__law_near an__law_near : Option Addr} {sl__law_near : Array (Option Value)} {oc__law_near kV__law_near dc__law_near pm__law_near cd__law_near ct__law_near : Value} (g__law_near : PySem.W.nsIn K mainGlobals "_law_near" = some (some (.ref a__law_near))) (l__law_near : K.lookup a__law_near = some ⟨oc__law_near, od__law_near, .func (PySem.W.fnOf "_law_near" "_law_near" (defArgs s__law_near) (defBody s__law_near) (defScope s__law_near) .none kV__law_near dc__law_near pm__law_near an__law_near cd__law_near ct__law_near), sl__law_near⟩) (c__law_near : PySem.W.codeIn K cd__law_near "_law_near" = true) (k__law_near : PySem.W.keepIn K (.ref a__law_near) = true)
    {a_law : Addr} {od_law an_law : Option Addr} {sl_law : Array (Option Value)} {oc_law kV_law dc_law pm_law cd_law ct_law : Value} (g_law : PySem.W.nsIn K mainGlobals "law" = some (some (.ref a_law))) (l_law : K.lookup a_law = some ⟨oc_law, od_law, .func (PySem.W.fnOf "law" "law" (defArgs s_law) (defBody s_law) (defScope s_law) .none kV_law dc_law pm_law an_law cd_law ct_law), sl_law⟩) (c_law : PySem.W.codeIn K cd_law "law" = true) (k_law : PySem.W.keepIn K (.ref a_law) = true) : M K mg where
    b_abs := PySem.W.mg_none_of X G z_abs
    b_all := PySem.W.mg_none_of X G z_all
    b_bool := PySem.W.mg_none_of X G z_bool
    b_int := PySem.W.mg_none_of X G z_int
    b_isinstance := PySem.W.mg_none_of X G z_isinstance
    b_len := PySem.W.mg_none_of X G z_len
    b_list := PySem.W.mg_none_of X G z_list
    b_ord := PySem.W.mg_none_of X G z_ord
    b_range := PySem.W.mg_none_of X G z_range
    b_repr := PySem.W.mg_none_of X G z_repr
    b_set := PySem.W.mg_none_of X G z_set
    b_str := PySem.W.mg_none_of X G z_str
    b_tuple := PySem.W.mg_none_of X G z_tuple
    t_DEEP := t_DEEP
    g_DEEP := PySem.W.mg_of X G c_DEEP
    t_FILTERS := t_FILTERS
    g_FILTERS := PySem.W.mg_of X G c_FILTERS
    t_HIGHEST := t_HIGHEST
    g_HIGHEST := PySem.W.mg_of X G c_HIGHEST
    t_INDEX := t_INDEX
    g_INDEX := PySem.W.mg_of X G c_INDEX
    a_KINDS := a_KINDS
    g_KINDS := PySem.W.mg_of X G c_KINDS
    k_KINDS := ⟨[.str "null" t_KINDS_0, .str "number" t_KINDS_1, .str "text" t_KINDS_2, .str "doc" t_KINDS_3, .str "list" t_KINDS_4, .str "truth" t_KINDS_5], _, n_KINDS, d_KINDS, show (6 : Nat) ≤ sizeLine by decide, .cons (.str _ _) (.cons (.str _ _) (.cons (.str _ _) (.cons (.str _ _) (.cons (.str _ _) (.cons (.str _ _) (.nil))))))⟩
    a_LISTS := a_LISTS
    g_LISTS := PySem.W.mg_of X G c_LISTS
    k_LISTS := ⟨[.str "in" t_LISTS_0, .str "has" t_LISTS_1], _, n_LISTS, d_LISTS, show (2 : Nat) ≤ sizeLine by decide, .cons (.str _ _) (.cons (.str _ _) (.nil))⟩
    t_LONGEST := t_LONGEST
    g_LONGEST := PySem.W.mg_of X G c_LONGEST
    t_MOST := t_MOST
    g_MOST := PySem.W.mg_of X G c_MOST
    t_NAME := t_NAME
    g_NAME := PySem.W.mg_of X G c_NAME
    t_NESTED := t_NESTED
    g_NESTED := PySem.W.mg_of X G c_NESTED
    a_ORDERS := a_ORDERS
    g_ORDERS := PySem.W.mg_of X G c_ORDERS
    k_ORDERS := ⟨[.str "less" t_ORDERS_0, .str "atmost" t_ORDERS_1, .str "more" t_ORDERS_2, .str "atleast" t_ORDERS_3], _, n_ORDERS, d_ORDERS, show (4 : Nat) ≤ sizeLine by decide, .cons (.str _ _) (.cons (.str _ _) (.cons (.str _ _) (.cons (.str _ _) (.nil))))⟩
    t_PARTS := t_PARTS
    g_PARTS := PySem.W.mg_of X G c_PARTS
    t_SIGNS := t_SIGNS
    g_SIGNS := PySem.W.mg_of X G c_SIGNS
    t_SIZE := t_SIZE
    g_SIZE := PySem.W.mg_of X G c_SIZE
    t_SMALL := t_SMALL
    g_SMALL := PySem.W.mg_of X G c_SMALL
    t_STEPS := t_STEPS
    g_STEPS := PySem.W.mg_of X G c_STEPS
    a_is_whole := a_is_whole
    fd_is_whole := _
    F_is_whole := fun_mk (st := s_is_whole) l_is_whole c_is_whole k_is_whole
    B_is_whole := (fun_mk (st := s_is_whole) l_is_whole c_is_whole k_is_whole).binds (ps := ["value", "low", "high"]) fun _ _ _ _ _ _ us hl => match us, hl with | [_, _, _], _ => rfl
    m_is_whole := PySem.W.mg_of X G g_is_whole
    a_is_tuple_of := a_is_tuple_of
    fd_is_tuple_of := _
    F_is_tuple_of := fun_mk (st := s_is_tuple_of) l_is_tuple_of c_is_tuple_of k_is_tuple_of
    B_is_tuple_of := (fun_mk (st := s_is_tuple_of) l_is_tuple_of c_is_tuple_of k_is_tuple_of).binds (ps := ["value", "low", "high"]) fun _ _ _ _ _ _ us hl => match us, hl with | [_, _, _], _ => rfl
    m_is_tuple_of := PySem.W.mg_of X G g_is_tuple_of
    a_is_name := a_is_name
    fd_is_name := _
    F_is_name := fun_mk (st := s_is_name) l_is_name c_is_name k_is_name
    B_is_name := (fun_mk (st := s_is_name) l_is_name c_is_name k_is_name).binds (ps := ["value"]) fun _ _ _ _ _ _ us hl => match us, hl with | [_], _ => rfl
    m_is_name := PySem.W.mg_of X G g_is_name
    a_is_text_sign := a_is_text_sign
    fd_is_text_sign := _
    F_is_text_sign := fun_mk (st := s_is_text_sign) l_is_text_sign c_is_text_sign k_is_text_sign
    B_is_text_sign := (fun_mk (st := s_is_text_sign) l_is_text_sign c_is_text_sign k_is_text_sign).binds (ps := ["sign"]) fun _ _ _ _ _ _ us hl => match us, hl with | [_], _ => rfl
    m_is_text_sign := PySem.W.mg_of X G g_is_text_sign
    a_fits_plain := a_fits_plain
    fd_fits_plain := _
    F_fits_plain := fun_mk (st := s_fits_plain) l_fits_plain c_fits_plain k_fits_plain
    B_fits_plain := (fun_mk (st := s_fits_plain) l_fits_plain c_fits_plain k_fits_plain).binds (ps := ["value"]) fun _ _ _ _ _ _ us hl => match us, hl with | [_], _ => rfl
    m_fits_plain := PySem.W.mg_of X G g_fits_plain
    a_is_knot := a_is_knot
    fd_is_knot := _
    F_is_knot := fun_mk (st := s_is_knot) l_is_knot c_is_knot k_is_knot
    B_is_knot := (fun_mk (st := s_is_knot) l_is_knot c_is_knot k_is_knot).binds (ps := ["value"]) fun _ _ _ _ _ _ us hl => match us, hl with | [_], _ => rfl
    m_is_knot := PySem.W.mg_of X G g_is_knot
    a_fits_fields := a_fits_fields
    fd_fits_fields := _
    F_fits_fields := fun_mk (st := s_fits_fields) l_fits_fields c_fits_fields k_fits_fields
    B_fits_fields := (fun_mk (st := s_fits_fields) l_fits_fields c_fits_fields k_fits_fields).binds (ps := ["fields"]) fun _ _ _ _ _ _ us hl => match us, hl with | [_], _ => rfl
    m_fits_fields := PySem.W.mg_of X G g_fits_fields
    a_inner_of := a_inner_of
    fd_inner_of := _
    F_inner_of := fun_mk (st := s_inner_of) l_inner_of c_inner_of k_inner_of
    B_inner_of := (fun_mk (st := s_inner_of) l_inner_of c_inner_of k_inner_of).binds (ps := ["value"]) fun _ _ _ _ _ _ us hl => match us, hl with | [_], _ => rfl
    m_inner_of := PySem.W.mg_of X G g_inner_of
    a_fits_value := a_fits_value
    fd_fits_value := _
    F_fits_value := fun_mk (st := s_fits_value) l_fits_value c_fits_value k_fits_value
    B_fits_value := (fun_mk (st := s_fits_value) l_fits_value c_fits_value k_fits_value).binds (ps := ["value"]) fun _ _ _ _ _ _ us hl => match us, hl with | [_], _ => rfl
    m_fits_value := PySem.W.mg_of X G g_fits_value
    a_is_list := a_is_list
    fd_is_list := _
    F_is_list := fun_mk (st := s_is_list) l_is_list c_is_list k_is_list
    B_is_list := (fun_mk (st := s_is_list) l_is_list c_is_list k_is_list).binds (ps := ["value"]) fun _ _ _ _ _ _ us hl => match us, hl with | [_], _ => rfl
    m_is_list := PySem.W.mg_of X G g_is_list
    a_fits_path := a_fits_path
    fd_fits_path := _
    F_fits_path := fun_mk (st := s_fits_path) l_fits_path c_fits_path k_fits_path
    B_fits_path := (fun_mk (st := s_fits_path) l_fits_path c_fits_path k_fits_path).binds (ps := ["value"]) fun _ _ _ _ _ _ us hl => match us, hl with | [_], _ => rfl
    m_fits_path := PySem.W.mg_of X G g_fits_path
    a_fits_told := a_fits_told
    fd_fits_told := _
    F_fits_told := fun_mk (st := s_fits_told) l_fits_told c_fits_told k_fits_told
    B_fits_told := (fun_mk (st := s_fits_told) l_fits_told c_fits_told k_fits_told).binds (ps := ["word", "value"]) fun _ _ _ _ _ _ us hl => match us, hl with | [_, _], _ => rfl
    m_fits_told := PySem.W.mg_of X G g_fits_told
    a_fits_test := a_fits_test
    fd_fits_test := _
    F_fits_test := fun_mk (st := s_fits_test) l_fits_test c_fits_test k_fits_test
    B_fits_test := (fun_mk (st := s_fits_test) l_fits_test c_fits_test k_fits_test).binds (ps := ["value"]) fun _ _ _ _ _ _ us hl => match us, hl with | [_], _ => rfl
    m_fits_test := PySem.W.mg_of X G g_fits_test
    a_inner_filters := a_inner_filters
    fd_inner_filters := _
    F_inner_filters := fun_mk (st := s_inner_filters) l_inner_filters c_inner_filters k_inner_filters
    B_inner_filters := (fun_mk (st := s_inner_filters) l_inner_filters c_inner_filters k_inner_filters).binds (ps := ["value"]) fun _ _ _ _ _ _ us hl => match us, hl with | [_], _ => rfl
    m_inner_filters := PySem.W.mg_of X G g_inner_filters
    a_fits_filter := a_fits_filter
    fd_fits_filter := _
    F_fits_filter := fun_mk (st := s_fits_filter) l_fits_filter c_fits_filter k_fits_filter
    B_fits_filter := (fun_mk (st := s_fits_filter) l_fits_filter c_fits_filter k_fits_filter).binds (ps := ["value"]) fun _ _ _ _ _ _ us hl => match us, hl with | [_], _ => rfl
    m_fits_filter := PySem.W.mg_of X G g_fits_filter
    a_is_filter := a_is_filter
    fd_is_filter := _
    F_is_filter := fun_mk (st := s_is_filter) l_is_filter c_is_filter k_is_filter
    B_is_filter := (fun_mk (st := s_is_filter) l_is_filter c_is_filter k_is_filter).binds (ps := ["value"]) fun _ _ _ _ _ _ us hl => match us, hl with | [_], _ => rfl
    m_is_filter := PySem.W.mg_of X G g_is_filter
    a__law_cup := a__law_cup
    fd__law_cup := _
    F__law_cup := fun_mk (st := s__law_cup) l__law_cup c__law_cup k__law_cup
    B__law_cup := (fun_mk (st := s__law_cup) l__law_cup c__law_cup k__law_cup).binds (ps := ["script"]) fun _ _ _ _ _ _ us hl => match us, hl with | [_], _ => rfl
    m__law_cup := PySem.W.mg_of X G g__law_cup
    a__law_roll := a__law_roll
    fd__law_roll := _
    F__law_roll := fun_mk (st := s__law_roll) l__law_roll c__law_roll k__law_roll
    B__law_roll := (fun_mk (st := s__law_roll) l__law_roll c__law_roll k__law_roll).binds (ps := ["cup", "many"]) fun _ _ _ _ _ _ us hl => match us, hl with | [_, _], _ => rfl
    m__law_roll := PySem.W.mg_of X G g__law_roll
    a__law_some := a__law_some
    fd__law_some := _
    F__law_some := fun_mk (st := s__law_some) l__law_some c__law_some k__law_some
    B__law_some := (fun_mk (st := s__law_some) l__law_some c__law_some k__law_some).binds (ps := ["cup", "things"]) fun _ _ _ _ _ _ us hl => match us, hl with | [_, _], _ => rfl
    m__law_some := PySem.W.mg_of X G g__law_some
    a__law_value := a__law_value
    fd__law_value := _
    F__law_value := fun_mk (st := s__law_value) l__law_value c__law_value k__law_value
    B__law_value := (fun_mk (st := s__law_value) l__law_value c__law_value k__law_value).binds (ps := ["cup", "deep"]) fun _ _ _ _ _ _ us hl => match us, hl with | [_, _], _ => rfl
    m__law_value := PySem.W.mg_of X G g__law_value
    a__law_drawn_fields := a__law_drawn_fields
    fd__law_drawn_fields := _
    F__law_drawn_fields := fun_mk (st := s__law_drawn_fields) l__law_drawn_fields c__law_drawn_fields k__law_drawn_fields
    B__law_drawn_fields := (fun_mk (st := s__law_drawn_fields) l__law_drawn_fields c__law_drawn_fields k__law_drawn_fields).binds (ps := ["cup", "deep", "many"]) fun _ _ _ _ _ _ us hl => match us, hl with | [_, _, _], _ => rfl
    m__law_drawn_fields := PySem.W.mg_of X G g__law_drawn_fields
    a__law_path := a__law_path
    fd__law_path := _
    F__law_path := fun_mk (st := s__law_path) l__law_path c__law_path k__law_path
    B__law_path := (fun_mk (st := s__law_path) l__law_path c__law_path k__law_path).binds (ps := ["cup"]) fun _ _ _ _ _ _ us hl => match us, hl with | [_], _ => rfl
    m__law_path := PySem.W.mg_of X G g__law_path
    a__law_told := a__law_told
    fd__law_told := _
    F__law_told := fun_mk (st := s__law_told) l__law_told c__law_told k__law_told
    B__law_told := (fun_mk (st := s__law_told) l__law_told c__law_told k__law_told).binds (ps := ["cup", "word"]) fun _ _ _ _ _ _ us hl => match us, hl with | [_, _], _ => rfl
    m__law_told := PySem.W.mg_of X G g__law_told
    a__law_words := a__law_words
    fd__law_words := _
    F__law_words := fun_mk (st := s__law_words) l__law_words c__law_words k__law_words
    B__law_words := (fun_mk (st := s__law_words) l__law_words c__law_words k__law_words).binds (ps := []) fun _ _ _ _ _ _ us hl => match us, hl with | [], _ => rfl
    m__law_words := PySem.W.mg_of X G g__law_words
    a__law_filter := a__law_filter
    fd__law_filter := _
    F__law_filter := fun_mk (st := s__law_filter) l__law_filter c__law_filter k__law_filter
    B__law_filter := (fun_mk (st := s__law_filter) l__law_filter c__law_filter k__law_filter).binds (ps := ["cup", "deep"]) fun _ _ _ _ _ _ us hl => match us, hl with | [_, _], _ => rfl
    m__law_filter := PySem.W.mg_of X G g__law_filter
    a__law_near := a__law_near
    fd__law_near := _
    F__law_near := fun_mk (st := s__law_near) l__law_near c__law_near k__law_near
    B__law_near := (fun_mk (st := s__law_near) l__law_near c__law_near k__law_near).binds (ps := ["cup", "asked"]) fun _ _ _ _ _ _ us hl => match us, hl with | [_, _], _ => rfl
    m__law_near := PySem.W.mg_of X G g__law_near
    a_law := a_law
    fd_law := _
    F_law := fun_mk (st := s_law) l_law c_law k_law
    B_law := (fun_mk (st := s_law) l_law c_law k_law).binds (ps := ["script"]) fun _ _ _ _ _ _ us hl => match us, hl with | [_], _ => rfl
    m_law := PySem.W.mg_of X G g_law
end K16
end

section
set_option maxRecDepth 100000
set_option maxHeartbeats 0
namespace K16
open PySem PySem.Spec PyProof.Rows L2 PV
set_option autoImplicit false
section
variable {P : Program} {w : World} {K : Fg} {mg : Str → Option Value} {base : Heap} {cl : Str → Option Value}
theorem fng_no {k n : Nat} {f : Addr} {fd : FuncData} {ps : List Str} : FnG P w K mg base k f fd ps (spOf K cl n ctNo) :=
  ⟨fun vs H Q E h => by obtain ⟨_, _, _, _, _, _, _, _, z, _⟩ := h; exact z.elim, fun A outer s H args us vs Q E _ _ _ _ _ h => by obtain ⟨_, _, _, _, _, _, _, _, z, _⟩ := h; exact z.elim⟩
theorem g_law (m : M K mg) : FnG P w K mg base 11 m.a_law m.fd_law ["script"] (spOf K cl 1 (lawCt 63)) := by
  have whole := f_is_whole (P := P) (w := w) (base := base) (cl := cl) m (k := 0) v_is_whole
  have tup := f_is_tuple_of (P := P) (w := w) (base := base) (cl := cl) m (k := 0) v_is_tuple_of
  have name := f_is_name (P := P) (w := w) (base := base) (cl := cl) m (k := 0) v_is_name
  have sign := f_is_text_sign (P := P) (w := w) (base := base) (cl := cl) m (k := 0) v_is_text_sign
  have plain := f_fits_plain m sign whole v_fits_plain
  have knot := f_is_knot m tup v_is_knot
  have fields := f_fits_fields m name tup v_fits_fields
  have inner := f_inner_of (P := P) (w := w) (base := base) (cl := cl) m (k := 1) v_inner_of
  have value := f_fits_value m fields plain inner knot v_fits_value
  have isl := f_is_list (P := P) (w := w) (base := base) (cl := cl) m (k := 2) v_is_list
  have path := f_fits_path m name tup whole v_fits_path
  have told := f_fits_told m value isl (whole.mono (by decide)) v_fits_told
  have test := f_fits_test m (path.mono (by decide)) told v_fits_test
  have inf := f_inner_filters m (path.mono (by decide)) test (tup.mono (by decide)) v_inner_filters
  have fil := f_fits_filter m inf (tup.mono (by decide)) v_fits_filter
  have isf := f_is_filter m fil v_is_filter
  have cup := f__law_cup (P := P) (w := w) (base := base) (cl := cl) m (k := 9) v__law_cup
  have roll := f__law_roll (P := P) (w := w) (base := base) (cl := cl) m (k := 0) v__law_roll
  have some1 := f__law_some m roll v__law_some
  have v0 := f__law_value m (k := 2) (ct__law_drawn_fields := ctNo) (ct__law_value := ctNo) fng_no (roll.mono (by decide)) some1 fng_no v__law_value0
  have d0 := f__law_drawn_fields m (k := 3) (some1.mono (by decide)) v0 v__law_drawn_fields
  have v1 := f__law_value m d0 (roll.mono (by decide)) (some1.mono (by decide)) (v0.mono (by decide)) v__law_value
  have tol := f__law_told m (roll.mono (by decide)) (some1.mono (by decide)) v1 v__law_told
  have pth := f__law_path m (k := 2) (some1.mono (by decide)) v__law_path
  have wds := f__law_words (P := P) (w := w) (base := base) (cl := cl) m (k := 0) v__law_words
  have f0 := f__law_filter m (k := 6) (ct__law_filter := ctNo) fng_no (pth.mono (by decide)) (roll.mono (by decide)) (some1.mono (by decide)) tol (wds.mono (by decide)) v__law_filter0
  have f1 := f__law_filter m f0 (pth.mono (by decide)) (roll.mono (by decide)) (some1.mono (by decide)) (tol.mono (by decide)) (wds.mono (by decide)) v__law_filter
  have f2 := f__law_filter m f1 (pth.mono (by decide)) (roll.mono (by decide)) (some1.mono (by decide)) (tol.mono (by decide)) (wds.mono (by decide)) v__law_filter
  have f3 := f__law_filter m f2 (pth.mono (by decide)) (roll.mono (by decide)) (some1.mono (by decide)) (tol.mono (by decide)) (wds.mono (by decide)) v__law_filter
  have near := f__law_near m (k := 2) (some1.mono (by decide)) v__law_near
  exact f_law m cup f3 (near.mono (by decide)) (isf.mono (by decide)) v_law
end
end K16
namespace K16
open PySem PySem.Spec PyProof.Rows L2 PV
theorem fin {P : Program} {w : World} {K : Fg} {mg : Str → Option Value} (m : M K mg) {fa : Addr} (h : mg "law" = some (.ref fa)) (hb : ∀ (s : Shared) (u : Value), BindsTo s m.fd_law ⟨[u], []⟩ [("script", u)]) :
    ∃ (fd : FuncData) (cl : Str → Option Value), (∀ (s : Shared) (u : Value), BindsTo s fd ⟨[u], []⟩ [("script", u)]) ∧ ∀ base : Heap, K.In base → base.Ns mainGlobals mg → FnG P w K mg base 11 fa fd ["script"] (spOf K cl 1 (lawCt 63)) := by
  have e := m.m_law.symm.trans h
  injection e with e
  injection e with e
  subst e
  exact ⟨m.fd_law, fun _ => none, hb, fun base _ _ => g_law m⟩
end K16
end

section
set_option maxRecDepth 100000
set_option maxHeartbeats 0
namespace K16
open PySem PySem.Spec PyProof.Rows L2 PV
set_option autoImplicit false
theorem all_fin {P : Program} {w : World} {K : Fg} {h : Heap} {mg : Str → Option Value} (X : K.In h) (G : h.Ns mainGlobals mg) {fa : Addr} (hfa : mg "law" = some (.ref fa))
    (z_abs : PySem.W.nsIn K mainGlobals "abs" = some none)
    (z_all : PySem.W.nsIn K mainGlobals "all" = some none)
    (z_bool : PySem.W.nsIn K mainGlobals "bool" = some none)
    (z_int : PySem.W.nsIn K mainGlobals "int" = some none)
    (z_isinstance : PySem.W.nsIn K mainGlobals "isinstance" = some none)
    (z_len : PySem.W.nsIn K mainGlobals "len" = some none)
    (z_list : PySem.W.nsIn K mainGlobals "list" = some none)
    (z_ord : PySem.W.nsIn K mainGlobals "ord" = some none)
    (z_range : PySem.W.nsIn K mainGlobals "range" = some none)
    (z_repr : PySem.W.nsIn K mainGlobals "repr" = some none)
    (z_set : PySem.W.nsIn K mainGlobals "set" = some none)
    (z_str : PySem.W.nsIn K mainGlobals "str" = some none)
    (z_tuple : PySem.W.nsIn K mainGlobals "tuple" = some none)
    {t_DEEP : Tok} (c_DEEP : PySem.W.nsIn K mainGlobals "DEEP" = some (some (.int 6 t_DEEP)))
    {t_FILTERS : Tok} (c_FILTERS : PySem.W.nsIn K mainGlobals "FILTERS" = some (some (.int 40 t_FILTERS)))
    {t_HIGHEST : Tok} (c_HIGHEST : PySem.W.nsIn K mainGlobals "HIGHEST" = some (some (.int 1000000000000 t_HIGHEST)))
    {t_INDEX : Tok} (c_INDEX : PySem.W.nsIn K mainGlobals "INDEX" = some (some (.int 15 t_INDEX)))
    {a_KINDS : Addr} {t_KINDS_0 t_KINDS_1 t_KINDS_2 t_KINDS_3 t_KINDS_4 t_KINDS_5 : Tok} {n_KINDS : Nat} (c_KINDS : PySem.W.nsIn K mainGlobals "KINDS" = some (some (.ref a_KINDS))) (d_KINDS : K.lookup a_KINDS = some ⟨.type "tuple", none, .seq #[.str "null" t_KINDS_0, .str "number" t_KINDS_1, .str "text" t_KINDS_2, .str "doc" t_KINDS_3, .str "list" t_KINDS_4, .str "truth" t_KINDS_5] n_KINDS, #[]⟩)
    {a_LISTS : Addr} {t_LISTS_0 t_LISTS_1 : Tok} {n_LISTS : Nat} (c_LISTS : PySem.W.nsIn K mainGlobals "LISTS" = some (some (.ref a_LISTS))) (d_LISTS : K.lookup a_LISTS = some ⟨.type "tuple", none, .seq #[.str "in" t_LISTS_0, .str "has" t_LISTS_1] n_LISTS, #[]⟩)
    {t_LONGEST : Tok} (c_LONGEST : PySem.W.nsIn K mainGlobals "LONGEST" = some (some (.int 40 t_LONGEST)))
    {t_MOST : Tok} (c_MOST : PySem.W.nsIn K mainGlobals "MOST" = some (some (.int 16 t_MOST)))
    {t_NAME : Tok} (c_NAME : PySem.W.nsIn K mainGlobals "NAME" = some (some (.int 8 t_NAME)))
    {t_NESTED : Tok} (c_NESTED : PySem.W.nsIn K mainGlobals "NESTED" = some (some (.int 5 t_NESTED)))
    {a_ORDERS : Addr} {t_ORDERS_0 t_ORDERS_1 t_ORDERS_2 t_ORDERS_3 : Tok} {n_ORDERS : Nat} (c_ORDERS : PySem.W.nsIn K mainGlobals "ORDERS" = some (some (.ref a_ORDERS))) (d_ORDERS : K.lookup a_ORDERS = some ⟨.type "tuple", none, .seq #[.str "less" t_ORDERS_0, .str "atmost" t_ORDERS_1, .str "more" t_ORDERS_2, .str "atleast" t_ORDERS_3] n_ORDERS, #[]⟩)
    {t_PARTS : Tok} (c_PARTS : PySem.W.nsIn K mainGlobals "PARTS" = some (some (.int 8 t_PARTS)))
    {t_SIGNS : Tok} (c_SIGNS : PySem.W.nsIn K mainGlobals "SIGNS" = some (some (.str "abcdefghijklmnopqrstuvwxyz0123456789" t_SIGNS)))
    {t_SIZE : Tok} (c_SIZE : PySem.W.nsIn K mainGlobals "SIZE" = some (some (.int 16 t_SIZE)))
    {t_SMALL : Tok} (c_SMALL : PySem.W.nsIn K mainGlobals "SMALL" = some (some (.str "abcdefghijklmnopqrstuvwxyz" t_SMALL)))
    {t_STEPS : Tok} (c_STEPS : PySem.W.nsIn K mainGlobals "STEPS" = some (some (.int 6 t_STEPS)))
    {a_is_whole : Addr} {od_is_whole an_is_whole : Option Addr} {sl_is_whole : Array (Option Value)} {oc_is_whole kV_is_whole dc_is_whole pm_is_whole cd_is_whole ct_is_whole : Value} (g_is_whole : PySem.W.nsIn K mainGlobals "is_whole" = some (some (.ref a_is_whole))) (l_is_whole : K.lookup a_is_whole = some ⟨oc_is_whole, od_is_whole, .func (PySem.W.fnOf "is_whole" "is_whole" (defArgs s_is_whole) (defBody s_is_whole) (defScope s_is_whole) .none kV_is_whole dc_is_whole pm_is_whole an_is_whole cd_is_whole ct_is_whole), sl_is_whole⟩) (c_is_whole : PySem.W.codeIn K cd_is_whole "is_whole" = true) (k_is_whole : PySem.W.keepIn K (.ref a_is_whole) = true)
    {a_is_tuple_of : Addr} {od_is_tuple_of an_is_tuple_of : Option Addr} {sl_is_tuple_of : Array (Option Value)} {oc_is_tuple_of kV_is_tuple_of dc_is_tuple_of pm_is_tuple_of cd_is_tuple_of ct_is_tuple_of : Value} (g_is_tuple_of : PySem.W.nsIn K mainGlobals "is_tuple_of" = some (some (.ref a_is_tuple_of))) (l_is_tuple_of : K.lookup a_is_tuple_of = some ⟨oc_is_tuple_of, od_is_tuple_of, .func (PySem.W.fnOf "is_tuple_of" "is_tuple_of" (defArgs s_is_tuple_of) (defBody s_is_tuple_of) (defScope s_is_tuple_of) .none kV_is_tuple_of dc_is_tuple_of pm_is_tuple_of an_is_tuple_of cd_is_tuple_of ct_is_tuple_of), sl_is_tuple_of⟩) (c_is_tuple_of : PySem.W.codeIn K cd_is_tuple_of "is_tuple_of" = true) (k_is_tuple_of : PySem.W.keepIn K (.ref a_is_tuple_of) = true)
    {a_is_name : Addr} {od_is_name an_is_name : Option Addr} {sl_is_name : Array (Option Value)} {oc_is_name kV_is_name dc_is_name pm_is_name cd_is_name ct_is_name : Value} (g_is_name : PySem.W.nsIn K mainGlobals "is_name" = some (some (.ref a_is_name))) (l_is_name : K.lookup a_is_name = some ⟨oc_is_name, od_is_name, .func (PySem.W.fnOf "is_name" "is_name" (defArgs s_is_name) (defBody s_is_name) (defScope s_is_name) .none kV_is_name dc_is_name pm_is_name an_is_name cd_is_name ct_is_name), sl_is_name⟩) (c_is_name : PySem.W.codeIn K cd_is_name "is_name" = true) (k_is_name : PySem.W.keepIn K (.ref a_is_name) = true)
    {a_is_text_sign : Addr} {od_is_text_sign an_is_text_sign : Option Addr} {sl_is_text_sign : Array (Option Value)} {oc_is_text_sign kV_is_text_sign dc_is_text_sign pm_is_text_sign cd_is_text_sign ct_is_text_sign : Value} (g_is_text_sign : PySem.W.nsIn K mainGlobals "is_text_sign" = some (some (.ref a_is_text_sign))) (l_is_text_sign : K.lookup a_is_text_sign = some ⟨oc_is_text_sign, od_is_text_sign, .func (PySem.W.fnOf "is_text_sign" "is_text_sign" (defArgs s_is_text_sign) (defBody s_is_text_sign) (defScope s_is_text_sign) .none kV_is_text_sign dc_is_text_sign pm_is_text_sign an_is_text_sign cd_is_text_sign ct_is_text_sign), sl_is_text_sign⟩) (c_is_text_sign : PySem.W.codeIn K cd_is_text_sign "is_text_sign" = true) (k_is_text_sign : PySem.W.keepIn K (.ref a_is_text_sign) = true)
    {a_fits_plain : Addr} {od_fits_plain an_fits_plain : Option Addr} {sl_fits_plain : Array (Option Value)} {oc_fits_plain kV_fits_plain dc_fits_plain pm_fits_plain cd_fits_plain ct_fits_plain : Value} (g_fits_plain : PySem.W.nsIn K mainGlobals "fits_plain" = some (some (.ref a_fits_plain))) (l_fits_plain : K.lookup a_fits_plain = some ⟨oc_fits_plain, od_fits_plain, .func (PySem.W.fnOf "fits_plain" "fits_plain" (defArgs s_fits_plain) (defBody s_fits_plain) (defScope s_fits_plain) .none kV_fits_plain dc_fits_plain pm_fits_plain an_fits_plain cd_fits_plain ct_fits_plain), sl_fits_plain⟩) (c_fits_plain : PySem.W.codeIn K cd_fits_plain "fits_plain" = true) (k_fits_plain : PySem.W.keepIn K (.ref a_fits_plain) = true)
    {a_is_knot : Addr} {od_is_knot an_is_knot : Option Addr} {sl_is_knot : Array (Option Value)} {oc_is_knot kV_is_knot dc_is_knot pm_is_knot cd_is_knot ct_is_knot : Value} (g_is_knot : PySem.W.nsIn K mainGlobals "is_knot" = some (some (.ref a_is_knot))) (l_is_knot : K.lookup a_is_knot = some ⟨oc_is_knot, od_is_knot, .func (PySem.W.fnOf "is_knot" "is_knot" (defArgs s_is_knot) (defBody s_is_knot) (defScope s_is_knot) .none kV_is_knot dc_is_knot pm_is_knot an_is_knot cd_is_knot ct_is_knot), sl_is_knot⟩) (c_is_knot : PySem.W.codeIn K cd_is_knot "is_knot" = true) (k_is_knot : PySem.W.keepIn K (.ref a_is_knot) = true)
    {a_fits_fields : Addr} {od_fits_fields an_fits_fields : Option Addr} {sl_fits_fields : Array (Option Value)} {oc_fits_fields kV_fits_fields dc_fits_fields pm_fits_fields cd_fits_fields ct_fits_fields : Value} (g_fits_fields : PySem.W.nsIn K mainGlobals "fits_fields" = some (some (.ref a_fits_fields))) (l_fits_fields : K.lookup a_fits_fields = some ⟨oc_fits_fields, od_fits_fields, .func (PySem.W.fnOf "fits_fields" "fits_fields" (defArgs s_fits_fields) (defBody s_fits_fields) (defScope s_fits_fields) .none kV_fits_fields dc_fits_fields pm_fits_fields an_fits_fields cd_fits_fields ct_fits_fields), sl_fits_fields⟩) (c_fits_fields : PySem.W.codeIn K cd_fits_fields "fits_fields" = true) (k_fits_fields : PySem.W.keepIn K (.ref a_fits_fields) = true)
    {a_inner_of : Addr} {od_inner_of an_inner_of : Option Addr} {sl_inner_of : Array (Option Value)} {oc_inner_of kV_inner_of dc_inner_of pm_inner_of cd_inner_of ct_inner_of : Value} (g_inner_of : PySem.W.nsIn K mainGlobals "inner_of" = some (some (.ref a_inner_of))) (l_inner_of : K.lookup a_inner_of = some ⟨oc_inner_of, od_inner_of, .func (PySem.W.fnOf "inner_of" "inner_of" (defArgs s_inner_of) (defBody s_inner_of) (defScope s_inner_of) .none kV_inner_of dc_inner_of pm_inner_of an_inner_of cd_inner_of ct_inner_of), sl_inner_of⟩) (c_inner_of : PySem.W.codeIn K cd_inner_of "inner_of" = true) (k_inner_of : PySem.W.keepIn K (.ref a_inner_of) = true)
    {a_fits_value : Addr} {od_fits_value an_fits_value : Option Addr} {sl_fits_value : Array (Option Value)} {oc_fits_value kV_fits_value dc_fits_value pm_fits_value cd_fits_value ct_fits_value : Value} (g_fits_value : PySem.W.nsIn K mainGlobals "fits_value" = some (some (.ref a_fits_value))) (l_fits_value : K.lookup a_fits_value = some ⟨oc_fits_value, od_fits_value, .func (PySem.W.fnOf "fits_value" "fits_value" (defArgs s_fits_value) (defBody s_fits_value) (defScope s_fits_value) .none kV_fits_value dc_fits_value pm_fits_value an_fits_value cd_fits_value ct_fits_value), sl_fits_value⟩) (c_fits_value : PySem.W.codeIn K cd_fits_value "fits_value" = true) (k_fits_value : PySem.W.keepIn K (.ref a_fits_value) = true)
    {a_is_list : Addr} {od_is_list an_is_list : Option Addr} {sl_is_list : Array (Option Value)} {oc_is_list kV_is_list dc_is_list pm_is_list cd_is_list ct_is_list : Value} (g_is_list : PySem.W.nsIn K mainGlobals "is_list" = some (some (.ref a_is_list))) (l_is_list : K.lookup a_is_list = some ⟨oc_is_list, od_is_list, .func (PySem.W.fnOf "is_list" "is_list" (defArgs s_is_list) (defBody s_is_list) (defScope s_is_list) .none kV_is_list dc_is_list pm_is_list an_is_list cd_is_list ct_is_list), sl_is_list⟩) (c_is_list : PySem.W.codeIn K cd_is_list "is_list" = true) (k_is_list : PySem.W.keepIn K (.ref a_is_list) = true)
    {a_fits_path : Addr} {od_fits_path an_fits_path : Option Addr} {sl_fits_path : Array (Option Value)} {oc_fits_path kV_fits_path dc_fits_path pm_fits_path cd_fits_path ct_fits_path : Value} (g_fits_path : PySem.W.nsIn K mainGlobals "fits_path" = some (some (.ref a_fits_path))) (l_fits_path : K.lookup a_fits_path = some ⟨oc_fits_path, od_fits_path, .func (PySem.W.fnOf "fits_path" "fits_path" (defArgs s_fits_path) (defBody s_fits_path) (defScope s_fits_path) .none kV_fits_path dc_fits_path pm_fits_path an_fits_path cd_fits_path ct_fits_path), sl_fits_path⟩) (c_fits_path : PySem.W.codeIn K cd_fits_path "fits_path" = true) (k_fits_path : PySem.W.keepIn K (.ref a_fits_path) = true)
    {a_fits_told : Addr} {od_fits_told an_fits_told : Option Addr} {sl_fits_told : Array (Option Value)} {oc_fits_told kV_fits_told dc_fits_told pm_fits_told cd_fits_told ct_fits_told : Value} (g_fits_told : PySem.W.nsIn K mainGlobals "fits_told" = some (some (.ref a_fits_told))) (l_fits_told : K.lookup a_fits_told = some ⟨oc_fits_told, od_fits_told, .func (PySem.W.fnOf "fits_told" "fits_told" (defArgs s_fits_told) (defBody s_fits_told) (defScope s_fits_told) .none kV_fits_told dc_fits_told pm_fits_told an_fits_told cd_fits_told ct_fits_told), sl_fits_told⟩) (c_fits_told : PySem.W.codeIn K cd_fits_told "fits_told" = true) (k_fits_told : PySem.W.keepIn K (.ref a_fits_told) = true)
    {a_fits_test : Addr} {od_fits_test an_fits_test : Option Addr} {sl_fits_test : Array (Option Value)} {oc_fits_test kV_fits_test dc_fits_test pm_fits_test cd_fits_test ct_fits_test : Value} (g_fits_test : PySem.W.nsIn K mainGlobals "fits_test" = some (some (.ref a_fits_test))) (l_fits_test : K.lookup a_fits_test = some ⟨oc_fits_test, od_fits_test, .func (PySem.W.fnOf "fits_test" "fits_test" (defArgs s_fits_test) (defBody s_fits_test) (defScope s_fits_test) .none kV_fits_test dc_fits_test pm_fits_test an_fits_test cd_fits_test ct_fits_test), sl_fits_test⟩) (c_fits_test : PySem.W.codeIn K cd_fits_test "fits_test" = true) (k_fits_test : PySem.W.keepIn K (.ref a_fits_test) = true)
    {a_inner_filters : Addr} {od_inner_filters an_inner_filters : Option Addr} {sl_inner_filters : Array (Option Value)} {oc_inner_filters kV_inner_filters dc_inner_filters pm_inner_filters cd_inner_filters ct_inner_filters : Value} (g_inner_filters : PySem.W.nsIn K mainGlobals "inner_filters" = some (some (.ref a_inner_filters))) (l_inner_filters : K.lookup a_inner_filters = some ⟨oc_inner_filters, od_inner_filters, .func (PySem.W.fnOf "inner_filters" "inner_filters" (defArgs s_inner_filters) (defBody s_inner_filters) (defScope s_inner_filters) .none kV_inner_filters dc_inner_filters pm_inner_filters an_inner_filters cd_inner_filters ct_inner_filters), sl_inner_filters⟩) (c_inner_filters : PySem.W.codeIn K cd_inner_filters "inner_filters" = true) (k_inner_filters : PySem.W.keepIn K (.ref a_inner_filters) = true)
    {a_fits_filter : Addr} {od_fits_filter an_fits_filter : Option Addr} {sl_fits_filter : Array (Option Value)} {oc_fits_filter kV_fits_filter dc_fits_filter pm_fits_filter cd_fits_filter ct_fits_filter : Value} (g_fits_filter : PySem.W.nsIn K mainGlobals "fits_filter" = some (some (.ref a_fits_filter))) (l_fits_filter : K.lookup a_fits_filter = some ⟨oc_fits_filter, od_fits_filter, .func (PySem.W.fnOf "fits_filter" "fits_filter" (defArgs s_fits_filter) (defBody s_fits_filter) (defScope s_fits_filter) .none kV_fits_filter dc_fits_filter pm_fits_filter an_fits_filter cd_fits_filter ct_fits_filter), sl_fits_filter⟩) (c_fits_filter : PySem.W.codeIn K cd_fits_filter "fits_filter" = true) (k_fits_filter : PySem.W.keepIn K (.ref a_fits_filter) = true)
    {a_is_filter : Addr} {od_is_filter an_is_filter : Option Addr} {sl_is_filter : Array (Option Value)} {oc_is_filter kV_is_filter dc_is_filter pm_is_filter cd_is_filter ct_is_filter : Value} (g_is_filter : PySem.W.nsIn K mainGlobals "is_filter" = some (some (.ref a_is_filter))) (l_is_filter : K.lookup a_is_filter = some ⟨oc_is_filter, od_is_filter, .func (PySem.W.fnOf "is_filter" "is_filter" (defArgs s_is_filter) (defBody s_is_filter) (defScope s_is_filter) .none kV_is_filter dc_is_filter pm_is_filter an_is_filter cd_is_filter ct_is_filter), sl_is_filter⟩) (c_is_filter : PySem.W.codeIn K cd_is_filter "is_filter" = true) (k_is_filter : PySem.W.keepIn K (.ref a_is_filter) = true)
    {a__law_cup : Addr} {od__law_cup an__law_cup : Option Addr} {sl__law_cup : Array (Option Value)} {oc__law_cup kV__law_cup dc__law_cup pm__law_cup cd__law_cup ct__law_cup : Value} (g__law_cup : PySem.W.nsIn K mainGlobals "_law_cup" = some (some (.ref a__law_cup))) (l__law_cup : K.lookup a__law_cup = some ⟨oc__law_cup, od__law_cup, .func (PySem.W.fnOf "_law_cup" "_law_cup" (defArgs s__law_cup) (defBody s__law_cup) (defScope s__law_cup) .none kV__law_cup dc__law_cup pm__law_cup an__law_cup cd__law_cup ct__law_cup), sl__law_cup⟩) (c__law_cup : PySem.W.codeIn K cd__law_cup "_law_cup" = true) (k__law_cup : PySem.W.keepIn K (.ref a__law_cup) = true)
    {a__law_roll : Addr} {od__law_roll an__law_roll : Option Addr} {sl__law_roll : Array (Option Value)} {oc__law_roll kV__law_roll dc__law_roll pm__law_roll cd__law_roll ct__law_roll : Value} (g__law_roll : PySem.W.nsIn K mainGlobals "_law_roll" = some (some (.ref a__law_roll))) (l__law_roll : K.lookup a__law_roll = some ⟨oc__law_roll, od__law_roll, .func (PySem.W.fnOf "_law_roll" "_law_roll" (defArgs s__law_roll) (defBody s__law_roll) (defScope s__law_roll) .none kV__law_roll dc__law_roll pm__law_roll an__law_roll cd__law_roll ct__law_roll), sl__law_roll⟩) (c__law_roll : PySem.W.codeIn K cd__law_roll "_law_roll" = true) (k__law_roll : PySem.W.keepIn K (.ref a__law_roll) = true)
    {a__law_some : Addr} {od__law_some an__law_some : Option Addr} {sl__law_some : Array (Option Value)} {oc__law_some kV__law_some dc__law_some pm__law_some cd__law_some ct__law_some : Value} (g__law_some : PySem.W.nsIn K mainGlobals "_law_some" = some (some (.ref a__law_some))) (l__law_some : K.lookup a__law_some = some ⟨oc__law_some, od__law_some, .func (PySem.W.fnOf "_law_some" "_law_some" (defArgs s__law_some) (defBody s__law_some) (defScope s__law_some) .none kV__law_some dc__law_some pm__law_some an__law_some cd__law_some ct__law_some), sl__law_some⟩) (c__law_some : PySem.W.codeIn K cd__law_some "_law_some" = true) (k__law_some : PySem.W.keepIn K (.ref a__law_some) = true)
    {a__law_value : Addr} {od__law_value an__law_value : Option Addr} {sl__law_value : Array (Option Value)} {oc__law_value kV__law_value dc__law_value pm__law_value cd__law_value ct__law_value : Value} (g__law_value : PySem.W.nsIn K mainGlobals "_law_value" = some (some (.ref a__law_value))) (l__law_value : K.lookup a__law_value = some ⟨oc__law_value, od__law_value, .func (PySem.W.fnOf "_law_value" "_law_value" (defArgs s__law_value) (defBody s__law_value) (defScope s__law_value) .none kV__law_value dc__law_value pm__law_value an__law_value cd__law_value ct__law_value), sl__law_value⟩) (c__law_value : PySem.W.codeIn K cd__law_value "_law_value" = true) (k__law_value : PySem.W.keepIn K (.ref a__law_value) = true)
    {a__law_drawn_fields : Addr} {od__law_drawn_fields an__law_drawn_fields : Option Addr} {sl__law_drawn_fields : Array (Option Value)} {oc__law_drawn_fields kV__law_drawn_fields dc__law_drawn_fields pm__law_drawn_fields cd__law_drawn_fields ct__law_drawn_fields : Value} (g__law_drawn_fields : PySem.W.nsIn K mainGlobals "_law_drawn_fields" = some (some (.ref a__law_drawn_fields))) (l__law_drawn_fields : K.lookup a__law_drawn_fields = some ⟨oc__law_drawn_fields, od__law_drawn_fields, .func (PySem.W.fnOf "_law_drawn_fields" "_law_drawn_fields" (defArgs s__law_drawn_fields) (defBody s__law_drawn_fields) (defScope s__law_drawn_fields) .none kV__law_drawn_fields dc__law_drawn_fields pm__law_drawn_fields an__law_drawn_fields cd__law_drawn_fields ct__law_drawn_fields), sl__law_drawn_fields⟩) (c__law_drawn_fields : PySem.W.codeIn K cd__law_drawn_fields "_law_drawn_fields" = true) (k__law_drawn_fields : PySem.W.keepIn K (.ref a__law_drawn_fields) = true)
    {a__law_path : Addr} {od__law_path an__law_path : Option Addr} {sl__law_path : Array (Option Value)} {oc__law_path kV__law_path dc__law_path pm__law_path cd__law_path ct__law_path : Value} (g__law_path : PySem.W.nsIn K mainGlobals "_law_path" = some (some (.ref a__law_path))) (l__law_path : K.lookup a__law_path = some ⟨oc__law_path, od__law_path, .func (PySem.W.fnOf "_law_path" "_law_path" (defArgs s__law_path) (defBody s__law_path) (defScope s__law_path) .none kV__law_path dc__law_path pm__law_path an__law_path cd__law_path ct__law_path), sl__law_path⟩) (c__law_path : PySem.W.codeIn K cd__law_path "_law_path" = true) (k__law_path : PySem.W.keepIn K (.ref a__law_path) = true)
    {a__law_told : Addr} {od__law_told an__law_told : Option Addr} {sl__law_told : Array (Option Value)} {oc__law_told kV__law_told dc__law_told pm__law_told cd__law_told ct__law_told : Value} (g__law_told : PySem.W.nsIn K mainGlobals "_law_told" = some (some (.ref a__law_told))) (l__law_told : K.lookup a__law_told = some ⟨oc__law_told, od__law_told, .func (PySem.W.fnOf "_law_told" "_law_told" (defArgs s__law_told) (defBody s__law_told) (defScope s__law_told) .none kV__law_told dc__law_told pm__law_told an__law_told cd__law_told ct__law_told), sl__law_told⟩) (c__law_told : PySem.W.codeIn K cd__law_told "_law_told" = true) (k__law_told : PySem.W.keepIn K (.ref a__law_told) = true)
    {a__law_words : Addr} {od__law_words an__law_words : Option Addr} {sl__law_words : Array (Option Value)} {oc__law_words kV__law_words dc__law_words pm__law_words cd__law_words ct__law_words : Value} (g__law_words : PySem.W.nsIn K mainGlobals "_law_words" = some (some (.ref a__law_words))) (l__law_words : K.lookup a__law_words = some ⟨oc__law_words, od__law_words, .func (PySem.W.fnOf "_law_words" "_law_words" (defArgs s__law_words) (defBody s__law_words) (defScope s__law_words) .none kV__law_words dc__law_words pm__law_words an__law_words cd__law_words ct__law_words), sl__law_words⟩) (c__law_words : PySem.W.codeIn K cd__law_words "_law_words" = true) (k__law_words : PySem.W.keepIn K (.ref a__law_words) = true)
    {a__law_filter : Addr} {od__law_filter an__law_filter : Option Addr} {sl__law_filter : Array (Option Value)} {oc__law_filter kV__law_filter dc__law_filter pm__law_filter cd__law_filter ct__law_filter : Value} (g__law_filter : PySem.W.nsIn K mainGlobals "_law_filter" = some (some (.ref a__law_filter))) (l__law_filter : K.lookup a__law_filter = some ⟨oc__law_filter, od__law_filter, .func (PySem.W.fnOf "_law_filter" "_law_filter" (defArgs s__law_filter) (defBody s__law_filter) (defScope s__law_filter) .none kV__law_filter dc__law_filter pm__law_filter an__law_filter cd__law_filter ct__law_filter), sl__law_filter⟩) (c__law_filter : PySem.W.codeIn K cd__law_filter "_law_filter" = true) (k__law_filter : PySem.W.keepIn K (.ref a__law_filter) = true)
    {a__law_near : Addr} {od__law_near an__law_near : Option Addr} {sl__law_near : Array (Option Value)} {oc__law_near kV__law_near dc__law_near pm__law_near cd__law_near ct__law_near : Value} (g__law_near : PySem.W.nsIn K mainGlobals "_law_near" = some (some (.ref a__law_near))) (l__law_near : K.lookup a__law_near = some ⟨oc__law_near, od__law_near, .func (PySem.W.fnOf "_law_near" "_law_near" (defArgs s__law_near) (defBody s__law_near) (defScope s__law_near) .none kV__law_near dc__law_near pm__law_near an__law_near cd__law_near ct__law_near), sl__law_near⟩) (c__law_near : PySem.W.codeIn K cd__law_near "_law_near" = true) (k__law_near : PySem.W.keepIn K (.ref a__law_near) = true)
    {a_law : Addr} {od_law an_law : Option Addr} {sl_law : Array (Option Value)} {oc_law kV_law dc_law pm_law cd_law ct_law : Value} (g_law : PySem.W.nsIn K mainGlobals "law" = some (some (.ref a_law))) (l_law : K.lookup a_law = some ⟨oc_law, od_law, .func (PySem.W.fnOf "law" "law" (defArgs s_law) (defBody s_law) (defScope s_law) .none kV_law dc_law pm_law an_law cd_law ct_law), sl_law⟩) (c_law : PySem.W.codeIn K cd_law "law" = true) (k_law : PySem.W.keepIn K (.ref a_law) = true) :
    ∃ (fd : FuncData) (cl : Str → Option Value), (∀ (s : Shared) (u : Value), BindsTo s fd ⟨[u], []⟩ [("script", u)]) ∧ ∀ base : Heap, K.In base → base.Ns mainGlobals mg → FnG P w K mg base 11 fa fd ["script"] (spOf K cl 1 (lawCt 63)) :=
  fin (all_mk X G z_abs z_all z_bool z_int z_isinstance z_len z_list z_ord z_range z_repr z_set z_str z_tuple c_DEEP c_FILTERS c_HIGHEST c_INDEX c_KINDS d_KINDS c_LISTS d_LISTS c_LONGEST c_MOST c_NAME c_NESTED c_ORDERS d_ORDERS c_PARTS c_SIGNS c_SIZE c_SMALL c_STEPS g_is_whole l_is_whole c_is_whole k_is_whole g_is_tuple_of l_is_tuple_of c_is_tuple_of k_is_tuple_of g_is_name l_is_name c_is_name k_is_name g_is_text_sign l_is_text_sign c_is_text_sign k_is_text_sign g_fits_plain l_fits_plain c_fits_plain k_fits_plain g_is_knot l_is_knot c_is_knot k_is_knot g_fits_fields l_fits_fields c_fits_fields k_fits_fields g_inner_of l_inner_of c_inner_of k_inner_of g_fits_value l_fits_value c_fits_value k_fits_value g_is_list l_is_list c_is_list k_is_list g_fits_path l_fits_path c_fits_path k_fits_path g_fits_told l_fits_told c_fits_told k_fits_told g_fits_test l_fits_test c_fits_test k_fits_test g_inner_filters l_inner_filters c_inner_filters k_inner_filters g_fits_filter l_fits_filter c_fits_filter k_fits_filter g_is_filter l_is_filter c_is_filter k_is_filter g__law_cup l__law_cup c__law_cup k__law_cup g__law_roll l__law_roll c__law_roll k__law_roll g__law_some l__law_some c__law_some k__law_some g__law_value l__law_value c__law_value k__law_value g__law_drawn_fields l__law_drawn_fields c__law_drawn_fields k__law_drawn_fields g__law_path l__law_path c__law_path k__law_path g__law_told l__law_told c__law_told k__law_told g__law_words l__law_words c__law_words k__law_words g__law_filter l__law_filter c__law_filter k__law_filter g__law_near l__law_near c__law_near k__law_near g_law l_law c_law k_law) hfa fun s v => .of_eq rfl
end K16
end

section
set_option maxRecDepth 100000
open PySem PySem.W PyProof.Rows
set_option maxHeartbeats 0 in
theorem PySem.Challenge.cw_documenthall_k16_whole_filters_by_shape_holds : PySem.Challenge.rw_documenthall_k16_whole_filters_by_shape.Holds := by
  w_on; o_law; k_head; (case hw => w_witness2)
  k_fill
  refine PV.walk_G (l := PySem.Challenge.rw_documenthall_k16_whole_filters_by_shape) (n := 63) (k := 11) (x := "script") rfl (by decide) rfl ⟨rfl, by decide, by decide⟩ (fun w h Y => PySem.W.kIn_of Y) ?F
  case F =>
    intro w mg fa h KX G hmg
    refine ⟨?nl, ?_⟩
    case nl => first | exact rfl | kernel_rfl
    refine' K16.all_fin KX G hmg ?z_abs ?z_all ?z_bool ?z_int ?z_isinstance ?z_len ?z_list ?z_ord ?z_range ?z_repr ?z_set ?z_str ?z_tuple ?c_DEEP ?c_FILTERS ?c_HIGHEST ?c_INDEX ?c_KINDS ?d_KINDS ?c_LISTS ?d_LISTS ?c_LONGEST ?c_MOST ?c_NAME ?c_NESTED ?c_ORDERS ?d_ORDERS ?c_PARTS ?c_SIGNS ?c_SIZE ?c_SMALL ?c_STEPS ?g_is_whole ?l_is_whole ?c_is_whole ?k_is_whole ?g_is_tuple_of ?l_is_tuple_of ?c_is_tuple_of ?k_is_tuple_of ?g_is_name ?l_is_name ?c_is_name ?k_is_name ?g_is_text_sign ?l_is_text_sign ?c_is_text_sign ?k_is_text_sign ?g_fits_plain ?l_fits_plain ?c_fits_plain ?k_fits_plain ?g_is_knot ?l_is_knot ?c_is_knot ?k_is_knot ?g_fits_fields ?l_fits_fields ?c_fits_fields ?k_fits_fields ?g_inner_of ?l_inner_of ?c_inner_of ?k_inner_of ?g_fits_value ?l_fits_value ?c_fits_value ?k_fits_value ?g_is_list ?l_is_list ?c_is_list ?k_is_list ?g_fits_path ?l_fits_path ?c_fits_path ?k_fits_path ?g_fits_told ?l_fits_told ?c_fits_told ?k_fits_told ?g_fits_test ?l_fits_test ?c_fits_test ?k_fits_test ?g_inner_filters ?l_inner_filters ?c_inner_filters ?k_inner_filters ?g_fits_filter ?l_fits_filter ?c_fits_filter ?k_fits_filter ?g_is_filter ?l_is_filter ?c_is_filter ?k_is_filter ?g__law_cup ?l__law_cup ?c__law_cup ?k__law_cup ?g__law_roll ?l__law_roll ?c__law_roll ?k__law_roll ?g__law_some ?l__law_some ?c__law_some ?k__law_some ?g__law_value ?l__law_value ?c__law_value ?k__law_value ?g__law_drawn_fields ?l__law_drawn_fields ?c__law_drawn_fields ?k__law_drawn_fields ?g__law_path ?l__law_path ?c__law_path ?k__law_path ?g__law_told ?l__law_told ?c__law_told ?k__law_told ?g__law_words ?l__law_words ?c__law_words ?k__law_words ?g__law_filter ?l__law_filter ?c__law_filter ?k__law_filter ?g__law_near ?l__law_near ?c__law_near ?k__law_near ?g_law ?l_law ?c_law ?k_law
    (case z_abs => k_is); (case z_all => k_is); (case z_bool => k_is); (case z_int => k_is); (case z_isinstance => k_is); (case z_len => k_is); (case z_list => k_is); (case z_ord => k_is); (case z_range => k_is); (case z_repr => k_is); (case z_set => k_is); (case z_str => k_is); (case z_tuple => k_is); (case c_DEEP => k_is); (case c_FILTERS => k_is); (case c_HIGHEST => k_is); (case c_INDEX => k_is); (case c_KINDS => k_is); (case d_KINDS => k_is); (case c_LISTS => k_is); (case d_LISTS => k_is); (case c_LONGEST => k_is); (case c_MOST => k_is); (case c_NAME => k_is); (case c_NESTED => k_is); (case c_ORDERS => k_is); (case d_ORDERS => k_is); (case c_PARTS => k_is); (case c_SIGNS => k_is); (case c_SIZE => k_is); (case c_SMALL => k_is); (case c_STEPS => k_is); (case g_is_whole => k_is); (case l_is_whole => k_is); (case c_is_whole => k_is); (case k_is_whole => k_is); (case g_is_tuple_of => k_is); (case l_is_tuple_of => k_is); (case c_is_tuple_of => k_is); (case k_is_tuple_of => k_is); (case g_is_name => k_is); (case l_is_name => k_is); (case c_is_name => k_is); (case k_is_name => k_is); (case g_is_text_sign => k_is); (case l_is_text_sign => k_is); (case c_is_text_sign => k_is); (case k_is_text_sign => k_is); (case g_fits_plain => k_is); (case l_fits_plain => k_is); (case c_fits_plain => k_is); (case k_fits_plain => k_is); (case g_is_knot => k_is); (case l_is_knot => k_is); (case c_is_knot => k_is); (case k_is_knot => k_is); (case g_fits_fields => k_is); (case l_fits_fields => k_is); (case c_fits_fields => k_is); (case k_fits_fields => k_is); (case g_inner_of => k_is); (case l_inner_of => k_is); (case c_inner_of => k_is); (case k_inner_of => k_is); (case g_fits_value => k_is); (case l_fits_value => k_is); (case c_fits_value => k_is); (case k_fits_value => k_is); (case g_is_list => k_is); (case l_is_list => k_is); (case c_is_list => k_is); (case k_is_list => k_is); (case g_fits_path => k_is); (case l_fits_path => k_is); (case c_fits_path => k_is); (case k_fits_path => k_is); (case g_fits_told => k_is); (case l_fits_told => k_is); (case c_fits_told => k_is); (case k_fits_told => k_is); (case g_fits_test => k_is); (case l_fits_test => k_is); (case c_fits_test => k_is); (case k_fits_test => k_is); (case g_inner_filters => k_is); (case l_inner_filters => k_is); (case c_inner_filters => k_is); (case k_inner_filters => k_is); (case g_fits_filter => k_is); (case l_fits_filter => k_is); (case c_fits_filter => k_is); (case k_fits_filter => k_is); (case g_is_filter => k_is); (case l_is_filter => k_is); (case c_is_filter => k_is); (case k_is_filter => k_is); (case g__law_cup => k_is); (case l__law_cup => k_is); (case c__law_cup => k_is); (case k__law_cup => k_is); (case g__law_roll => k_is); (case l__law_roll => k_is); (case c__law_roll => k_is); (case k__law_roll => k_is); (case g__law_some => k_is); (case l__law_some => k_is); (case c__law_some => k_is); (case k__law_some => k_is); (case g__law_value => k_is); (case l__law_value => k_is); (case c__law_value => k_is); (case k__law_value => k_is); (case g__law_drawn_fields => k_is); (case l__law_drawn_fields => k_is); (case c__law_drawn_fields => k_is); (case k__law_drawn_fields => k_is); (case g__law_path => k_is); (case l__law_path => k_is); (case c__law_path => k_is); (case k__law_path => k_is); (case g__law_told => k_is); (case l__law_told => k_is); (case c__law_told => k_is); (case k__law_told => k_is); (case g__law_words => k_is); (case l__law_words => k_is); (case c__law_words => k_is); (case k__law_words => k_is); (case g__law_filter => k_is); (case l__law_filter => k_is); (case c__law_filter => k_is); (case k__law_filter => k_is); (case g__law_near => k_is); (case l__law_near => k_is); (case c__law_near => k_is); (case k__law_near => k_is); (case g_law => k_is); (case l_law => k_is); (case c_law => k_is); (case k_law => k_is)
end
