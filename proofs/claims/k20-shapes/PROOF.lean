import PyProof.Rows.All
import Wide.All
import OpenK.AllK
import Wide.FinOn
import HandS.ForMost
import HandS.Deep
import HandS.Zip
import HandS.TupAny
import HandS.TupMul
import HandS.IsInst
import HandS.Style
import HandS.Conv
import HandS.Strs
import HandS.Exc
import HandS.Wide
import HandS.More
import HandS.AnyAll
import HandS.RaiseMore
import HandS.ExcOwn
import HandS.WordsExc
import HandS.Ends
import KE.GoesEnum
import KE.GoesMore
import PyProof.ReprLen
import PyProof.FitsInt
import PySem.Challenge.RW_documenthall_k20_whole_shapes_of_documen
set_option Elab.async false
set_option linter.all false
section
set_option maxRecDepth 100000
namespace PV
open PySem PySem.Spec PyProof.Rows L2
set_option autoImplicit false

abbrev D := PyData
abbrev Fg := PySem.W.Frag

/-! what a value tells: a datum; B: the lists that somebody may yet change -/
mutual
inductive Dn (K : Fg) (H : Hp) (B : Addr → Prop) : V → D → Prop
  | non : Dn K H B .non .none
  | bl (b : Bool) : Dn K H B (.bl b) (.bool b)
  | int (i : Int) : Dn K H B (.int i) (.int i)
  | str (x : Str) : Dn K H B (.str x) (.str x)
  | lst {a : Addr} {xs : List V} {ds : List D} : Rd H a (.lst xs) → ¬ B a → DnA K H B xs ds → Dn K H B (.ref a) (.list ds)
  | tup {a : Addr} {xs : List V} {ds : List D} : SqT K H a xs → DnA K H B xs ds → Dn K H B (.ref a) (.tuple ds)
inductive DnA (K : Fg) (H : Hp) (B : Addr → Prop) : List V → List D → Prop
  | nil : DnA K H B [] []
  | cons {v : V} {vs : List V} {d : D} {ds : List D} : Dn K H B v d → DnA K H B vs ds → DnA K H B (v :: vs) (d :: ds)
end

section
variable {K : Fg} {H H' : Hp} {B B' : Addr → Prop} {v : V} {d : D} {vs : List V} {ds : List D}

mutual
theorem Dn.dp : ∀ {v : V} {d : D}, Dn K H B v d → Dp K H v d
  | _, _, .non => .non
  | _, _, .bl b => .bl b
  | _, _, .int i => .int i
  | _, _, .str x => .str x
  | _, _, .lst r _ a => .lst (.inl r) (DnA.dp a)
  | _, _, .tup r a => .tup r (DnA.dp a)
theorem DnA.dp : ∀ {vs : List V} {ds : List D}, DnA K H B vs ds → DpAll K H vs ds
  | _, _, .nil => .nil
  | _, _, .cons a b => .cons a.dp b.dp
end

theorem DnA.len : ∀ {vs : List V} {ds : List D}, DnA K H B vs ds → vs.length = ds.length
  | _, _, .nil => rfl
  | _, _, .cons _ b => congrArg (· + 1) b.len

theorem DnA.get : ∀ {vs : List V} {ds : List D} {i : Nat} {d : D}, DnA K H B vs ds → ds[i]? = some d → ∃ v, vs[i]? = some v ∧ Dn K H B v d
  | _, _, _, _, .nil, e => by cases e
  | _, _, 0, _, .cons a _, e => by cases e; exact ⟨_, rfl, a⟩
  | _, _, i + 1, _, .cons _ b, e => b.get (i := i) e
theorem DnA.getV : ∀ {vs : List V} {ds : List D} {i : Nat} {v : V}, DnA K H B vs ds → vs[i]? = some v → ∃ d, ds[i]? = some d ∧ Dn K H B v d
  | _, _, _, _, .nil, e => by cases e
  | _, _, 0, _, .cons a _, e => by cases e; exact ⟨_, rfl, a⟩
  | _, _, i + 1, _, .cons _ b, e => b.getV (i := i) e
theorem DnA.app : ∀ {vs ws : List V} {ds es : List D}, DnA K H B vs ds → DnA K H B ws es → DnA K H B (vs ++ ws) (ds ++ es)
  | _, _, _, _, .nil, b => b
  | _, _, _, _, .cons x a, b => .cons x (a.app b)
theorem DnA.take : ∀ {vs : List V} {ds : List D} (n : Nat), DnA K H B vs ds → DnA K H B (vs.take n) (ds.take n)
  | _, _, 0, _ => .nil
  | _, _, _ + 1, .nil => .nil
  | _, _, n + 1, .cons x a => .cons x (a.take n)
theorem DnA.drop : ∀ {vs : List V} {ds : List D} (n : Nat), DnA K H B vs ds → DnA K H B (vs.drop n) (ds.drop n)
  | _, _, 0, a => a
  | _, _, _ + 1, .nil => .nil
  | _, _, n + 1, .cons _ a => a.drop n
theorem DnA.rep (h : Dn K H B v d) : ∀ n : Nat, DnA K H B (List.replicate n v) (List.replicate n d)
  | 0 => .nil
  | n + 1 => .cons h (DnA.rep h n)
theorem DnA.flatRep (h : DnA K H B vs ds) : ∀ n : Nat, DnA K H B (List.replicate n vs).flatten (List.replicate n ds).flatten
  | 0 => .nil
  | n + 1 => by
    rw [List.replicate_succ, List.replicate_succ, List.flatten_cons, List.flatten_cons]
    exact h.app (DnA.flatRep h n)
theorem DnA.set (h : Dn K H B v d) : ∀ {vs : List V} {ds : List D} (n : Nat), DnA K H B vs ds → DnA K H B (vs.set n v) (ds.set n d)
  | _, _, _, .nil => .nil
  | _, _, 0, .cons _ a => .cons h a
  | _, _, n + 1, .cons x a => .cons x (a.set h n)
theorem DnA.insertIdx (h : Dn K H B v d) : ∀ {vs : List V} {ds : List D} (n : Nat), DnA K H B vs ds → DnA K H B (vs.insertIdx n v) (ds.insertIdx n d)
  | _, _, 0, a => .cons h a
  | _, _, _ + 1, .nil => .nil
  | _, _, n + 1, .cons x a => .cons x (a.insertIdx h n)
theorem DnA.eraseIdx : ∀ {vs : List V} {ds : List D} (n : Nat), DnA K H B vs ds → DnA K H B (vs.eraseIdx n) (ds.eraseIdx n)
  | _, _, _, .nil => .nil
  | _, _, 0, .cons _ a => a
  | _, _, n + 1, .cons x a => .cons x (a.eraseIdx n)
theorem DnA.dropLast : ∀ {vs : List V} {ds : List D}, DnA K H B vs ds → DnA K H B vs.dropLast ds.dropLast
  | _, _, .nil => .nil
  | _, _, .cons _ .nil => .nil
  | _, _, .cons x (.cons y a) => .cons x (DnA.dropLast (.cons y a))

/-- the heap goes on: mu may be changed, the rest stays; what may be changed later is of mu, or new -/
structure Go (H : Hp) (mu : Addr → Prop) (H' : Hp) (mu' : Addr → Prop) : Prop where
  keep : ∀ a o, H a = some o → ¬ mu a → H' a = some o
  new : ∀ a, mu' a → mu a ∨ H a = none
  there : ∀ a, H a ≠ none → H' a ≠ none

theorem Go.refl (H : Hp) (mu : Addr → Prop) : Go H mu H mu := ⟨fun _ _ h _ => h, fun _ h => .inl h, fun _ h => h⟩
theorem Go.of_same {mu : Addr → Prop} (h : Same H H') : Go H mu H' mu := ⟨fun a o e _ => h a o e, fun _ h => .inl h, fun a e q => by
  cases z : H a with
  | none => exact e z
  | some o => rw [h a o z] at q; cases q⟩
theorem Go.trans {H1 : Hp} {mu mu1 mu' : Addr → Prop} (g : Go H mu H1 mu1) (g' : Go H1 mu1 H' mu') : Go H mu H' mu' := by
  refine ⟨fun a o e n => ?_, fun a m => ?_, fun a e => g'.there a (g.there a e)⟩
  · refine g'.keep a o (g.keep a o e n) fun m1 => ?_
    rcases g.new a m1 with m | z
    · exact n m
    · rw [e] at z; cases z
  · rcases g'.new a m with m1 | z
    · exact g.new a m1
    · cases e : H a with
      | none => exact .inr rfl
      | some o => exact absurd z (g.there a (by rw [e]; exact fun q => nomatch q))
theorem Go.less {mu mu' mu2 : Addr → Prop} (g : Go H mu H' mu') (h : ∀ a, mu2 a → mu' a) : Go H mu H' mu2 := ⟨g.keep, fun a m => g.new a (h a m), g.there⟩

/-- lists stand at mu -/
def Lsts (H : Hp) (mu : Addr → Prop) : Prop := ∀ a, mu a → ∃ xs, H a = some (.lst xs)

theorem SqT.go {mu mu' : Addr → Prop} {a : Addr} {xs : List V} (l : Lsts H mu) (g : Go H mu H' mu') (h : SqT K H a xs) : SqT K H' a xs := by
  rcases h with (h | ⟨o, h⟩) | h
  · exact .inl (.inl (g.keep _ _ h fun m => by obtain ⟨_, e⟩ := l _ m; rw [h] at e; cases e))
  · exact .inl (.inr ⟨o, g.keep _ _ h fun m => by obtain ⟨_, e⟩ := l _ m; rw [h] at e; cases e⟩)
  · exact .inr h
theorem Rd.go {mu mu' : Addr → Prop} {a : Addr} {xs : List V} (g : Go H mu H' mu') (n : ¬ mu a) (h : Rd H a (.lst xs)) : Rd H' a (.lst xs) ∧ ¬ mu' a := by
  refine ⟨?_, fun m => ?_⟩
  · rcases h with h | ⟨o, h⟩
    · exact .inl (g.keep _ _ h n)
    · exact .inr ⟨o, g.keep _ _ h n⟩
  · rcases g.new a m with m | z
    · exact n m
    · rcases h with h | ⟨o, h⟩ <;> (rw [h] at z; cases z)

mutual
theorem Dn.go {mu mu' fo : Addr → Prop} (l : Lsts H mu) (g : Go H mu H' mu') : ∀ {v : V} {d : D}, Dn K H (fun a => mu a ∨ fo a) v d → Dn K H' (fun a => mu' a ∨ fo a) v d
  | _, _, .non => .non
  | _, _, .bl b => .bl b
  | _, _, .int i => .int i
  | _, _, .str x => .str x
  | _, _, .lst r n a => by
    obtain ⟨r', n'⟩ := Rd.go g (fun m => n (.inl m)) r
    exact .lst r' (fun m => m.elim n' fun f => n (.inr f)) (DnA.go l g a)
  | _, _, .tup r a => .tup (SqT.go l g r) (DnA.go l g a)
theorem DnA.go {mu mu' fo : Addr → Prop} (l : Lsts H mu) (g : Go H mu H' mu') : ∀ {vs : List V} {ds : List D}, DnA K H (fun a => mu a ∨ fo a) vs ds → DnA K H' (fun a => mu' a ∨ fo a) vs ds
  | _, _, .nil => .nil
  | _, _, .cons x a => .cons (Dn.go l g x) (DnA.go l g a)
end
mutual
/-- the same, and what is foreign is more by what was not there -/
theorem Dn.go2 {mu mu' fo fo' : Addr → Prop} (l : Lsts H mu) (g : Go H mu H' mu') (f : ∀ a, fo' a → fo a ∨ H a = none) : ∀ {v : V} {d : D}, Dn K H (fun a => mu a ∨ fo a) v d → Dn K H' (fun a => mu' a ∨ fo' a) v d
  | _, _, .non => .non
  | _, _, .bl b => .bl b
  | _, _, .int i => .int i
  | _, _, .str x => .str x
  | _, _, .lst r n a => by
    obtain ⟨r', n'⟩ := Rd.go g (fun m => n (.inl m)) r
    refine .lst r' (fun m => m.elim n' fun q => ?_) (DnA.go2 l g f a)
    rcases f _ q with q | z
    · exact n (.inr q)
    · rcases r with r | ⟨o, r⟩ <;> (rw [r] at z; cases z)
  | _, _, .tup r a => .tup (SqT.go l g r) (DnA.go2 l g f a)
theorem DnA.go2 {mu mu' fo fo' : Addr → Prop} (l : Lsts H mu) (g : Go H mu H' mu') (f : ∀ a, fo' a → fo a ∨ H a = none) : ∀ {vs : List V} {ds : List D}, DnA K H (fun a => mu a ∨ fo a) vs ds → DnA K H' (fun a => mu' a ∨ fo' a) vs ds
  | _, _, .nil => .nil
  | _, _, .cons x a => .cons (Dn.go2 l g f x) (DnA.go2 l g f a)
end
mutual
theorem Dn.less (h : ∀ a, B' a → B a) : ∀ {v : V} {d : D}, Dn K H B v d → Dn K H B' v d
  | _, _, .non => .non
  | _, _, .bl b => .bl b
  | _, _, .int i => .int i
  | _, _, .str x => .str x
  | _, _, .lst r n a => .lst r (fun m => n (h _ m)) (DnA.less h a)
  | _, _, .tup r a => .tup r (DnA.less h a)
theorem DnA.less (h : ∀ a, B' a → B a) : ∀ {vs : List V} {ds : List D}, DnA K H B vs ds → DnA K H B' vs ds
  | _, _, .nil => .nil
  | _, _, .cons x a => .cons (Dn.less h x) (DnA.less h a)
end
mutual
/-- the heap grows; more may be changed, of what was not there -/
theorem Dn.grow (s : Same H H') (h : ∀ a, B' a → B a ∨ H a = none) : ∀ {v : V} {d : D}, Dn K H B v d → Dn K H' B' v d
  | _, _, .non => .non
  | _, _, .bl b => .bl b
  | _, _, .int i => .int i
  | _, _, .str x => .str x
  | _, _, .lst r n a => by
    refine .lst ?_ (fun m => ?_) (DnA.grow s h a)
    · rcases r with r | ⟨o, r⟩
      · exact .inl (s _ _ r)
      · exact .inr ⟨o, s _ _ r⟩
    · rcases h _ m with m | z
      · exact n m
      · rcases r with r | ⟨o, r⟩ <;> (rw [r] at z; cases z)
  | _, _, .tup r a => by
    refine .tup ?_ (DnA.grow s h a)
    rcases r with (r | ⟨o, r⟩) | r
    · exact .inl (.inl (s _ _ r))
    · exact .inl (.inr ⟨o, s _ _ r⟩)
    · exact .inr r
theorem DnA.grow (s : Same H H') (h : ∀ a, B' a → B a ∨ H a = none) : ∀ {vs : List V} {ds : List D}, DnA K H B vs ds → DnA K H' B' vs ds
  | _, _, .nil => .nil
  | _, _, .cons x a => .cons (Dn.grow s h x) (DnA.grow s h a)
end
theorem same_upd {p : Addr} {o : HO} (h : H p = none) : Same H (upd H p o) := fun b u e => by rw [upd_ne (ne_of_none e h)]; exact e

/-! the state of a def: its names' values -/
inductive Sl where
  | un
  | val (d : D)
  | own (ds : List D)
  | io (ds : List D)
abbrev Ta := List Sl

/-- slot i holds a list that may be changed, now ds -/
def OwnAt (τ : Ta) (i : Nat) (ds : List D) : Prop := τ[i]? = some (.own ds) ∨ τ[i]? = some (.io ds)
def IsOwn (τ : Ta) (i : Nat) : Prop := ∃ ds, OwnAt τ i ds
def Mu (ad : Nat → Addr) (τ : Ta) : Addr → Prop := fun a => ∃ i, IsOwn τ i ∧ ad i = a

structure Fr where
  H0 : Hp
  mu0 : Addr → Prop
  fo : Addr → Prop
  ioa : Nat → Addr

abbrev Bd (F : Fr) (ad : Nat → Addr) (τ : Ta) : Addr → Prop := fun a => Mu ad τ a ∨ F.fo a

structure Rep (K : Fg) (F : Fr) (ad : Nat → Addr) (σ : L2.St) (τ : Ta) (H : Hp) : Prop where
  val : ∀ (i : Nat) (d : D), τ[i]? = some (.val d) → ∃ v, σ[i]? = some (some v) ∧ Dn K H (Bd F ad τ) v d
  own : ∀ (i : Nat) (ds : List D), OwnAt τ i ds → σ[i]? = some (some (.ref (ad i))) ∧ ∃ xs, H (ad i) = some (.lst xs) ∧ DnA K H (Bd F ad τ) xs ds
  inj : ∀ (i j : Nat), IsOwn τ i → IsOwn τ j → ad i = ad j → i = j
  io : ∀ (i : Nat) (ds : List D), τ[i]? = some (.io ds) → ad i = F.ioa i
  len : σ.length = τ.length
  go : Go F.H0 F.mu0 H (Mu ad τ)
  fo : ∀ a, F.fo a → H a ≠ none
  nfo : ∀ i : Nat, IsOwn τ i → ¬ F.fo (ad i)

section
variable {F : Fr} {ad : Nat → Addr} {σ : L2.St} {τ τ' : Ta}
theorem Rep.lsts (R : Rep K F ad σ τ H) : Lsts H (Mu ad τ) := fun a ⟨i, ⟨ds, h⟩, e⟩ => by
  obtain ⟨_, xs, hx, _⟩ := R.own i ds h
  exact ⟨xs, by rw [← e]; exact hx⟩
theorem Rep.bthere (R : Rep K F ad σ τ H) : ∀ a, Bd F ad τ a → H a ≠ none := fun a h => by
  rcases h with h | h
  · obtain ⟨xs, e⟩ := R.lsts a h
    rw [e]; exact fun z => nomatch z
  · exact R.fo a h
/-- the frame taken anew from here -/
def Fr.here (F : Fr) (ad : Nat → Addr) (τ : Ta) (H : Hp) : Fr := ⟨H, Mu ad τ, F.fo, F.ioa⟩
theorem Rep.here (R : Rep K F ad σ τ H) : Rep K (F.here ad τ H) ad σ τ H := ⟨R.val, R.own, R.inj, R.io, R.len, Go.refl _ _, R.fo, R.nfo⟩
theorem Rep.back {ad' : Nat → Addr} {σ' : L2.St} (R : Rep K F ad σ τ H) (R' : Rep K (F.here ad τ H) ad' σ' τ' H') : Rep K F ad' σ' τ' H' := ⟨R'.val, R'.own, R'.inj, R'.io, R'.len, R.go.trans R'.go, R'.fo, R'.nfo⟩
/-- the heap grows -/
theorem Rep.same (R : Rep K F ad σ τ H) (s : Same H H') : Rep K F ad σ τ H' := by
  refine ⟨fun i d h => ?_, fun i ds h => ?_, R.inj, R.io, R.len, R.go.trans (Go.of_same s), fun a h z => ?_, R.nfo⟩
  · obtain ⟨v, h1, h2⟩ := R.val i d h
    exact ⟨v, h1, h2.grow s fun _ m => .inl m⟩
  · obtain ⟨h1, xs, h2, h3⟩ := R.own i ds h
    exact ⟨h1, xs, s _ _ h2, h3.grow s fun _ m => .inl m⟩
  · cases e : H a with
    | none => exact R.fo a h e
    | some o => rw [s a o e] at z; cases z
theorem Rep.carry {ad' : Nat → Addr} {σ' : L2.St} (R : Rep K F ad σ τ H) (R' : Rep K (F.here ad τ H) ad' σ' τ' H') (h : Dn K H (Bd F ad τ) v d) : Dn K H' (Bd F ad' τ') v d :=
  Dn.go R.lsts R'.go h
theorem Rep.carryA {ad' : Nat → Addr} {σ' : L2.St} (R : Rep K F ad σ τ H) (R' : Rep K (F.here ad τ H) ad' σ' τ' H') (h : DnA K H (Bd F ad τ) vs ds) : DnA K H' (Bd F ad' τ') vs ds :=
  DnA.go R.lsts R'.go h
end
end
end PV
end

section
set_option maxRecDepth 100000
namespace PV
open PySem PySem.Spec PyProof.Rows L2
set_option autoImplicit false

/-! what is wanted, over data -/
structure Xn where
  cls : Str
  args : List (Str × D)
abbrev XP := Xn → Ta → Prop
abbrev WE := Ta → XP → (D → Ta → Prop) → Prop
abbrev WT := Ta → XP → (Bool → Ta → Prop) → Prop
abbrev WA := Ta → XP → (List D → Ta → Prop) → Prop

structure PEn where
  nx : Ta → Prop
  rt : D → Ta → Prop
  rf : List D → Ta → Prop := fun _ _ => False
  bk : Ta → Prop := fun _ => False
  ct : Ta → Prop := fun _ => False
abbrev WS := PEn → XP → Ta → Prop

/-- what a derivation leans on: the written part, the wish of exceptions, the classes' addresses by name -/
structure LC where
  K : Fg
  W : WX
  cl : Str → Option Value

def XF (K : Fg) (H : Hp) (B : Addr → Prop) : Option Addr → List (Str × D) → Prop
  | none, fs => fs = []
  | some p, fs => ∃ vs : List (Str × V), H p = some (.xd vs) ∧ vs.map (·.1) = fs.map (·.1) ∧ DnA K H B (vs.map (·.2)) (fs.map (·.2))

def XOk (c : LC) (F : Fr) (X : XP) : Prop := ∀ (x : Xn) (τ : Ta) (ad : Nat → Addr) (σ : L2.St) (dx : Option Addr) (H : Hp) (v : Value),
  X x τ → Rep c.K F ad σ τ H → c.cl x.cls = some v → XF c.K H (Bd F ad τ) dx x.args → c.W v dx σ H

def liftE (c : LC) (w : WE) : TE := fun σ H Q => ∃ F ad τ X P, Rep c.K F ad σ τ H ∧ XOk c F X ∧ w τ X P ∧
  ∀ d τ' v H', P d τ' → Rep c.K F ad σ τ' H' → Dn c.K H' (Bd F ad τ') v d → Q v H'
def liftT (c : LC) (w : WT) : TT := fun σ H Q => ∃ F ad τ X P, Rep c.K F ad σ τ H ∧ XOk c F X ∧ w τ X P ∧
  ∀ b τ' H', P b τ' → Rep c.K F ad σ τ' H' → Q b H'
def liftA (c : LC) (w : WA) : TA := fun σ H Q => ∃ F ad τ X P, Rep c.K F ad σ τ H ∧ XOk c F X ∧ w τ X P ∧
  ∀ ds τ' vs H', P ds τ' → Rep c.K F ad σ τ' H' → DnA c.K H' (Bd F ad τ') vs ds → Q vs H'
/-- a new list, nobody else's -/
def liftF (c : LC) (w : WA) : TE := fun σ H Q => ∃ F ad τ X P, Rep c.K F ad σ τ H ∧ XOk c F X ∧ w τ X P ∧
  ∀ ds τ' p xs H', P ds τ' → Rep c.K { F with fo := fun a => F.fo a ∨ a = p } ad σ τ' H' → F.H0 p = none → ¬ F.fo p → H' p = some (.lst xs) →
    DnA c.K H' (Bd { F with fo := fun a => F.fo a ∨ a = p } ad τ') xs ds → Q (.ref p) H'

structure EOk (c : LC) (F : Fr) (E : PEn) (T : Ends) : Prop where
  nx : ∀ τ ad σ H, E.nx τ → Rep c.K F ad σ τ H → T.nx σ H
  rt : ∀ d τ ad σ v H, E.rt d τ → Rep c.K F ad σ τ H → Dn c.K H (Bd F ad τ) v d → T.rt v H
  rf : ∀ ds τ ad σ p xs H, E.rf ds τ → Rep c.K { F with fo := fun a => F.fo a ∨ a = p } ad σ τ H → F.H0 p = none → ¬ F.fo p → H p = some (.lst xs) →
    DnA c.K H (Bd { F with fo := fun a => F.fo a ∨ a = p } ad τ) xs ds → T.rt (.ref p) H
  bk : ∀ τ ad σ H, E.bk τ → Rep c.K F ad σ τ H → T.bk σ H
  ct : ∀ τ ad σ H, E.ct τ → Rep c.K F ad σ τ H → T.ct σ H
def liftS (c : LC) (w : WS) : TS := fun T σ H => ∃ F ad τ X E, Rep c.K F ad σ τ H ∧ XOk c F X ∧ w E X τ ∧ EOk c F E T

section
variable {c : LC} {F : Fr} {ad : Nat → Addr} {σ : L2.St} {τ : Ta} {H : Hp} {X : XP}
theorem XOk.here (R : Rep c.K F ad σ τ H) (x : XOk c F X) : XOk c (F.here ad τ H) X := fun y τ' ad' σ' dx H' v h R' hv f => x y τ' ad' σ' dx H' v h (R.back R') hv f
theorem useE {w : WE} {P : D → Ta → Prop} {Q : VK} (R : Rep c.K F ad σ τ H) (x : XOk c F X) (h : w τ X P)
    (k : ∀ d τ' v H', P d τ' → Rep c.K F ad σ τ' H' → Rep c.K (F.here ad τ H) ad σ τ' H' → Dn c.K H' (Bd F ad τ') v d → Q v H') : liftE c w σ H Q :=
  ⟨F.here ad τ H, ad, τ, X, P, R.here, x.here R, h, fun d τ' v H' p R' dn => k d τ' v H' p (R.back R') R' dn⟩
theorem useT {w : WT} {P : Bool → Ta → Prop} {Q : Bool → Hp → Prop} (R : Rep c.K F ad σ τ H) (x : XOk c F X) (h : w τ X P)
    (k : ∀ b τ' H', P b τ' → Rep c.K F ad σ τ' H' → Rep c.K (F.here ad τ H) ad σ τ' H' → Q b H') : liftT c w σ H Q :=
  ⟨F.here ad τ H, ad, τ, X, P, R.here, x.here R, h, fun d τ' H' p R' => k d τ' H' p (R.back R') R'⟩
theorem useA {w : WA} {P : List D → Ta → Prop} {Q : List V → Hp → Prop} (R : Rep c.K F ad σ τ H) (x : XOk c F X) (h : w τ X P)
    (k : ∀ ds τ' vs H', P ds τ' → Rep c.K F ad σ τ' H' → Rep c.K (F.here ad τ H) ad σ τ' H' → DnA c.K H' (Bd F ad τ') vs ds → Q vs H') : liftA c w σ H Q :=
  ⟨F.here ad τ H, ad, τ, X, P, R.here, x.here R, h, fun d τ' v H' p R' dn => k d τ' v H' p (R.back R') R' dn⟩
end

theorem PE.imp {X : Cx} {e : Expr} {t t' : TE} (h : PE X e t) (i : ∀ σ H Q, t' σ H Q → t σ H Q) : PE X e t' :=
  ⟨fun pins s σ H Q I q => h.run pins s σ H Q I (i σ H Q q)⟩
theorem PT.imp {X : Cx} {e : Expr} {t t' : TT} (h : PT X e t) (i : ∀ σ H Q, t' σ H Q → t σ H Q) : PT X e t' :=
  ⟨fun pins s σ H Q I q => h.run pins s σ H Q I (i σ H Q q)⟩
theorem PW.imp {X : Cx} {e : Expr} {t t' : TT} (h : PW X e t) (i : ∀ σ H Q, t' σ H Q → t σ H Q) : PW X e t' :=
  ⟨fun wh pins s σ H Q I q => h.run wh pins s σ H Q I (i σ H Q q)⟩
theorem PA.imp {X : Cx} {e : List Expr} {t t' : TA} (h : PA X e t) (i : ∀ σ H Q, t' σ H Q → t σ H Q) : PA X e t' :=
  ⟨fun pos pins s σ H Q I q => h.run pos pins s σ H Q I (i σ H Q q)⟩
theorem PS.imp {X : Cx} {e : Stmt} {t t' : TS} (h : PS X e t) (i : ∀ D σ H, t' D σ H → t D σ H) : PS X e t' :=
  ⟨fun pins s σ H D I q => h.run pins s σ H D I (i D σ H q)⟩
theorem PSs.imp {X : Cx} {e : List Stmt} {t t' : TS} (h : PSs X e t) (i : ∀ D σ H, t' D σ H → t D σ H) : PSs X e t' :=
  ⟨fun pins s σ H D I q => h.run pins s σ H D I (i D σ H q)⟩

/-! ### names, constants -/
def wVar (i : Nat) : WE := fun τ _ P => ∃ d, τ[i]? = some (.val d) ∧ P d τ
def wC (d : D) : WE := fun τ _ P => P d τ
/-- a list that might have been changed is let go -/
def wFrz (i : Nat) : WE := fun τ _ P => ∃ ds, τ[i]? = some (.own ds) ∧ P (.list ds) (τ.set i (.val (.list ds)))

section
variable {X : Cx} {c : LC} {pos : Pos}

theorem ppe_var {i : Nat} {x : Str} (hN : X.N[i]? = some x := by rfl) (hv : Vis X.env.scope x := by first | exact Or.inl rfl | exact Or.inr (Or.inl rfl) | exact Or.inr (Or.inr rfl))
    (hd : (x == ("__debug__" : Str)) = false := by decide) (hcd : (x == ("__classdict__" : Str)) = false := by decide) : PE X (.Name x pos) (liftE c (wVar i)) :=
  PE.imp (pe_var hN hv hd hcd) fun σ H Q ⟨F, ad, τ, Xp, P, R, x, ⟨d, h1, h2⟩, k⟩ => by
    obtain ⟨v, e, dn⟩ := R.val i d h1
    exact ⟨v, e, k d τ v H h2 R dn⟩

theorem set_own_iff {τ : Ta} {i : Nat} {d : D} {j : Nat} : IsOwn (τ.set i (.val d)) j ↔ (IsOwn τ j ∧ j ≠ i) := by
  by_cases hj : j = i
  · subst hj
    refine ⟨fun ⟨ds, h⟩ => ?_, fun h => absurd rfl h.2⟩
    exfalso
    rcases h with h | h <;>
    · by_cases hl : j < τ.length
      · rw [List.getElem?_set_self hl] at h; cases h
      · rw [List.getElem?_eq_none (by rw [List.length_set]; omega)] at h; cases h
  · refine ⟨fun ⟨ds, h⟩ => ⟨⟨ds, ?_⟩, hj⟩, fun ⟨⟨ds, h⟩, _⟩ => ⟨ds, ?_⟩⟩
    · unfold OwnAt at h ⊢; rwa [List.getElem?_set_ne (Ne.symm hj)] at h
    · unfold OwnAt at h ⊢; rwa [List.getElem?_set_ne (Ne.symm hj)]
theorem mu_set {τ : Ta} {i : Nat} {d : D} {ad : Nat → Addr} : ∀ a, Mu ad (τ.set i (.val d)) a → Mu ad τ a := fun a ⟨j, h, e⟩ => ⟨j, (set_own_iff.mp h).1, e⟩

theorem ppe_frz {i : Nat} {x : Str} (hN : X.N[i]? = some x := by rfl) (hv : Vis X.env.scope x := by first | exact Or.inl rfl | exact Or.inr (Or.inl rfl) | exact Or.inr (Or.inr rfl))
    (hd : (x == ("__debug__" : Str)) = false := by decide) (hcd : (x == ("__classdict__" : Str)) = false := by decide) : PE X (.Name x pos) (liftE c (wFrz i)) :=
  PE.imp (pe_var hN hv hd hcd) fun σ H Q ⟨F, ad, τ, Xp, P, R, x, ⟨ds, h1, h2⟩, k⟩ => by
    obtain ⟨e, xs, hx, dn⟩ := R.own i ds (.inl h1)
    have hi : i < τ.length := (List.getElem?_eq_some_iff.mp h1).1
    have hno : ¬ Bd F ad (τ.set i (.val (.list ds))) (ad i) := by
      rintro (⟨j, hj, ej⟩ | hf)
      · obtain ⟨h3, h4⟩ := set_own_iff.mp hj
        exact h4 (R.inj j i h3 ⟨ds, .inl h1⟩ ej)
      · exact R.nfo i ⟨ds, .inl h1⟩ hf
    have less : ∀ a, Bd F ad (τ.set i (.val (.list ds))) a → Bd F ad τ a := fun a h => h.elim (fun m => .inl (mu_set a m)) .inr
    have dl : Dn c.K H (Bd F ad (τ.set i (.val (.list ds)))) (.ref (ad i)) (.list ds) := .lst (.inl hx) hno (dn.less less)
    refine ⟨.ref (ad i), e, k _ _ _ H h2 ⟨fun j d hj => ?_, fun j es hj => ?_, fun j l hj hl => ?_, fun j es hj => ?_, by rw [List.length_set]; exact R.len, R.go.less fun a => mu_set a, R.fo, fun j hj => R.nfo j (set_own_iff.mp hj).1⟩ dl⟩
    · by_cases e2 : j = i
      · subst e2
        rw [List.getElem?_set_self hi] at hj
        cases hj
        exact ⟨_, e, dl⟩
      · rw [List.getElem?_set_ne (Ne.symm e2)] at hj
        obtain ⟨v, h3, h4⟩ := R.val j d hj
        exact ⟨v, h3, h4.less less⟩
    · have hne : j ≠ i := (set_own_iff.mp ⟨es, hj⟩).2
      have hj' : OwnAt τ j es := by unfold OwnAt at hj ⊢; rwa [List.getElem?_set_ne (Ne.symm hne)] at hj
      obtain ⟨h3, ys, h4, h5⟩ := R.own j es hj'
      exact ⟨h3, ys, h4, h5.less less⟩
    · exact R.inj j l (set_own_iff.mp hj).1 (set_own_iff.mp hl).1
    · have hne : j ≠ i := (set_own_iff.mp ⟨es, .inr hj⟩).2
      rw [List.getElem?_set_ne (Ne.symm hne)] at hj
      exact R.io j es hj

theorem ppe_c {e : Expr} {v : V} {d : D} (h : PE X e (tC v)) (hd : ∀ H B, Dn c.K H B v d) : PE X e (liftE c (wC d)) :=
  PE.imp h fun σ H Q ⟨F, ad, τ, Xp, P, R, x, h2, k⟩ => k d τ v H h2 R (hd _ _)
theorem ppe_int {i : Int} {j : Nat} : PE X (.Constant (.int i) j pos) (liftE c (wC (.int i))) := ppe_c pe_int fun _ _ => .int i
theorem ppe_bl {b : Bool} {j : Nat} : PE X (.Constant (.bool b) j pos) (liftE c (wC (.bool b))) := ppe_c pe_bl fun _ _ => .bl b
theorem ppe_non {j : Nat} : PE X (.Constant .none j pos) (liftE c (wC .none)) := ppe_c pe_non fun _ _ => .non
theorem ppe_str {x : Str} {j : Nat} : PE X (.Constant (.str x) j pos) (liftE c (wC (.str x))) := ppe_c pe_str fun _ _ => .str x

/-! ### argument lists, displays -/
def wNil : WA := fun τ _ P => P [] τ
def wCons (a : WE) (r : WA) : WA := fun τ X P => a τ X fun d τ1 => r τ1 X fun ds τ2 => P (d :: ds) τ2
theorem ppa_nil : PA X [] (liftA c wNil) := PA.imp pa_nil fun σ H Q ⟨F, ad, τ, Xp, P, R, x, h, k⟩ => k [] τ [] H h R .nil
theorem ppa_cons {e : Expr} {es : List Expr} {a : WE} {r : WA} (ha : PE X e (liftE c a)) (hr : PA X es (liftA c r)) (hs : starEach (e :: es) X.env = (false, eval e X.env) :: starEach es X.env := by rfl) :
    PA X (e :: es) (liftA c (wCons a r)) :=
  PA.imp (pa_cons ha hr hs) fun σ H Q ⟨F, ad, τ, Xp, P, R, x, h, k⟩ =>
    useE R x h fun d τ1 v H1 h1 R1 _ dn1 => useA R1 x h1 fun ds τ2 vs H2 h2 R2 R2' dn2 =>
      k _ τ2 _ H2 h2 R2 (.cons (R1.carry R2' dn1) dn2)
end

section
variable {X : Cx} {c : LC} {pos : Pos} {K : Fg} {F : Fr} {ad : Nat → Addr} {σ : L2.St} {τ : Ta} {H : Hp}
/-- a new tuple is laid -/
theorem Rep.newT {p : Addr} {xs : List V} {ds : List D} (R : Rep K F ad σ τ H) (h : H p = none) (dn : DnA K H (Bd F ad τ) xs ds) :
    Rep K F ad σ τ (upd H p (.tup xs)) ∧ Dn K (upd H p (.tup xs)) (Bd F ad τ) (.ref p) (.tuple ds) :=
  ⟨R.same (same_upd h), .tup (.inl (.inl upd_same)) (dn.grow (same_upd h) fun _ m => .inl m)⟩
/-- a new list is laid, to stay as it is -/
theorem Rep.newL {p : Addr} {xs : List V} {ds : List D} (R : Rep K F ad σ τ H) (h : H p = none) (dn : DnA K H (Bd F ad τ) xs ds) :
    Rep K F ad σ τ (upd H p (.lst xs)) ∧ Dn K (upd H p (.lst xs)) (Bd F ad τ) (.ref p) (.list ds) :=
  ⟨R.same (same_upd h), .lst (.inl upd_same) (fun m => R.bthere p m h) (dn.grow (same_upd h) fun _ m => .inl m)⟩
/-- more is foreign: what was not there -/
theorem Rep.plus {p : Addr} {H' : Hp} (R : Rep K F ad σ τ H) (h : H p = none) (s : Same H H') (hp : H' p ≠ none) : Rep K { F with fo := fun a => F.fo a ∨ a = p } ad σ τ H' := by
  have R' := R.same s
  have le : ∀ a, Bd { F with fo := fun a => F.fo a ∨ a = p } ad τ a → Bd F ad τ a ∨ H a = none := fun a m => by
    rcases m with m | m | m
    · exact .inl (.inl m)
    · exact .inl (.inr m)
    · exact .inr (by rw [m]; exact h)
  refine ⟨fun i d hi => ?_, fun i ds hi => ?_, R.inj, R.io, R.len, R'.go, fun a m => ?_, fun i hi m => ?_⟩
  · obtain ⟨v, h1, h2⟩ := R.val i d hi
    exact ⟨v, h1, h2.grow s le⟩
  · obtain ⟨h1, xs, h2, h3⟩ := R.own i ds hi
    exact ⟨h1, xs, s _ _ h2, h3.grow s le⟩
  · rcases m with m | m
    · exact R'.fo a m
    · rw [m]; exact hp
  · rcases m with m | m
    · exact R.nfo i hi m
    · obtain ⟨xs, e⟩ := R.lsts (ad i) ⟨i, hi, rfl⟩
      rw [m, h] at e; cases e
theorem Rep.free0 {p : Addr} (R : Rep K F ad σ τ H) (h : H p = none) : F.H0 p = none := by
  cases e : F.H0 p with
  | none => rfl
  | some o => exact absurd h (R.go.there p (by rw [e]; exact fun z => nomatch z))
theorem Rep.freeF {p : Addr} (R : Rep K F ad σ τ H) (h : H p = none) : ¬ F.fo p := fun m => R.fo p m h
theorem Rep.minus {p : Addr} (R : Rep K { F with fo := fun a => F.fo a ∨ a = p } ad σ τ H) : Rep K F ad σ τ H := by
  have le : ∀ a, Bd F ad τ a → Bd { F with fo := fun a => F.fo a ∨ a = p } ad τ a := fun a m => m.elim .inl fun f => .inr (.inl f)
  refine ⟨fun i d hi => ?_, fun i ds hi => ?_, R.inj, R.io, R.len, R.go, fun a m => R.fo a (.inl m), fun i hi m => R.nfo i hi (.inl m)⟩
  · obtain ⟨v, h1, h2⟩ := R.val i d hi
    exact ⟨v, h1, h2.less le⟩
  · obtain ⟨h1, xs, h2, h3⟩ := R.own i ds hi
    exact ⟨h1, xs, h2, h3.less le⟩
/-- a new list of ours that is let go -/
theorem Rep.let {p : Addr} {xs : List V} {ds : List D} (R : Rep K { F with fo := fun a => F.fo a ∨ a = p } ad σ τ H) (hf : ¬ F.fo p) (hp : H p = some (.lst xs)) (dn : DnA K H (Bd { F with fo := fun a => F.fo a ∨ a = p } ad τ) xs ds) :
    Dn K H (Bd F ad τ) (.ref p) (.list ds) :=
  .lst (.inl hp) (fun m => m.elim (fun ⟨i, hi, e⟩ => R.nfo i hi (.inr e)) hf) (dn.less fun a m => m.elim .inl fun f => .inr (.inl f))
end

section
variable {X : Cx} {c : LC} {pos : Pos}
def wTup (a : WA) : WE := fun τ X P => a τ X fun ds τ' => ds.length ≤ sizeLine ∧ P (.tuple ds) τ'
def wLst (a : WA) : WE := fun τ X P => a τ X fun ds τ' => ds.length ≤ sizeLine ∧ P (.list ds) τ'
def wLstF (a : WA) : WA := fun τ X P => a τ X fun ds τ' => ds.length ≤ sizeLine ∧ P ds τ'
theorem ppe_tup {es : List Expr} {a : WA} {x1 : Nat} (h : PA X es (liftA c a)) : PE X (.Tuple es x1 pos) (liftE c (wTup a)) :=
  PE.imp (pe_tup h) fun σ H Q ⟨F, ad, τ, Xp, P, R, x, h, k⟩ => useA R x h fun ds τ1 vs H1 ⟨hl, h1⟩ R1 _ dn => by
    refine ⟨by rw [dn.len]; exact hl, fun p hp => ?_⟩
    obtain ⟨R2, d2⟩ := R1.newT hp dn
    exact k _ _ _ _ h1 R2 d2
theorem ppe_lst {es : List Expr} {a : WA} (h : PA X es (liftA c a)) : PE X (.List es pos) (liftE c (wLst a)) :=
  PE.imp (pe_lst h) fun σ H Q ⟨F, ad, τ, Xp, P, R, x, h, k⟩ => useA R x h fun ds τ1 vs H1 ⟨hl, h1⟩ R1 _ dn => by
    refine ⟨by rw [dn.len]; exact hl, fun p hp => ?_⟩
    obtain ⟨R2, d2⟩ := R1.newL hp dn
    exact k _ _ _ _ h1 R2 d2
theorem ppf_lst {es : List Expr} {a : WA} (h : PA X es (liftA c a)) : PE X (.List es pos) (liftF c (wLstF a)) :=
  PE.imp (pe_lst h) fun σ H Q ⟨F, ad, τ, Xp, P, R, x, h, k⟩ => useA R x h fun ds τ1 vs H1 ⟨hl, h1⟩ R1 _ dn => by
    refine ⟨by rw [dn.len]; exact hl, fun p hp => ?_⟩
    refine k ds τ1 p vs _ h1 (R1.plus hp (same_upd hp) (by rw [upd_same]; exact fun z => nomatch z)) (R1.free0 hp) (R1.freeF hp) upd_same (dn.grow (same_upd hp) fun a m => ?_)
    rcases m with m | m | m
    · exact .inl (.inl m)
    · exact .inl (.inr m)
    · exact .inr (by rw [m]; exact hp)

/-! ### operations by values -/
def rD (K : Fg) (f : D → D → Option D) : R2 := fun x y H Q => ∃ B d e r, (∀ a, B a → H a ≠ none) ∧ Dn K H B x d ∧ Dn K H B y e ∧ f d e = some r ∧ ∀ v H', Same H H' → Dn K H' B v r → Q v H'
def rU1 (K : Fg) (f : D → Option D) : V → Hp → VK → Prop := fun x H Q => ∃ B d r, (∀ a, B a → H a ≠ none) ∧ Dn K H B x d ∧ f d = some r ∧ ∀ v H', Same H H' → Dn K H' B v r → Q v H'
def rC (K : Fg) (f : List D → Option D) : List V → Hp → VK → Prop := fun xs H Q => ∃ B ds r, (∀ a, B a → H a ≠ none) ∧ DnA K H B xs ds ∧ f ds = some r ∧ ∀ v H', Same H H' → Dn K H' B v r → Q v H'
abbrev OpD (X : Cx) (f : Value → Value → Sem Value) (g : D → D → Option D) : Prop := OpR X f (rD X.K g)
abbrev CallD (X : Cx) (f : Value) (g : List D → Option D) : Prop := CallR X f (rC X.K g)

theorem OpR.imp {f : Value → Value → Sem Value} {r r' : R2} (h : OpR X f r) (i : ∀ x y H Q, r' x y H Q → r x y H Q) : OpR X f r' :=
  fun pins s σ H x y v u Q I rx ry q => h pins s σ H x y v u Q I rx ry (i x y H Q q)
theorem CallR.imp {f : Value} {r r' : List V → Hp → VK → Prop} (h : CallR X f r) (i : ∀ xs H Q, r' xs H Q → r xs H Q) : CallR X f r' :=
  fun pins s σ H xs us Q I rs q => h pins s σ H xs us Q I rs (i xs H Q q)

def wOp (f : D → D → Option D) (a b : WE) : WE := fun τ X P => a τ X fun d τ1 => b τ1 X fun e τ2 => ∃ r, f d e = some r ∧ P r τ2
def wUn (f : D → Option D) (a : WE) : WE := fun τ X P => a τ X fun d τ1 => ∃ r, f d = some r ∧ P r τ1
def wCall (f : List D → Option D) (a : WA) : WE := fun τ X P => a τ X fun ds τ1 => ∃ r, f ds = some r ∧ P r τ1
/-- a test of a truth value -/
def wTru (a : WE) : WT := fun τ X P => a τ X fun d τ1 => ∃ b, d = .bool b ∧ P b τ1
def wChain (f g : D → D → Option D) (a b e : WE) : WE := fun τ X P => a τ X fun d1 τ1 => b τ1 X fun d2 τ2 => ∃ k, f d1 d2 = some (.bool k) ∧
  if k = true then e τ2 X fun d3 τ3 => ∃ r, g d2 d3 = some r ∧ P r τ3 else P (.bool false) τ2

theorem rep_rD {K : Fg} {F : Fr} {ad : Nat → Addr} {σ : L2.St} {τ : Ta} {H : Hp} {f : D → D → Option D} {x y : V} {d e r : D} {Q : VK} (R : Rep K F ad σ τ H) (hx : Dn K H (Bd F ad τ) x d) (hy : Dn K H (Bd F ad τ) y e) (h : f d e = some r)
    (k : ∀ v H', Rep K F ad σ τ H' → Dn K H' (Bd F ad τ) v r → Same H H' → Q v H') : rD K f x y H Q :=
  ⟨Bd F ad τ, d, e, r, R.bthere, hx, hy, h, fun v H' s dn => k v H' (R.same s) dn s⟩

theorem ppe_op {op : Operator} {f : D → D → Option D} {a b : Expr} {wa wb : WE} (ho : OpD X (binaryOp op) f) (hK : c.K = X.K) (ha : PE X a (liftE c wa)) (hb : PE X b (liftE c wb)) : PE X (.BinOp a op b pos) (liftE c (wOp f wa wb)) :=
  PE.imp (pe_op ho ha hb) fun σ H Q ⟨F, ad, τ, Xp, P, R, x, h, k⟩ => useE R x h fun d τ1 v H1 h1 R1 _ dn1 => useE R1 x h1 fun e τ2 u H2 ⟨r, h2, p⟩ R2 R2' dn2 => by
    rw [← hK]
    exact rep_rD R2 (R1.carry R2' dn1) dn2 h2 fun v H' R3 dn _ => k _ _ _ _ p R3 dn
theorem ppe_cmp {op : CmpOp} {f : D → D → Option D} {a b : Expr} {wa wb : WE} (ho : OpD X (compareOp op) f) (hK : c.K = X.K) (ha : PE X a (liftE c wa)) (hb : PE X b (liftE c wb)) (hm : behindInMarks op b = false) : PE X (.Compare a [op] [b] pos) (liftE c (wOp f wa wb)) :=
  PE.imp (pe_cmpR ho ha hb hm) fun σ H Q ⟨F, ad, τ, Xp, P, R, x, h, k⟩ => useE R x h fun d τ1 v H1 h1 R1 _ dn1 => useE R1 x h1 fun e τ2 u H2 ⟨r, h2, p⟩ R2 R2' dn2 => by
    rw [← hK]
    exact rep_rD R2 (R1.carry R2' dn1) dn2 h2 fun v H' R3 dn _ => k _ _ _ _ p R3 dn
theorem dn_bool {K : Fg} {H : Hp} {B : Addr → Prop} {v : V} {b : Bool} (h : Dn K H B v (.bool b)) : v = .bl b := by cases h; rfl
theorem dn_int {K : Fg} {H : Hp} {B : Addr → Prop} {v : V} {b : Int} (h : Dn K H B v (.int b)) : v = .int b := by cases h; rfl
theorem dn_str {K : Fg} {H : Hp} {B : Addr → Prop} {v : V} {b : Str} (h : Dn K H B v (.str b)) : v = .str b := by cases h; rfl
theorem dn_none {K : Fg} {H : Hp} {B : Addr → Prop} {v : V} (h : Dn K H B v .none) : v = .non := by cases h; rfl
theorem ppt_cmp {op : CmpOp} {f : D → D → Option D} {a b : Expr} {wa wb : WE} (ho : OpD X (compareOp op) f) (hK : c.K = X.K) (ha : PE X a (liftE c wa)) (hb : PE X b (liftE c wb)) (hm : behindInMarks op b = false) : PT X (.Compare a [op] [b] pos) (liftT c (wTru (wOp f wa wb))) :=
  PT.imp (pt_cmpR ho ha hb hm) fun σ H Q ⟨F, ad, τ, Xp, P, R, x, h, k⟩ => useE R x h fun d τ1 v H1 h1 R1 _ dn1 => useE R1 x h1 fun e τ2 u H2 ⟨r, h2, z, ez, p⟩ R2 R2' dn2 => by
    rw [← hK]
    subst ez
    exact rep_rD R2 (R1.carry R2' dn1) dn2 h2 fun v H' R3 dn _ => ⟨z, dn_bool dn, k _ _ _ p R3⟩
theorem ppe_chain {op op' : CmpOp} {f g : D → D → Option D} {a b e : Expr} {wa wb we : WE} (ho : OpD X (compareOp op) f) (ho' : OpD X (compareOp op') g) (hK : c.K = X.K) (ha : PE X a (liftE c wa)) (hb : PE X b (liftE c wb)) (he : PE X e (liftE c we))
    (hm : lastMarks [op, op'] [b, e] = false := by with_unfolding_all rfl) : PE X (.Compare a [op, op'] [b, e] pos) (liftE c (wChain f g wa wb we)) :=
  PE.imp (pe_chain ho ho' ha hb he hm) fun σ H Q ⟨F, ad, τ, Xp, P, R, x, h, k⟩ => useE R x h fun d τ1 v H1 h1 R1 _ dn1 => useE R1 x h1 fun e τ2 u H2 ⟨z, h2, p⟩ R2 R2' dn2 => by
    rw [← hK]
    refine rep_rD R2 (R1.carry R2' dn1) dn2 h2 fun v H' R3 dn s3 => ⟨z, dn_bool dn, ?_⟩
    cases z with
    | false => exact k _ _ _ _ p R3 (.bl false)
    | true => exact useE R3 x p fun d4 τ4 v4 H4 ⟨r4, h4, p4⟩ R4 R4' dn4 => rep_rD R4 (R3.carry R4' (dn2.grow s3 fun _ m => .inl m)) dn4 h4 fun v5 H5 R5 dn5 _ => k _ _ _ _ p4 R5 dn5
theorem ppt_chain {op op' : CmpOp} {f g : D → D → Option D} {a b e : Expr} {wa wb we : WE} (ho : OpD X (compareOp op) f) (ho' : OpD X (compareOp op') g) (hK : c.K = X.K) (ha : PE X a (liftE c wa)) (hb : PE X b (liftE c wb)) (he : PE X e (liftE c we))
    (hm : lastMarks [op, op'] [b, e] = false := by with_unfolding_all rfl) : PT X (.Compare a [op, op'] [b, e] pos) (liftT c (wTru (wChain f g wa wb we))) :=
  PT.imp (pt_chain ho ho' ha hb he hm) fun σ H Q ⟨F, ad, τ, Xp, P, R, x, h, k⟩ => useE R x h fun d τ1 v H1 h1 R1 _ dn1 => useE R1 x h1 fun e τ2 u H2 ⟨z, h2, p⟩ R2 R2' dn2 => by
    rw [← hK]
    refine rep_rD R2 (R1.carry R2' dn1) dn2 h2 fun v H' R3 dn s3 => ⟨z, dn_bool dn, ?_⟩
    cases z with
    | false => obtain ⟨b, e, p⟩ := p; cases e; exact ⟨false, rfl, k _ _ _ p R3⟩
    | true => exact useE R3 x p fun d4 τ4 v4 H4 ⟨r4, h4, b, e, p4⟩ R4 R4' dn4 => by subst e; exact rep_rD R4 (R3.carry R4' (dn2.grow s3 fun _ m => .inl m)) dn4 h4 fun v5 H5 R5 dn5 _ => ⟨b, dn_bool dn5, k _ _ _ p4 R5⟩
theorem ppt_val {e : Expr} {w : WE} (h : PE X e (liftE c w)) (he : ∀ whole, isTrue e X.env whole = (do let v ← whole; standAt e.pos; holding [v] (truthy v)) := by intro _; rfl) : PT X e (liftT c (wTru w)) :=
  PT.imp (pt_val h he) fun σ H Q ⟨F, ad, τ, Xp, P, R, x, h, k⟩ => useE R x h fun d τ1 v H1 ⟨b, e, p⟩ R1 _ dn => by
    subst e
    exact ⟨b, dn_bool dn, k _ _ _ p R1⟩

/-! ### and, or, not, if -/
def wAnd (t u : WT) : WT := fun τ X P => t τ X fun b τ1 => if b = true then u τ1 X P else P false τ1
def wOr (t u : WT) : WT := fun τ X P => t τ X fun b τ1 => if b = true then P true τ1 else u τ1 X P
def wNot (t : WT) : WT := fun τ X P => t τ X fun b τ1 => P (!b) τ1
def wAndV (a b : WE) : WE := fun τ X P => a τ X fun d τ1 => ∃ k, d = .bool k ∧ if k = true then b τ1 X P else P (.bool false) τ1
def wOrV (a b : WE) : WE := fun τ X P => a τ X fun d τ1 => ∃ k, d = .bool k ∧ if k = true then P (.bool true) τ1 else b τ1 X P
def wNotV (a : WE) : WE := fun τ X P => a τ X fun d τ1 => ∃ k, d = .bool k ∧ P (.bool (!k)) τ1
def wIf (t : WT) (a b : WE) : WE := fun τ X P => t τ X fun k τ1 => if k = true then a τ1 X P else b τ1 X P
variable {a b e : Expr} {rest : List Expr} {wa wb we : WE} {ta tb : WT}
theorem ppw_and1 (ha : PT X a (liftT c ta)) : PW X (.BoolOp .And [a] pos) (liftT c ta) := pw_and1 ha
theorem ppw_or1 (ha : PT X a (liftT c ta)) : PW X (.BoolOp .Or [a] pos) (liftT c ta) := pw_or1 ha
theorem ppw_and (ha : PT X a (liftT c ta)) (hb : PW X (.BoolOp .And (b :: rest) pos) (liftT c tb)) : PW X (.BoolOp .And (a :: b :: rest) pos) (liftT c (wAnd ta tb)) :=
  PW.imp (pw_and ha hb) fun σ H Q ⟨F, ad, τ, Xp, P, R, x, h, k⟩ => useT R x h fun d τ1 H1 p R1 _ => by
    cases d with
    | false => exact k _ _ _ p R1
    | true => exact useT R1 x p fun d2 τ2 H2 p2 R2 _ => k _ _ _ p2 R2
theorem ppw_or (ha : PT X a (liftT c ta)) (hb : PW X (.BoolOp .Or (b :: rest) pos) (liftT c tb)) : PW X (.BoolOp .Or (a :: b :: rest) pos) (liftT c (wOr ta tb)) :=
  PW.imp (pw_or ha hb) fun σ H Q ⟨F, ad, τ, Xp, P, R, x, h, k⟩ => useT R x h fun d τ1 H1 p R1 _ => by
    cases d with
    | true => exact k _ _ _ p R1
    | false => exact useT R1 x p fun d2 τ2 H2 p2 R2 _ => k _ _ _ p2 R2
theorem ppt_w {t : WT} (h : PW X e (liftT c t)) : PT X e (liftT c t) := h.pt
theorem ppt_not (ha : PT X a (liftT c ta)) : PT X (.UnaryOp .Not a pos) (liftT c (wNot ta)) :=
  PT.imp (pt_not ha) fun σ H Q ⟨F, ad, τ, Xp, P, R, x, h, k⟩ => useT R x h fun d τ1 H1 p R1 _ => k _ _ _ p R1
theorem ppe_one {op : BoolOp} (h : PE X a (liftE c wa)) : PE X (.BoolOp op [a] pos) (liftE c wa) := pe_one h
theorem ppe_and (ha : PE X a (liftE c wa)) (hb : PE X (.BoolOp .And (b :: rest) pos) (liftE c wb)) : PE X (.BoolOp .And (a :: b :: rest) pos) (liftE c (wAndV wa wb)) :=
  PE.imp (pe_and ha hb) fun σ H Q ⟨F, ad, τ, Xp, P, R, x, h, k⟩ => useE R x h fun d τ1 v H1 ⟨z, ez, p⟩ R1 _ dn => by
    subst ez
    refine ⟨z, dn_bool dn, ?_⟩
    cases z with
    | false => exact k _ _ _ _ p R1 (.bl false)
    | true => exact useE R1 x p fun d2 τ2 v2 H2 p2 R2 _ dn2 => k _ _ _ _ p2 R2 dn2
theorem ppe_or (ha : PE X a (liftE c wa)) (hb : PE X (.BoolOp .Or (b :: rest) pos) (liftE c wb)) : PE X (.BoolOp .Or (a :: b :: rest) pos) (liftE c (wOrV wa wb)) :=
  PE.imp (pe_or ha hb) fun σ H Q ⟨F, ad, τ, Xp, P, R, x, h, k⟩ => useE R x h fun d τ1 v H1 ⟨z, ez, p⟩ R1 _ dn => by
    subst ez
    refine ⟨z, dn_bool dn, ?_⟩
    cases z with
    | true => exact k _ _ _ _ p R1 (.bl true)
    | false => exact useE R1 x p fun d2 τ2 v2 H2 p2 R2 _ dn2 => k _ _ _ _ p2 R2 dn2
theorem ppe_not (ha : PE X a (liftE c wa)) : PE X (.UnaryOp .Not a pos) (liftE c (wNotV wa)) :=
  PE.imp (pe_not ha) fun σ H Q ⟨F, ad, τ, Xp, P, R, x, h, k⟩ => useE R x h fun d τ1 v H1 ⟨z, ez, p⟩ R1 _ dn => by
    subst ez
    exact ⟨z, dn_bool dn, k _ _ _ _ p R1 (.bl _)⟩
theorem ppe_if {t : Expr} (ht : PT X t (liftT c ta)) (ha : PE X a (liftE c wa)) (hb : PE X b (liftE c wb)) : PE X (.IfExp t a b pos) (liftE c (wIf ta wa wb)) :=
  PE.imp (pe_ifExp ht ha hb) fun σ H Q ⟨F, ad, τ, Xp, P, R, x, h, k⟩ => useT R x h fun d τ1 H1 p R1 _ => by
    cases d with
    | true => exact useE R1 x p fun d2 τ2 v2 H2 p2 R2 _ dn2 => k _ _ _ _ p2 R2 dn2
    | false => exact useE R1 x p fun d2 τ2 v2 H2 p2 R2 _ dn2 => k _ _ _ _ p2 R2 dn2
/-- a fresh list used as any value -/
theorem ppe_of_fresh {w : WA} (h : PE X e (liftF c w)) : PE X e (liftE c (fun τ Xp P => w τ Xp fun ds τ' => P (.list ds) τ')) :=
  PE.imp h fun σ H Q ⟨F, ad, τ, Xp, P, R, x, h, k⟩ => ⟨F.here ad τ H, ad, τ, Xp, _, R.here, x.here R, h, fun ds τ' p xs H' p' R' hp hf hx dn => k _ _ _ _ p' (R.back R'.minus) (R'.let hf hx dn)⟩
end
end PV
end

section
set_option maxRecDepth 100000
namespace PV
open PySem PySem.Spec PyProof.Rows L2
set_option autoImplicit false

/-! ### what the operations are worth -/
def flat : D → Bool
  | .none => true | .bool _ => true | .int _ => true | .str _ => true | _ => false
def b2n (b : Bool) : Int := if b = true then 1 else 0
def addD : D → D → Option D
  | .int i, .int j => some (.int (i + j))
  | .int i, .bool b => some (.int (i + b2n b))
  | .str x, .str y => if x.length + y.length ≤ sizeLine then some (.str (x ++ y)) else none
  | .tuple x, .tuple y => if x.length + y.length ≤ sizeLine then some (.tuple (x ++ y)) else none
  | .list x, .list y => if x.length + y.length ≤ sizeLine then some (.list (x ++ y)) else none
  | _, _ => none
def subD : D → D → Option D
  | .int i, .int j => some (.int (i - j))
  | .bool a, .bool b => some (.int (b2n a - b2n b))
  | _, _ => none
def mulD : D → D → Option D
  | .int i, .int j => if (-(2 ^ 64) < i ∧ i < 2 ^ 64) ∨ (-(2 ^ 64) < j ∧ j < 2 ^ 64) then some (.int (i * j)) else none
  | .list x, .int k => if -(2 ^ 63) ≤ k ∧ k < 2 ^ 63 ∧ x.length * k.toNat ≤ sizeLine then some (.list (List.replicate k.toNat x).flatten) else none
  | _, _ => none
def fdivD : D → D → Option D
  | .int i, .int j => if 0 < j ∧ j.natAbs.log2 < 9000 then some (.int (i / j)) else none
  | _, _ => none
def modD : D → D → Option D
  | .int i, .int j => if 0 < j then some (.int (i % j)) else none
  | _, _ => none
def powD : D → D → Option D
  | .int i, .int j => if 0 ≤ j ∧ j ≤ 1000000 ∧ i.natAbs < 2 ^ 64 then some (.int (i ^ j.toNat)) else none
  | _, _ => none
def andD : D → D → Option D
  | .int i, .int j => some (.int (Builtin.bitAnd i j))
  | _, _ => none
def negD : D → Option D
  | .int i => some (.int (-i))
  | _ => none
/-- one of two rows is empty -/
def nilq : D → D → Bool
  | .list ds, .list es => ds.isEmpty || es.isEmpty
  | .tuple ds, .tuple es => ds.isEmpty || es.isEmpty
  | _, _ => false
def eqok (d e : D) : Bool := (flat d && flat e) || (SeqAt.shaped d && SeqAt.shaped e) || nilq d e
def eqD (d e : D) : Option D := if eqok d e = true then some (.bool (PyData.eqv d e)) else none
def neD (d e : D) : Option D := if eqok d e = true then some (.bool (!PyData.eqv d e)) else none
theorem eqv_nil : ∀ (ds es : List D), (ds.isEmpty || es.isEmpty) = true → PyData.eqvAll ds es = (ds.length == es.length)
  | [], [], _ => rfl
  | [], _ :: _, _ => rfl
  | _ :: _, [], _ => rfl
  | _ :: _, _ :: _, h => nomatch h
def ltD : D → D → Option D
  | .int i, .int j => some (.bool (decide (i < j)))
  | .str x, .str y => some (.bool (decide (x.cps.toList < y.cps.toList)))
  | .bool a, .bool b => some (.bool (decide (b2n a < b2n b)))
  | _, _ => none
def leD : D → D → Option D
  | .int i, .int j => some (.bool (decide (i ≤ j)))
  | .str x, .str y => some (.bool (!decide (y.cps.toList < x.cps.toList)))
  | _, _ => none
def gtD : D → D → Option D
  | .int i, .int j => some (.bool (decide (j < i)))
  | .str x, .str y => some (.bool (decide (y.cps.toList < x.cps.toList)))
  | _, _ => none
def geD : D → D → Option D
  | .int i, .int j => some (.bool (decide (j ≤ i)))
  | .str x, .str y => some (.bool (!decide (x.cps.toList < y.cps.toList)))
  | _, _ => none
def isN : D → Bool
  | .none => true | _ => false
def isD : D → D → Option D
  | d, .none => some (.bool (isN d))
  | .bool a, .bool b => some (.bool (decide (a = b)))
  | _, _ => none
def isnotD : D → D → Option D
  | d, .none => some (.bool (!isN d))
  | .bool a, .bool b => some (.bool (!decide (a = b)))
  | _, _ => none
def oneOf : List Nat → Option Nat
  | [s] => some s
  | _ => none
def inStr (c z : Str) : Option D := (oneOf c.cps.toList).map fun s => .bool (decide (s ∈ z.cps.toList))
def inD : D → D → Option D
  | .str c, .str z => inStr c z
  | d, .list es => if flat d && es.all flat then some (.bool (es.any fun y => PyData.eqv y d)) else if SeqAt.shaped d && SeqAt.shaped (.list es) then some (.bool (es.any fun y => PyData.eqv y d)) else none
  | d, .tuple es => if flat d && es.all flat then some (.bool (es.any fun y => PyData.eqv y d)) else none
  | _, _ => none
def notD : D → Option D
  | .bool b => some (.bool (!b))
  | _ => none
def notInD (d e : D) : Option D := (inD d e).bind notD
def idxD : D → D → Option D
  | .list ds, .int i => atI ds i
  | .tuple ds, .int i => atI ds i
  | .str z, .int i => if z.length ≤ sizeLine then (atI z.cps.toList i).map fun c => .str ⟨#[c]⟩ else none
  | _, _ => none

section
variable {X : Cx}
theorem pairs {H : Hp} {K : Fg} {B : Addr → Prop} {x : V} {d : D} (h : Dn K H B x d) : flat d = true → flatV x = true := by
  cases h <;> first | exact fun _ => rfl | exact fun h => nomatch h

theorem o_add : OpD X (binaryOp .Add) addD := by
  intro pins s σ H x y v u Q I rx ry ⟨B, d, e, r, hB, hx, hy, hf, k⟩
  cases hx with
  | int i => cases hy with
    | int j => cases hf; exact op_add pins s σ H _ _ v u Q I rx ry ⟨i, j, rfl, rfl, k _ _ (Same.refl _) (.int _)⟩
    | bl b => cases hf; exact op_add_ib pins s σ H _ _ v u Q I rx ry ⟨i, b, rfl, rfl, k _ _ (Same.refl _) (.int _)⟩
    | _ => simp [addD] at hf
  | str i => cases hy with
    | str j =>
      have hq : (if i.length + j.length ≤ sizeLine then some (PyData.str (i ++ j)) else none) = some r := hf
      split at hq <;> cases hq
      rename_i hl
      exact op_add_str pins s σ H _ _ v u Q I rx ry ⟨i, j, rfl, rfl, hl, k _ _ (Same.refl _) (.str _)⟩
    | _ => simp [addD] at hf
  | @tup a xs ds hs ha => cases hy with
    | @tup b ys es hs2 hb =>
      have hq : (if ds.length + es.length ≤ sizeLine then some (PyData.tuple (ds ++ es)) else none) = some r := hf
      split at hq <;> cases hq
      rename_i hl
      refine op_catA pins s σ H _ _ v u Q I rx ry ⟨a, b, xs, ys, rfl, rfl, hs, hs2, by rw [ha.len, hb.len]; exact hl, fun e => ?_, fun n e => ?_, fun n n2 p hp => ?_⟩
      · subst e; cases ha; exact k _ _ (Same.refl _) (.tup hs2 hb)
      · subst e; cases hb; exact k _ _ (Same.refl _) (by rw [List.append_nil]; exact .tup hs ha)
      · exact k _ _ (same_upd hp) (.tup (.inl (.inl upd_same)) ((ha.app hb).grow (same_upd hp) fun _ m => .inl m))
    | _ => simp [addD] at hf
  | @lst a xs ds hs na ha => cases hy with
    | @lst b ys es hs2 nb hb =>
      have hq : (if ds.length + es.length ≤ sizeLine then some (PyData.list (ds ++ es)) else none) = some r := hf
      split at hq <;> cases hq
      rename_i hl
      rw [← ha.len, ← hb.len] at hl
      cases rx
      cases ry
      obtain ⟨z, its, n, r1, e1⟩ := hs.ok I.hok
      obtain ⟨z2, its2, n2, r2, e2⟩ := hs2.ok I.hok
      have l1 := r1.length
      have l2 := r2.length
      refine PySem.P.add_list e1 e2 ?_ (by rw [List.size_toArray, List.size_toArray]; omega)
      have ea : its.toArray ++ its2.toArray = (its ++ its2).toArray := by simp
      rw [ea]
      exact ⟨.ref _, _, I.lnew (t' := s.toks) (r1.append r2) (by rw [List.length_append]; omega), rfl,
        k _ _ (same_upd I.fresh) (.lst (.inl upd_same) (fun m => hB _ m I.fresh) ((ha.app hb).grow (same_upd I.fresh) fun _ m => .inl m))⟩
    | _ => simp [addD] at hf
  | _ => cases hy <;> simp [addD] at hf

theorem o_sub : OpD X (binaryOp .Sub) subD := by
  intro pins s σ H x y v u Q I rx ry ⟨B, d, e, r, hB, hx, hy, hf, k⟩
  cases hx with
  | int i => cases hy with
    | int j => cases hf; exact op_sub pins s σ H _ _ v u Q I rx ry ⟨i, j, rfl, rfl, k _ _ (Same.refl _) (.int _)⟩
    | _ => simp [subD] at hf
  | bl i => cases hy with
    | bl j =>
      cases hf
      cases rx
      cases ry
      exact sub_bool ⟨.int _, H, I.tok _, ⟨_, rfl⟩, k _ _ (Same.refl _) (.int _)⟩
    | _ => simp [subD] at hf
  | _ => cases hy <;> simp [subD] at hf


theorem tuple_mul_none (l : Addr) (items : Array Value) (n : Nat) (dd : Option Addr) (sl : Array (Option Value)) (x : Int) (u : Tok)
    (c0 : (decide (x < -(2 ^ 63)) || decide (x ≥ 2 ^ 63)) = false) (c1 : (items.isEmpty || x == 1) = false) (c2 : (decide (x ≤ 0) || items.isEmpty) = true) :
    Meets (Builtin.«tuple.__mul__» ⟨[.ref l, .int x u], []⟩) (fun _ R s => s.heap.get? l = some { cls := .type "tuple", dict := dd, data := .seq items n, slots := sl } ∧
      R (.ok (.ret (Value.ref s.heap.objs.size))) { s with heap := s.heap.push { cls := Value.type "tuple", data := Data.seq #[] }, toks := s.toks }) :=
  .of_wp fun prog w A R s h => by
    obtain ⟨hp, g, d, tk, os⟩ := s
    obtain ⟨hl, h⟩ := h
    have f1 := AutoSeq1.idx_int
    have hz : (0 : Nat) ≤ sizeLine := Nat.zero_le _
    wp_walk using wpAny_loadPart' hl
    repeat (first
      | (refine wpAny_ite_false (decide_eq_false (by rw [c0]; exact Bool.false_ne_true)) ?_; wp_walk using wpAny_loadPart' hl)
      | (refine wpAny_ite_false (decide_eq_false (by rw [c1]; exact Bool.false_ne_true)) ?_; wp_walk using wpAny_loadPart' hl)
      | (refine wpAny_ite_true (decide_eq_true c2) ?_; wp_walk using wpAny_loadPart' hl))
    exact ⟨_, rfl, h⟩

theorem rep_list {l : Addr} {its : List Value} {n : Nat} {k : Int} {t : Tok} {pins : List (Addr × Obj)} {s : Shared} {σ : L2.St} {H : Hp} {Q : VK} {xs : List V} (I : Inv X pins σ H s)
    (e : s.heap.get? l = some { cls := .type "list", data := .seq its.toArray n }) (r : Vals xs its) (h1 : -(2 ^ 63) ≤ k) (h2 : k < 2 ^ 63) (hz : xs.length * k.toNat ≤ sizeLine)
    (q : ∀ p, H p = none → Q (.ref p) (upd H p (.lst (List.replicate k.toNat xs).flatten))) : wpAny (model X.prog X.w) X.A (binaryOp .Mult (.ref l) (.int k t)) (EP X pins σ Q) X.xe s := by
  have hl := r.length
  have z1 : its.toArray.size * k.toNat ≤ sizeLine := by
    rw [List.size_toArray, ← hl]
    exact hz
  have z2 : ¬ its.toArray.size * k.toNat > (2 ^ 63 - 1) / 8 := fun z => by
    have z3 : (sizeLine : Nat) ≤ (2 ^ 63 - 1) / 8 := by decide
    omega
  have z4 : ¬ (!Builtin.List.listFitsIndex k) = true := fun z => by
    rw [fitsIndex_both h1 h2] at z
    cases z
  have z5 : ¬ Builtin.List.listTooLong (its.toArray.size * k.toNat) = true := fun z => by
    rw [notLongL z1] at z
    cases z
  have z6 : ∀ m : Nat, List.foldl (fun x1 x2 => x1 ++ x2) #[] (List.replicate m its.toArray) = (List.replicate m its).flatten.toArray := fun m => by
    have z7 := foldl_rep its m []
    rwa [List.nil_append] at z7
  have z8 : List.foldl (fun x1 x2 => x1 ++ x2) #[] (List.replicate (if its.toArray.isEmpty = true then 0 else k.toNat) its.toArray) = (List.replicate k.toNat its).flatten.toArray := by
    rw [z6]
    cases its with
    | nil => simp
    | cons a r' => rw [if_neg (by simp)]
  refine wpAny_binaryOp_repeat_ref (T := "list") (U := "int") (by decide) ⟨_, e, rfl⟩
    (fun s' => typeIs_int s' k t) noFill_list_mul F.fills_int_mul F.slot_int_rmul repeat_list F.slot_int_index.lookup
    (call_meets F.slot_int_rmul (typeIs_int s k t) F.entry_int_rmul (F.args_int_rmul_2 _ _)
      (int___rmul___int_list k t l its.toArray n) ⟨e, rfl, ⟨_, e, rfl⟩,
      call_meets F.slot_list_mul ⟨_, e, rfl⟩ F.entry_list_mul (F.args_list_mul_2 _ _)
        (AutoListH.list___mul___list_int_3 l its.toArray n k t z4 z2 z5) ⟨e, ?_⟩⟩)
  rw [z8]
  refine ⟨.ref _, _, I.lnew (t' := s.toks) (r.rep k.toNat) ?_, rfl, q _ I.fresh⟩
  rw [PyProof.Rows.lm_len_rep_flat, Nat.mul_comm]
  exact hz

theorem o_mul : OpD X (binaryOp .Mult) mulD := by
  intro pins s σ H x y v u Q I rx ry ⟨B, d, e, r, hB, hx, hy, hf, k⟩
  cases hx with
  | int i => cases hy with
    | int j =>
      have hq : (if (-(2 ^ 64) < i ∧ i < 2 ^ 64) ∨ (-(2 ^ 64) < j ∧ j < 2 ^ 64) then some (PyData.int (i * j)) else none) = some r := hf
      split at hq <;> cases hq
      rename_i hl
      exact op_mul pins s σ H _ _ v u Q I rx ry ⟨i, j, rfl, rfl, hl, k _ _ (Same.refl _) (.int _)⟩
    | _ => simp [mulD] at hf
  | @lst a xs ds hs na ha => cases hy with
    | int j =>
      have hq : (if -(2 ^ 63) ≤ j ∧ j < 2 ^ 63 ∧ ds.length * j.toNat ≤ sizeLine then some (PyData.list (List.replicate j.toNat ds).flatten) else none) = some r := hf
      split at hq <;> cases hq
      rename_i hl
      cases rx
      obtain ⟨t, rfl⟩ := ry
      obtain ⟨z, its, n, r1, e1⟩ := hs.ok I.hok
      exact rep_list I e1 r1 hl.1 hl.2.1 (by rw [ha.len]; exact hl.2.2) fun p hp =>
        k _ _ (same_upd hp) (.lst (.inl upd_same) (fun m => hB _ m hp) ((ha.flatRep _).grow (same_upd hp) fun _ m => .inl m))
    | _ => simp [mulD] at hf
  | _ => cases hy <;> simp [mulD] at hf

/-- a tuple some times, of tuples told to be small -/
def tmulD : D → D → Option D
  | .tuple x, .int k => if x ≠ [] ∧ x.length ≤ 1000 ∧ k ≠ 1 ∧ k ≤ 1000 ∧ -(2 ^ 63) ≤ k then some (.tuple (List.replicate k.toNat x).flatten) else none
  | _, _ => none
theorem o_tmul : OpD X (binaryOp .Mult) tmulD := by
  intro pins s σ H x y v u Q I rx ry ⟨B, d, e, r, hB, hx, hy, hf, k⟩
  cases hx with
  | @tup a xs ds hs ha => cases hy with
    | int j =>
      have hq : (if ds ≠ [] ∧ ds.length ≤ 1000 ∧ j ≠ 1 ∧ j ≤ 1000 ∧ -(2 ^ 63) ≤ j then some (PyData.tuple (List.replicate j.toNat ds).flatten) else none) = some r := hf
      split at hq <;> cases hq
      rename_i hl
      obtain ⟨h1, h2, h3, h4, h5⟩ := hl
      have hne : xs ≠ [] := fun e => by
        subst e
        cases ha
        exact h1 rfl
      by_cases h2j : 2 ≤ j
      · exact op_repT pins s σ H _ _ v u Q I rx ry ⟨a, j, xs, rfl, rfl, hs, hne, h2j, h4, by rw [ha.len]; exact h2, fun p hp =>
          k _ _ (same_upd hp) (.tup (.inl (.inl upd_same)) ((ha.flatRep _).grow (same_upd hp) fun _ m => .inl m))⟩
      · have hj : j ≤ 0 := by omega
        have e0 : j.toNat = 0 := by omega
        cases rx
        obtain ⟨t, rfl⟩ := ry
        obtain ⟨its, r1, ⟨⟨cls, dd, data, sl⟩, ho, hc, n, hd⟩, _⟩ := I.tuple hs
        simp only at hc hd
        subst hc hd
        have hi : its.toArray.isEmpty = false := by
          cases r1 with
          | nil => exact absurd rfl hne
          | cons _ _ => rfl
        have g0 : (decide (j < -(2 ^ 63)) || decide (j ≥ 2 ^ 63)) = false := by
          rw [decide_eq_false (by omega), decide_eq_false (by omega)]
          rfl
        have g1 : (its.toArray.isEmpty || j == 1) = false := by
          rw [hi, Bool.false_or]
          exact beq_eq_false_iff_ne.mpr h3
        have g2 : (decide (j ≤ 0) || its.toArray.isEmpty) = true := by
          rw [decide_eq_true hj]
          rfl
        refine wpAny_binaryOp_repeat_ref (T := "tuple") (U := "int") (by decide) ⟨_, ho, rfl⟩ (fun s' => typeIs_int s' j t)
          noFill_tuple_mul F.fills_int_mul F.slot_int_rmul repeat_tuple F.slot_int_index.lookup
          (call_meets F.slot_int_rmul (typeIs_int s j t) F.entry_int_rmul (F.args_int_rmul_2 _ _)
            (int_rmul_tuple j t a its.toArray n dd sl) ⟨ho, rfl, ⟨_, ho, rfl⟩,
            call_meets F.slot_tuple_mul ⟨_, ho, rfl⟩ F.entry_tuple_mul (F.args_tuple_mul_2 _ _)
              (tuple_mul_none a its.toArray n dd sl j t g0 g1 g2) ⟨ho, ?_⟩⟩)
        have fr := I.hok.fresh (Nat.le_refl s.heap.objs.size)
        refine ⟨.ref s.heap.objs.size, _, I.laid (t' := s.toks) (o := .tup []) (fun b ob q => Heap.get?_push_of_some _ q) (Nat.le_refl _) ?_, rfl, ?_⟩
        · exact ⟨Nat.zero_le _, [], .nil, IsTup.new s.heap _⟩
        · rw [e0] at k
          exact k _ _ (same_upd fr) (.tup (.inl (.inl upd_same)) .nil)
    | _ => simp [tmulD] at hf
  | _ => cases hy <;> simp [tmulD] at hf

theorem o_fdiv : OpD X (binaryOp .FloorDiv) fdivD := by
  intro pins s σ H x y v u Q I rx ry ⟨B, d, e, r, hB, hx, hy, hf, k⟩
  cases hx with
  | int i => cases hy with
    | int j =>
      have hq : (if 0 < j ∧ j.natAbs.log2 < 9000 then some (PyData.int (i / j)) else none) = some r := hf
      split at hq <;> cases hq
      rename_i hl
      exact op_fdivW pins s σ H _ _ v u Q I rx ry ⟨i, j, rfl, rfl, hl, k _ _ (Same.refl _) (.int _)⟩
    | _ => simp [fdivD] at hf
  | _ => cases hy <;> simp [fdivD] at hf
theorem o_mod : OpD X (binaryOp .Mod) modD := by
  intro pins s σ H x y v u Q I rx ry ⟨B, d, e, r, hB, hx, hy, hf, k⟩
  cases hx with
  | int i => cases hy with
    | int j =>
      have hq : (if 0 < j then some (PyData.int (i % j)) else none) = some r := hf
      split at hq <;> cases hq
      rename_i hl
      exact op_mod pins s σ H _ _ v u Q I rx ry ⟨i, j, rfl, rfl, hl, k _ _ (Same.refl _) (.int _)⟩
    | _ => simp [modD] at hf
  | _ => cases hy <;> simp [modD] at hf
theorem o_pow : OpD X (binaryOp .Pow) powD := by
  intro pins s σ H x y v u Q I rx ry ⟨B, d, e, r, hB, hx, hy, hf, k⟩
  cases hx with
  | int i => cases hy with
    | int j =>
      have hq : (if 0 ≤ j ∧ j ≤ 1000000 ∧ i.natAbs < 2 ^ 64 then some (PyData.int (i ^ j.toNat)) else none) = some r := hf
      split at hq <;> cases hq
      rename_i hl
      exact op_pow pins s σ H _ _ v u Q I rx ry ⟨i, j, rfl, rfl, hl, k _ _ (Same.refl _) (.int _)⟩
    | _ => simp [powD] at hf
  | _ => cases hy <;> simp [powD] at hf
theorem o_and : OpD X (binaryOp .BitAnd) andD := by
  intro pins s σ H x y v u Q I rx ry ⟨B, d, e, r, hB, hx, hy, hf, k⟩
  cases hx with
  | int i => cases hy with
    | int j => cases hf; exact op_and pins s σ H _ _ v u Q I rx ry ⟨i, j, rfl, rfl, k _ _ (Same.refl _) (.int _)⟩
    | _ => simp [andD] at hf
  | _ => cases hy <;> simp [andD] at hf
theorem ppe_neg {c : LC} {pos : Pos} {a : Expr} {wa : WE} (ha : PE X a (liftE c wa)) : PE X (.UnaryOp .USub a pos) (liftE c (wUn negD wa)) :=
  PE.imp (pe_un un_neg ha) fun σ H Q ⟨F, ad, τ, Xp, P, R, x, h, k⟩ => useE R x h fun d τ1 v H1 ⟨r, h1, p⟩ R1 _ dn => by
    cases dn with
    | int i => cases h1; exact ⟨i, rfl, k _ _ _ _ p R1 (.int _)⟩
    | _ => simp [negD] at h1

/-! comparisons -/
theorem eq_core (hu : X.A.units + 64 < cLine) {pins : List (Addr × Obj)} {s : Shared} {σ : L2.St} {H : Hp} {x y : V} {v u : Value} {Q : VK} {B : Addr → Prop} {d e : D} (I : Inv X pins σ H s) (rx : RelV x v) (ry : RelV y u) (hx : Dn X.K H B x d) (hy : Dn X.K H B y e)
    (hf : eqok d e = true) (k : Q (.bl (PyData.eqv d e)) H) : wpAny (model X.prog X.w) X.A (compareOp .Eq v u) (EP X pins σ Q) X.xe s := by
  have hu0 : X.A.units < cLine := by omega
  by_cases hq : nilq d e = true
  · cases hx with
    | @lst a xs ds h1 _ ha => cases hy with
      | @lst b ys es h2 _ hb =>
        cases rx
        cases ry
        obtain ⟨its, r1, p1, _⟩ := I.list (.inl h1)
        obtain ⟨its2, r2, p2, _⟩ := I.list (.inl h2)
        have l1 := r1.length
        have l2 := r2.length
        have l3 := ha.len
        have l4 := hb.len
        have k' : Q (.bl (ds.length == es.length)) H := by rw [← eqv_nil ds es hq]; exact k
        by_cases hz : its.length = its2.length
        · have h0 : its = [] ∧ its2 = [] := by
            have h00 : (ds.isEmpty || es.isEmpty) = true := hq
            have : ds.length = 0 ∨ es.length = 0 := by
              cases ds <;> cases es <;> simp at h00 ⊢
            constructor <;> exact List.eq_nil_of_length_eq_zero (by omega)
          obtain ⟨e1, e2⟩ := h0
          subst e1 e2
          refine SeqAt.eq_listAt (e := fun _ => true) p1.isList p2.isList rfl hu0 (fun j h => absurd h (Nat.not_lt_zero _)) ⟨.bl true, H, I, rfl, ?_⟩
          have : (ds.length == es.length) = true := by rw [beq_iff_eq]; simp only [List.length_nil] at l1 l2; omega
          rw [this] at k'
          exact k'
        · refine SeqAt.eq_list_lengthsAt p1.isList p2.isList (by simpa using hz) hu0 ⟨.bl false, H, I, rfl, ?_⟩
          have : (ds.length == es.length) = false := by rw [beq_eq_false_iff_ne]; omega
          rw [this] at k'
          exact k'
      | _ => simp [nilq] at hq
    | @tup a xs ds h1 ha => cases hy with
      | @tup b ys es h2 hb =>
        cases rx
        cases ry
        obtain ⟨its, r1, p1, _⟩ := I.tuple h1
        obtain ⟨its2, r2, p2, _⟩ := I.tuple h2
        have l1 := r1.length
        have l2 := r2.length
        have l3 := ha.len
        have l4 := hb.len
        have k' : Q (.bl (ds.length == es.length)) H := by rw [← eqv_nil ds es hq]; exact k
        have h00 : (ds.isEmpty || es.isEmpty) = true := hq
        have h0 : ds.length = 0 ∨ es.length = 0 := by
          cases ds <;> cases es <;> simp at h00 ⊢
        refine SeqAt.eq_tupleAt (e := fun _ => true) p1 p2 hu0 (fun j h h' => absurd h (by simp only [List.size_toArray] at h h' ⊢; omega)) ⟨.bl _, H, I, rfl, ?_⟩
        have : ((List.range (min its.toArray.size its2.toArray.size)).all (fun _ => true) && its.toArray.size == its2.toArray.size) = (ds.length == es.length) := by
          simp only [List.size_toArray, ← l1, ← l2, l3, l4]
          simp
        rw [this]
        exact k'
      | _ => simp [nilq] at hq
    | _ => cases hy <;> simp [nilq] at hq
  replace hf : ((flat d && flat e) || (SeqAt.shaped d && SeqAt.shaped e)) = true := by
    unfold eqok at hf
    rw [Bool.or_eq_true] at hf
    exact hf.resolve_right hq
  by_cases hs : (SeqAt.shaped d && SeqAt.shaped e) = true
  · rw [Bool.and_eq_true] at hs
    exact op_eqD hu pins s σ H _ _ v u Q I rx ry ⟨d, e, hx.dp, hy.dp, hs.1, hs.2, k⟩
  · cases hx with
    | str i => cases hy with
      | str j => exact op_eq pins s σ H _ _ v u Q I rx ry ⟨rfl, by rw [show decide (V.str i = V.str j) = (i == j) from dec_str]; exact k⟩
      | non => exact op_eq pins s σ H _ _ v u Q I rx ry ⟨rfl, k⟩
      | int j => exact op_eq pins s σ H _ _ v u Q I rx ry ⟨rfl, k⟩
      | bl j => exact op_eq pins s σ H _ _ v u Q I rx ry ⟨rfl, k⟩
      | lst _ _ _ => exact absurd hf (by simp [flat, hs])
      | tup _ _ => exact absurd hf (by simp [flat, hs])
    | lst _ _ _ => exact absurd hf (by simp [flat, hs])
    | tup _ _ => exact absurd hf (by simp [flat, hs])
    | non => cases hy with
      | str j => exact op_eq pins s σ H _ _ v u Q I rx ry ⟨rfl, k⟩
      | lst _ _ _ => exact absurd hf (by simp [flat, hs])
      | tup _ _ => exact absurd hf (by simp [flat, hs])
      | _ => exact absurd hs (by simp [SeqAt.shaped, PyData.canLay0, PyData.depth])
    | int i => cases hy with
      | str j => exact op_eq pins s σ H _ _ v u Q I rx ry ⟨rfl, k⟩
      | lst _ _ _ => exact absurd hf (by simp [flat, hs])
      | tup _ _ => exact absurd hf (by simp [flat, hs])
      | _ => exact absurd hs (by simp [SeqAt.shaped, PyData.canLay0, PyData.depth])
    | bl i => cases hy with
      | str j => exact op_eq pins s σ H _ _ v u Q I rx ry ⟨rfl, k⟩
      | lst _ _ _ => exact absurd hf (by simp [flat, hs])
      | tup _ _ => exact absurd hf (by simp [flat, hs])
      | _ => exact absurd hs (by simp [SeqAt.shaped, PyData.canLay0, PyData.depth])
end
end PV
end

section
set_option maxRecDepth 100000
namespace PV
open PySem PySem.Spec PyProof.Rows L2
set_option autoImplicit false
section
variable {X : Cx}
theorem ne_core (hu : X.A.units + 64 < cLine) {pins : List (Addr × Obj)} {s : Shared} {σ : L2.St} {H : Hp} {x y : V} {v u : Value} {Q : VK} {B : Addr → Prop} {d e : D} (I : Inv X pins σ H s) (rx : RelV x v) (ry : RelV y u) (hx : Dn X.K H B x d) (hy : Dn X.K H B y e)
    (hf : eqok d e = true) (k : Q (.bl (!PyData.eqv d e)) H) : wpAny (model X.prog X.w) X.A (compareOp .NotEq v u) (EP X pins σ Q) X.xe s := by
  have hu0 : X.A.units < cLine := by omega
  by_cases hq : nilq d e = true
  · cases hx with
    | @lst a xs ds h1 _ ha => cases hy with
      | @lst b ys es h2 _ hb =>
        cases rx
        cases ry
        obtain ⟨its, r1, p1, _⟩ := I.list (.inl h1)
        obtain ⟨its2, r2, p2, _⟩ := I.list (.inl h2)
        have l1 := r1.length
        have l2 := r2.length
        have l3 := ha.len
        have l4 := hb.len
        have k' : Q (.bl (!(ds.length == es.length))) H := by rw [← eqv_nil ds es hq]; exact k
        by_cases hz : its.length = its2.length
        · have h0 : its = [] ∧ its2 = [] := by
            have h00 : (ds.isEmpty || es.isEmpty) = true := hq
            have : ds.length = 0 ∨ es.length = 0 := by
              cases ds <;> cases es <;> simp at h00 ⊢
            constructor <;> exact List.eq_nil_of_length_eq_zero (by omega)
          obtain ⟨e1, e2⟩ := h0
          subst e1 e2
          refine SeqAt.RcNeAt.lists (e := fun _ => true) p1.isList p2.isList rfl hu0 (fun j h => absurd h (Nat.not_lt_zero _)) _ _ _ _ ⟨.bl false, H, I, rfl, ?_⟩
          have : (ds.length == es.length) = true := by rw [beq_iff_eq]; simp only [List.length_nil] at l1 l2; omega
          rw [this] at k'
          exact k'
        · refine SeqAt.RcNeAt.lists_lengths p1.isList p2.isList (by simpa using hz) hu0 _ _ _ _ ⟨.bl true, H, I, rfl, ?_⟩
          have : (ds.length == es.length) = false := by rw [beq_eq_false_iff_ne]; omega
          rw [this] at k'
          exact k'
      | _ => simp [nilq] at hq
    | @tup a xs ds h1 ha => cases hy with
      | @tup b ys es h2 hb =>
        cases rx
        cases ry
        obtain ⟨its, r1, p1, _⟩ := I.tuple h1
        obtain ⟨its2, r2, p2, _⟩ := I.tuple h2
        have l1 := r1.length
        have l2 := r2.length
        have l3 := ha.len
        have l4 := hb.len
        have k' : Q (.bl (!(ds.length == es.length))) H := by rw [← eqv_nil ds es hq]; exact k
        have h00 : (ds.isEmpty || es.isEmpty) = true := hq
        have h0 : ds.length = 0 ∨ es.length = 0 := by
          cases ds <;> cases es <;> simp at h00 ⊢
        refine SeqAt.RcNeAt.tuples (e := fun _ => true) p1 p2 hu0 (fun j h h' => absurd h (by simp only [List.size_toArray] at h h' ⊢; omega)) _ _ _ _ ⟨.bl _, H, I, rfl, ?_⟩
        have : ((List.range (min its.toArray.size its2.toArray.size)).all (fun _ => true) && its.toArray.size == its2.toArray.size) = (ds.length == es.length) := by
          simp only [List.size_toArray, ← l1, ← l2, l3, l4]
          simp
        rw [this]
        exact k'
      | _ => simp [nilq] at hq
    | _ => cases hy <;> simp [nilq] at hq
  replace hf : ((flat d && flat e) || (SeqAt.shaped d && SeqAt.shaped e)) = true := by
    unfold eqok at hf
    rw [Bool.or_eq_true] at hf
    exact hf.resolve_right hq
  by_cases hs : (SeqAt.shaped d && SeqAt.shaped e) = true
  · rw [Bool.and_eq_true] at hs
    exact op_neD hu pins s σ H _ _ v u Q I rx ry ⟨d, e, hx.dp, hy.dp, hs.1, hs.2, k⟩
  · cases hx with
    | str i => cases hy with
      | str j => exact op_ne pins s σ H _ _ v u Q I rx ry ⟨rfl, by rw [show decide (V.str i = V.str j) = (i == j) from dec_str]; exact k⟩
      | non => exact op_ne pins s σ H _ _ v u Q I rx ry ⟨rfl, k⟩
      | int j => exact op_ne pins s σ H _ _ v u Q I rx ry ⟨rfl, k⟩
      | bl j => exact op_ne pins s σ H _ _ v u Q I rx ry ⟨rfl, k⟩
      | lst _ _ _ => exact absurd hf (by simp [flat, hs])
      | tup _ _ => exact absurd hf (by simp [flat, hs])
    | lst _ _ _ => exact absurd hf (by simp [flat, hs])
    | tup _ _ => exact absurd hf (by simp [flat, hs])
    | non => cases hy with
      | str j => exact op_ne pins s σ H _ _ v u Q I rx ry ⟨rfl, k⟩
      | lst _ _ _ => exact absurd hf (by simp [flat, hs])
      | tup _ _ => exact absurd hf (by simp [flat, hs])
      | _ => exact absurd hs (by simp [SeqAt.shaped, PyData.canLay0, PyData.depth])
    | int i => cases hy with
      | str j => exact op_ne pins s σ H _ _ v u Q I rx ry ⟨rfl, k⟩
      | lst _ _ _ => exact absurd hf (by simp [flat, hs])
      | tup _ _ => exact absurd hf (by simp [flat, hs])
      | _ => exact absurd hs (by simp [SeqAt.shaped, PyData.canLay0, PyData.depth])
    | bl i => cases hy with
      | str j => exact op_ne pins s σ H _ _ v u Q I rx ry ⟨rfl, k⟩
      | lst _ _ _ => exact absurd hf (by simp [flat, hs])
      | tup _ _ => exact absurd hf (by simp [flat, hs])
      | _ => exact absurd hs (by simp [SeqAt.shaped, PyData.canLay0, PyData.depth])
theorem o_eq (hu : X.A.units + 64 < cLine) : OpD X (compareOp .Eq) eqD := by
  intro pins s σ H x y v u Q I rx ry ⟨B, d, e, r, hB, hx, hy, hf, k⟩
  unfold eqD at hf
  split at hf
  · rename_i hc
    have hr := Option.some.inj hf
    exact eq_core hu I rx ry hx hy hc (k _ _ (Same.refl _) (by rw [← hr]; exact .bl _))
  · exact nomatch hf
theorem o_ne (hu : X.A.units + 64 < cLine) : OpD X (compareOp .NotEq) neD := by
  intro pins s σ H x y v u Q I rx ry ⟨B, d, e, r, hB, hx, hy, hf, k⟩
  unfold neD at hf
  split at hf
  · rename_i hc
    have hr := Option.some.inj hf
    exact ne_core hu I rx ry hx hy hc (k _ _ (Same.refl _) (by rw [← hr]; exact .bl _))
  · exact nomatch hf
theorem o_lt : OpD X (compareOp .Lt) ltD := by
  intro pins s σ H x y v u Q I rx ry ⟨B, d, e, r, hB, hx, hy, hf, k⟩
  cases hx with
  | int i => cases hy with
    | int j => cases hf; exact op_lt pins s σ H _ _ v u Q I rx ry ⟨i, j, rfl, rfl, k _ _ (Same.refl _) (.bl _)⟩
    | _ => simp [ltD] at hf
  | str i => cases hy with
    | str j => cases hf; exact op_lt_str pins s σ H _ _ v u Q I rx ry ⟨i, j, rfl, rfl, k _ _ (Same.refl _) (.bl _)⟩
    | _ => simp [ltD] at hf
  | bl i => cases hy with
    | bl j =>
      cases hf
      cases rx
      cases ry
      exact lt_bool ⟨.bl _, H, I, rfl, k _ _ (Same.refl _) (.bl _)⟩
    | _ => simp [ltD] at hf
  | _ => cases hy <;> simp [ltD] at hf
theorem o_le : OpD X (compareOp .LtE) leD := by
  intro pins s σ H x y v u Q I rx ry ⟨B, d, e, r, hB, hx, hy, hf, k⟩
  cases hx with
  | int i => cases hy with
    | int j => cases hf; exact op_le pins s σ H _ _ v u Q I rx ry ⟨i, j, rfl, rfl, k _ _ (Same.refl _) (.bl _)⟩
    | _ => simp [leD] at hf
  | str i => cases hy with
    | str j => cases hf; exact op_le_str pins s σ H _ _ v u Q I rx ry ⟨i, j, rfl, rfl, k _ _ (Same.refl _) (.bl _)⟩
    | _ => simp [leD] at hf
  | _ => cases hy <;> simp [leD] at hf
theorem o_gt : OpD X (compareOp .Gt) gtD := by
  intro pins s σ H x y v u Q I rx ry ⟨B, d, e, r, hB, hx, hy, hf, k⟩
  cases hx with
  | int i => cases hy with
    | int j => cases hf; exact op_gt pins s σ H _ _ v u Q I rx ry ⟨i, j, rfl, rfl, k _ _ (Same.refl _) (.bl _)⟩
    | _ => simp [gtD] at hf
  | str i => cases hy with
    | str j => cases hf; exact op_gt_str pins s σ H _ _ v u Q I rx ry ⟨i, j, rfl, rfl, k _ _ (Same.refl _) (.bl _)⟩
    | _ => simp [gtD] at hf
  | _ => cases hy <;> simp [gtD] at hf
theorem o_ge : OpD X (compareOp .GtE) geD := by
  intro pins s σ H x y v u Q I rx ry ⟨B, d, e, r, hB, hx, hy, hf, k⟩
  cases hx with
  | int i => cases hy with
    | int j => cases hf; exact op_ge pins s σ H _ _ v u Q I rx ry ⟨i, j, rfl, rfl, k _ _ (Same.refl _) (.bl _)⟩
    | _ => simp [geD] at hf
  | str i => cases hy with
    | str j => cases hf; exact op_ge_str pins s σ H _ _ v u Q I rx ry ⟨i, j, rfl, rfl, k _ _ (Same.refl _) (.bl _)⟩
    | _ => simp [geD] at hf
  | _ => cases hy <;> simp [geD] at hf
theorem isN_of {K : Fg} {H : Hp} {B : Addr → Prop} {x : V} {d : D} (h : Dn K H B x d) : decide (x = V.non) = isN d := by
  cases h <;> simp [isN]
theorem o_is : OpD X (compareOp .Is) isD := by
  intro pins s σ H x y v u Q I rx ry ⟨B, d, e, r, hB, hx, hy, hf, k⟩
  cases hy with
  | non =>
    have hr : isD d .none = some (.bool (isN d)) := by cases d <;> rfl
    rw [hr] at hf
    cases hf
    exact op_isN pins s σ H _ _ v u Q I rx ry ⟨rfl, by rw [isN_of hx]; exact k _ _ (Same.refl _) (.bl _)⟩
  | bl b => cases hx with
    | bl a => cases hf; exact op_isBl pins s σ H _ _ v u Q I rx ry ⟨a, b, rfl, rfl, k _ _ (Same.refl _) (.bl _)⟩
    | _ => simp [isD] at hf
  | _ => cases hx <;> simp [isD] at hf
theorem o_isnot : OpD X (compareOp .IsNot) isnotD := by
  intro pins s σ H x y v u Q I rx ry ⟨B, d, e, r, hB, hx, hy, hf, k⟩
  cases hy with
  | non =>
    have hr : isnotD d .none = some (.bool (!isN d)) := by cases d <;> rfl
    rw [hr] at hf
    cases hf
    exact op_notN pins s σ H _ _ v u Q I rx ry ⟨rfl, by rw [isN_of hx]; exact k _ _ (Same.refl _) (.bl _)⟩
  | bl b => cases hx with
    | bl a => cases hf; exact op_notBl pins s σ H _ _ v u Q I rx ry ⟨a, b, rfl, rfl, k _ _ (Same.refl _) (.bl _)⟩
    | _ => simp [isnotD] at hf
  | _ => cases hx <;> simp [isnotD] at hf

theorem flatV_of {K : Fg} {H : Hp} {B : Addr → Prop} {x : V} {d : D} (h : Dn K H B x d) (f : flat d = true) : flatV x = true := by
  cases h <;> first | rfl | exact nomatch f
theorem eqV_of {K : Fg} {H : Hp} {B : Addr → Prop} {x y : V} {d e : D} (h : Dn K H B x d) (g : Dn K H B y e) (f : flat d = true) (f2 : flat e = true) : eqV x y = PyData.eqv d e := by
  cases h with
  | non => cases g <;> first | rfl | exact nomatch f2
  | bl _ => cases g <;> first | rfl | exact nomatch f2
  | int _ => cases g <;> first | rfl | exact nomatch f2
  | str _ => cases g <;> first | rfl | exact nomatch f2
  | lst _ _ _ => exact nomatch f
  | tup _ _ => exact nomatch f
theorem flats_of {K : Fg} {H : Hp} {B : Addr → Prop} : ∀ {xs : List V} {ds : List D}, DnA K H B xs ds → ds.all flat = true → xs.all flatV = true
  | _, _, .nil, _ => rfl
  | _, _, .cons a b, f => by
    rw [List.all_cons, Bool.and_eq_true] at f ⊢
    exact ⟨flatV_of a f.1, flats_of b f.2⟩
theorem inV_of {K : Fg} {H : Hp} {B : Addr → Prop} {x : V} {d : D} (h : Dn K H B x d) (f : flat d = true) : ∀ {xs : List V} {ds : List D}, DnA K H B xs ds → ds.all flat = true → inV x xs = ds.any fun y => PyData.eqv y d
  | _, _, .nil, _ => rfl
  | _, _, .cons a b, g => by
    rw [List.all_cons, Bool.and_eq_true] at g
    have ih := inV_of h f b g.2
    unfold inV at ih ⊢
    rw [List.any_cons, List.any_cons, ih, eqV_of a h g.1 f]
theorem cps_one {c : Str} {s : Nat} (h : c.cps.toList = [s]) : c = ⟨#[s]⟩ := by
  obtain ⟨a⟩ := c
  congr 1
  exact Array.toList_inj.mp (by simpa using h)
theorem oneOf_some {l : List Nat} {q : Nat} (h : oneOf l = some q) : l = [q] := by
  match l, h with
  | [s], h => cases h; rfl
theorem o_in (hu : X.A.units + 65 < cLine) : OpD X (compareOp .In) inD := by
  intro pins s σ H x y v u Q I rx ry ⟨B, d, e, r, hB, hx, hy, hf, k⟩
  cases hy with
  | str z => cases hx with
    | str c =>
      obtain ⟨q, e1, e2⟩ := Option.map_eq_some_iff.mp (show inStr c z = some r from hf)
      subst e2
      have := cps_one (oneOf_some e1)
      subst this
      exact op_in_sign pins s σ H _ _ v u Q I rx ry ⟨q, z, rfl, rfl, k _ _ (Same.refl _) (.bl _)⟩
    | _ => simp [inD] at hf
  | @tup a ys es hs ha =>
    have hq : (if (flat d && es.all flat) = true then some (PyData.bool (es.any fun y => PyData.eqv y d)) else none) = some r := by
      cases d <;> exact hf
    split at hq <;> cases hq
    rename_i hc
    rw [Bool.and_eq_true] at hc
    exact op_in_seq pins s σ H _ _ v u Q I rx ry ⟨a, ys, rfl, .inr hs, flatV_of hx hc.1, flats_of ha hc.2, by
      rw [if_neg Bool.false_ne_true, inV_of hx hc.1 ha hc.2]; exact k _ _ (Same.refl _) (.bl _)⟩
  | @lst a ys es hs na ha =>
    have hq : (if (flat d && es.all flat) = true then some (PyData.bool (es.any fun y => PyData.eqv y d)) else if (SeqAt.shaped d && SeqAt.shaped (.list es)) = true then some (PyData.bool (es.any fun y => PyData.eqv y d)) else none) = some r := by
      cases d <;> exact hf
    split at hq
    · cases hq
      rename_i hc
      rw [Bool.and_eq_true] at hc
      exact op_in_seq pins s σ H _ _ v u Q I rx ry ⟨a, ys, rfl, .inl (.inl hs), flatV_of hx hc.1, flats_of ha hc.2, by
        rw [if_neg Bool.false_ne_true, inV_of hx hc.1 ha hc.2]; exact k _ _ (Same.refl _) (.bl _)⟩
    · split at hq <;> cases hq
      rename_i hc
      rw [Bool.and_eq_true] at hc
      exact op_inD hu pins s σ H _ _ v u Q I rx ry ⟨d, es, hx.dp, .lst (.inl hs) ha.dp, hc.1, hc.2, k _ _ (Same.refl _) (.bl _)⟩
  | _ => cases hx <;> simp [inD] at hf
theorem o_notin (hu : X.A.units + 65 < cLine) : OpD X (compareOp .NotIn) notInD := by
  intro pins s σ H x y v u Q I rx ry ⟨B, d, e, r, hB, hx, hy, hf, k⟩
  unfold notInD at hf
  cases hin : inD d e with
  | none => rw [hin] at hf; exact nomatch hf
  | some q =>
  rw [hin] at hf
  obtain ⟨b, rfl⟩ : ∃ b, q = .bool b := by
    cases q with
    | bool b => exact ⟨b, rfl⟩
    | _ => exact nomatch hf
  have hr : some (PyData.bool (!b)) = some r := hf
  cases hr
  cases hy with
  | str z => cases hx with
    | str c =>
      obtain ⟨q, e1, e2⟩ := Option.map_eq_some_iff.mp (show inStr c z = some (.bool b) from hin)
      cases e2
      have := cps_one (oneOf_some e1)
      subst this
      exact op_notIn_sign pins s σ H _ _ v u Q I rx ry ⟨q, z, rfl, rfl, k _ _ (Same.refl _) (.bl _)⟩
    | _ => simp [inD] at hin
  | @tup a ys es hs ha =>
    have hq : (if (flat d && es.all flat) = true then some (PyData.bool (es.any fun y => PyData.eqv y d)) else none) = some (.bool b) := by
      cases d <;> exact hin
    split at hq <;> cases hq
    rename_i hc
    rw [Bool.and_eq_true] at hc
    exact op_notIn_seq pins s σ H _ _ v u Q I rx ry ⟨a, ys, rfl, .inr hs, flatV_of hx hc.1, flats_of ha hc.2, by
      rw [if_pos rfl, inV_of hx hc.1 ha hc.2]; exact k _ _ (Same.refl _) (.bl _)⟩
  | @lst a ys es hs na ha =>
    have hq : (if (flat d && es.all flat) = true then some (PyData.bool (es.any fun y => PyData.eqv y d)) else if (SeqAt.shaped d && SeqAt.shaped (.list es)) = true then some (PyData.bool (es.any fun y => PyData.eqv y d)) else none) = some (.bool b) := by
      cases d <;> exact hin
    split at hq
    · cases hq
      rename_i hc
      rw [Bool.and_eq_true] at hc
      exact op_notIn_seq pins s σ H _ _ v u Q I rx ry ⟨a, ys, rfl, .inl (.inl hs), flatV_of hx hc.1, flats_of ha hc.2, by
        rw [if_pos rfl, inV_of hx hc.1 ha hc.2]; exact k _ _ (Same.refl _) (.bl _)⟩
    · split at hq <;> cases hq
      rename_i hc
      rw [Bool.and_eq_true] at hc
      exact op_notInD hu pins s σ H _ _ v u Q I rx ry ⟨d, es, hx.dp, .lst (.inl hs) ha.dp, hc.1, hc.2, k _ _ (Same.refl _) (.bl _)⟩
  | _ => cases hx <;> simp [inD] at hin

theorem atI_dn {K : Fg} {H : Hp} {B : Addr → Prop} {xs : List V} {ds : List D} {i : Int} {d : D} (h : DnA K H B xs ds) (e : atI ds i = some d) : ∃ v, atI xs i = some v ∧ Dn K H B v d := by
  unfold atI at e ⊢
  rw [h.len]
  cases q : ixN ds.length i with
  | none => rw [q] at e; exact nomatch e
  | some j =>
    rw [q] at e
    exact h.get (i := j) e
/-- a[i] -/
theorem ppe_idx {c : LC} {pos : Pos} {a b : Expr} {wa wb : WE} (hK : c.K = X.K) (ha : PE X a (liftE c wa)) (hb : PE X b (liftE c wb)) (hs : PlainIx b := by exact fun _ _ => rfl) : PE X (.Subscript a b pos) (liftE c (wOp idxD wa wb)) :=
  PE.imp (pe_ix ix_seq ha hb hs) fun σ H Q ⟨F, ad, τ, Xp, P, R, x, h, k⟩ => useE R x h fun d τ1 v H1 h1 R1 _ dn1 => useE R1 x h1 fun e τ2 u H2 ⟨r, h2, p⟩ R2 R2' dn2 => by
    rw [← hK]
    have dn1 := R1.carry R2' dn1
    cases dn2 with
    | int i => cases dn1 with
      | @lst a ys ds hs na hd =>
        obtain ⟨v, e1, e2⟩ := atI_dn hd (show atI ds i = some r from h2)
        exact .inl ⟨a, ys, i, v, rfl, rfl, .inl hs, e1, k _ _ _ _ p R2 e2⟩
      | @tup a ys ds hs hd =>
        obtain ⟨v, e1, e2⟩ := atI_dn hd (show atI ds i = some r from h2)
        exact .inr (.inl ⟨a, ys, i, v, rfl, rfl, hs, e1, k _ _ _ _ p R2 e2⟩)
      | str z =>
        have hq : (if z.length ≤ sizeLine then (atI z.cps.toList i).map (fun c => PyData.str ⟨#[c]⟩) else none) = some r := h2
        split at hq
        · obtain ⟨s, e1, e2⟩ := Option.map_eq_some_iff.mp hq
          subst e2
          rename_i hl
          exact .inr (.inr ⟨z, i, s, rfl, rfl, hl, e1, k _ _ _ _ p R2 (.str _)⟩)
        · exact nomatch hq
      | _ => simp [idxD] at h2
    | _ => cases dn1 <;> simp [idxD] at h2

/-! slices -/
def wPN : Ta → XP → (Option Int → Ta → Prop) → Prop := fun τ _ P => P none τ
def wPS (a : WE) : Ta → XP → (Option Int → Ta → Prop) → Prop := fun τ X P => a τ X fun d τ1 => ∃ i, d = .int i ∧ P (some i) τ1
def cutD (ds : List D) (lo hi : Option Int) : List D := (ds.drop (HT.sIx ds.length 0 lo)).take (HT.sIx ds.length ds.length hi - HT.sIx ds.length 0 lo)
def sliceD : D → Option Int → Option Int → Option D
  | .list ds, lo, hi => some (.list (cutD ds lo hi))
  | .tuple ds, lo, hi => some (.tuple (cutD ds lo hi))
  | .str z, lo, hi => if z.length ≤ sizeLine then some (.str (cutS z lo hi)) else none
  | _, _, _ => none
def wSlice (a : WE) (l h : Ta → XP → (Option Int → Ta → Prop) → Prop) : WE := fun τ X P => a τ X fun d τ1 => l τ1 X fun lo τ2 => h τ2 X fun hi τ3 => ∃ r, sliceD d lo hi = some r ∧ P r τ3
def liftO (c : LC) (w : Ta → XP → (Option Int → Ta → Prop) → Prop) : L2.St → Hp → (Option Int → Hp → Prop) → Prop := fun σ H Q => ∃ F ad τ X P, Rep c.K F ad σ τ H ∧ XOk c F X ∧ w τ X P ∧ ∀ b τ' H', P b τ' → Rep c.K F ad σ τ' H' → Q b H'
end
end PV
end

section
set_option maxRecDepth 100000
namespace PV
open PySem PySem.Spec PyProof.Rows L2
set_option autoImplicit false
section
variable {X : Cx} {c : LC} {pos : Pos}
/-! slices -/
theorem ppo_none : PO X none (liftO c wPN) := ⟨fun pins s σ H Q I ⟨F, ad, τ, Xp, P, R, x, h, k⟩ => po_none.run pins s σ H Q I (k none τ H h R)⟩
theorem ppo_some {e : Expr} {w : WE} (h : PE X e (liftE c w)) : PO X (some e) (liftO c (wPS w)) :=
  ⟨fun pins s σ H Q I ⟨F, ad, τ, Xp, P, R, x, hw, k⟩ => (po_some h).run pins s σ H Q I (useE R x hw fun d τ1 v H1 ⟨i, e, p⟩ R1 _ dn => by
    subst e
    exact ⟨i, dn_int dn, k _ _ _ p R1⟩)⟩
theorem useO {w : Ta → XP → (Option Int → Ta → Prop) → Prop} {F : Fr} {ad : Nat → Addr} {σ : L2.St} {τ : Ta} {H : Hp} {Xp : XP} {P : Option Int → Ta → Prop} {Q : Option Int → Hp → Prop} (R : Rep c.K F ad σ τ H) (x : XOk c F Xp) (h : w τ Xp P)
    (k : ∀ b τ' H', P b τ' → Rep c.K F ad σ τ' H' → Rep c.K (F.here ad τ H) ad σ τ' H' → Q b H') : liftO c w σ H Q :=
  ⟨F.here ad τ H, ad, τ, Xp, P, R.here, x.here R, h, fun d τ' H' p R' => k d τ' H' p (R.back R') R'⟩
theorem cut_dn {K : Fg} {H : Hp} {B : Addr → Prop} {xs : List V} {ds : List D} {lo hi : Option Int} (h : DnA K H B xs ds) : DnA K H B (cutV xs lo hi) (cutD ds lo hi) := by
  unfold cutV cutD
  rw [h.len]
  exact (h.drop _).take _
theorem cut_whole {ds : List D} {lo hi : Option Int} (h : HT.sIx ds.length 0 lo = 0 ∧ HT.sIx ds.length ds.length hi = ds.length) : cutD ds lo hi = ds := by
  unfold cutD
  rw [h.1, h.2]
  simp
theorem ppe_slice {e : Expr} {lo hi : Option Expr} {p2 : Pos} {w : WE} {wl wh : Ta → XP → (Option Int → Ta → Prop) → Prop} (hK : c.K = X.K) (he : PE X e (liftE c w)) (hl : PO X lo (liftO c wl)) (hh : PO X hi (liftO c wh)) :
    PE X (.Subscript e (.Slice lo hi none p2) pos) (liftE c (wSlice w wl wh)) :=
  PE.imp (pe_slice (sl_list.or (sl_tupA.or sl_str)) he hl hh) fun σ H Q ⟨F, ad, τ, Xp, P, R, x, hw, k⟩ => useE R x hw fun d τ1 v H1 h1 R1 _ dn1 =>
    useO R1 x h1 fun o1 τ2 H2 h2 R2 R2' => useO R2 x h2 fun o2 τ3 H3 ⟨r, h3, p⟩ R3 R3' => by
    rw [← hK]
    have dn3 := R2.carry R3' (R1.carry R2' dn1)
    cases dn3 with
    | @lst a ys ds hs na hd =>
      cases h3
      exact .inl ⟨a, ys, rfl, .inl hs, fun q hq => let z := R3.newL hq (cut_dn hd); k _ _ _ _ p z.1 z.2⟩
    | @tup a ys ds hs hd =>
      cases h3
      refine .inr (.inl ⟨a, ys, rfl, hs, fun hq => ?_, fun _ q hq => let z := R3.newT hq (cut_dn hd); k _ _ _ _ p z.1 z.2⟩)
      rw [hd.len] at hq
      rw [cut_whole hq] at p
      exact k _ _ _ _ p R3 (.tup hs hd)
    | str z =>
      have hq : (if z.length ≤ sizeLine then some (PyData.str (cutS z o1 o2)) else none) = some r := h3
      split at hq <;> cases hq
      rename_i hl
      exact .inr (.inr ⟨z, rfl, hl, k _ _ _ _ p R3 (.str _)⟩)
    | _ => simp [sliceD] at h3

/-! calls of built-ins, by values -/
theorem rep_rC {K : Fg} {F : Fr} {ad : Nat → Addr} {σ : L2.St} {τ : Ta} {H : Hp} {f : List D → Option D} {xs : List V} {ds : List D} {r : D} {Q : VK} (R : Rep K F ad σ τ H) (hx : DnA K H (Bd F ad τ) xs ds) (h : f ds = some r)
    (k : ∀ v H', Rep K F ad σ τ H' → Dn K H' (Bd F ad τ) v r → Q v H') : rC K f xs H Q :=
  ⟨Bd F ad τ, ds, r, R.bthere, hx, h, fun v H' s dn => k v H' (R.same s) dn⟩
theorem ppe_callB {e : Expr} {es : List Expr} {x : Str} {p : Pos} {id : String} {f : List D → Option D} {wa : WA} (hc : CallD X (.builtin id) f) (hK : c.K = X.K) (hg : Gl X x) (hm : X.mg x = none) (hv : bootBuiltins x = some (.builtin id)) (ha : PA X (e :: es) (liftA c wa))
    (hn : x ≠ "__name__" := by decide) (hdb : (x == ("__debug__" : Str)) = false := by decide)
    (he : starEach (e :: es) X.env = (false, eval e X.env) :: starEach es X.env := by rfl) (hpl : (backTo pos (starEach es X.env)).any (·.1) = false := by rfl) : PE X (.Call (.Name x p) (e :: es) [] pos) (liftE c (wCall f wa)) :=
  PE.imp (pe_callB hc hg hm hv ha hn hdb he hpl) fun σ H Q ⟨F, ad, τ, Xp, P, R, x, hw, k⟩ => useA R x hw fun ds τ1 vs H1 ⟨r, h1, p⟩ R1 _ dn => by
    rw [← hK]
    exact rep_rC R1 dn h1 fun v H' R2 dn2 => k _ _ _ _ p R2 dn2
theorem ppe_callTy {e : Expr} {es : List Expr} {x : Str} {p : Pos} {T : String} {f : List D → Option D} {wa : WA} (hc : CallD X (.type T) f) (hK : c.K = X.K) (hg : Gl X x) (hm : X.mg x = none) (hv : bootBuiltins x = some (.type T)) (ha : PA X (e :: es) (liftA c wa))
    (hn : x ≠ "__name__" := by decide) (hdb : (x == ("__debug__" : Str)) = false := by decide)
    (he : starEach (e :: es) X.env = (false, eval e X.env) :: starEach es X.env := by rfl) (hpl : (backTo pos (starEach es X.env)).any (·.1) = false := by rfl) : PE X (.Call (.Name x p) (e :: es) [] pos) (liftE c (wCall f wa)) :=
  PE.imp (pe_callTy hc hg hm hv ha hn hdb he hpl) fun σ H Q ⟨F, ad, τ, Xp, P, R, x, hw, k⟩ => useA R x hw fun ds τ1 vs H1 ⟨r, h1, p⟩ R1 _ dn => by
    rw [← hK]
    exact rep_rC R1 dn h1 fun v H' R2 dn2 => k _ _ _ _ p R2 dn2

def lenD : List D → Option D
  | [.list ds] => some (.int ds.length)
  | [.tuple ds] => some (.int ds.length)
  | [.str z] => if z.length ≤ sizeLine then some (.int z.length) else none
  | _ => none
def absD : List D → Option D
  | [.int i] => some (.int (if i < 0 then -i else i))
  | _ => none
def intD : List D → Option D
  | [.int i] => some (.int i)
  | [.bool b] => some (.int (if b then 1 else 0))
  | _ => none
def ordD : List D → Option D
  | [.str z] => if z.length = 1 then some (.int (z.cps.getD 0 0 : Nat)) else none
  | _ => none
def bools : List D → Option (List Bool)
  | [] => some []
  | .bool b :: r => (bools r).map (b :: ·)
  | _ :: _ => none
def anyD : List D → Option D
  | [.list ds] => (bools ds).map fun bs => .bool (bs.any id)
  | _ => none
def allD : List D → Option D
  | [.list ds] => (bools ds).map fun bs => .bool (bs.all id)
  | _ => none
def listD : List D → Option D
  | [.list ds] => some (.list ds)
  | [.tuple ds] => some (.list ds)
  | _ => none
def tupleD : List D → Option D
  | [.list ds] => some (.tuple ds)
  | [.tuple ds] => some (.tuple ds)
  | _ => none
def minmaxD (g : Int → Int → Int) : List D → Option D
  | [.int i, .int j] => some (.int (g i j))
  | _ => none
def reprD : List D → Option D
  | [d] => if PyData.showable d = true ∧ d.depth ≤ 100 ∧ d.shown.length ≤ sizeLine then some (.str d.shown) else none
  | _ => none
def strD : List D → Option D
  | [.int i] => if i.natAbs.log2 < 1920 then some (.str (toString i)) else none
  | [.str z] => some (.str z)
  | _ => none

theorem da1 {K : Fg} {H : Hp} {B : Addr → Prop} {xs : List V} {d : D} (h : DnA K H B xs [d]) : ∃ v, xs = [v] ∧ Dn K H B v d := by
  cases h with
  | cons a b => cases b; exact ⟨_, rfl, a⟩
theorem da2 {K : Fg} {H : Hp} {B : Addr → Prop} {xs : List V} {d e : D} (h : DnA K H B xs [d, e]) : ∃ v w, xs = [v, w] ∧ Dn K H B v d ∧ Dn K H B w e := by
  cases h with
  | cons a b => cases b with
    | cons b c => cases c; exact ⟨_, _, rfl, a, b⟩
theorem bools_dn {K : Fg} {H : Hp} {B : Addr → Prop} : ∀ {ds : List D} {bs : List Bool} {xs : List V}, bools ds = some bs → DnA K H B xs ds → xs = bs.map V.bl
  | [], _, _, h, a => by cases h; cases a; rfl
  | .bool b :: r, bs, _, h, a => by
    cases a with
    | cons x a =>
      cases hb : bools r with
      | none => rw [bools, hb] at h; cases h
      | some cs =>
        rw [bools, hb] at h
        cases h
        cases x
        rw [bools_dn hb a]
        rfl
  | .none :: _, _, _, h, _ => nomatch h
  | .int _ :: _, _, _, h, _ => nomatch h
  | .str _ :: _, _, _, h, _ => nomatch h
  | .list _ :: _, _, _, h, _ => nomatch h
  | .tuple _ :: _, _, _, h, _ => nomatch h
  | .dict _ :: _, _, _, h, _ => nomatch h

theorem c_len : CallD X (.builtin "len") lenD := by
  intro pins s σ H xs us Q I rs ⟨B, ds, r, hB, hx, hf, k⟩
  match ds, hf with
  | [.list es], hf =>
    cases hf
    obtain ⟨v, rfl, dn⟩ := da1 hx
    cases dn with
    | @lst a ys _ hs _ ha => exact call_len_seq pins s σ H _ us Q I rs ⟨a, ys, rfl, .inl (.inl hs), by rw [ha.len]; exact k _ _ (Same.refl _) (.int _)⟩
  | [.tuple es], hf =>
    cases hf
    obtain ⟨v, rfl, dn⟩ := da1 hx
    cases dn with
    | @tup a ys _ hs ha => exact call_len_seq pins s σ H _ us Q I rs ⟨a, ys, rfl, .inr hs, by rw [ha.len]; exact k _ _ (Same.refl _) (.int _)⟩
  | [.str z], hf =>
    have hq : (if z.length ≤ sizeLine then some (PyData.int z.length) else none) = some r := hf
    by_cases hl : z.length ≤ sizeLine
    case neg => rw [if_neg hl] at hq; cases hq
    rw [if_pos hl] at hq
    cases hq
    obtain ⟨v, rfl, dn⟩ := da1 hx
    cases dn
    exact call_len_str pins s σ H _ us Q I rs ⟨z, rfl, hl, k _ _ (Same.refl _) (.int _)⟩
theorem c_abs : CallD X (.builtin "abs") absD := by
  intro pins s σ H xs us Q I rs ⟨B, ds, r, hB, hx, hf, k⟩
  match ds, hf with
  | [.int i], hf =>
    cases hf
    obtain ⟨v, rfl, dn⟩ := da1 hx
    cases dn
    exact call_abs pins s σ H _ us Q I rs ⟨i, rfl, k _ _ (Same.refl _) (.int _)⟩
theorem c_int : CallD X (.type "int") intD := by
  intro pins s σ H xs us Q I rs ⟨B, ds, r, hB, hx, hf, k⟩
  match ds, hf with
  | [.int i], hf =>
    cases hf
    obtain ⟨v, rfl, dn⟩ := da1 hx
    cases dn
    exact call_int1 pins s σ H _ us Q I rs (.inl ⟨i, rfl, k _ _ (Same.refl _) (.int _)⟩)
  | [.bool b], hf =>
    cases hf
    obtain ⟨v, rfl, dn⟩ := da1 hx
    cases dn
    exact call_int1 pins s σ H _ us Q I rs (.inr ⟨b, rfl, k _ _ (Same.refl _) (.int _)⟩)
theorem c_ord : CallD X (.builtin "ord") ordD := by
  intro pins s σ H xs us Q I rs ⟨B, ds, r, hB, hx, hf, k⟩
  match ds, hf with
  | [.str z], hf =>
    have hq : (if z.length = 1 then some (PyData.int (z.cps.getD 0 0 : Nat)) else none) = some r := hf
    by_cases hl : z.length = 1
    case neg => rw [if_neg hl] at hq; cases hq
    rw [if_pos hl] at hq
    cases hq
    obtain ⟨v, rfl, dn⟩ := da1 hx
    cases dn
    exact call_ord pins s σ H _ us Q I rs ⟨z, rfl, hl, k _ _ (Same.refl _) (.int _)⟩
theorem c_any (hc : X.calm = true) : CallD X (.builtin "any") anyD := by
  intro pins s σ H xs us Q I rs ⟨B, ds, r, hB, hx, hf, k⟩
  match ds, hf with
  | [.list es], hf =>
    obtain ⟨bs, e1, e2⟩ := Option.map_eq_some_iff.mp (show (bools es).map (fun bs => PyData.bool (bs.any id)) = some r from hf)
    subst e2
    obtain ⟨v, rfl, dn⟩ := da1 hx
    cases dn with
    | @lst a ys _ hs _ ha =>
      have := bools_dn e1 ha
      subst this
      exact cr_any hc pins s σ H _ us Q I rs ⟨a, bs, rfl, .inl hs, k _ _ (Same.refl _) (.bl _)⟩
theorem c_all (hc : X.calm = true) : CallD X (.builtin "all") allD := by
  intro pins s σ H xs us Q I rs ⟨B, ds, r, hB, hx, hf, k⟩
  match ds, hf with
  | [.list es], hf =>
    obtain ⟨bs, e1, e2⟩ := Option.map_eq_some_iff.mp (show (bools es).map (fun bs => PyData.bool (bs.all id)) = some r from hf)
    subst e2
    obtain ⟨v, rfl, dn⟩ := da1 hx
    cases dn with
    | @lst a ys _ hs _ ha =>
      have := bools_dn e1 ha
      subst this
      exact cr_all hc pins s σ H _ us Q I rs ⟨a, bs, rfl, .inl hs, k _ _ (Same.refl _) (.bl _)⟩
theorem c_list : CallD X (.type "list") listD := by
  intro pins s σ H xs us Q I rs ⟨B, ds, r, hB, hx, hf, k⟩
  match ds, hf with
  | [.list es], hf =>
    cases hf
    obtain ⟨v, rfl, dn⟩ := da1 hx
    cases dn with
    | @lst a ys _ hs _ ha => exact call_list_of pins s σ H _ us Q I rs ⟨a, ys, rfl, .inl (.inl hs), fun l hl => k _ _ (same_upd hl) (.lst (.inl upd_same) (fun m => hB _ m hl) (ha.grow (same_upd hl) fun _ m => .inl m))⟩
  | [.tuple es], hf =>
    cases hf
    obtain ⟨v, rfl, dn⟩ := da1 hx
    cases dn with
    | @tup a ys _ hs ha => exact call_list_of pins s σ H _ us Q I rs ⟨a, ys, rfl, .inr hs, fun l hl => k _ _ (same_upd hl) (.lst (.inl upd_same) (fun m => hB _ m hl) (ha.grow (same_upd hl) fun _ m => .inl m))⟩
theorem c_tuple : CallD X (.type "tuple") tupleD := by
  intro pins s σ H xs us Q I rs ⟨B, ds, r, hB, hx, hf, k⟩
  match ds, hf with
  | [.list es], hf =>
    cases hf
    obtain ⟨v, rfl, dn⟩ := da1 hx
    cases dn with
    | @lst a ys _ hs _ ha => exact call_tuple_of pins s σ H _ us Q I rs ⟨a, ys, rfl, .inl ⟨.inl hs, fun l hl => k _ _ (same_upd hl) (.tup (.inl (.inl upd_same)) (ha.grow (same_upd hl) fun _ m => .inl m))⟩⟩
  | [.tuple es], hf =>
    cases hf
    obtain ⟨v, rfl, dn⟩ := da1 hx
    cases dn with
    | @tup a ys _ hs ha => exact call_tuple_of pins s σ H _ us Q I rs ⟨a, ys, rfl, .inr ⟨hs, k _ _ (Same.refl _) (.tup hs ha)⟩⟩
theorem c_max (hc : X.calm = true) : CallD X (.builtin "max") (minmaxD fun i j => if j > i then j else i) := by
  intro pins s σ H xs us Q I rs ⟨B, ds, r, hB, hx, hf, k⟩
  match ds, hf with
  | [.int i, .int j], hf =>
    cases hf
    obtain ⟨v, w, rfl, d1, d2⟩ := da2 hx
    cases d1
    cases d2
    exact call_max2 hc pins s σ H _ us Q I rs ⟨i, j, rfl, k _ _ (Same.refl _) (.int _)⟩
theorem c_min (hc : X.calm = true) : CallD X (.builtin "min") (minmaxD fun i j => if j < i then j else i) := by
  intro pins s σ H xs us Q I rs ⟨B, ds, r, hB, hx, hf, k⟩
  match ds, hf with
  | [.int i, .int j], hf =>
    cases hf
    obtain ⟨v, w, rfl, d1, d2⟩ := da2 hx
    cases d1
    cases d2
    exact call_min2 hc pins s σ H _ us Q I rs ⟨i, j, rfl, k _ _ (Same.refl _) (.int _)⟩
theorem c_str : CallD X (.type "str") strD := by
  intro pins s σ H xs us Q I rs ⟨B, ds, r, hB, hx, hf, k⟩
  match ds, hf with
  | [.int i], hf =>
    have hq : (if i.natAbs.log2 < 1920 then some (PyData.str (toString i)) else none) = some r := hf
    by_cases hl : i.natAbs.log2 < 1920
    case neg => rw [if_neg hl] at hq; cases hq
    rw [if_pos hl] at hq
    cases hq
    obtain ⟨v, rfl, dn⟩ := da1 hx
    cases dn
    exact call_str_int pins s σ H _ us Q I rs ⟨i, rfl, hl, k _ _ (Same.refl _) (.str _)⟩
  | [.str z], hf =>
    cases hf
    obtain ⟨v, rfl, dn⟩ := da1 hx
    cases dn
    exact SkE.call_str_str pins s σ H _ us Q I rs ⟨z, rfl, k _ _ (Same.refl _) (.str _)⟩

/-! repr: what a value shows -/
mutual
theorem nodict : ∀ {K : Fg} {H : Hp} {v : V} {d : D}, Dp K H v d → d.hasDict = false
  | _, _, _, _, .non => rfl
  | _, _, _, _, .bl _ => rfl
  | _, _, _, _, .int _ => rfl
  | _, _, _, _, .str _ => rfl
  | _, _, _, _, .lst _ a => nodictA a
  | _, _, _, _, .tup _ a => nodictA a
theorem nodictA : ∀ {K : Fg} {H : Hp} {vs : List V} {ds : List D}, DpAll K H vs ds → PyData.hasDictAll ds = false
  | _, _, _, _, .nil => rfl
  | _, _, _, _, .cons a b => by rw [PyData.hasDictAll, nodict a, nodictA b]; rfl
end
theorem c_repr (hg : X.A.guards = some []) (hu : X.A.units + 102 < cLine) : CallD X (.builtin "repr") reprD := by
  intro pins s σ H xs us Q I rs ⟨B, ds, r, hB, hx, hf, k⟩
  match ds, hf with
  | [d], hf =>
    have hq : (if PyData.showable d = true ∧ d.depth ≤ 100 ∧ d.shown.length ≤ sizeLine then some (PyData.str d.shown) else none) = some r := hf
    by_cases hl : PyData.showable d = true ∧ d.depth ≤ 100 ∧ d.shown.length ≤ sizeLine
    case neg => rw [if_neg hl] at hq; cases hq
    rw [if_pos hl] at hq
    cases hq
    obtain ⟨h1, h2, h3⟩ := hl
    obtain ⟨v, rfl, dn⟩ := da1 hx
    obtain ⟨u, rfl, ru⟩ := vals1 rs
    have fin : ∀ (h' : Heap) (t : Tok) (tk : Nat), (∀ b o, s.heap.get? b = some o → h'.get? b = some o) → EP X pins σ Q (.str d.shown t) { heap := h', gens := s.gens, drawn := s.drawn, toks := tk, os := s.os } := fun h' t tk hk =>
      ⟨.str _, H, I.kept hk, ⟨t, rfl⟩, k _ _ (Same.refl _) (.str _)⟩
    cases dn with
    | non => cases ru; exact PySem.P.repr_of_none (fin s.heap _ _ fun _ _ e => e)
    | bl b =>
      cases ru
      refine PySem.P.repr_of_bool (fin s.heap _ _ fun _ _ e => e)
    | int i =>
      obtain ⟨t, rfl⟩ := ru
      exact PySem.P.repr_of_int (of_decide_eq_true h1) (fin s.heap _ _ fun _ _ e => e)
    | str z =>
      obtain ⟨t, rfl⟩ := ru
      exact PySem.P.repr_of_str (fin s.heap _ _ fun _ _ e => e) h3
    | @lst a ys es hs na ha =>
      cases ru
      have dp : Dp X.K H (.ref a) (.list es) := .lst (.inl hs) ha.dp
      obtain ⟨as, r1⟩ := Dp.reads I _ _ _ dp rfl
      exact repr_of_reads' r1 h1 (fun z => by rw [nodict dp] at z; cases z) hg (by omega) (fun _ _ e => e) (fun h' t tk hk => fin h' t tk hk) h3
    | @tup a ys es hs ha =>
      cases ru
      have dp : Dp X.K H (.ref a) (.tuple es) := .tup hs ha.dp
      obtain ⟨as, r1⟩ := Dp.reads I _ _ _ dp rfl
      exact repr_of_reads' r1 h1 (fun z => by rw [nodict dp] at z; cases z) hg (by omega) (fun _ _ e => e) (fun h' t tk hk => fin h' t tk hk) h3

/-! isinstance -/
/-- the name of a datum's type -/
def tyD : D → String
  | .none => "NoneType" | .bool _ => "bool" | .int _ => "int" | .str _ => "str" | .list _ => "list" | .tuple _ => "tuple" | .dict _ => "dict"
def isiS (a b : String) : Bool := a == b || (a == "bool" && b == "int")
def wIsi (T : String) (a : WE) : WE := fun τ X P => a τ X fun d τ1 => P (.bool (isiS (tyD d) T)) τ1
theorem tyX_of {K : Fg} {H : Hp} {B : Addr → Prop} {v : V} {d : D} (h : Dn K H B v d) : TyX K H v (.type (tyD d)) := by
  cases h with
  | non => exact .base .non
  | bl b => exact .base (.bl b)
  | int i => exact .base (.int i)
  | str x => exact .base (.str x)
  | lst r _ _ =>
    rcases r with r | ⟨o, r⟩
    · exact .base (.lst r)
    · exact .base (.frz r)
  | tup r _ =>
    rcases r with (r | ⟨o, r⟩) | ⟨o, its, n, h1, h2, _⟩
    · exact .base (.tup r)
    · exact .fTuple r
    · exact .kTuple h1 h2
theorem kit_table : ∀ a ∈ ["NoneType", "bool", "int", "str", "list", "tuple", "dict"], ∀ b ∈ ["bool", "int", "str", "list", "tuple", "dict"], kitB a b = some (isiS a b) := by decide +kernel
theorem tyD_mem (d : D) : tyD d ∈ ["NoneType", "bool", "int", "str", "list", "tuple", "dict"] := by cases d <;> simp [tyD]
theorem ppe_isi {e : Expr} {p p2 : Pos} {T : Str} {t : String} {w : WE} (hK : c.K = X.K) (hg : Gl X "isinstance") (hm : X.mg "isinstance" = none) (hgT : Gl X T) (hmT : X.mg T = none) (hvT : bootBuiltins T = some (.type t)) (ht : t ∈ ["bool", "int", "str", "list", "tuple", "dict"])
    (he : PE X e (liftE c w)) (hn : T ≠ "__name__" := by decide) (hd : (T == ("__debug__" : Str)) = false := by decide)
    (hs : starEach [e, .Name T p2] X.env = (false, eval e X.env) :: starEach [.Name T p2] X.env := by rfl) (hs2 : starEach [.Name T p2] X.env = (false, eval (.Name T p2) X.env) :: starEach [] X.env := by rfl)
    (hpl : (backTo pos (starEach [.Name T p2] X.env)).any (·.1) = false := by rfl) :
    PE X (.Call (.Name "isinstance" p) [e, .Name T p2] [] pos) (liftE c (wIsi t w)) :=
  PE.imp (pe_callB call_isi hg hm PyProof.Rows.boot_isinstance (pa_cons he (pa_cons (pe_bltn (v := .ty t) hgT hmT hvT rfl hn hd) pa_nil hs2) hs) (by decide) (by decide) hs hpl) fun σ H Q ⟨F, ad, τ, Xp, P, R, x, hw, k⟩ =>
    useE R x hw fun d τ1 v H1 p R1 _ dn => by
      refine ⟨v, .ty t, .type (tyD d), .type t, isiS (tyD d) t, rfl, .ty t, ?_, kit_ty (kit_table _ (tyD_mem d) _ ht), k _ _ _ _ p R1 (.bl _)⟩
      rw [← hK]
      exact tyX_of dn
def wIsiT (T U : String) (a : WE) : WE := fun τ X P => a τ X fun d τ1 => P (.bool (isiS (tyD d) T || isiS (tyD d) U)) τ1
end
end PV
end

section
set_option maxRecDepth 100000
namespace PV
open PySem PySem.Spec PyProof.Rows L2
set_option autoImplicit false

/-! ### lists of ours -/
def getL (τ : Ta) (i : Nat) : Option (List D) := match τ[i]? with
  | some (.own ds) => some ds
  | some (.io ds) => some ds
  | _ => none
def setL (τ : Ta) (i : Nat) (ds : List D) : Ta := match τ[i]? with
  | some (.own _) => τ.set i (.own ds)
  | some (.io _) => τ.set i (.io ds)
  | _ => τ
theorem getL_own {τ : Ta} {i : Nat} {ds : List D} (h : getL τ i = some ds) : OwnAt τ i ds := by
  unfold getL at h
  split at h
  · rename_i e; cases h; exact .inl e
  · rename_i e; cases h; exact .inr e
  · cases h
theorem own_setL {τ : Ta} {i : Nat} {ds es : List D} (h : OwnAt τ i ds) {j : Nat} {fs : List D} : OwnAt (setL τ i es) j fs → (j = i ∧ fs = es) ∨ (j ≠ i ∧ OwnAt τ j fs) := by
  intro g
  have hi : i < τ.length := by
    rcases h with h | h <;> exact (List.getElem?_eq_some_iff.mp h).1
  by_cases hj : j = i
  · subst hj
    refine .inl ⟨rfl, ?_⟩
    unfold setL at g
    rcases h with h | h <;>
    · rw [h] at g
      unfold OwnAt at g
      simp only at g
      rw [List.getElem?_set_self hi] at g
      rcases g with g | g <;> cases g <;> rfl
  · refine .inr ⟨hj, ?_⟩
    unfold setL at g
    rcases h with h | h <;>
    · rw [h] at g
      unfold OwnAt at g ⊢
      simp only at g
      rwa [List.getElem?_set_ne (Ne.symm hj)] at g
theorem isown_setL {τ : Ta} {i : Nat} {ds es : List D} (h : OwnAt τ i ds) {j : Nat} : IsOwn (setL τ i es) j → IsOwn τ j := fun ⟨fs, g⟩ => by
  rcases own_setL h g with ⟨e, _⟩ | ⟨_, q⟩
  · rw [e]; exact ⟨ds, h⟩
  · exact ⟨fs, q⟩
theorem setL_own {τ : Ta} {i : Nat} {ds es : List D} (h : OwnAt τ i ds) : OwnAt (setL τ i es) i es := by
  have hi : i < τ.length := by
    rcases h with h | h <;> exact (List.getElem?_eq_some_iff.mp h).1
  unfold setL
  rcases h with h | h
  · rw [h]; exact .inl (List.getElem?_set_self hi)
  · rw [h]; exact .inr (List.getElem?_set_self hi)
theorem setL_len {τ : Ta} {i : Nat} {es : List D} : (setL τ i es).length = τ.length := by
  unfold setL
  split <;> first | rfl | exact List.length_set ..
theorem setL_val {τ : Ta} {i : Nat} {ds es : List D} (h : OwnAt τ i ds) {j : Nat} {d : D} (g : (setL τ i es)[j]? = some (.val d)) : τ[j]? = some (.val d) := by
  have hi : i < τ.length := by
    rcases h with h | h <;> exact (List.getElem?_eq_some_iff.mp h).1
  unfold setL at g
  by_cases hj : j = i
  · subst hj
    rcases h with h | h <;>
    · rw [h] at g
      simp only at g
      rw [List.getElem?_set_self hi] at g
      cases g
  · rcases h with h | h <;>
    · rw [h] at g
      simp only at g
      rwa [List.getElem?_set_ne (Ne.symm hj)] at g
theorem setL_io {τ : Ta} {i : Nat} {ds es : List D} (h : OwnAt τ i ds) {j : Nat} {fs : List D} (g : (setL τ i es)[j]? = some (.io fs)) : ∃ gs, τ[j]? = some (.io gs) := by
  have hi : i < τ.length := by
    rcases h with h | h <;> exact (List.getElem?_eq_some_iff.mp h).1
  unfold setL at g
  by_cases hj : j = i
  · subst hj
    rcases h with h | h <;>
    · rw [h] at g
      simp only at g
      rw [List.getElem?_set_self hi] at g
      first | (cases g; done) | exact ⟨_, h⟩
  · rcases h with h | h <;>
    · rw [h] at g
      simp only at g
      rw [List.getElem?_set_ne (Ne.symm hj)] at g
      exact ⟨_, g⟩

section
variable {K : Fg} {F : Fr} {ad : Nat → Addr} {σ : L2.St} {τ : Ta} {H : Hp}
theorem Rep.write {i : Nat} {ds es : List D} {ys : List V} (R : Rep K F ad σ τ H) (h : OwnAt τ i ds) (dn : DnA K H (Bd F ad τ) ys es) : Rep K F ad σ (setL τ i es) (upd H (ad i) (.lst ys)) := by
  have hmu : ∀ a, Mu ad (setL τ i es) a → Mu ad τ a := fun a ⟨j, hj, e⟩ => ⟨j, isown_setL h hj, e⟩
  have g : Go H (Mu ad τ) (upd H (ad i) (.lst ys)) (Mu ad (setL τ i es)) := by
    refine ⟨fun a o e n => ?_, fun a m => .inl (hmu a m), fun a e z => ?_⟩
    · rw [upd_ne (fun q => n ⟨i, ⟨ds, h⟩, q.symm⟩)]; exact e
    · by_cases q : a = ad i
      · rw [q, upd_same] at z; cases z
      · rw [upd_ne q] at z; exact e z
  refine ⟨fun j d hj => ?_, fun j fs hj => ?_, fun j l hj hl e => R.inj j l (isown_setL h hj) (isown_setL h hl) e, fun j fs hj => ?_, by rw [setL_len]; exact R.len, R.go.trans g, fun a m => g.there a (R.fo a m), fun j hj => R.nfo j (isown_setL h hj)⟩
  · obtain ⟨v, h1, h2⟩ := R.val j d (setL_val h hj)
    exact ⟨v, h1, Dn.go R.lsts g h2⟩
  · rcases own_setL h hj with ⟨e1, e2⟩ | ⟨hne, hj'⟩
    · subst e1 e2
      exact ⟨(R.own j ds h).1, ys, upd_same, DnA.go R.lsts g dn⟩
    · obtain ⟨h1, zs, h2, h3⟩ := R.own j fs hj'
      refine ⟨h1, zs, ?_, DnA.go R.lsts g h3⟩
      rw [upd_ne (fun q => hne (R.inj j i ⟨fs, hj'⟩ ⟨ds, h⟩ q))]
      exact h2
  · obtain ⟨gs, hg⟩ := setL_io h hj
    exact R.io j gs hg
end


def hasL (τ : Ta) (i : Nat) : Prop := ∃ ds, getL τ i = some ds
def wAppend (i : Nat) (a : WE) : WE := fun τ X P => hasL τ i ∧ a τ X fun d τ1 => ∃ ds, getL τ1 i = some ds ∧ ds.length < sizeLine ∧ P .none (setL τ1 i (ds ++ [d]))
def wPop (i : Nat) : WE := fun τ X P => ∃ ds d, getL τ i = some ds ∧ ds[ds.length - 1]? = some d ∧ P d (setL τ i ds.dropLast)
def wPopAt (i : Nat) (a : WE) : WE := fun τ X P => hasL τ i ∧ a τ X fun e τ1 => ∃ ds k d, getL τ1 i = some ds ∧ e = .int k ∧ 0 ≤ k ∧ k < 2 ^ 63 ∧ ds[k.toNat]? = some d ∧ P d (setL τ1 i (ds.eraseIdx k.toNat))
def wInsert (i : Nat) (a b : WE) : WE := fun τ X P => hasL τ i ∧ a τ X fun e τ1 => b τ1 X fun d τ2 => ∃ ds k, getL τ2 i = some ds ∧ e = .int k ∧ 0 ≤ k ∧ k < 2 ^ 63 ∧ ds.length < sizeLine ∧
  P .none (setL τ2 i (ds.take k.toNat ++ [d] ++ ds.drop k.toNat))
/-- what is read of a list of ours, a flat thing -/
def wPk (f : D → D → Option D) (i : Nat) (b : WE) : WE := fun τ X P => hasL τ i ∧ b τ X fun e τ1 => ∃ ds r, getL τ1 i = some ds ∧ f (.list ds) e = some r ∧ flat r = true ∧ P r τ1
def wPkR (f : D → D → Option D) (a : WE) (i : Nat) : WE := fun τ X P => a τ X fun d τ1 => ∃ ds r, getL τ1 i = some ds ∧ f d (.list ds) = some r ∧ flat r = true ∧ P r τ1
def wPk1 (f : List D → Option D) (i : Nat) : WE := fun τ _ P => ∃ ds r, getL τ i = some ds ∧ f [.list ds] = some r ∧ flat r = true ∧ P r τ
def wPkIx (i : Nat) (b : WE) : WE := fun τ X P => hasL τ i ∧ b τ X fun e τ1 => ∃ ds k d, getL τ1 i = some ds ∧ e = .int k ∧ atI ds k = some d ∧ P d τ1
/-- tuple(xs), a list of ours -/
def wPkTup (i : Nat) : WE := fun τ _ P => ∃ ds, getL τ i = some ds ∧ P (.tuple ds) τ

section
variable {X : Cx} {c : LC} {pos : Pos}
theorem pe_pk {i : Nat} {x : Str} (hN : X.N[i]? = some x := by rfl) (hv : Vis X.env.scope x := by first | exact Or.inl rfl | exact Or.inr (Or.inl rfl) | exact Or.inr (Or.inr rfl))
    (hd : (x == ("__debug__" : Str)) = false := by decide) (hcd : (x == ("__classdict__" : Str)) = false := by decide) : PE X (.Name x pos) (tVar i) := pe_var hN hv hd hcd
theorem Rep.tyL {K : Fg} {F : Fr} {ad : Nat → Addr} {σ : L2.St} {τ : Ta} {H : Hp} {i : Nat} (R : Rep K F ad σ τ H) (h : hasL τ i) : σ[i]? = some (some (.ref (ad i))) ∧ tyV K "list" (.ref (ad i)) H := by
  obtain ⟨ds, h⟩ := h
  obtain ⟨h1, xs, h2, _⟩ := R.own i ds (getL_own h)
  exact ⟨h1, .inl ⟨rfl, xs, SqL.of h2⟩⟩
theorem Rep.getL {K : Fg} {F : Fr} {ad : Nat → Addr} {σ : L2.St} {τ : Ta} {H : Hp} {i : Nat} {ds : List D} (R : Rep K F ad σ τ H) (h : getL τ i = some ds) :
    σ[i]? = some (some (.ref (ad i))) ∧ ∃ xs, H (ad i) = some (.lst xs) ∧ DnA K H (Bd F ad τ) xs ds := R.own i ds (getL_own h)

theorem ppe_append {i : Nat} {x : Str} {p p2 : Pos} {e : Expr} {w : WE} (hK : c.K = X.K) (hx : PE X (.Name x p) (tVar i)) (he : PE X e (liftE c w))
    (hbase : attributeBase (.Name x p) "append" X.env (eval (.Name x p) X.env) = eval (.Name x p) X.env := by rfl)
    (hfew : ((backTo pos (starEach [e] X.env)).all (fun x => !x.1) && (backToKw pos (keywordEach [] X.env)).all (fun x => x.1.isSome)
      && decide (([e] : List Expr).length + ([] : List Keyword).length + (if ([] : List Keyword).isEmpty then 0 else 1) < 30)) = true := by rfl)
    (hline : (p2.endLine == pos.line) = true := by rfl) (hs : starEach [e] X.env = (false, eval e X.env) :: starEach [] X.env := by rfl) (hplain : (backTo pos (starEach [] X.env)).any (·.1) = false := by rfl) :
    PE X (.Call (.Attribute (.Name x p) "append" p2) [e] [] pos) (liftE c (wAppend i w)) :=
  PE.imp (pe_bm PySem.F.plainAttrs_list PySem.F.slot_list_append PySem.F.type_list_append mt_append hx (pa_cons he pa_nil hs) hbase hfew hline hs hplain) fun σ H Q ⟨F, ad, τ, Xp, P, R, x, ⟨h0, hw⟩, k⟩ => by
    obtain ⟨t1, t2⟩ := R.tyL h0
    refine ⟨.ref (ad i), t1, by rw [← hK]; exact t2, useE R x hw fun d τ1 v H1 ⟨ds, h1, h2, p⟩ R1 _ dn => ?_⟩
    obtain ⟨_, xs, h3, h4⟩ := R1.getL h1
    exact ⟨ad i, xs, v, rfl, rfl, h3, by rw [h4.len]; exact h2, k _ _ _ _ p (R1.write (getL_own h1) (h4.app (.cons dn .nil))) .non⟩
theorem get_last {K : Fg} {H : Hp} {B : Addr → Prop} {xs : List V} {ds : List D} {d : D} (h : DnA K H B xs ds) (e : ds[ds.length - 1]? = some d) : ∃ v, xs[xs.length - 1]? = some v ∧ Dn K H B v d := by
  rw [h.len]
  exact h.get e
theorem ppe_pop {i : Nat} {x : Str} {p p2 : Pos} (hK : c.K = X.K) (hx : PE X (.Name x p) (tVar i))
    (hbase : attributeBase (.Name x p) "pop" X.env (eval (.Name x p) X.env) = eval (.Name x p) X.env := by rfl) (hline : (p2.endLine == pos.line) = true := by rfl) :
    PE X (.Call (.Attribute (.Name x p) "pop" p2) [] [] pos) (liftE c (wPop i)) :=
  PE.imp (pe_bm0 PySem.F.plainAttrs_list PySem.F.slot_list_pop PySem.F.type_list_pop mt_pop hx hbase hline) fun σ H Q ⟨F, ad, τ, Xp, P, R, x, ⟨ds, d, h1, h2, p⟩, k⟩ => by
    obtain ⟨t1, t2⟩ := R.tyL ⟨ds, h1⟩
    obtain ⟨_, xs, h3, h4⟩ := R.getL h1
    obtain ⟨v, h5, h6⟩ := get_last h4 h2
    have R2 := R.write (getL_own h1) h4.dropLast
    have hmu : ∀ a, Bd F ad (setL τ i ds.dropLast) a → Bd F ad τ a := fun a m => m.elim (fun ⟨j, hj, e⟩ => .inl ⟨j, isown_setL (getL_own h1) hj, e⟩) .inr
    refine ⟨.ref (ad i), t1, by rw [← hK]; exact t2, ad i, xs, v, rfl, rfl, h3, h5, k _ _ _ _ p R2 ?_⟩
    have g : Go H (Mu ad τ) (upd H (ad i) (.lst xs.dropLast)) (Mu ad τ) := ⟨fun a o e n => by rw [upd_ne (fun q => n ⟨i, ⟨ds, getL_own h1⟩, q.symm⟩)]; exact e, fun a m => .inl m, fun a e z => by
      by_cases q : a = ad i
      · rw [q, upd_same] at z; cases z
      · rw [upd_ne q] at z; exact e z⟩
    exact (Dn.go R.lsts g h6).less hmu
end
end PV
end

section
set_option maxRecDepth 100000
namespace PV
open PySem PySem.Spec PyProof.Rows L2
set_option autoImplicit false
section
variable {X : Cx} {c : LC} {pos : Pos}
theorem go_write {K : Fg} {F : Fr} {ad : Nat → Addr} {σ : L2.St} {τ : Ta} {H : Hp} {i : Nat} {ds : List D} {ys : List V} (h : getL τ i = some ds) : Go H (Mu ad τ) (upd H (ad i) (.lst ys)) (Mu ad τ) :=
  ⟨fun a o e n => by rw [upd_ne (fun q => n ⟨i, ⟨ds, getL_own h⟩, q.symm⟩)]; exact e, fun a m => .inl m, fun a e z => by
      by_cases q : a = ad i
      · rw [q, upd_same] at z; cases z
      · rw [upd_ne q] at z; exact e z⟩
theorem bd_setL {F : Fr} {ad : Nat → Addr} {τ : Ta} {i : Nat} {ds es : List D} (h : getL τ i = some ds) : ∀ a, Bd F ad (setL τ i es) a → Bd F ad τ a := fun a m => m.elim (fun ⟨j, hj, e⟩ => .inl ⟨j, isown_setL (getL_own h) hj, e⟩) .inr
theorem ppe_popAt {i : Nat} {x : Str} {p p2 : Pos} {e : Expr} {w : WE} (hK : c.K = X.K) (hx : PE X (.Name x p) (tVar i)) (he : PE X e (liftE c w))
    (hbase : attributeBase (.Name x p) "pop" X.env (eval (.Name x p) X.env) = eval (.Name x p) X.env := by rfl)
    (hfew : ((backTo pos (starEach [e] X.env)).all (fun x => !x.1) && (backToKw pos (keywordEach [] X.env)).all (fun x => x.1.isSome)
      && decide (([e] : List Expr).length + ([] : List Keyword).length + (if ([] : List Keyword).isEmpty then 0 else 1) < 30)) = true := by rfl)
    (hline : (p2.endLine == pos.line) = true := by rfl) (hs : starEach [e] X.env = (false, eval e X.env) :: starEach [] X.env := by rfl) (hplain : (backTo pos (starEach [] X.env)).any (·.1) = false := by rfl) :
    PE X (.Call (.Attribute (.Name x p) "pop" p2) [e] [] pos) (liftE c (wPopAt i w)) :=
  PE.imp (pe_bm PySem.F.plainAttrs_list PySem.F.slot_list_pop PySem.F.type_list_pop mt_popAt hx (pa_cons he pa_nil hs) hbase hfew hline hs hplain) fun σ H Q ⟨F, ad, τ, Xp, P, R, x, ⟨h0, hw⟩, k⟩ => by
    obtain ⟨t1, t2⟩ := R.tyL h0
    refine ⟨.ref (ad i), t1, by rw [← hK]; exact t2, useE R x hw fun d τ1 v H1 ⟨ds, z, d', h1, h2, h3, h4, h5, p⟩ R1 _ dn => ?_⟩
    subst h2
    obtain ⟨_, xs, h6, h7⟩ := R1.getL h1
    obtain ⟨y, h8, h9⟩ := h7.get h5
    have hlt : z.toNat < xs.length := (List.getElem?_eq_some_iff.mp h8).1
    refine ⟨ad i, xs, z, z.toNat, y, rfl, by rw [dn_int dn], h6, by omega, h4, PySem.StrLaws.seqIndex_nonneg h3 (by omega), h8, k _ _ _ _ p (R1.write (getL_own h1) (h7.eraseIdx _)) ?_⟩
    exact (Dn.go R1.lsts (go_write (F := F) (σ := σ) (K := c.K) h1) h9).less (bd_setL h1)
theorem ppe_insert {i : Nat} {x : Str} {p p2 : Pos} {e f : Expr} {w u : WE} (hK : c.K = X.K) (hx : PE X (.Name x p) (tVar i)) (he : PE X e (liftE c w)) (hf : PE X f (liftE c u))
    (hbase : attributeBase (.Name x p) "insert" X.env (eval (.Name x p) X.env) = eval (.Name x p) X.env := by rfl)
    (hfew : ((backTo pos (starEach [e, f] X.env)).all (fun x => !x.1) && (backToKw pos (keywordEach [] X.env)).all (fun x => x.1.isSome)
      && decide (([e, f] : List Expr).length + ([] : List Keyword).length + (if ([] : List Keyword).isEmpty then 0 else 1) < 30)) = true := by rfl)
    (hline : (p2.endLine == pos.line) = true := by rfl) (hs : starEach [e, f] X.env = (false, eval e X.env) :: starEach [f] X.env := by rfl) (hs2 : starEach [f] X.env = (false, eval f X.env) :: starEach [] X.env := by rfl)
    (hplain : (backTo pos (starEach [f] X.env)).any (·.1) = false := by rfl) :
    PE X (.Call (.Attribute (.Name x p) "insert" p2) [e, f] [] pos) (liftE c (wInsert i w u)) :=
  PE.imp (pe_bm PySem.F.plainAttrs_list PySem.F.slot_list_insert PySem.F.type_list_insert mt_insert hx (pa_cons he (pa_cons hf pa_nil hs2) hs) hbase hfew hline hs hplain) fun σ H Q ⟨F, ad, τ, Xp, P, R, x, ⟨h0, hw⟩, k⟩ => by
    obtain ⟨t1, t2⟩ := R.tyL h0
    refine ⟨.ref (ad i), t1, by rw [← hK]; exact t2, useE R x hw fun d τ1 v H1 hb R1 _ dn => useE R1 x hb fun d2 τ2 v2 H2 ⟨ds, z, h1, h2, h3, h4, h5, p⟩ R2 R2' dn2 => ?_⟩
    subst h2
    obtain ⟨_, xs, h6, h7⟩ := R2.getL h1
    exact ⟨ad i, xs, z, v2, rfl, by rw [dn_int dn], h6, by rw [h7.len]; exact h5, h3, h4, k _ _ _ _ p (R2.write (getL_own h1) (((h7.take _).app (.cons dn2 .nil)).app (h7.drop _))) .non⟩

theorem dn_flat {K : Fg} {H : Hp} {B B' : Addr → Prop} {v : V} {d : D} (h : Dn K H B v d) (f : flat d = true) : Dn K H B' v d := by
  cases h with
  | non => exact .non
  | bl b => exact .bl b
  | int i => exact .int i
  | str x => exact .str x
  | _ => exact nomatch f
/-- a list of ours as it stands now -/
theorem Rep.pk {K : Fg} {F : Fr} {ad : Nat → Addr} {σ : L2.St} {τ : Ta} {H : Hp} {i : Nat} {ds : List D} (R : Rep K F ad σ τ H) (h : PV.getL τ i = some ds) : Dn K H (fun a => Bd F ad τ a ∧ a ≠ ad i) (.ref (ad i)) (.list ds) := by
  obtain ⟨_, xs, h2, h3⟩ := R.getL h
  exact .lst (.inl h2) (fun m => m.2 rfl) (h3.less fun a m => m.1)
theorem Rep.pkB {K : Fg} {F : Fr} {ad : Nat → Addr} {σ : L2.St} {τ : Ta} {H : Hp} {i : Nat} (R : Rep K F ad σ τ H) : ∀ a, (Bd F ad τ a ∧ a ≠ ad i) → H a ≠ none := fun a m => R.bthere a m.1
theorem ppe_pkcmp {i : Nat} {x : Str} {p : Pos} {op : CmpOp} {f : D → D → Option D} {b : Expr} {wb : WE} (ho : OpD X (compareOp op) f) (hK : c.K = X.K) (ha : PE X (.Name x p) (tVar i)) (hb : PE X b (liftE c wb)) (hm : behindInMarks op b = false) : PE X (.Compare (.Name x p) [op] [b] pos) (liftE c (wPk f i wb)) :=
  PE.imp (pe_cmpR ho ha hb hm) fun σ H Q ⟨F, ad, τ, Xp, P, R, x, ⟨h0, hw⟩, k⟩ => by
    refine ⟨.ref (ad i), (R.tyL h0).1, useE R x hw fun d τ1 v H1 ⟨ds, r, h1, h2, h3, p⟩ R1 _ dn => ?_⟩
    rw [← hK]
    exact ⟨_, _, d, r, R1.pkB (i := i), R1.pk h1, dn.less fun a m => m.1, h2, fun v' H' s dn' => k _ _ _ _ p (R1.same s) (dn_flat dn' h3)⟩
theorem ppt_pkcmp {i : Nat} {x : Str} {p : Pos} {op : CmpOp} {f : D → D → Option D} {b : Expr} {wb : WE} (ho : OpD X (compareOp op) f) (hK : c.K = X.K) (ha : PE X (.Name x p) (tVar i)) (hb : PE X b (liftE c wb)) (hm : behindInMarks op b = false) : PT X (.Compare (.Name x p) [op] [b] pos) (liftT c (wTru (wPk f i wb))) :=
  PT.imp (pt_cmpR ho ha hb hm) fun σ H Q ⟨F, ad, τ, Xp, P, R, x, ⟨h0, hw⟩, k⟩ => by
    refine ⟨.ref (ad i), (R.tyL h0).1, useE R x hw fun d τ1 v H1 ⟨ds, r, h1, h2, h3, z, e, p⟩ R1 _ dn => ?_⟩
    subst e
    rw [← hK]
    exact ⟨_, _, d, _, R1.pkB (i := i), R1.pk h1, dn.less fun a m => m.1, h2, fun v' H' s dn' => ⟨z, dn_bool dn', k _ _ _ p (R1.same s)⟩⟩
theorem ppe_pkcmpR {i : Nat} {x : Str} {p : Pos} {op : CmpOp} {f : D → D → Option D} {a : Expr} {wa : WE} (ho : OpD X (compareOp op) f) (hK : c.K = X.K) (ha : PE X a (liftE c wa)) (hb : PE X (.Name x p) (tVar i)) (hm : behindInMarks op (.Name x p) = false) : PE X (.Compare a [op] [.Name x p] pos) (liftE c (wPkR f wa i)) :=
  PE.imp (pe_cmpR ho ha hb hm) fun σ H Q ⟨F, ad, τ, Xp, P, R, x, hw, k⟩ => useE R x hw fun d τ1 v H1 ⟨ds, r, h1, h2, h3, p⟩ R1 _ dn => by
    refine ⟨.ref (ad i), (R1.getL h1).1, ?_⟩
    rw [← hK]
    exact ⟨_, _, _, r, R1.pkB (i := i), dn.less fun a m => m.1, R1.pk h1, h2, fun v' H' s dn' => k _ _ _ _ p (R1.same s) (dn_flat dn' h3)⟩
theorem ppt_pkcmpR {i : Nat} {x : Str} {p : Pos} {op : CmpOp} {f : D → D → Option D} {a : Expr} {wa : WE} (ho : OpD X (compareOp op) f) (hK : c.K = X.K) (ha : PE X a (liftE c wa)) (hb : PE X (.Name x p) (tVar i)) (hm : behindInMarks op (.Name x p) = false) : PT X (.Compare a [op] [.Name x p] pos) (liftT c (wTru (wPkR f wa i))) :=
  PT.imp (pt_cmpR ho ha hb hm) fun σ H Q ⟨F, ad, τ, Xp, P, R, x, hw, k⟩ => useE R x hw fun d τ1 v H1 ⟨ds, r, h1, h2, h3, z, e, p⟩ R1 _ dn => by
    subst e
    refine ⟨.ref (ad i), (R1.getL h1).1, ?_⟩
    rw [← hK]
    exact ⟨_, _, _, _, R1.pkB (i := i), dn.less fun a m => m.1, R1.pk h1, h2, fun v' H' s dn' => ⟨z, dn_bool dn', k _ _ _ p (R1.same s)⟩⟩
theorem ppe_pkcall {i : Nat} {y x : Str} {p q : Pos} {id : String} {f : List D → Option D} (hc : CallD X (.builtin id) f) (hK : c.K = X.K) (hg : Gl X x) (hm : X.mg x = none) (hv : bootBuiltins x = some (.builtin id)) (ha : PE X (.Name y q) (tVar i))
    (hn : x ≠ "__name__" := by decide) (hdb : (x == ("__debug__" : Str)) = false := by decide)
    (he : starEach [.Name y q] X.env = (false, eval (.Name y q) X.env) :: starEach [] X.env := by rfl) (hpl : (backTo pos (starEach [] X.env)).any (·.1) = false := by rfl) : PE X (.Call (.Name x p) [.Name y q] [] pos) (liftE c (wPk1 f i)) :=
  PE.imp (pe_callB hc hg hm hv (pa_cons ha pa_nil he) hn hdb he hpl) fun σ H Q ⟨F, ad, τ, Xp, P, R, x, ⟨ds, r, h1, h2, h3, p⟩, k⟩ => by
    refine ⟨.ref (ad i), (R.getL h1).1, ?_⟩
    rw [← hK]
    exact ⟨_, _, r, R.pkB (i := i), .cons (R.pk h1) .nil, h2, fun v' H' s dn' => k _ _ _ _ p (R.same s) (dn_flat dn' h3)⟩
theorem ppe_pkidx {i : Nat} {y : Str} {q : Pos} {b : Expr} {wb : WE} (hK : c.K = X.K) (ha : PE X (.Name y q) (tVar i)) (hb : PE X b (liftE c wb)) (hs : PlainIx b := by exact fun _ _ => rfl) : PE X (.Subscript (.Name y q) b pos) (liftE c (wPkIx i wb)) :=
  PE.imp (pe_ix ix_list ha hb hs) fun σ H Q ⟨F, ad, τ, Xp, P, R, x, ⟨h0, hw⟩, k⟩ => by
    refine ⟨.ref (ad i), (R.tyL h0).1, useE R x hw fun d τ1 v H1 ⟨ds, z, r, h1, h2, h3, p⟩ R1 _ dn => ?_⟩
    subst h2
    rw [← hK]
    obtain ⟨_, xs, h6, h7⟩ := R1.getL h1
    obtain ⟨y, e1, e2⟩ := atI_dn h7 h3
    exact ⟨ad i, xs, z, y, rfl, dn_int dn, SqL.of h6, e1, k _ _ _ _ p R1 e2⟩
theorem ppe_pktup {i : Nat} {y : Str} {p q : Pos} (hK : c.K = X.K) (hg : Gl X "tuple") (hm : X.mg "tuple" = none) (ha : PE X (.Name y q) (tVar i))
    (he : starEach [.Name y q] X.env = (false, eval (.Name y q) X.env) :: starEach [] X.env := by rfl) (hpl : (backTo pos (starEach [] X.env)).any (·.1) = false := by rfl) : PE X (.Call (.Name "tuple" p) [.Name y q] [] pos) (liftE c (wPkTup i)) :=
  PE.imp (pe_callTy call_tuple_of hg hm PyProof.Rows.boot_tuple (pa_cons ha pa_nil he) (by decide) (by decide) he hpl) fun σ H Q ⟨F, ad, τ, Xp, P, R, x, ⟨ds, h1, p⟩, k⟩ => by
    refine ⟨.ref (ad i), (R.getL h1).1, ?_⟩
    rw [← hK]
    obtain ⟨_, xs, h6, h7⟩ := R.getL h1
    exact ⟨ad i, xs, rfl, .inl ⟨SqL.of h6, fun l hl => let z := R.newT hl h7; k _ _ _ _ p z.1 z.2⟩⟩

/-! ### targets -/
abbrev WG := D → Ta → (Ta → Prop) → Prop
abbrev WGs := List D → Ta → (Ta → Prop) → Prop
def okSet (τ : Ta) (i : Nat) : Prop := match τ[i]? with
  | some (.io _) => False
  | none => False
  | _ => True
/-- how the slots may change: any, or just those of a block's own names -/
abbrev SR := L2.St → L2.St → Prop
def SA : SR := fun _ _ => True
def SW (vs : List Nat) : SR := fun σ σ' => wipe σ' vs = wipe σ vs
structure SOk (S : SR) : Prop where
  refl : ∀ σ, S σ σ
  trans : ∀ a b c, S a b → S b c → S a c
theorem sa_ok : SOk SA := ⟨fun _ => trivial, fun _ _ _ _ _ => trivial⟩
theorem sw_ok {vs : List Nat} : SOk (SW vs) := ⟨fun _ => rfl, fun _ _ _ h g => Eq.trans g h⟩
theorem wipe_get {σ : L2.St} {i : Nat} : ∀ {vs : List Nat}, i ∉ vs → (wipe σ vs)[i]? = σ[i]?
  | [], _ => rfl
  | v :: vs, h => by
    unfold wipe
    rw [List.getElem?_set_ne (fun e => h (by rw [e]; exact List.mem_cons_self))]
    exact wipe_get fun m => h (List.mem_cons_of_mem _ m)
theorem wipe_at {σ : L2.St} {i : Nat} : ∀ {vs : List Nat}, i ∈ vs → (wipe σ vs)[i]? = if i < σ.length then some none else none
  | v :: vs, h => by
    unfold wipe
    by_cases e : v = i
    · subst e
      rw [List.getElem?_set, if_pos rfl, wipe_length]
    · rw [List.getElem?_set_ne e]
      exact wipe_at ((List.mem_cons.mp h).resolve_left (Ne.symm e))
theorem wipe_set {σ : L2.St} {i : Nat} {vs : List Nat} {o : Option V} (h : i ∈ vs) : wipe (σ.set i o) vs = wipe σ vs := by
  apply List.ext_getElem?
  intro j
  by_cases hj : j ∈ vs
  · rw [wipe_at hj, wipe_at hj, List.length_set]
  · rw [wipe_get hj, wipe_get hj, List.getElem?_set_ne (fun e => hj (by rw [← e]; exact h))]
def liftG (c : LC) (S : SR) (w : WG) : TG := fun v σ H Q => ∃ F ad τ d P, Rep c.K F ad σ τ H ∧ Dn c.K H (Bd F ad τ) v d ∧ w d τ P ∧ ∀ τ' ad' σ' H', P τ' → Rep c.K F ad' σ' τ' H' → S σ σ' → (S = SA ∨ ad' = ad) → Q σ' H'
def liftGs (c : LC) (S : SR) (w : WGs) : TGs := fun vs σ H Q => ∃ F ad τ ds P, Rep c.K F ad σ τ H ∧ DnA c.K H (Bd F ad τ) vs ds ∧ w ds τ P ∧ ∀ τ' ad' σ' H', P τ' → Rep c.K F ad' σ' τ' H' → S σ σ' → (S = SA ∨ ad' = ad) → Q σ' H'
def gN (i : Nat) : WG := fun d τ P => okSet τ i ∧ P (τ.set i (.val d))
def gNil' : WGs := fun ds τ P => ds = [] ∧ P τ
def gCons' (g : WG) (r : WGs) : WGs := fun ds τ P => ∃ d es, ds = d :: es ∧ g d τ fun τ1 => r es τ1 P
def gTup' (n : Nat) (r : WGs) : WG := fun d τ P => ∃ ds, d = .tuple ds ∧ ds.length = n ∧ r ds τ P
theorem PG.imp {e : Expr} {t t' : TG} (h : PG X e t) (i : ∀ v σ H Q, t' v σ H Q → t v σ H Q) : PG X e t' :=
  ⟨fun pins s σ H v u Q I r q => h.run pins s σ H v u Q I r (i v σ H Q q)⟩
theorem PGs.imp {e : List Expr} {t t' : TGs} (h : PGs X e t) (i : ∀ v σ H Q, t' v σ H Q → t v σ H Q) : PGs X e t' :=
  ⟨fun pins s σ H v u Q I r q => h.run pins s σ H v u Q I r (i v σ H Q q)⟩
theorem Rep.setVal {K : Fg} {F : Fr} {ad : Nat → Addr} {σ : L2.St} {τ : Ta} {H : Hp} {i : Nat} {v : V} {d : D} (R : Rep K F ad σ τ H) (h : okSet τ i) (dn : Dn K H (Bd F ad τ) v d) : Rep K F ad (σ.set i (some v)) (τ.set i (.val d)) H := by
  have hi : i < τ.length := by
    unfold okSet at h
    split at h
    · exact h.elim
    · exact h.elim
    · rename_i h1 h2
      cases e : τ[i]? with
      | none => exact absurd e h2
      | some _ => exact (List.getElem?_eq_some_iff.mp e).1
  have hi2 : i < σ.length := by rw [R.len]; exact hi
  have less : ∀ a, Bd F ad (τ.set i (.val d)) a → Bd F ad τ a := fun a m => m.elim (fun m => .inl (mu_set a m)) .inr
  refine ⟨fun j e hj => ?_, fun j es hj => ?_, fun j l hj hl => R.inj j l (set_own_iff.mp hj).1 (set_own_iff.mp hl).1, fun j es hj => ?_, by rw [List.length_set, List.length_set]; exact R.len, R.go.less fun a => mu_set a, R.fo, fun j hj => R.nfo j (set_own_iff.mp hj).1⟩
  · by_cases e2 : j = i
    · subst e2
      rw [List.getElem?_set_self hi] at hj
      cases hj
      exact ⟨v, List.getElem?_set_self hi2, dn.less less⟩
    · rw [List.getElem?_set_ne (Ne.symm e2)] at hj
      obtain ⟨w, h3, h4⟩ := R.val j e hj
      exact ⟨w, by rw [List.getElem?_set_ne (Ne.symm e2)]; exact h3, h4.less less⟩
  · have hne : j ≠ i := (set_own_iff.mp ⟨es, hj⟩).2
    have hj' : OwnAt τ j es := by unfold OwnAt at hj ⊢; rwa [List.getElem?_set_ne (Ne.symm hne)] at hj
    obtain ⟨h3, ys, h4, h5⟩ := R.own j es hj'
    exact ⟨by rw [List.getElem?_set_ne (Ne.symm hne)]; exact h3, ys, h4, h5.less less⟩
  · have hne : j ≠ i := (set_own_iff.mp ⟨es, .inr hj⟩).2
    rw [List.getElem?_set_ne (Ne.symm hne)] at hj
    exact R.io j es hj
theorem ppg_name {S : SR} {i : Nat} {x : Str} (hS : ∀ σ v, S σ (σ.set i (some v))) (hN : X.N.Nodup) (hi : X.N[i]? = some x) (hx : Loc X.env.scope x) (hf : X.fn x = true ∨ X.env.scope.names.lookup x = some .local := by first | exact .inl rfl | exact .inr rfl | assumption) : PG X (.Name x pos) (liftG c S (gN i)) :=
  PG.imp (pg_name hN hi hx hf) fun v σ H Q ⟨F, ad, τ, d, P, R, dn, ⟨h1, p⟩, k⟩ => k _ ad _ H p (R.setVal h1 dn) (hS σ v) (.inr rfl)
theorem ppgs_nil {S : SR} (hS : SOk S) : PGs X [] (liftGs c S gNil') := PGs.imp pgs_nil fun v σ H Q ⟨F, ad, τ, ds, P, R, dn, ⟨h1, p⟩, k⟩ => by
  subst h1
  cases dn
  exact ⟨rfl, k _ ad _ H p R (hS.refl σ) (.inr rfl)⟩
theorem ppgs_cons {S : SR} {e : Expr} {es : List Expr} {g : WG} {r : WGs} (hS : SOk S) (h1 : PG X e (liftG c S g)) (h2 : PGs X es (liftGs c S r))
    (hs : (assignEach (e :: es) X.env).map (·.2) = assign e X.env :: (assignEach es X.env).map (·.2) := by rfl) : PGs X (e :: es) (liftGs c S (gCons' g r)) :=
  PGs.imp (pgs_cons h1 h2 hs) fun v σ H Q ⟨F, ad, τ, ds, P, R, dn, ⟨d, es, h, p⟩, k⟩ => by
    subst h
    cases dn with
    | cons d1 d2 => exact ⟨_, _, rfl, F.here ad τ H, ad, τ, d, _, R.here, d1, p, fun τ' ad' σ' H' p' R' s1 a1 =>
        ⟨F.here ad τ H, ad', τ', es, P, R', R.carryA R' d2, p', fun τ2 ad2 σ2 H2 p2 R2 s2 a2 => k τ2 ad2 σ2 H2 p2 (R.back R2) (hS.trans _ _ _ s1 s2)
          (a1.elim .inl fun e1 => a2.elim .inl fun e2 => .inr (e2.trans e1))⟩⟩
theorem ppg_tup {S : SR} {es : List Expr} {k : Nat} {r : WGs} {n : Nat} (hK : c.K = X.K) (hc : X.calm = true) (h : PGs X es (liftGs c S r))
    (hn : (assignEach es X.env).length = n := by rfl) (hst : (assignEach es X.env).findIdx? (·.1) = none := by rfl) : PG X (.Tuple es k pos) (liftG c S (gTup' n r)) :=
  PG.imp (pg_tup hc h hn hst) fun v σ H Q ⟨F, ad, τ, d, P, R, dn, ⟨ds, h1, h2, p⟩, k⟩ => by
    subst h1
    rw [← hK]
    cases dn with
    | @tup a xs _ hs ha => exact ⟨a, xs, rfl, hs, by rw [ha.len]; exact h2, F, ad, τ, ds, P, R, ha, p, k⟩

/-! ### statements -/
theorem EOk.here {F : Fr} {ad : Nat → Addr} {σ : L2.St} {τ : Ta} {H : Hp} {E : PEn} {T : Ends} (R : Rep c.K F ad σ τ H) (e : EOk c F E T) : EOk c (F.here ad τ H) E T where
  nx := fun τ' ad' σ' H' h R' => e.nx τ' ad' σ' H' h (R.back R')
  rt := fun d τ' ad' σ' v H' h R' dn => e.rt d τ' ad' σ' v H' h (R.back R') dn
  rf := fun ds τ' ad' σ' p xs H' h R' h0 hf hp dn => e.rf ds τ' ad' σ' p xs H' h ⟨R'.val, R'.own, R'.inj, R'.io, R'.len, R.go.trans R'.go, R'.fo, R'.nfo⟩ (R.free0 h0) hf hp dn
  bk := fun τ' ad' σ' H' h R' => e.bk τ' ad' σ' H' h (R.back R')
  ct := fun τ' ad' σ' H' h R' => e.ct τ' ad' σ' H' h (R.back R')
def sNil : WS := fun E _ τ => E.nx τ
def sCons (a b : WS) : WS := fun E X τ => a { E with nx := fun τ1 => b E X τ1 } X τ
theorem pps_nil : PSs X [] (liftS c sNil) := PSs.imp pss_nil fun T σ H ⟨F, ad, τ, Xp, E, R, x, h, e⟩ => e.nx τ ad σ H h R
theorem pps_cons {st : Stmt} {rest : List Stmt} {a b : WS} (h1 : PS X st (liftS c a)) (h2 : PSs X rest (liftS c b)) : PSs X (st :: rest) (liftS c (sCons a b)) :=
  PSs.imp (pss_cons h1 h2) fun T σ H ⟨F, ad, τ, Xp, E, R, x, h, e⟩ =>
    ⟨F, ad, τ, Xp, _, R, x, h, ⟨fun τ' ad' σ' H' p R' => ⟨F, ad', τ', Xp, E, R', x, p, e⟩, e.rt, e.rf, e.bk, e.ct⟩⟩
theorem pps_one {st : Stmt} {a : WS} (h1 : PS X st (liftS c a)) : PSs X [st] (liftS c a) := pss_one h1
def sPass : WS := fun E _ τ => E.nx τ
def sBreak : WS := fun E _ τ => E.bk τ
def sCont : WS := fun E _ τ => E.ct τ
def sNever : WS := fun _ _ _ => False
theorem pps_pass : PS X (.Pass pos) (liftS c sPass) := PS.imp ps_pass fun T σ H ⟨F, ad, τ, Xp, E, R, x, h, e⟩ => e.nx τ ad σ H h R
theorem pps_break : PS X (.Break pos) (liftS c sBreak) := PS.imp ps_break fun T σ H ⟨F, ad, τ, Xp, E, R, x, h, e⟩ => e.bk τ ad σ H h R
theorem pps_cont : PS X (.Continue pos) (liftS c sCont) := PS.imp ps_continue fun T σ H ⟨F, ad, τ, Xp, E, R, x, h, e⟩ => e.ct τ ad σ H h R
theorem pps_never {st : Stmt} : PS X st (liftS c sNever) := PS.imp ps_never fun T σ H ⟨F, ad, τ, Xp, E, R, x, h, e⟩ => h.elim
def sRet (w : WE) : WS := fun E X τ => w τ X fun d τ1 => E.rt d τ1
def sRetF (w : WA) : WS := fun E X τ => w τ X fun d τ1 => E.rf d τ1
def sRetN : WS := fun E _ τ => E.rt .none τ
def sExpr (w : WE) : WS := fun E X τ => w τ X fun _ τ1 => E.nx τ1
def sIf (t : WT) (a b : WS) : WS := fun E X τ => t τ X fun k τ1 => if k = true then a E X τ1 else b E X τ1
def sAsg (w : WE) (g : WG) : WS := fun E X τ => w τ X fun d τ1 => g d τ1 E.nx
def sSetF (i : Nat) (w : WA) : WS := fun E X τ => w τ X fun ds τ1 => okSet τ1 i ∧ E.nx (τ1.set i (.own ds))
variable {e : Expr} {w : WE}
theorem pps_ret (he : PE X e (liftE c w)) : PS X (.Return (some e) pos) (liftS c (sRet w)) :=
  PS.imp (ps_ret he) fun T σ H ⟨F, ad, τ, Xp, E, R, x, h, eo⟩ => useE R x h fun d τ1 v H1 p R1 _ dn => eo.rt d τ1 ad σ v H1 p R1 dn
theorem pps_retF {w : WA} (he : PE X e (liftF c w)) : PS X (.Return (some e) pos) (liftS c (sRetF w)) :=
  PS.imp (ps_ret he) fun T σ H ⟨F, ad, τ, Xp, E, R, x, h, eo⟩ => ⟨F, ad, τ, Xp, _, R, x, h, fun ds τ' p xs H' q R' h0 hf hx dn => eo.rf ds τ' ad σ p xs H' q R' h0 hf hx dn⟩
theorem pps_retN : PS X (.Return none pos) (liftS c sRetN) :=
  PS.imp ps_retN fun T σ H ⟨F, ad, τ, Xp, E, R, x, h, eo⟩ => eo.rt .none τ ad σ .non H h R .non
theorem pps_expr (he : PE X e (liftE c w)) (hs : swapsWith e none pos.line X.env = pure false := by rfl) : PS X (.Expr e pos) (liftS c (sExpr w)) :=
  PS.imp (ps_expr he hs) fun T σ H ⟨F, ad, τ, Xp, E, R, x, h, eo⟩ => useE R x h fun d τ1 v H1 p R1 _ dn => eo.nx τ1 ad σ H1 p R1
theorem pps_doc {x : Str} {j : Nat} {p2 : Pos} : PS X (.Expr (.Constant (.str x) j pos) p2) (liftS c sPass) := PS.imp ps_doc fun T σ H ⟨F, ad, τ, Xp, E, R, x, h, e⟩ => e.nx τ ad σ H h R
theorem pps_if {t : Expr} {a b : List Stmt} {wt : WT} {sa sb : WS} (ht : PT X t (liftT c wt)) (ha : PSs X a (liftS c sa)) (hb : PSs X b (liftS c sb)) : PS X (.If t a b pos) (liftS c (sIf wt sa sb)) :=
  PS.imp (ps_if ht ha hb) fun T σ H ⟨F, ad, τ, Xp, E, R, x, h, eo⟩ => useT R x h fun k τ1 H1 p R1 _ => by
    cases k with
    | true => exact ⟨F, ad, τ1, Xp, E, R1, x, p, eo⟩
    | false => exact ⟨F, ad, τ1, Xp, E, R1, x, p, eo⟩
theorem pps_asg {tg : Expr} {g : WG} (he : PE X e (liftE c w)) (hg : PG X tg (liftG c SA g)) (hs : swapsWithSole [tg] e pos.line X.env = pure false := by rfl) (hw : swappedStores [tg] e X.env = pure none := by rfl)
    (h1 : (assignEach [tg] X.env).map (·.2) = [assign tg X.env] := by rfl) : PS X (.Assign [tg] e pos) (liftS c (sAsg w g)) :=
  PS.imp (ps_asg he hg hs hw h1) fun T σ H ⟨F, ad, τ, Xp, E, R, x, h, eo⟩ => useE R x h fun d τ1 v H1 p R1 _ dn =>
    ⟨F, ad, τ1, d, E.nx, R1, dn, p, fun τ' ad' σ' H' p' R' _ _ => eo.nx τ' ad' σ' H' p' R'⟩
theorem pps_set {i : Nat} {x : Str} {p2 : Pos} (hN : X.N.Nodup) (hi : X.N[i]? = some x) (hx : Loc X.env.scope x) (he : PE X e (liftE c w)) (hs : swapsWith e (some (.Name x p2)) pos.line X.env = pure false := by rfl) (hf : X.fn x = true ∨ X.env.scope.names.lookup x = some .local := by first | exact .inl rfl | exact .inr rfl | assumption) :
    PS X (.Assign [.Name x p2] e pos) (liftS c (sAsg w (gN i))) :=
  PS.imp (ps_set hN hi hx he hs hf) fun T σ H ⟨F, ad, τ, Xp, E, R, x, h, eo⟩ => useE R x h fun d τ1 v H1 ⟨h1, p⟩ R1 _ dn => eo.nx _ ad _ H1 p (R1.setVal h1 dn)
end
end PV
end

section
set_option maxRecDepth 100000
namespace PV
open PySem PySem.Spec PyProof.Rows L2
set_option autoImplicit false
section
variable {X : Cx} {c : LC} {pos : Pos}
theorem okSet_lt {τ : Ta} {i : Nat} (h : okSet τ i) : i < τ.length := by
  unfold okSet at h
  split at h
  · exact h.elim
  · exact h.elim
  · rename_i h1 h2
    cases e : τ[i]? with
    | none => exact absurd e h2
    | some _ => exact (List.getElem?_eq_some_iff.mp e).1
theorem setOwn_iff {τ : Ta} {i : Nat} {ds : List D} (hi : i < τ.length) {j : Nat} {fs : List D} : OwnAt (τ.set i (.own ds)) j fs ↔ (j = i ∧ fs = ds) ∨ (j ≠ i ∧ OwnAt τ j fs) := by
  by_cases hj : j = i
  · subst hj
    unfold OwnAt
    rw [List.getElem?_set_self hi]
    constructor
    · rintro (h | h) <;> cases h
      exact .inl ⟨rfl, rfl⟩
    · rintro (⟨_, rfl⟩ | ⟨h, _⟩)
      · exact .inl rfl
      · exact absurd rfl h
  · unfold OwnAt
    rw [List.getElem?_set_ne (Ne.symm hj)]
    exact ⟨fun h => .inr ⟨hj, h⟩, fun h => h.elim (fun z => absurd z.1 hj) (·.2)⟩
theorem Rep.setOwn {K : Fg} {F : Fr} {ad : Nat → Addr} {σ : L2.St} {τ : Ta} {H : Hp} {i : Nat} {p : Addr} {xs : List V} {ds : List D} (R : Rep K { F with fo := fun a => F.fo a ∨ a = p } ad σ τ H) (ok : okSet τ i) (h0 : F.H0 p = none) (hf : ¬ F.fo p) (hp : H p = some (.lst xs))
    (dn : DnA K H (Bd { F with fo := fun a => F.fo a ∨ a = p } ad τ) xs ds) : Rep K F (fun j => if j = i then p else ad j) (σ.set i (some (.ref p))) (τ.set i (.own ds)) H := by
  have hi := okSet_lt ok
  have hi2 : i < σ.length := by rw [R.len]; exact hi
  have pick : ∀ {j}, j ≠ i → (fun j => if j = i then p else ad j) j = ad j := fun h => if_neg h
  have hmu : ∀ a, Mu (fun j => if j = i then p else ad j) (τ.set i (.own ds)) a → a = p ∨ Mu ad τ a := fun a ⟨j, ⟨fs, hj⟩, e⟩ => by
    rcases (setOwn_iff hi).mp hj with ⟨e2, _⟩ | ⟨hne, h⟩
    · subst e2
      have e : (if j = j then p else ad j) = a := e
      rw [if_pos rfl] at e
      exact .inl e.symm
    · have e : (if j = i then p else ad j) = a := e
      rw [if_neg hne] at e
      exact .inr ⟨j, ⟨fs, h⟩, e⟩
  have less : ∀ a, Bd F (fun j => if j = i then p else ad j) (τ.set i (.own ds)) a → Bd { F with fo := fun a => F.fo a ∨ a = p } ad τ a := fun a m => by
    rcases m with m | m
    · rcases hmu a m with e | m
      · exact .inr (.inr e)
      · exact .inl m
    · exact .inr (.inl m)
  refine ⟨fun j d hj => ?_, fun j fs hj => ?_, fun j l hj hl e => ?_, fun j fs hj => ?_, by rw [List.length_set, List.length_set]; exact R.len, ⟨R.go.keep, fun a m => ?_, R.go.there⟩, fun a m => R.fo a (.inl m), fun j hj => ?_⟩
  · by_cases e2 : j = i
    · subst e2
      rw [List.getElem?_set_self hi] at hj
      cases hj
    · rw [List.getElem?_set_ne (Ne.symm e2)] at hj
      obtain ⟨v, h3, h4⟩ := R.val j d hj
      exact ⟨v, by rw [List.getElem?_set_ne (Ne.symm e2)]; exact h3, h4.less less⟩
  · rcases (setOwn_iff hi).mp hj with ⟨e2, e3⟩ | ⟨hne, h⟩
    · subst e2 e3
      exact ⟨by rw [List.getElem?_set_self hi2, if_pos rfl], xs, by rw [if_pos rfl]; exact hp, dn.less less⟩
    · obtain ⟨h3, ys, h4, h5⟩ := R.own j fs h
      exact ⟨by rw [List.getElem?_set_ne (Ne.symm hne), if_neg hne]; exact h3, ys, by rw [if_neg hne]; exact h4, h5.less less⟩
  · obtain ⟨f1, hj⟩ := hj
    obtain ⟨f2, hl⟩ := hl
    rcases (setOwn_iff hi).mp hj with ⟨e2, _⟩ | ⟨n1, h1⟩ <;> rcases (setOwn_iff hi).mp hl with ⟨e3, _⟩ | ⟨n2, h2⟩
    · rw [e2, e3]
    · subst e2
      rw [if_pos rfl, if_neg n2] at e
      exact absurd (.inr e.symm) (R.nfo l ⟨f2, h2⟩)
    · subst e3
      rw [if_pos rfl, if_neg n1] at e
      exact absurd (.inr e) (R.nfo j ⟨f1, h1⟩)
    · rw [if_neg n1, if_neg n2] at e
      exact R.inj j l ⟨f1, h1⟩ ⟨f2, h2⟩ e
  · have hne : j ≠ i := fun e2 => by
      subst e2
      rw [List.getElem?_set_self hi] at hj
      cases hj
    rw [List.getElem?_set_ne (Ne.symm hne)] at hj
    rw [if_neg hne]
    exact R.io j fs hj
  · rcases hmu a m with e | m
    · exact .inr (by rw [e]; exact h0)
    · exact R.go.new a m
  · obtain ⟨fs, hj⟩ := hj
    rcases (setOwn_iff hi).mp hj with ⟨e2, _⟩ | ⟨hne, h⟩
    · subst e2
      rw [if_pos rfl]
      exact hf
    · rw [if_neg hne]
      exact fun m => R.nfo j ⟨fs, h⟩ (.inl m)
variable {e : Expr} {w : WE}
theorem pps_setF {w : WA} {i : Nat} {x : Str} {p2 : Pos} (hN : X.N.Nodup) (hi : X.N[i]? = some x) (hx : Loc X.env.scope x) (he : PE X e (liftF c w)) (hs : swapsWith e (some (.Name x p2)) pos.line X.env = pure false := by rfl) (hf : X.fn x = true ∨ X.env.scope.names.lookup x = some .local := by first | exact .inl rfl | exact .inr rfl | assumption) :
    PS X (.Assign [.Name x p2] e pos) (liftS c (sSetF i w)) :=
  PS.imp (ps_set hN hi hx he hs hf) fun T σ H ⟨F, ad, τ, Xp, E, R, x, h, eo⟩ => ⟨F, ad, τ, Xp, _, R, x, h, fun ds τ' p xs H' ⟨ok, q⟩ R' h0 hf hp dn => eo.nx _ _ _ H' q (R'.setOwn ok h0 hf hp dn)⟩

/-- a, b = x, y -/
def sPar (i j : Nat) (a b : WE) : WS := fun E X τ => a τ X fun d τ1 => b τ1 X fun e τ2 => okSet τ2 i ∧ okSet τ2 j ∧ i ≠ j ∧ E.nx ((τ2.set i (.val d)).set j (.val e))
theorem okSet_ne {τ : Ta} {i j : Nat} {s : Sl} (h : i ≠ j) (ok : okSet τ j) : okSet (τ.set i s) j := by
  unfold okSet at ok ⊢
  rwa [List.getElem?_set_ne h]
theorem setVal_bd {F : Fr} {ad : Nat → Addr} {τ : Ta} {i : Nat} {d : D} : ∀ a, Bd F ad (τ.set i (.val d)) a → Bd F ad τ a := fun a m => m.elim (fun m => .inl (mu_set a m)) .inr
theorem pps_par {i j : Nat} {x y : Str} {a b : Expr} {wa wb : WE} {px py pt : Pos} {kt k2 : Nat} {pt2 : Pos} (hc : X.calm = true) (hN : X.N.Nodup) (hi : X.N[i]? = some x) (hj : X.N[j]? = some y) (hij : i ≠ j)
    (hx : X.env.scope.names.lookup x = some .local) (hy : X.env.scope.names.lookup y = some .local) (ha : PE X a (liftE c wa)) (hb : PE X b (liftE c wb))
    (hw : swappedStores [.Tuple [.Name x px, .Name y py] kt pt] (.Tuple [a, b] k2 pt2) X.env = pure (some [x, y]))
    (hs : swapsWithSole [.Tuple [.Name x px, .Name y py] kt pt] (.Tuple [a, b] k2 pt2) pos.line X.env = pure false := by rfl)
    (s1 : starEach [a, b] X.env = (false, eval a X.env) :: starEach [b] X.env := by rfl) (s2 : starEach [b] X.env = (false, eval b X.env) :: starEach [] X.env := by rfl) :
    PS X (.Assign [.Tuple [.Name x px, .Name y py] kt pt] (.Tuple [a, b] k2 pt2) pos) (liftS c (sPar i j wa wb)) :=
  PS.imp (ps_par hc hN hi hj hij hx hy (pa_cons ha (pa_cons hb pa_nil s2) s1) hw hs) fun T σ H ⟨F, ad, τ, Xp, E, R, x, h, eo⟩ => useE R x h fun d τ1 v H1 h1 R1 _ dn1 => useE R1 x h1 fun e τ2 u H2 ⟨o1, o2, hne, p⟩ R2 R2' dn2 => by
    have dn1 := R1.carry R2' dn1
    have R3 := (R2.setVal o1 dn1).setVal (okSet_ne hne o2) (dn2.less setVal_bd)
    exact ⟨v, u, rfl, eo.nx _ ad _ H2 p R3⟩

/-! ### while, for -/
def sWhile (t : WT) (b : WS) : WS := fun E X τ => ∃ I : Nat → Ta → Prop, (∃ m, I m τ) ∧ ∀ m τ, I m τ → t τ X fun k τ1 => if k = true then
  b { E with nx := fun τ2 => ∃ m', m' < m ∧ I m' τ2, ct := fun τ2 => ∃ m', m' < m ∧ I m' τ2, bk := E.nx } X τ1 else E.nx τ1
theorem pps_while {t : Expr} {body : List Stmt} {wt : WT} {b : WS} (hp : PassesOwn (model X.prog X.w) X.A X.env X.xe) (ht : PT X t (liftT c wt)) (hb : PSs X body (liftS c b)) : PS X (.While t body [] pos) (liftS c (sWhile wt b)) :=
  PS.imp (ps_while hp ht hb) fun T σ H ⟨F, ad, τ, Xp, E, R, x, ⟨I, ⟨m0, h0⟩, step⟩, eo⟩ => by
    refine ⟨fun m σ H => ∃ ad τ, Rep c.K F ad σ τ H ∧ I m τ, ⟨m0, ad, τ, R, h0⟩, fun m σ1 H1 ⟨ad1, τ1, R1, h1⟩ => useT R1 x (step m τ1 h1) fun k τ2 H2 p R2 _ => ?_⟩
    cases k with
    | false => exact eo.nx τ2 ad1 σ1 H2 p R2
    | true =>
      refine ⟨fun σ' H' => ∃ ad' τ', Rep c.K F ad' σ' τ' H' ∧ ∃ m', m' < m ∧ I m' τ', fun σ' H' ⟨ad', τ', R', m', hm, i'⟩ => ⟨m', hm, ad', τ', R', i'⟩, ?_⟩
      exact ⟨F, ad1, τ2, Xp, _, R2, x, p, ⟨fun τ' ad' σ' H' q R' => ⟨ad', τ', R', q⟩, eo.rt, eo.rf, fun τ' ad' σ' H' q R' => eo.nx τ' ad' σ' H' q R', fun τ' ad' σ' H' q R' => ⟨ad', τ', R', q⟩⟩⟩

/-- what a loop walks: its items, told ahead -/
abbrev WI := Ta → XP → (List D → Ta → Prop) → Prop
structure Serves0 (K : Fg) (J : It) (ds : List D) (H0 : Hp) (mu0 fo : Addr → Prop) : Prop where
  go : ∀ (i : Nat) (H : Hp) (mu fo' : Addr → Prop), Go H0 mu0 H mu → (∀ a, fo' a → fo a ∨ H0 a = none) → (∀ a, fo' a → H a ≠ none) → i < ds.length →
    J.go i H ∧ ∀ x H', J.yld i H x H' → Same H H' ∧ ∀ d, ds[i]? = some d → Dn K H' (fun a => mu a ∨ fo' a) x d
  stop : ∀ (H : Hp) (mu : Addr → Prop), Go H0 mu0 H mu → J.stop ds.length H
/-- the same while workpieces (foreign lists) change -/
def Serves (K : Fg) (J : It) (ds : List D) (H0 : Hp) (mu0 fo : Addr → Prop) : Prop := ∀ ws : Addr → Prop, (∀ a, ws a → fo a) → Lsts H0 ws → Serves0 K J ds H0 (fun a => mu0 a ∨ ws a) fo
theorem Serves.plain {K : Fg} {J : It} {ds : List D} {H0 : Hp} {mu0 fo : Addr → Prop} (s : Serves K J ds H0 mu0 fo) : Serves0 K J ds H0 mu0 fo := by
  have := s (fun _ => False) (fun _ h => h.elim) (fun _ h => h.elim)
  simpa using this
theorem lsts_or {H0 : Hp} {mu0 ws : Addr → Prop} (l : Lsts H0 mu0) (lw : Lsts H0 ws) : Lsts H0 (fun a => mu0 a ∨ ws a) := fun a m => m.elim (l a) (lw a)
theorem ws_less {mu0 ws fo : Addr → Prop} (h : ∀ a, ws a → fo a) : ∀ a, ((mu0 a ∨ ws a) ∨ fo a) → mu0 a ∨ fo a := fun a m => m.elim (fun m => m.elim .inl fun m => .inr (h a m)) .inr
def liftI (c : LC) (w : WI) : TI := fun σ H Q => ∃ F ad τ X P, Rep c.K F ad σ τ H ∧ XOk c F X ∧ w τ X P ∧
  ∀ ds τ' J H', P ds τ' → Rep c.K F ad σ τ' H' → Serves c.K J ds H' (Mu ad τ') F.fo → Q J H'
theorem PI.imp {tg it : Expr} {t t' : TI} (h : PI X tg it t) (i : ∀ σ H Q, t' σ H Q → t σ H Q) : PI X tg it t' :=
  ⟨fun pins s σ H Q I q => h.run pins s σ H Q I (i σ H Q q)⟩
def forW (g : WG) (b : WS) : List D → PEn → XP → Ta → Prop
  | [], E, _, τ => E.nx τ
  | d :: ds, E, X, τ => g d τ fun τ1 => b { E with nx := fun τ2 => forW g b ds E X τ2, ct := fun τ2 => forW g b ds E X τ2, bk := E.nx } X τ1
def sFor (s : WI) (g : WG) (b : WS) : WS := fun E X τ => s τ X fun ds τ1 => forW g b ds E X τ1
theorem pps_for {tg iter : Expr} {body : List Stmt} {wi : WI} {g : WG} {b : WS} (hp : PassesOwn (model X.prog X.w) X.A X.env X.xe) (hc : X.calm = true) (hi : PI X tg iter (liftI c wi)) (hg : PG X tg (liftG c SA g)) (hb : PSs X body (liftS c b))
    (hs : ∀ x, foldedSetIterable iter X.env x = pure x := by intro _; rfl) : PS X (.For tg iter body [] pos) (liftS c (sFor wi g b)) :=
  PS.imp (ps_for hp hc hi hg hb hs) fun T σ H ⟨F, ad, τ, Xp, E, R, x, h, eo⟩ => by
    refine ⟨F, ad, τ, Xp, _, R, x, h, fun ds τ1 J H1 p R1 sv => ?_⟩
    have eo1 := eo.here R1
    have x1 := x.here R1
    refine ⟨fun i m σ' H' => m = ds.length - i ∧ i ≤ ds.length ∧ ∃ ad' τ', Rep c.K (F.here ad τ1 H1) ad' σ' τ' H' ∧ forW g b (ds.drop i) E Xp τ', ⟨ds.length, by simp, Nat.zero_le _, ad, τ1, R1.here, p⟩, ?_⟩
    rintro i m σ2 H2 ⟨rfl, hi, ad2, τ2, R2, p2⟩
    by_cases hlt : i < ds.length
    · obtain ⟨g1, g2⟩ := sv.plain.go i H2 (Mu ad2 τ2) F.fo R2.go (fun _ m => .inl m) R2.fo hlt
      rw [List.drop_eq_getElem_cons hlt] at p2
      refine .inr ⟨g1, fun σ' H' => ∃ ad' τ', Rep c.K (F.here ad τ1 H1) ad' σ' τ' H' ∧ forW g b (ds.drop (i + 1)) E Xp τ', fun σ' H' ⟨ad', τ', R', p'⟩ => ⟨ds.length - (i + 1), by omega, rfl, hlt, ad', τ', R', p'⟩, fun y H3 yl => ?_⟩
      obtain ⟨s3, d3⟩ := g2 y H3 yl
      exact ⟨F.here ad τ1 H1, ad2, τ2, ds[i], _, R2.same s3, d3 _ (List.getElem?_eq_getElem hlt), p2, fun τ4 ad4 σ4 H4 p4 R4 _ _ =>
        ⟨F.here ad τ1 H1, ad4, τ4, Xp, _, R4, x1, p4, ⟨fun τ' ad' σ' H' q R' => ⟨ad', τ', R', q⟩, eo1.rt, eo1.rf, fun τ' ad' σ' H' q R' => eo1.nx τ' ad' σ' H' q R', fun τ' ad' σ' H' q R' => ⟨ad', τ', R', q⟩⟩⟩⟩
    · have e : i = ds.length := by omega
      subst e
      rw [List.drop_length] at p2
      exact .inl ⟨sv.plain.stop H2 _ R2.go, eo1.nx τ2 ad2 σ2 H2 p2 R2⟩

/-! sources -/
theorem serves0_tup {K : Fg} {H0 : Hp} {mu0 fo : Addr → Prop} {a : Addr} {xs : List V} {ds : List D} (l : Lsts H0 mu0) (hs : SqT K H0 a xs) (ha : DnA K H0 (fun a => mu0 a ∨ fo a) xs ds) : Serves0 K (Itt K a) ds H0 mu0 fo where
  go := fun i H mu fo' g hf _ hi => by
    have hs' := SqT.go l g hs
    have ha' := DnA.go2 (fo := fo) (fo' := fo') l g hf ha
    refine ⟨⟨xs, xs[i]'(by rw [ha.len]; exact hi), hs', List.getElem?_eq_getElem _⟩, fun x H' ⟨e, y⟩ => ?_⟩
    subst e
    refine ⟨Same.refl _, fun d hd => ?_⟩
    obtain ⟨v, h1, h2⟩ := ha'.get hd
    have := y xs hs'
    rw [h1] at this
    cases this
    exact h2
  stop := fun H mu g => ⟨xs, SqT.go l g hs, by rw [ha.len]; exact Nat.le_refl _⟩
theorem serves0_lst {K : Fg} {H0 : Hp} {mu0 fo : Addr → Prop} {a : Addr} {xs : List V} {ds : List D} (l : Lsts H0 mu0) (hs : Rd H0 a (.lst xs)) (hn : ¬ mu0 a) (ha : DnA K H0 (fun a => mu0 a ∨ fo a) xs ds) : Serves0 K (Itl K a) ds H0 mu0 fo where
  go := fun i H mu fo' g hf _ hi => by
    have hs' : SqL K H a xs := .inl (Rd.go g hn hs).1
    have ha' := DnA.go2 (fo := fo) (fo' := fo') l g hf ha
    refine ⟨⟨xs, xs[i]'(by rw [ha.len]; exact hi), hs', List.getElem?_eq_getElem _⟩, fun x H' ⟨e, y⟩ => ?_⟩
    subst e
    refine ⟨Same.refl _, fun d hd => ?_⟩
    obtain ⟨v, h1, h2⟩ := ha'.get hd
    have := y xs hs'
    rw [h1] at this
    cases this
    exact h2
  stop := fun H mu g => ⟨xs, .inl (Rd.go g hn hs).1, by rw [ha.len]; exact Nat.le_refl _⟩
theorem serves_tup {K : Fg} {H0 : Hp} {mu0 fo : Addr → Prop} {a : Addr} {xs : List V} {ds : List D} (l : Lsts H0 mu0) (hs : SqT K H0 a xs) (ha : DnA K H0 (fun a => mu0 a ∨ fo a) xs ds) : Serves K (Itt K a) ds H0 mu0 fo :=
  fun ws h lw => serves0_tup (lsts_or l lw) hs (ha.less (ws_less h))
theorem serves_lst {K : Fg} {H0 : Hp} {mu0 fo : Addr → Prop} {a : Addr} {xs : List V} {ds : List D} (l : Lsts H0 mu0) (hs : Rd H0 a (.lst xs)) (hn : ¬ (mu0 a ∨ fo a)) (ha : DnA K H0 (fun a => mu0 a ∨ fo a) xs ds) : Serves K (Itl K a) ds H0 mu0 fo :=
  fun ws h lw => serves0_lst (lsts_or l lw) hs (fun m => hn (m.elim .inl fun m => .inr (h a m))) (ha.less (ws_less h))
/-- a list -/
def iL (w : WE) : WI := fun τ X P => w τ X fun d τ1 => ∃ ds, d = .list ds ∧ P ds τ1
/-- a tuple -/
def iT (w : WE) : WI := fun τ X P => w τ X fun d τ1 => ∃ ds, d = .tuple ds ∧ P ds τ1
theorem ppi_list {tg : Expr} (hK : c.K = X.K) (he : PE X e (liftE c w)) : PI X tg e (liftI c (iL w)) :=
  PI.imp (pi_list he) fun σ H Q ⟨F, ad, τ, Xp, P, R, x, h, k⟩ => useE R x h fun d τ1 v H1 ⟨ds, hd, p⟩ R1 _ dn => by
    subst hd
    cases dn with
    | @lst a xs _ hs hn ha => exact ⟨a, rfl, ⟨xs, .inl hs⟩, by rw [← hK]; exact k ds τ1 _ H1 p R1 (serves_lst R1.lsts hs hn ha)⟩
theorem ppi_tup {tg : Expr} (hK : c.K = X.K) (he : PE X e (liftE c w)) : PI X tg e (liftI c (iT w)) :=
  PI.imp (pi_tup he) fun σ H Q ⟨F, ad, τ, Xp, P, R, x, h, k⟩ => useE R x h fun d τ1 v H1 ⟨ds, hd, p⟩ R1 _ dn => by
    subst hd
    cases dn with
    | @tup a xs _ hs ha => exact ⟨a, rfl, ⟨xs, by rw [← hK]; exact hs⟩, by rw [← hK]; exact k ds τ1 _ H1 p R1 (serves_tup R1.lsts hs ha)⟩
def rngD (lo : Int) (n : Nat) : List D := (List.range n).map fun i => .int (lo + (i : Nat))
theorem serves0_rng {K : Fg} {H0 : Hp} {mu0 fo : Addr → Prop} {lo : Int} {n : Nat} : Serves0 K (Itr lo n) (rngD lo n) H0 mu0 fo where
  go := fun i H mu fo' g hf _ hi => by
    have hi' : i < n := by simpa [rngD] using hi
    refine ⟨hi', fun x H' ⟨e, y⟩ => ?_⟩
    subst e y
    refine ⟨Same.refl _, fun d hd => ?_⟩
    have : d = .int (lo + (i : Nat)) := by
      rw [rngD, List.getElem?_map, List.getElem?_range hi'] at hd
      cases hd
      rfl
    subst this
    exact .int _
  stop := fun H mu g => by
    show n ≤ (rngD lo n).length
    simp [rngD]
theorem serves_rng {K : Fg} {H0 : Hp} {mu0 fo : Addr → Prop} {lo : Int} {n : Nat} : Serves K (Itr lo n) (rngD lo n) H0 mu0 fo := fun _ _ _ => serves0_rng
def iRange (a : WE) : WI := fun τ X P => a τ X fun d τ1 => ∃ j : Int, d = .int j ∧ (-(2 ^ 62) ≤ j ∧ j < 2 ^ 62) ∧ P (rngD 0 j.toNat) τ1
def iRange2 (a b : WE) : WI := fun τ X P => a τ X fun d τ1 => b τ1 X fun e τ2 => ∃ i j : Int, d = .int i ∧ e = .int j ∧ (-(2 ^ 62) ≤ i ∧ i < 2 ^ 62 ∧ -(2 ^ 62) ≤ j ∧ j < 2 ^ 62) ∧ P (rngD i (j - i).toNat) τ2
theorem ppi_range1 {tg a : Expr} {wa : WE} {p : Pos} (hg : Gl X "range") (hm : X.mg "range" = none) (ha : PE X a (liftE c wa)) (hs : starEach [a] X.env = [(false, eval a X.env)] := by rfl) : PI X tg (.Call (.Name "range" p) [a] [] pos) (liftI c (iRange wa)) :=
  PI.imp (pi_range1 hg hm (pa_cons ha pa_nil hs) hs) fun σ H Q ⟨F, ad, τ, Xp, P, R, x, h, k⟩ => useE R x h fun d τ1 v H1 ⟨j, hd, hb, p⟩ R1 _ dn => by
    subst hd
    exact ⟨j, by rw [dn_int dn], hb.1, hb.2, k _ _ _ _ p R1 serves_rng⟩
theorem ppi_range2 {tg a b : Expr} {wa wb : WE} {p : Pos} (hg : Gl X "range") (hm : X.mg "range" = none) (ha : PE X a (liftE c wa)) (hb : PE X b (liftE c wb)) (hs : starEach [a, b] X.env = [(false, eval a X.env), (false, eval b X.env)] := by rfl) (hs2 : starEach [b] X.env = [(false, eval b X.env)] := by rfl) :
    PI X tg (.Call (.Name "range" p) [a, b] [] pos) (liftI c (iRange2 wa wb)) :=
  PI.imp (pi_range2 hg hm (pa_cons ha (pa_cons hb pa_nil hs2) (by rw [hs, hs2])) hs hs2) fun σ H Q ⟨F, ad, τ, Xp, P, R, x, h, k⟩ => useE R x h fun d τ1 v H1 h1 R1 _ dn => useE R1 x h1 fun d2 τ2 v2 H2 ⟨i, j, e1, e2, hb, p⟩ R2 _ dn2 => by
    subst e1 e2
    exact ⟨i, j, by rw [dn_int dn, dn_int dn2], hb, k _ _ _ _ p R2 serves_rng⟩
/-- a text, sign by sign -/
def signsD (z : Str) : List D := z.cps.toList.map fun q => .str ⟨#[q]⟩
def iStr' (w : WE) : WI := fun τ X P => w τ X fun d τ1 => ∃ z, d = .str z ∧ P (signsD z) τ1
theorem serves0_str {K : Fg} {H0 : Hp} {mu0 fo : Addr → Prop} {z : Str} : Serves0 K (Its z) (signsD z) H0 mu0 fo where
  go := fun i H mu fo' g hf _ hi => by
    have hi' : i < z.cps.size := by simpa [signsD] using hi
    refine ⟨hi', fun x H' ⟨e, q, h1, h2⟩ => ?_⟩
    subst e h2
    refine ⟨Same.refl _, fun d hd => ?_⟩
    have : d = .str ⟨#[q]⟩ := by
      rw [signsD, List.getElem?_map, Array.getElem?_toList, h1] at hd
      cases hd
      rfl
    subst this
    exact .str _
  stop := fun H mu g => by
    show z.cps.size ≤ (signsD z).length
    simp [signsD]
theorem serves_str {K : Fg} {H0 : Hp} {mu0 fo : Addr → Prop} {z : Str} : Serves K (Its z) (signsD z) H0 mu0 fo := fun _ _ _ => serves0_str
theorem ppi_str {tg : Expr} (he : PE X e (liftE c w)) : PI X tg e (liftI c (iStr' w)) :=
  PI.imp (pi_str he) fun σ H Q ⟨F, ad, τ, Xp, P, R, x, h, k⟩ => useE R x h fun d τ1 v H1 ⟨z, hd, p⟩ R1 _ dn => by
    subst hd
    exact ⟨z, dn_str dn, k _ _ _ _ p R1 serves_str⟩
end
end PV
end

section
set_option maxRecDepth 100000
namespace PV
open PySem PySem.Spec PyProof.Rows L2
set_option autoImplicit false
section
variable {X : Cx} {c : LC} {pos : Pos}
/-! zip, enumerate -/
def zipD (ds es : List D) : List D := List.zipWith (fun a b => .tuple [a, b]) ds es
theorem zipD_get {ds es : List D} {i : Nat} {d : D} (h : (zipD ds es)[i]? = some d) : ∃ a b, ds[i]? = some a ∧ es[i]? = some b ∧ d = .tuple [a, b] := by
  unfold zipD at h
  rw [List.getElem?_zipWith] at h
  cases h1 : ds[i]? with
  | none => rw [h1] at h; simp at h
  | some a => cases h2 : es[i]? with
    | none => rw [h1, h2] at h; simp at h
    | some b =>
      rw [h1, h2] at h
      cases h
      exact ⟨a, b, rfl, rfl, rfl⟩
theorem zipD_len {ds es : List D} : (zipD ds es).length = min ds.length es.length := by simp [zipD]
theorem serves0_zipT {K : Fg} {H0 : Hp} {mu0 fo : Addr → Prop} {a b : Addr} {xs ys : List V} {ds es : List D} (l : Lsts H0 mu0) (hs : SqT K H0 a xs) (ha : DnA K H0 (fun a => mu0 a ∨ fo a) xs ds)
    (hs2 : SqT K H0 b ys) (hb : DnA K H0 (fun a => mu0 a ∨ fo a) ys es) : Serves0 K (RZ.ItzT K a b) (zipD ds es) H0 mu0 fo where
  go := fun i H mu fo' g hf ht hi => by
    have s1 := SqT.go l g hs
    have s2 := SqT.go l g hs2
    have a1 := DnA.go2 (fo := fo) (fo' := fo') l g hf ha
    have a2 := DnA.go2 (fo := fo) (fo' := fo') l g hf hb
    rw [zipD_len] at hi
    have i1 : i < xs.length := by rw [ha.len]; omega
    have i2 : i < ys.length := by rw [hb.len]; omega
    refine ⟨⟨xs, ys, xs[i], ys[i], s1, s2, List.getElem?_eq_getElem _, List.getElem?_eq_getElem _⟩, fun v H' ⟨T, x, y, e1, e2, e3, e4, e5⟩ => ?_⟩
    subst e1 e3
    refine ⟨same_upd e2, fun d hd => ?_⟩
    obtain ⟨p, q, h1, h2, rfl⟩ := zipD_get hd
    obtain ⟨u, h3, h4⟩ := a1.get h1
    obtain ⟨w, h5, h6⟩ := a2.get h2
    have := e4 xs s1
    rw [h3] at this
    cases this
    have := e5 ys s2
    rw [h5] at this
    cases this
    exact .tup (.inl (.inl upd_same)) ((DnA.cons h4 (.cons h6 .nil)).grow (same_upd e2) fun _ m => .inl m)
  stop := fun H mu g => ⟨xs, ys, SqT.go l g hs, SqT.go l g hs2, by rw [zipD_len, ha.len, hb.len]; omega⟩
theorem serves0_zipL {K : Fg} {H0 : Hp} {mu0 fo : Addr → Prop} {a b : Addr} {xs ys : List V} {ds es : List D} (l : Lsts H0 mu0) (hs : Rd H0 a (.lst xs)) (hn : ¬ mu0 a) (ha : DnA K H0 (fun a => mu0 a ∨ fo a) xs ds)
    (hs2 : Rd H0 b (.lst ys)) (hn2 : ¬ mu0 b) (hb : DnA K H0 (fun a => mu0 a ∨ fo a) ys es) : Serves0 K (Itz K a b) (zipD ds es) H0 mu0 fo where
  go := fun i H mu fo' g hf ht hi => by
    have s1 : SqL K H a xs := .inl (Rd.go g hn hs).1
    have s2 : SqL K H b ys := .inl (Rd.go g hn2 hs2).1
    have a1 := DnA.go2 (fo := fo) (fo' := fo') l g hf ha
    have a2 := DnA.go2 (fo := fo) (fo' := fo') l g hf hb
    rw [zipD_len] at hi
    have i1 : i < xs.length := by rw [ha.len]; omega
    have i2 : i < ys.length := by rw [hb.len]; omega
    refine ⟨⟨xs, ys, xs[i], ys[i], s1, s2, List.getElem?_eq_getElem _, List.getElem?_eq_getElem _⟩, fun v H' ⟨T, x, y, e1, e2, e3, e4, e5⟩ => ?_⟩
    subst e1 e3
    refine ⟨same_upd e2, fun d hd => ?_⟩
    obtain ⟨p, q, h1, h2, rfl⟩ := zipD_get hd
    obtain ⟨u, h3, h4⟩ := a1.get h1
    obtain ⟨w, h5, h6⟩ := a2.get h2
    have := e4 xs s1
    rw [h3] at this
    cases this
    have := e5 ys s2
    rw [h5] at this
    cases this
    exact .tup (.inl (.inl upd_same)) ((DnA.cons h4 (.cons h6 .nil)).grow (same_upd e2) fun _ m => .inl m)
  stop := fun H mu g => ⟨xs, ys, .inl (Rd.go g hn hs).1, .inl (Rd.go g hn2 hs2).1, by rw [zipD_len, ha.len, hb.len]; omega⟩
def seqs : D → D → Option (List D × List D)
  | .list ds, .list es => some (ds, es)
  | .tuple ds, .tuple es => some (ds, es)
  | _, _ => none
def iZip' (a b : WE) : WI := fun τ X P => a τ X fun d τ1 => b τ1 X fun e τ2 => ∃ q, seqs d e = some q ∧ P (zipD q.1 q.2) τ2
theorem ppi_zip {a b : Expr} {wa wb : WE} {p tpos : Pos} {elts : List Expr} {kk : Nat} (hK : c.K = X.K) (hg : Gl X "zip") (hm : X.mg "zip" = none) (ha : PE X a (liftE c wa)) (hb : PE X b (liftE c wb))
    (hs : starEach [a, b] X.env = (false, eval a X.env) :: starEach [b] X.env := by rfl) (hs2 : starEach [b] X.env = (false, eval b X.env) :: starEach [] X.env := by rfl) (hpl : (backTo pos (starEach [b] X.env)).any (·.1) = false := by rfl) :
    PI X (.Tuple elts kk tpos) (.Call (.Name "zip" p) [a, b] [] pos) (liftI c (iZip' wa wb)) :=
  PI.imp (RZ.pi_zipA hg hm (pa_cons ha (pa_cons hb pa_nil hs2) hs) hs hpl) fun σ H Q ⟨F, ad, τ, Xp, P, R, x, h, k⟩ => useE R x h fun d τ1 v H1 h1 R1 _ dn => useE R1 x h1 fun e τ2 u H2 ⟨q, h2, p⟩ R2 R2' dn2 => by
    have dn := R1.carry R2' dn
    cases dn with
    | @lst a xs ds hs hn ha => cases dn2 with
      | @lst b ys es hs2 hn2 hb => cases h2; exact ⟨a, b, xs, ys, rfl, .inl ⟨.inl hs, .inl hs2, by rw [← hK]; exact k _ _ _ _ p R2 ((fun ws h lw => serves0_zipL (lsts_or R2.lsts lw) hs (fun m => hn (m.elim .inl fun m => .inr (h _ m))) (ha.less (ws_less h)) hs2 (fun m => hn2 (m.elim .inl fun m => .inr (h _ m))) (hb.less (ws_less h))))⟩⟩
      | _ => simp [seqs] at h2
    | @tup a xs ds hs ha => cases dn2 with
      | @tup b ys es hs2 hb => cases h2; exact ⟨a, b, xs, ys, rfl, .inr ⟨by rw [← hK]; exact hs, by rw [← hK]; exact hs2, by rw [← hK]; exact k _ _ _ _ p R2 ((fun ws h lw => serves0_zipT (lsts_or R2.lsts lw) hs (ha.less (ws_less h)) hs2 (hb.less (ws_less h))))⟩⟩
      | _ => simp [seqs] at h2
    | _ => cases dn2 <;> simp [seqs] at h2
def enumD (ds : List D) : List D := (List.zipIdx ds).map fun q => .tuple [.int (q.2 : Nat), q.1]
theorem enumD_get {ds : List D} {i : Nat} {d : D} (h : (enumD ds)[i]? = some d) : ∃ a, ds[i]? = some a ∧ d = .tuple [.int (i : Nat), a] := by
  unfold enumD at h
  rw [List.getElem?_map, List.getElem?_zipIdx] at h
  cases h1 : ds[i]? with
  | none => rw [h1] at h; simp at h
  | some a =>
    rw [h1] at h
    simp at h
    exact ⟨a, rfl, h.symm⟩
theorem serves0_enum {K : Fg} {H0 : Hp} {mu0 fo : Addr → Prop} {a : Addr} {xs : List V} {ds : List D} (l : Lsts H0 mu0) (hs : Rd H0 a (.lst xs)) (hn : ¬ mu0 a) (ha : DnA K H0 (fun a => mu0 a ∨ fo a) xs ds) : Serves0 K (Ite K a) (enumD ds) H0 mu0 fo where
  go := fun i H mu fo' g hf ht hi => by
    have s1 : SqL K H a xs := .inl (Rd.go g hn hs).1
    have a1 := DnA.go2 (fo := fo) (fo' := fo') l g hf ha
    have i1 : i < xs.length := by rw [ha.len]; simpa [enumD] using hi
    refine ⟨⟨xs, xs[i], s1, List.getElem?_eq_getElem _⟩, fun v H' ⟨T, x, e1, e2, e3, e4⟩ => ?_⟩
    subst e1 e3
    refine ⟨same_upd e2, fun d hd => ?_⟩
    obtain ⟨p, h1, rfl⟩ := enumD_get hd
    obtain ⟨u, h3, h4⟩ := a1.get h1
    have := e4 xs s1
    rw [h3] at this
    cases this
    exact .tup (.inl (.inl upd_same)) (.cons (.int _) (.cons (h4.grow (same_upd e2) fun _ m => .inl m) .nil))
  stop := fun H mu g => ⟨xs, .inl (Rd.go g hn hs).1, by rw [ha.len]; simp [enumD]⟩
def iEnum' (a : WE) : WI := fun τ X P => a τ X fun d τ1 => ∃ ds, d = .list ds ∧ P (enumD ds) τ1
theorem ppi_enum {a : Expr} {wa : WE} {p tpos : Pos} {elts : List Expr} {kk : Nat} (hK : c.K = X.K) (hg : Gl X "enumerate") (hm : X.mg "enumerate" = none) (ha : PE X a (liftE c wa)) (hs : starEach [a] X.env = [(false, eval a X.env)] := by rfl) :
    PI X (.Tuple elts kk tpos) (.Call (.Name "enumerate" p) [a] [] pos) (liftI c (iEnum' wa)) :=
  PI.imp (pi_enum hg hm (pa_cons ha pa_nil hs) hs) fun σ H Q ⟨F, ad, τ, Xp, P, R, x, h, k⟩ => useE R x h fun d τ1 v H1 ⟨ds, hd, p⟩ R1 _ dn => by
    subst hd
    cases dn with
    | @lst a xs _ hs hn ha => exact ⟨a, xs, rfl, .inl hs, by rw [← hK]; exact k _ _ _ _ p R1 ((fun ws h lw => serves0_enum (lsts_or R1.lsts lw) hs (fun m => hn (m.elim .inl fun m => .inr (h _ m))) (ha.less (ws_less h))))⟩

/-! ### comprehensions -/
def isVal : Option Sl → Prop
  | some (.val _) => True
  | some .un => True
  | _ => False
def wipeT (τ : Ta) : List Nat → Ta
  | [] => τ
  | v :: vs => (wipeT τ vs).set v .un
/-- the block's own names have again what they had -/
def backT (τ0 τ : Ta) : List Nat → Ta
  | [] => τ
  | v :: vs => match τ0[v]? with
    | some s => (backT τ0 τ vs).set v s
    | none => backT τ0 τ vs
def okW (τ : Ta) : List Nat → Prop
  | [] => True
  | v :: vs => isVal τ[v]? ∧ okW τ vs
theorem okW_mem {τ : Ta} : ∀ {vs : List Nat}, okW τ vs → ∀ v ∈ vs, isVal τ[v]?
  | v :: vs, h, w, m => by
    rcases List.mem_cons.mp m with e | m
    · rw [e]; exact h.1
    · exact okW_mem h.2 w m
theorem wipeT_len {τ : Ta} : ∀ {vs : List Nat}, (wipeT τ vs).length = τ.length
  | [] => rfl
  | v :: vs => by unfold wipeT; rw [List.length_set, wipeT_len]
theorem wipeT_out {τ : Ta} {i : Nat} : ∀ {vs : List Nat}, i ∉ vs → (wipeT τ vs)[i]? = τ[i]?
  | [], _ => rfl
  | v :: vs, h => by
    unfold wipeT
    rw [List.getElem?_set_ne (fun e => h (by rw [e]; exact List.mem_cons_self))]
    exact wipeT_out fun m => h (List.mem_cons_of_mem _ m)
theorem wipeT_in {τ : Ta} {i : Nat} : ∀ {vs : List Nat}, i ∈ vs → (wipeT τ vs)[i]? = if i < τ.length then some .un else none
  | v :: vs, h => by
    unfold wipeT
    by_cases e : v = i
    · subst e
      rw [List.getElem?_set, if_pos rfl, wipeT_len]
    · rw [List.getElem?_set_ne e]
      exact wipeT_in ((List.mem_cons.mp h).resolve_left (Ne.symm e))
theorem backT_len {τ0 τ : Ta} : ∀ {vs : List Nat}, (backT τ0 τ vs).length = τ.length
  | [] => rfl
  | v :: vs => by
    unfold backT
    split
    · rw [List.length_set, backT_len]
    · exact backT_len
theorem backT_out {τ0 τ : Ta} {i : Nat} : ∀ {vs : List Nat}, i ∉ vs → (backT τ0 τ vs)[i]? = τ[i]?
  | [], _ => rfl
  | v :: vs, h => by
    have ih : (backT τ0 τ vs)[i]? = τ[i]? := backT_out fun m => h (List.mem_cons_of_mem _ m)
    unfold backT
    split
    · rw [List.getElem?_set_ne (fun e => h (by rw [e]; exact List.mem_cons_self))]
      exact ih
    · exact ih
theorem backT_in {τ0 τ : Ta} {i : Nat} (hl : τ0.length = τ.length) : ∀ {vs : List Nat}, i ∈ vs → (backT τ0 τ vs)[i]? = τ0[i]?
  | v :: vs, h => by
    unfold backT
    by_cases e : v = i
    · subst e
      cases q : τ0[v]? with
      | none =>
        simp only
        rw [List.getElem?_eq_none (by rw [backT_len, ← hl]; exact List.getElem?_eq_none_iff.mp q)]
      | some s =>
        simp only
        rw [List.getElem?_set_self (by rw [backT_len, ← hl]; exact (List.getElem?_eq_some_iff.mp q).1)]
    · have hm := (List.mem_cons.mp h).resolve_left (Ne.symm e)
      split
      · rw [List.getElem?_set_ne e]; exact backT_in hl hm
      · exact backT_in hl hm
theorem wipeT_own {τ : Ta} {vs : List Nat} {j : Nat} {ds : List D} : OwnAt (wipeT τ vs) j ds → j ∉ vs ∧ OwnAt τ j ds := fun h => by
  by_cases hj : j ∈ vs
  · exfalso
    unfold OwnAt at h
    rw [wipeT_in hj] at h
    split at h <;> rcases h with h | h <;> cases h
  · refine ⟨hj, ?_⟩
    unfold OwnAt at h ⊢
    rwa [wipeT_out hj] at h
section
variable {K : Fg} {F : Fr} {ad : Nat → Addr} {σ : L2.St} {τ : Ta} {H : Hp} {vs : List Nat}
theorem wipe_bd : ∀ a, Bd F ad (wipeT τ vs) a → Bd F ad τ a := fun a m => m.elim (fun ⟨j, ⟨ds, h⟩, e⟩ => .inl ⟨j, ⟨ds, (wipeT_own h).2⟩, e⟩) .inr
/-- the block's own names are forgotten; σ' is as σ but there -/
theorem Rep.wipe {σ' : L2.St} (R : Rep K F ad σ τ H) (hs : ∀ i, i ∉ vs → σ'[i]? = σ[i]?) (hl : σ'.length = σ.length) : Rep K F ad σ' (wipeT τ vs) H := by
  refine ⟨fun i d h => ?_, fun i ds h => ?_, fun i j ⟨ds, h⟩ ⟨es, g⟩ e => R.inj i j ⟨ds, (wipeT_own h).2⟩ ⟨es, (wipeT_own g).2⟩ e, fun i ds h => ?_, by rw [wipeT_len, hl]; exact R.len, R.go.less fun a ⟨j, ⟨ds, h⟩, e⟩ => ⟨j, ⟨ds, (wipeT_own h).2⟩, e⟩, R.fo, fun i ⟨ds, h⟩ => R.nfo i ⟨ds, (wipeT_own h).2⟩⟩
  · have hi : i ∉ vs := fun m => by
      rw [wipeT_in m] at h
      split at h <;> cases h
    rw [wipeT_out hi] at h
    obtain ⟨v, h1, h2⟩ := R.val i d h
    exact ⟨v, by rw [hs i hi]; exact h1, h2.less wipe_bd⟩
  · obtain ⟨hi, h⟩ := wipeT_own h
    obtain ⟨h1, xs, h2, h3⟩ := R.own i ds h
    exact ⟨by rw [hs i hi]; exact h1, xs, h2, h3.less wipe_bd⟩
  · exact R.io i ds (by
      have hi := (wipeT_own (.inr h)).1
      rwa [wipeT_out hi] at h)
end
def lcW (g : WG) (t : WT) (e : WE) (vs : List Nat) : List D → List D → (List D → Ta → Prop) → Ta → Prop
  | [], acc, P, τ => P acc τ
  | d :: ds, acc, P, τ => g d τ fun τ1 => t τ1 (fun _ _ => False) fun b τ2 => if b = true then e τ2 (fun _ _ => False) fun r τ3 => acc.length < sizeLine ∧ lcW g t e vs ds (acc ++ [r]) P (wipeT τ3 vs)
      else lcW g t e vs ds acc P (wipeT τ2 vs)
def wLC (s : WI) (g : WG) (t : WT) (e : WE) (vs : List Nat) : WA := fun τ X P => s τ X fun ds τ1 => okW τ1 vs ∧ lcW g t e vs ds [] (fun acc τ2 => P acc (backT τ1 τ2 vs)) (wipeT τ1 vs)
def wYes : WT := fun τ _ P => P true τ
abbrev LC.nox (c : LC) : LC := { c with W := fun _ _ _ _ => False }
theorem xok_nox {F : Fr} : XOk c.nox F (fun _ _ => False) := fun _ _ _ _ _ _ _ h => h.elim
theorem pts_yes {Y : Cx} {c : LC} : PTs Y [] (liftT c wYes) := ⟨fun pins s σ H Q I ⟨F, ad, τ, Xp, P, R, x, h, k⟩ => pts_nil.run pins s σ H Q I (k true τ H h R)⟩
theorem ppts_one {Y : Cx} {c : LC} {e : Expr} {t : WT} (h : PT Y e (liftT c t)) : PTs Y [e] (liftT c t) := pts_one h

/-- a foreign list is changed -/
theorem Rep.updFo {K : Fg} {F : Fr} {ad : Nat → Addr} {σ : L2.St} {τ : Ta} {H : Hp} {p : Addr} {xs ys : List V} (R : Rep K F ad σ τ H) (hp : H p = some (.lst xs)) (hf : F.fo p) (h0 : F.H0 p = none) : Rep K F ad σ τ (upd H p (.lst ys)) := by
  have g : Go H (fun a => a = p) (upd H p (.lst ys)) (fun a => a = p) := ⟨fun a o e n => by rw [upd_ne n]; exact e, fun a m => .inl m, fun a e z => by
    by_cases q : a = p
    · rw [q, upd_same] at z; cases z
    · rw [upd_ne q] at z; exact e z⟩
  have l : Lsts H (fun a => a = p) := fun a e => ⟨xs, by rw [e]; exact hp⟩
  have le : ∀ a, (a = p ∨ Bd F ad τ a) → Bd F ad τ a := fun a m => m.elim (fun e => .inr (by rw [e]; exact hf)) id
  have down : ∀ {v : V} {d : D}, Dn K H (Bd F ad τ) v d → Dn K (upd H p (.lst ys)) (Bd F ad τ) v d := fun h => (Dn.go (fo := Bd F ad τ) l g (h.less le)).less fun a m => .inr m
  have downA : ∀ {v : List V} {d : List D}, DnA K H (Bd F ad τ) v d → DnA K (upd H p (.lst ys)) (Bd F ad τ) v d := fun h => (DnA.go (fo := Bd F ad τ) l g (h.less le)).less fun a m => .inr m
  refine ⟨fun i d h => ?_, fun i ds h => ?_, R.inj, R.io, R.len, ⟨fun a o e n => ?_, R.go.new, fun a e => g.there a (R.go.there a e)⟩, fun a m => g.there a (R.fo a m), R.nfo⟩
  · obtain ⟨v, h1, h2⟩ := R.val i d h
    exact ⟨v, h1, down h2⟩
  · obtain ⟨h1, xs, h2, h3⟩ := R.own i ds h
    exact ⟨h1, xs, by rw [upd_ne (fun q => R.nfo i ⟨ds, h⟩ (by rw [q]; exact hf))]; exact h2, downA h3⟩
  · rw [upd_ne (fun q => by rw [q, h0] at e; cases e)]
    exact R.go.keep a o e n
theorem dn_updFo {K : Fg} {F : Fr} {ad : Nat → Addr} {τ : Ta} {H : Hp} {p : Addr} {xs ys : List V} (hp : H p = some (.lst xs)) (hf : F.fo p) {vs : List V} {ds : List D} (h : DnA K H (Bd F ad τ) vs ds) : DnA K (upd H p (.lst ys)) (Bd F ad τ) vs ds := by
  have g : Go H (fun a => a = p) (upd H p (.lst ys)) (fun a => a = p) := ⟨fun a o e n => by rw [upd_ne n]; exact e, fun a m => .inl m, fun a e z => by
    by_cases q : a = p
    · rw [q, upd_same] at z; cases z
    · rw [upd_ne q] at z; exact e z⟩
  exact (DnA.go (fo := Bd F ad τ) (fun a e => ⟨xs, by rw [e]; exact hp⟩) g (h.less fun a m => m.elim (fun e => .inr (by rw [e]; exact hf)) id)).less fun a m => .inr m
end
end PV
end

section
set_option maxRecDepth 100000
namespace PV
open PySem PySem.Spec PyProof.Rows L2
set_option autoImplicit false
theorem wipe_wipe {σ : L2.St} {vs : List Nat} : wipe (wipe σ vs) vs = wipe σ vs := by
  apply List.ext_getElem?
  intro j
  by_cases hj : j ∈ vs
  · rw [wipe_at hj, wipe_at hj, wipe_length]
  · rw [wipe_get hj]
theorem sw_ne {vs : List Nat} : SW vs ≠ SA := fun h => by
  have : SW vs [] [none] := by rw [h]; trivial
  have z := congrArg List.length this
  rw [wipe_length, wipe_length] at z
  cases z
theorem wipe_len_eq {σ σ4 : L2.St} {vs : List Nat} (h : wipe σ4 vs = wipe σ vs) : (wipe σ vs).length = σ4.length := by rw [← h, wipe_length]
theorem wipe_get_eq {σ σ4 : L2.St} {vs : List Nat} (h : wipe σ4 vs = wipe σ vs) (i : Nat) (hi : i ∉ vs) : (wipe σ vs)[i]? = σ4[i]? := by rw [← h, wipe_get hi]
section
variable {X : Cx} {c : LC} {pos : Pos}
/-- a frame with one more foreign thing, from here -/
def Fr.at (F : Fr) (ad : Nat → Addr) (τ : Ta) (H : Hp) (p : Addr) : Fr := ⟨H, Mu ad τ, fun a => F.fo a ∨ a = p, F.ioa⟩
theorem Rep.ne_fo {K : Fg} {F : Fr} {ad : Nat → Addr} {σ : L2.St} {τ : Ta} {H : Hp} {p : Addr} (R : Rep K F ad σ τ H) (h : F.fo p) : ¬ Mu ad τ p := fun ⟨j, hj, e⟩ => R.nfo j hj (by rw [e]; exact h)
theorem Rep.unwipe {K : Fg} {F : Fr} {ad : Nat → Addr} {σ : L2.St} {τ1 τ : Ta} {H1 H : Hp} {p : Addr} {vs : List Nat} (R1 : Rep K F ad σ τ1 H1) (ok : okW τ1 vs) (hp : H1 p = none) (R : Rep K (F.at ad τ1 H1 p) ad (L2.wipe σ vs) τ H) :
    Rep K { F with fo := fun a => F.fo a ∨ a = p } ad σ (backT τ1 τ vs) H := by
  have hl : τ1.length = τ.length := by rw [← R1.len, ← R.len, wipe_length]
  have own : ∀ {j ds}, OwnAt (backT τ1 τ vs) j ds → j ∉ vs ∧ OwnAt τ j ds := fun {j ds} h => by
    by_cases hj : j ∈ vs
    · exfalso
      unfold OwnAt at h
      rw [backT_in hl hj] at h
      have z := okW_mem ok j hj
      rcases h with h | h <;> (rw [h] at z; exact z)
    · refine ⟨hj, ?_⟩
      unfold OwnAt at h ⊢
      rwa [backT_out hj] at h
  have mu : ∀ a, Mu ad (backT τ1 τ vs) a → Mu ad τ a := fun a ⟨j, ⟨ds, h⟩, e⟩ => ⟨j, ⟨ds, (own h).2⟩, e⟩
  have bd : ∀ a, Bd { F with fo := fun a => F.fo a ∨ a = p } ad (backT τ1 τ vs) a → Bd (F.at ad τ1 H1 p) ad τ a := fun a m => m.elim (fun m => .inl (mu a m)) .inr
  refine ⟨fun i d h => ?_, fun i ds h => ?_, fun i j ⟨ds, h⟩ ⟨es, g⟩ e => R.inj i j ⟨ds, (own h).2⟩ ⟨es, (own g).2⟩ e, fun i ds h => ?_, by rw [backT_len, ← hl]; exact R1.len, (R1.go.trans R.go).less mu, R.fo, fun i ⟨ds, h⟩ => R.nfo i ⟨ds, (own h).2⟩⟩
  · by_cases hi : i ∈ vs
    · rw [backT_in hl hi] at h
      obtain ⟨v, h1, h2⟩ := R1.val i d h
      refine ⟨v, h1, Dn.less bd (Dn.go2 (fo' := (F.at ad τ1 H1 p).fo) R1.lsts R.go (fun a m => ?_) h2)⟩
      rcases m with m | m
      · exact .inl m
      · exact .inr (by rw [m]; exact hp)
    · rw [backT_out hi] at h
      obtain ⟨v, h1, h2⟩ := R.val i d h
      rw [wipe_get hi] at h1
      exact ⟨v, h1, h2.less bd⟩
  · obtain ⟨hi, h⟩ := own h
    obtain ⟨h1, xs, h2, h3⟩ := R.own i ds h
    rw [wipe_get hi] at h1
    exact ⟨h1, xs, h2, h3.less bd⟩
  · obtain ⟨hi, _⟩ := own (.inr h)
    rw [backT_out hi] at h
    exact R.io i ds h

theorem lc_use {s : WI} {g : WG} {t : WT} {e : WE} {vs : List Nat} {σ : L2.St} {H : Hp} {Q : VK} (h : liftF c (wLC s g t e vs) σ H Q) : tLc (liftI c s) (liftG c.nox (SW vs) g) (liftT c.nox t) (liftE c.nox e) vs σ H Q := by
  obtain ⟨F, ad, τ, Xp, P, R, x, hw, k⟩ := h
  refine ⟨F, ad, τ, Xp, _, R, x, hw, fun ds τ1 J H1 ⟨ok, hl⟩ R1 sv D hD => ?_⟩
  have R2 : Rep c.K (F.at ad τ1 H1 D) ad (wipe σ vs) (wipeT τ1 vs) (upd H1 D (.lst [])) :=
    (R1.here.plus hD (same_upd hD) (by rw [upd_same]; exact fun z => nomatch z)).wipe (fun i hi => wipe_get hi) (wipe_length _ _)
  have hfo : ∀ a, (F.at ad τ1 H1 D).fo a → F.fo a ∨ H1 a = none := fun a m => m.elim .inl fun m => .inr (by rw [m]; exact hD)
  refine ⟨fun i m H => m = ds.length - i ∧ i ≤ ds.length ∧ ∃ τ' acc xs, Rep c.K (F.at ad τ1 H1 D) ad (wipe σ vs) τ' H ∧ H D = some (.lst xs) ∧ DnA c.K H (Bd (F.at ad τ1 H1 D) ad τ') xs acc ∧
    lcW g t e vs (ds.drop i) acc (fun acc τ2 => P acc (backT τ1 τ2 vs)) τ', ⟨ds.length, by simp, Nat.zero_le _, _, [], [], R2, upd_same, .nil, hl⟩, ?_⟩
  rintro i m H2 ⟨rfl, hi, τ', acc, xs, R', hx, dx, hl'⟩
  by_cases hlt : i < ds.length
  · obtain ⟨g1, g2⟩ := sv.plain.go i H2 (Mu ad τ') (F.at ad τ1 H1 D).fo R'.go hfo R'.fo hlt
    rw [List.drop_eq_getElem_cons hlt] at hl'
    refine .inr ⟨g1, fun H => ∃ τ' acc xs, Rep c.K (F.at ad τ1 H1 D) ad (wipe σ vs) τ' H ∧ H D = some (.lst xs) ∧ DnA c.K H (Bd (F.at ad τ1 H1 D) ad τ') xs acc ∧
      lcW g t e vs (ds.drop (i + 1)) acc (fun acc τ2 => P acc (backT τ1 τ2 vs)) τ', fun H' ⟨τ', acc, xs, r1, r2, r3, r4⟩ => ⟨ds.length - (i + 1), by omega, rfl, hlt, τ', acc, xs, r1, r2, r3, r4⟩, fun y H3 yl => ?_⟩
    obtain ⟨s3, d3⟩ := g2 y H3 yl
    have R3 := R'.same s3
    have hx3 := s3 _ _ hx
    have dx3 := dx.grow s3 (B' := Bd (F.at ad τ1 H1 D) ad τ') fun _ m => .inl m
    have hDfo : (F.at ad τ1 H1 D).fo D := .inr rfl
    refine ⟨(F.at ad τ1 H1 D).here ad τ' H3, ad, τ', ds[i], _, R3.here, d3 _ (List.getElem?_eq_getElem hlt), hl', fun τ4 ad4 σ4 H4 p4 R4' s4 a4 => ?_⟩
    have ea : ad4 = ad := a4.resolve_left sw_ne
    subst ea
    have R4 := R3.back R4'
    have sw : wipe σ4 vs = wipe σ vs := Eq.trans s4 wipe_wipe
    have hx4 : H4 D = some (.lst xs) := R4'.go.keep _ _ hx3 (R3.ne_fo hDfo)
    have dx4 := R3.carryA R4' dx3
    refine ⟨sw, useT R4 xok_nox p4 fun b τ5 H5 p5 R5 R5' => ?_⟩
    have hx5 : H5 D = some (.lst xs) := R5'.go.keep _ _ hx4 (R4.ne_fo hDfo)
    have dx5 := R4.carryA R5' dx4
    cases b with
    | false =>
      exact ⟨wipeT τ5 vs, acc, xs, R5.wipe (fun i hi => wipe_get_eq sw i hi) (wipe_len_eq sw), hx5, dx5.less wipe_bd, p5⟩
    | true =>
      refine useE R5 xok_nox p5 fun d τ6 v H6 ⟨p6, p7⟩ R6 R6' dn => ?_
      have hx6 : H6 D = some (.lst xs) := R6'.go.keep _ _ hx5 (R5.ne_fo hDfo)
      have dx6 := R5.carryA R6' dx5
      refine ⟨xs, hx6, by rw [dx6.len]; exact p6, wipeT τ6 vs, acc ++ [d], xs ++ [v], ?_, upd_same, ?_, p7⟩
      · exact (R6.wipe (fun i hi => wipe_get_eq sw i hi) (wipe_len_eq sw)).updFo hx6 hDfo hD
      · exact (dn_updFo hx6 hDfo (dx6.app (.cons dn .nil))).less wipe_bd
  · have e : i = ds.length := by omega
    subst e
    rw [List.drop_length] at hl'
    exact .inl ⟨sv.plain.stop H2 _ R'.go, k acc _ D xs H2 hl' (R1.unwipe ok hD R') (R1.free0 hD) (R1.freeF hD) hx (dx.less fun a m => m.elim (fun ⟨j, ⟨ds', h⟩, e⟩ => by
      refine .inl ⟨j, ⟨ds', ?_⟩, e⟩
      have hlen : τ1.length = τ'.length := by rw [← R1.len, ← R'.len, wipe_length]
      by_cases hj : j ∈ vs
      · exfalso
        unfold OwnAt at h
        rw [backT_in hlen hj] at h
        have z := okW_mem ok j hj
        rcases h with h | h <;> (rw [h] at z; exact z)
      · unfold OwnAt at h ⊢
        rwa [backT_out hj] at h) .inr)⟩

variable {elt tg iter : Expr} {ifs : List Expr} {scope : Scope} {own : List (Str × Nat)} {wi : WI} {g : WG} {t : WT} {e : WE}
theorem ppf_lc (hc : X.calm = true) (hN : X.N.Nodup) (hi : PI X tg iter (liftI c wi)) (ok : BlkOk X.N X.env.scope scope own)
    (hg : ∀ (s : Shared) (H : Hp) (C : Addr) (cl : List (Str × Addr)) (fp : List Addr), PG (X.blk s H scope (compEnvC scope cl C X.env) fp) tg (liftG c.nox (SW (own.map (·.2))) g))
    (ht : ∀ (s : Shared) (H : Hp) (C : Addr) (cl : List (Str × Addr)) (fp : List Addr), PTs (X.blk s H scope (compEnvC scope cl C X.env) fp) ifs (liftT c.nox t))
    (he : ∀ (s : Shared) (H : Hp) (C : Addr) (cl : List (Str × Addr)) (fp : List Addr), PE (X.blk s H scope (compEnvC scope cl C X.env) fp) elt (liftE c.nox e)) (hs : ∀ x, foldedSetIterable iter X.env x = pure x := by intro _; rfl) :
    PE X (.ListComp elt [⟨tg, iter, ifs, 0⟩] scope pos) (liftF c (wLC wi g t e (own.map (·.2)))) :=
  PE.imp (pe_lc hc hN hi ok hg ht he hs) fun σ H Q h => lc_use h
theorem pps_setLc {i : Nat} {y : Str} {py spos : Pos} (hc : X.calm = true) (hN : X.N.Nodup) (hy : X.N[i]? = some y) (hyl : X.env.scope.names.lookup y = some .local)
    (hsw : swapsWith (.ListComp elt [⟨tg, iter, ifs, 0⟩] scope pos) (some (.Name y py)) spos.line X.env = pure true) (hi : PI X tg iter (liftI c wi)) (ok : BlkOk X.N X.env.scope scope own)
    (hg : ∀ (s : Shared) (H : Hp) (C : Addr) (cl : List (Str × Addr)) (fp : List Addr), PG (X.blk s H scope (compEnvC scope cl C X.env) fp) tg (liftG c.nox (SW (own.map (·.2))) g))
    (ht : ∀ (s : Shared) (H : Hp) (C : Addr) (cl : List (Str × Addr)) (fp : List Addr), PTs (X.blk s H scope (compEnvC scope cl C X.env) fp) ifs (liftT c.nox t))
    (he : ∀ (s : Shared) (H : Hp) (C : Addr) (cl : List (Str × Addr)) (fp : List Addr), PE (X.blk s H scope (compEnvC scope cl C X.env) fp) elt (liftE c.nox e)) (hs : ∀ x, foldedSetIterable iter X.env x = pure x := by intro _; rfl) :
    PS X (.Assign [.Name y py] (.ListComp elt [⟨tg, iter, ifs, 0⟩] scope pos) spos) (liftS c (sSetF i (wLC wi g t e (own.map (·.2))))) :=
  PS.imp (ps_setLc hc hN hy hyl hsw hi ok hg ht he hs) fun T σ H ⟨F, ad, τ, Xp, E, R, x, h, eo⟩ => lc_use ⟨F, ad, τ, Xp, _, R, x, h, fun ds τ' p xs H' ⟨ok, q⟩ R' h0 hf hp dn => eo.nx _ _ _ H' q (R'.setOwn ok h0 hf hp dn)⟩
/-- a new list to a name that keeps it as it is -/
def sSetL (i : Nat) (w : WA) : WS := fun E X τ => w τ X fun ds τ1 => okSet τ1 i ∧ E.nx (τ1.set i (.val (.list ds)))
theorem pps_setLcV {i : Nat} {y : Str} {py spos : Pos} (hc : X.calm = true) (hN : X.N.Nodup) (hy : X.N[i]? = some y) (hyl : X.env.scope.names.lookup y = some .local)
    (hsw : swapsWith (.ListComp elt [⟨tg, iter, ifs, 0⟩] scope pos) (some (.Name y py)) spos.line X.env = pure true) (hi : PI X tg iter (liftI c wi)) (ok : BlkOk X.N X.env.scope scope own)
    (hg : ∀ (s : Shared) (H : Hp) (C : Addr) (cl : List (Str × Addr)) (fp : List Addr), PG (X.blk s H scope (compEnvC scope cl C X.env) fp) tg (liftG c.nox (SW (own.map (·.2))) g))
    (ht : ∀ (s : Shared) (H : Hp) (C : Addr) (cl : List (Str × Addr)) (fp : List Addr), PTs (X.blk s H scope (compEnvC scope cl C X.env) fp) ifs (liftT c.nox t))
    (he : ∀ (s : Shared) (H : Hp) (C : Addr) (cl : List (Str × Addr)) (fp : List Addr), PE (X.blk s H scope (compEnvC scope cl C X.env) fp) elt (liftE c.nox e)) (hs : ∀ x, foldedSetIterable iter X.env x = pure x := by intro _; rfl) :
    PS X (.Assign [.Name y py] (.ListComp elt [⟨tg, iter, ifs, 0⟩] scope pos) spos) (liftS c (sSetL i (wLC wi g t e (own.map (·.2))))) :=
  PS.imp (ps_setLc hc hN hy hyl hsw hi ok hg ht he hs) fun T σ H ⟨F, ad, τ, Xp, E, R, x, h, eo⟩ => lc_use ⟨F, ad, τ, Xp, _, R, x, h, fun ds τ' p xs H' ⟨ok, q⟩ R' h0 hf hp dn =>
    eo.nx _ ad _ H' q (R'.minus.setVal ok (R'.let hf hp dn))⟩
end
end PV
end

section
set_option maxRecDepth 100000
namespace PV
open PySem PySem.Spec PyProof.Rows L2
set_option autoImplicit false

/-! ### what a def promises, where no repr runs around it -/
structure FnG (P : Program) (w : World) (K : Fg) (mg : Str → Option Value) (base : Heap) (k : Nat) (f : Addr) (fd : FuncData) (ps : List Str) (sp : Sp) : Prop where
  len : ∀ vs H Q E, sp vs H Q E → vs.length = ps.length
  run : ∀ (A : Around) (outer : List Env) (s : Shared) (H : Hp) (args : Args) (us : List Value) (vs : List V) (Q : VK) (E : XK), Room k A → A.guards = some [] →
    Env0 P w K mg base A outer s H → BindsTo s fd args (ps.zip us) → Vals vs us → sp vs H Q E → codeAny (model P w) A (.call (.ref f) args) (CR (L2.CX P w) outer P w H s Q E) s
section
variable {P : Program} {w : World} {K : Fg} {mg : Str → Option Value} {base : Heap}
theorem FnG.mono {j k : Nat} {f : Addr} {fd : FuncData} {ps : List Str} {sp : Sp} (F : FnG P w K mg base j f fd ps sp) (h : j ≤ k) : FnG P w K mg base k f fd ps sp :=
  ⟨F.len, fun A outer s H args us vs Q E hr => F.run A outer s H args us vs Q E (hr.mono h)⟩
theorem FnG.imp {k : Nat} {f : Addr} {fd : FuncData} {ps : List Str} {sp sp' : Sp} (F : FnG P w K mg base k f fd ps sp) (h : ∀ vs H Q E, sp' vs H Q E → sp vs H Q E) : FnG P w K mg base k f fd ps sp' :=
  ⟨fun vs H Q E q => F.len vs H Q E (h _ _ _ _ q), fun A outer s H args us vs Q E hr hg he hb hv hs => F.run A outer s H args us vs Q E hr hg he hb hv (h _ _ _ _ hs)⟩

/-- a def by its body -/
theorem gn_of {k : Nat} {f : Addr} {x qual : Str} {st : Stmt} {fd : FuncData} {N ps : List Str} {sp : Sp} (G : Fun K x qual st f fd) (S : FnScope N ps (defScope st)) (len : ∀ vs H Q E, sp vs H Q E → vs.length = ps.length)
    (hbody : ∀ (cdv : Value) (A : Around) (outer : List Env) (s : Shared) (H : Hp) (vs : List V) (Q : VK) (E : XK),
      Room k (A.deeper (envOfC qual (defScope st) s.heap.objs.size f cdv)) → A.guards = some [] → sp vs H Q E →
      ∃ t, PSs (cxOf (L2.CX P w) P w K mg base N qual (defScope st) f cdv A outer s H E) (defBody st) t ∧ t { nx := fun _ H' => Q .non H', rt := Q } (start N vs) H) :
    FnG P w K mg base (k + 1) f fd ps sp := by
  obtain ⟨oc, od, kV, doc, pm, an, cdv, ct, osl, rfl, lk, hcd⟩ := G.ex
  refine ⟨len, fun A outer s H args us vs Q E hr hg0 e0 hb r hsp => ?_⟩
  have arity := len _ _ _ _ hsp
  have inK : K.In s.heap := e0.mod.kin.keeps fun b o e => (e0.bs b o e).1
  have noLim : s.heap.NoLimit := e0.mod.nolimit.keeps fun b o e => (e0.bs b o e).1
  have kinds : ∀ y ∈ ps.zip us, (defScope st).names.lookup y.1 = some .local ∨ ((defScope st).names.lookup y.1 = some .cell ∧
      ((cellsFrom (s.heap.objs.size + 1) (defScope st).names []).lookup y.1).isSome = true) := by
    rintro ⟨n, v⟩ hy
    rcases S.par n (List.of_mem_zip hy).1 with q | q
    · exact .inl q
    · exact .inr ⟨q, PySem.W.cellsFrom_some _ _ _ (.inl q)⟩
  refine codeAny_call_function hr.depth (inK _ _ lk) rfl S.co S.gen rfl
    (PySem.W.codeRec_of inK hcd) (hb _ _ _ _ ?_)
  refine wpAny_newFunctionEnv_cells S.kind kinds fun env he s1 x => ?_
  subst he
  refine ⟨noLim.keeps x.toInCall.keep, codeAny_func ?_⟩
  obtain ⟨t, ht, hq⟩ := hbody cdv A outer s H vs Q E (hr.deeper _) hg0 hsp
  have I := inv_start (CX := L2.CX P w) (E := E) (qual := qual) (f := f) (cd := cdv) S hr.hd e0 arity r x
  refine wpAny_mono (ht.run [] s1 (start N vs) H _ I hq) (fun fl s' hs => ?_) fun e s' hs => hs
  cases fl with
  | ret u =>
    obtain ⟨v, σ', H', J, rv, q⟩ := hs
    exact ⟨v, H', J.os, J.bare, J.base, J.hok, rv, q⟩
  | next =>
    obtain ⟨σ', H', J, q⟩ := hs
    exact ⟨V.non, H', J.os, J.bare, J.base, J.hok, rfl, q⟩
  | brk =>
    obtain ⟨_, _, _, q⟩ := hs
    exact False.elim q
  | cont =>
    obtain ⟨_, _, _, q⟩ := hs
    exact False.elim q
end
/-- a def called, what it raises wished for at the caller's slots -/
def tCallG (sp : Sp) (E : L2.St → XK) (t : TA) : TE := fun σ H Q => t σ H fun vs H1 => sp vs H1 Q (E σ)
section
variable {X : Cx} {k : Nat} {f : Addr} {fd : FuncData} {ps : List Str} {sp : Sp} {W : WX} {x : Str} {p pos : Pos} {e : Expr} {es : List Expr} {t : TA}
theorem run_gn {pins : List (Addr × Obj)} {σ : L2.St} {H : Hp} {s : Shared} {Q : VK} {us : List Value} {vs : List V} (G : FnG X.prog X.w X.K X.mg X.base k f fd ps sp) (hr : Room k X.A) (hg : X.A.guards = some []) (hb : Binds X.K fd ps []) (tk : Takes X W)
    (I : Inv X pins σ H s) (r : Vals vs us) (h : sp vs H Q (L2.WE W σ)) : wpAny (model X.prog X.w) X.A (call (.ref f) us) (EP X pins σ Q) X.xe s := by
  have hl : us.length = ps.length := r.length.symm.trans (G.len _ _ _ _ h)
  have b := hb s us I.kIn (by rw [List.append_nil]; exact hl)
  rw [List.append_nil] at b
  refine wpAny_call (codeAny_mono (G.run X.A X.stack s H ⟨us, []⟩ us vs Q (L2.WE W σ) hr hg I.env0 b r h) fun z s' hq => ?_)
  cases z with
  | error y => exact passAt tk σ pins H s y s' I hq
  | ok fl =>
    cases fl with
    | ret u => exact I.after hq
    | _ => exact False.elim hq
theorem pe_callG (G : FnG X.prog X.w X.K X.mg X.base k f fd ps sp) (hr : Room k X.A) (hg0 : X.A.guards = some []) (hg : Gl X x) (hm : X.mg x = some (.ref f)) (hk : PySem.W.keepIn X.K (.ref f) = true) (hb : Binds X.K fd ps []) (tk : Takes X W)
    (ha : PA X (e :: es) t) (hdb : (x == ("__debug__" : Str)) = false := by decide) (he : starEach (e :: es) X.env = (false, eval e X.env) :: starEach es X.env := by rfl) (hpl : (backTo pos (starEach es X.env)).any (·.1) = false := by rfl) :
    PE X (.Call (.Name x p) (e :: es) [] pos) (tCallG sp (L2.WE W) t) := by
  refine ⟨fun pins s σ H Q I h => wpAny_Call_Name_kw (ld_glob I hg hm ?_ hdb)⟩
  exact PySem.W.callWith_K (h₀ := X.base) I.ok.mod.kin hk
    (thn (ha.run pos pins s σ H _ I h) fun us s1 ⟨vs, H1, I1, r, q⟩ => ⟨I1.kIn, run_gn G hr hg0 hb tk I1 r q⟩) he hpl
theorem pe_callG0 (G : FnG X.prog X.w X.K X.mg X.base k f fd ps sp) (hr : Room k X.A) (hg0 : X.A.guards = some []) (hg : Gl X x) (hm : X.mg x = some (.ref f)) (hk : PySem.W.keepIn X.K (.ref f) = true) (hb : Binds X.K fd ps []) (tk : Takes X W)
    (hdb : (x == ("__debug__" : Str)) = false := by decide) : PE X (.Call (.Name x p) [] [] pos) (tCallG sp (L2.WE W) tNil) :=
  ⟨fun pins s σ H Q I h => wpAny_Call_Name_kw (ld_glob I hg hm (PySem.W.callWith_K0 I.kIn hk (run_gn (us := []) G hr hg0 hb tk I .nil h)) hdb)⟩
end

/-! ### contracts over data -/
/-- the lists handed over by a def's caller, as they stand at its end -/
def endT : Ta → Ta → Option Ta
  | [], _ => some []
  | .io _ :: r, .io ds :: r' => (endT r r').map (.io ds :: ·)
  | .io _ :: _, _ => none
  | .val d :: r, _ :: r' => (endT r r').map (.val d :: ·)
  | _, _ => none
/-- what a def's parameters hold -/
def okPar : Ta → Prop
  | [] => True
  | .val _ :: r => okPar r
  | .io _ :: r => okPar r
  | _ :: _ => False
def kept (τ0 τ' : Ta) : Prop := ∀ (j : Nat) (ds : List D), τ0[j]? = some (.io ds) → ∃ es, τ'[j]? = some (.io es)

/-- a contract as a promise -/
def spOf (K : Fg) (cl : Str → Option Value) (n : Nat) (ct : WE) : Sp := fun vs H Q E => vs.length = n ∧ ∃ (fo : Addr → Prop) (ad : Nat → Addr) (τ0 : Ta) (P : D → Ta → Prop) (Xp : XP), okPar τ0 ∧
  Rep K ⟨H, Mu ad τ0, fo, ad⟩ ad (vs.map some) τ0 H ∧ ct τ0 Xp P ∧
  (∀ d τ' v H', P d τ' → kept τ0 τ' → Rep K ⟨H, Mu ad τ0, fo, ad⟩ ad (vs.map some) τ' H' → Dn K H' (Bd ⟨H, Mu ad τ0, fo, ad⟩ ad τ') v d → Q v H') ∧
  (∀ x τ' dx H' v, Xp x τ' → kept τ0 τ' → Rep K ⟨H, Mu ad τ0, fo, ad⟩ ad (vs.map some) τ' H' → cl x.cls = some v → XF K H' (Bd ⟨H, Mu ad τ0, fo, ad⟩ ad τ') dx x.args → E v dx H')
/-- the same where a new list is handed back -/
def spOfF (K : Fg) (cl : Str → Option Value) (n : Nat) (ct : WA) : Sp := fun vs H Q E => vs.length = n ∧ ∃ (fo : Addr → Prop) (ad : Nat → Addr) (τ0 : Ta) (P : List D → Ta → Prop) (Xp : XP), okPar τ0 ∧
  Rep K ⟨H, Mu ad τ0, fo, ad⟩ ad (vs.map some) τ0 H ∧ ct τ0 Xp P ∧
  (∀ ds τ' p xs H', P ds τ' → kept τ0 τ' → Rep K ⟨H, Mu ad τ0, fun a => fo a ∨ a = p, ad⟩ ad (vs.map some) τ' H' → H p = none → ¬ fo p → H' p = some (.lst xs) →
    DnA K H' (Bd ⟨H, Mu ad τ0, fun a => fo a ∨ a = p, ad⟩ ad τ') xs ds → Q (.ref p) H') ∧
  (∀ x τ' dx H' v, Xp x τ' → kept τ0 τ' → Rep K ⟨H, Mu ad τ0, fo, ad⟩ ad (vs.map some) τ' H' → cl x.cls = some v → XF K H' (Bd ⟨H, Mu ad τ0, fo, ad⟩ ad τ') dx x.args → E v dx H')

theorem endT_get : ∀ {τ0 τ τ' : Ta}, endT τ0 τ = some τ' → ∀ (j : Nat), (∀ (d : D), τ0[j]? = some (.val d) → τ'[j]? = some (.val d)) ∧ (∀ (ds : List D), τ0[j]? = some (.io ds) → ∃ es : List D, τ[j]? = some (.io es) ∧ τ'[j]? = some (.io es)) ∧ (τ0[j]? = none → τ'[j]? = none)
  | [], _, _, h, j => by cases h; exact ⟨fun d h => (by cases h), fun d h => (by cases h), fun _ => rfl⟩
  | .io es :: r, .io ds :: r', τ', h, j => by
    obtain ⟨q, h1, h2⟩ := Option.map_eq_some_iff.mp h
    subst h2
    cases j with
    | zero => exact ⟨fun d h => (by cases h), fun d h => ⟨ds, rfl, rfl⟩, fun h => (by cases h)⟩
    | succ j => exact endT_get h1 j
  | .val d :: r, s :: r', τ', h, j => by
    obtain ⟨q, h1, h2⟩ := Option.map_eq_some_iff.mp h
    subst h2
    cases j with
    | zero => exact ⟨fun e h => (by cases h; rfl), fun e h => (by cases h), fun h => (by cases h)⟩
    | succ j => exact endT_get h1 j
  | .io _ :: _, [], _, h, _ => nomatch h
  | .io _ :: _, .un :: _, _, h, _ => nomatch h
  | .io _ :: _, .val _ :: _, _, h, _ => nomatch h
  | .io _ :: _, .own _ :: _, _, h, _ => nomatch h
  | .val _ :: _, [], _, h, _ => nomatch h
  | .un :: _, _, _, h, _ => nomatch h
  | .own _ :: _, _, _, h, _ => nomatch h
theorem endT_len : ∀ {τ0 τ τ' : Ta}, endT τ0 τ = some τ' → τ'.length = τ0.length
  | [], _, _, h => by cases h; rfl
  | .io es :: r, .io ds :: r', τ', h => by
    obtain ⟨q, h1, h2⟩ := Option.map_eq_some_iff.mp h
    subst h2
    exact congrArg (· + 1) (endT_len h1)
  | .val d :: r, s :: r', τ', h => by
    obtain ⟨q, h1, h2⟩ := Option.map_eq_some_iff.mp h
    subst h2
    exact congrArg (· + 1) (endT_len h1)
  | .io _ :: _, [], _, h => nomatch h
  | .io _ :: _, .un :: _, _, h => nomatch h
  | .io _ :: _, .val _ :: _, _, h => nomatch h
  | .io _ :: _, .own _ :: _, _, h => nomatch h
  | .val _ :: _, [], _, h => nomatch h
  | .un :: _, _, _, h => nomatch h
  | .own _ :: _, _, _, h => nomatch h
theorem okPar_get : ∀ {τ0 : Ta}, okPar τ0 → ∀ {j : Nat} {s : Sl}, τ0[j]? = some s → (∃ d, s = .val d) ∨ ∃ ds, s = .io ds
  | .val d :: r, h, 0, s, e => by cases e; exact .inl ⟨d, rfl⟩
  | .io ds :: r, h, 0, s, e => by cases e; exact .inr ⟨ds, rfl⟩
  | .val d :: r, h, j + 1, s, e => okPar_get (τ0 := r) h (j := j) e
  | .io ds :: r, h, j + 1, s, e => okPar_get (τ0 := r) h (j := j) e
  | .un :: _, h, _, _, _ => False.elim h
  | .own _ :: _, h, _, _, _ => False.elim h

section
variable {K : Fg} {fo : Addr → Prop} {ad ad' : Nat → Addr} {σ0 σ : L2.St} {τ0 τ τ' : Ta} {H H' : Hp}
/-- at a def's end: the parameters' slots -/
theorem Rep.fin (ok : okPar τ0) (R0 : Rep K ⟨H, Mu ad τ0, fo, ad⟩ ad σ0 τ0 H) (R : Rep K ⟨H, Mu ad τ0, fo, ad⟩ ad' σ τ H') (e : endT τ0 τ = some τ') :
    Rep K ⟨H, Mu ad τ0, fo, ad⟩ ad σ0 τ' H' ∧ (∀ a, Bd ⟨H, Mu ad τ0, fo, ad⟩ ad τ' a → Bd ⟨H, Mu ad τ0, fo, ad⟩ ad' τ a) ∧ kept τ0 τ' := by
  have io : ∀ {j : Nat} {es : List D}, τ'[j]? = some (.io es) → ∃ ds : List D, τ0[j]? = some (.io ds) ∧ τ[j]? = some (.io es) := fun {j es} h => by
    cases q : τ0[j]? with
    | none => rw [(endT_get e j).2.2 q] at h; cases h
    | some s =>
      rcases okPar_get ok q with ⟨d, rfl⟩ | ⟨ds, rfl⟩
      · rw [(endT_get e j).1 d q] at h; cases h
      · obtain ⟨fs, h1, h2⟩ := (endT_get e j).2.1 ds q
        rw [h2] at h
        cases h
        exact ⟨ds, rfl, h1⟩
  have own : ∀ {j : Nat} {es : List D}, OwnAt τ' j es → ∃ ds : List D, τ0[j]? = some (.io ds) ∧ τ[j]? = some (.io es) := fun {j es} h => by
    rcases h with h | h
    · exfalso
      cases q : τ0[j]? with
      | none => rw [(endT_get e j).2.2 q] at h; cases h
      | some s =>
        rcases okPar_get ok q with ⟨d, rfl⟩ | ⟨ds, rfl⟩
        · rw [(endT_get e j).1 d q] at h; cases h
        · obtain ⟨fs, h1, h2⟩ := (endT_get e j).2.1 ds q
          rw [h2] at h
          cases h
    · exact io h
  have mu : ∀ a, Mu ad τ' a → Mu ad' τ a := fun a ⟨j, ⟨es, h⟩, q⟩ => by
    obtain ⟨ds, h1, h2⟩ := own h
    exact ⟨j, ⟨es, .inr h2⟩, by rw [R.io j es h2]; exact q⟩
  have mu0 : ∀ a, Mu ad τ' a → Mu ad τ0 a := fun a ⟨j, ⟨es, h⟩, q⟩ => by
    obtain ⟨ds, h1, h2⟩ := own h
    exact ⟨j, ⟨ds, .inr h1⟩, q⟩
  have bd : ∀ a, Bd ⟨H, Mu ad τ0, fo, ad⟩ ad τ' a → Bd ⟨H, Mu ad τ0, fo, ad⟩ ad' τ a := fun a m => m.elim (fun m => .inl (mu a m)) .inr
  refine ⟨⟨fun j d h => ?_, fun j es h => ?_, fun i j ⟨ds, h⟩ ⟨es, g⟩ q => ?_, fun j es h => rfl, ?_, R.go.less mu, R.fo, fun j ⟨es, h⟩ => ?_⟩, bd, fun j ds h => ?_⟩
  · cases q : τ0[j]? with
    | none => rw [(endT_get e j).2.2 q] at h; cases h
    | some s =>
      rcases okPar_get ok q with ⟨d', rfl⟩ | ⟨ds, rfl⟩
      · rw [(endT_get e j).1 d' q] at h
        cases h
        obtain ⟨v, h1, h2⟩ := R0.val j d q
        exact ⟨v, h1, Dn.less bd (Dn.go R0.lsts R.go h2)⟩
      · obtain ⟨fs, h1, h2⟩ := (endT_get e j).2.1 ds q
        rw [h2] at h
        cases h
  · obtain ⟨ds, h1, h2⟩ := own h
    obtain ⟨_, xs, h4, h5⟩ := R.own j es (.inr h2)
    rw [R.io j es h2] at h4
    exact ⟨(R0.own j ds (.inr h1)).1, xs, h4, h5.less bd⟩
  · obtain ⟨d1, h1, h2⟩ := own h
    obtain ⟨d2, h3, h4⟩ := own g
    exact R0.inj i j ⟨d1, .inr h1⟩ ⟨d2, .inr h3⟩ q
  · rw [endT_len e]; exact R0.len
  · obtain ⟨d1, h1, h2⟩ := own h
    exact R0.nfo j ⟨d1, .inr h1⟩
  · obtain ⟨es, _, h2⟩ := (endT_get e j).2.1 ds h
    exact ⟨es, h2⟩
end
end PV
end

section
set_option maxRecDepth 100000
namespace PV
open PySem PySem.Spec PyProof.Rows L2
set_option autoImplicit false

/-! ### a def's body keeps its contract -/
theorem XF.less {K : Fg} {H : Hp} {B B' : Addr → Prop} (h : ∀ a, B' a → B a) {dx : Option Addr} {fs : List (Str × D)} (x : XF K H B dx fs) : XF K H B' dx fs := by
  cases dx with
  | none => exact x
  | some p =>
    obtain ⟨vs, h1, h2, h3⟩ := x
    exact ⟨vs, h1, h2, h3.less h⟩
theorem Rep.start {K : Fg} {F : Fr} {ad : Nat → Addr} {vs : List V} {τ : Ta} {H : Hp} (R : Rep K F ad (vs.map some) τ H) (n : Nat) : Rep K F ad (vs.map some ++ List.replicate n none) (τ ++ List.replicate n .un) H := by
  have hl : vs.length = τ.length := by rw [← List.length_map (f := some)]; exact R.len
  have get : ∀ {j : Nat} {s : Sl}, (τ ++ List.replicate n .un)[j]? = some s → s ≠ .un → τ[j]? = some s := fun {j s} h ne => by
    by_cases hj : j < τ.length
    · rwa [List.getElem?_append_left hj] at h
    · rw [List.getElem?_append_right (by omega), List.getElem?_replicate] at h
      split at h <;> cases h
      exact absurd rfl ne
  have put : ∀ {j : Nat} {o : Option V}, (vs.map some)[j]? = some o → (vs.map some ++ List.replicate n none)[j]? = some o := fun {j o} h => by
    rw [List.getElem?_append_left (List.getElem?_eq_some_iff.mp h).1]; exact h
  have own : ∀ {j : Nat} {ds : List D}, OwnAt (τ ++ List.replicate n .un) j ds → OwnAt τ j ds := fun {j ds} h => h.elim (fun h => .inl (get h fun z => nomatch z)) fun h => .inr (get h fun z => nomatch z)
  have mu : ∀ a, Mu ad (τ ++ List.replicate n .un) a → Mu ad τ a := fun a ⟨j, ⟨ds, h⟩, e⟩ => ⟨j, ⟨ds, own h⟩, e⟩
  have bd : ∀ a, Bd F ad (τ ++ List.replicate n .un) a → Bd F ad τ a := fun a m => m.elim (fun m => .inl (mu a m)) .inr
  refine ⟨fun j d h => ?_, fun j ds h => ?_, fun i j ⟨ds, h⟩ ⟨es, g⟩ q => R.inj i j ⟨ds, own h⟩ ⟨es, own g⟩ q, fun j ds h => R.io j ds (get h fun z => nomatch z), ?_, R.go.less mu, R.fo, fun j ⟨ds, h⟩ => R.nfo j ⟨ds, own h⟩⟩
  · obtain ⟨v, h1, h2⟩ := R.val j d (get h fun z => nomatch z)
    exact ⟨v, put h1, h2.less bd⟩
  · obtain ⟨h1, xs, h2, h3⟩ := R.own j ds (own h)
    exact ⟨put h1, xs, h2, h3.less bd⟩
  · rw [List.length_append, List.length_append, List.length_map, List.length_replicate, List.length_replicate, hl]

/-- the ends of a body, by its contract's wish -/
def endE (τ0 : Ta) (P : D → Ta → Prop) : PEn where
  nx := fun τ => ∃ τ', endT τ0 τ = some τ' ∧ P .none τ'
  rt := fun d τ => ∃ τ', endT τ0 τ = some τ' ∧ P d τ'
def endX (τ0 : Ta) (X : XP) : XP := fun x τ => ∃ τ', endT τ0 τ = some τ' ∧ X x τ'
def endF (τ0 : Ta) (P : List D → Ta → Prop) : PEn where
  nx := fun _ => False
  rt := fun _ _ => False
  rf := fun d τ => ∃ τ', endT τ0 τ = some τ' ∧ P d τ'
section
variable {P : Program} {w : World} {K : Fg} {mg : Str → Option Value} {base : Heap} {k : Nat} {f : Addr} {x qual : Str} {st : Stmt} {fd : FuncData} {N ps : List Str} {cl : Str → Option Value}
abbrev lcOf (K : Fg) (cl : Str → Option Value) (E : XK) : LC := ⟨K, fun c d _ H => E c d H, cl⟩
theorem gn_def {ct : WE} {b : WS} (G : Fun K x qual st f fd) (S : FnScope N ps (defScope st))
    (der : ∀ (cdv : Value) (A : Around) (outer : List Env) (s : Shared) (H : Hp) (E : XK), Room k (A.deeper (envOfC qual (defScope st) s.heap.objs.size f cdv)) → A.guards = some [] →
      PSs (cxOf (L2.CX P w) P w K mg base N qual (defScope st) f cdv A outer s H E) (defBody st) (liftS (lcOf K cl E) b))
    (vc : ∀ (τ0 : Ta) (Xp : XP) (Q : D → Ta → Prop), τ0.length = ps.length → okPar τ0 → ct τ0 Xp Q → b (endE τ0 Q) (endX τ0 Xp) (τ0 ++ List.replicate (N.length - ps.length) .un)) :
    FnG P w K mg base (k + 1) f fd ps (spOf K cl ps.length ct) := by
  refine gn_of G S (fun vs H Q E h => h.1) fun cdv A outer s H vs Q E hr hg hsp => ⟨_, der cdv A outer s H E hr hg, ?_⟩
  obtain ⟨hl, fo, ad, τ0, Pw, Xp, ok, R, hct, fin, finX⟩ := hsp
  have hl0 : τ0.length = ps.length := by rw [← R.len, List.length_map]; exact hl
  refine ⟨⟨H, Mu ad τ0, fo, ad⟩, ad, τ0 ++ List.replicate (N.length - ps.length) .un, endX τ0 Xp, endE τ0 Pw, ?_, ?_, vc τ0 Xp Pw hl0 ok hct, ?_⟩
  · have := R.start (N.length - ps.length)
    unfold L2.start
    rw [hl]
    exact this
  · intro y τ ad' σ dx H' v ⟨τ', e, hx⟩ R' hv xf
    obtain ⟨r1, r2, r3⟩ := R.fin ok R' e
    exact finX y τ' dx H' v hx r3 r1 hv (xf.less r2)
  · exact ⟨fun τ ad' σ H' ⟨τ', e, hp⟩ R' => by
      obtain ⟨r1, r2, r3⟩ := R.fin ok R' e
      exact fin .none τ' .non H' hp r3 r1 .non,
    fun d τ ad' σ v H' ⟨τ', e, hp⟩ R' dn => by
      obtain ⟨r1, r2, r3⟩ := R.fin ok R' e
      exact fin d τ' v H' hp r3 r1 (dn.less r2), fun _ _ _ _ _ _ _ h => h.elim, fun _ _ _ _ h => h.elim, fun _ _ _ _ h => h.elim⟩
theorem gn_defF {ct : WA} {b : WS} (G : Fun K x qual st f fd) (S : FnScope N ps (defScope st))
    (der : ∀ (cdv : Value) (A : Around) (outer : List Env) (s : Shared) (H : Hp) (E : XK), Room k (A.deeper (envOfC qual (defScope st) s.heap.objs.size f cdv)) → A.guards = some [] →
      PSs (cxOf (L2.CX P w) P w K mg base N qual (defScope st) f cdv A outer s H E) (defBody st) (liftS (lcOf K cl E) b))
    (vc : ∀ (τ0 : Ta) (Xp : XP) (Q : List D → Ta → Prop), τ0.length = ps.length → okPar τ0 → ct τ0 Xp Q → b (endF τ0 Q) (endX τ0 Xp) (τ0 ++ List.replicate (N.length - ps.length) .un)) :
    FnG P w K mg base (k + 1) f fd ps (spOfF K cl ps.length ct) := by
  refine gn_of G S (fun vs H Q E h => h.1) fun cdv A outer s H vs Q E hr hg hsp => ⟨_, der cdv A outer s H E hr hg, ?_⟩
  obtain ⟨hl, fo, ad, τ0, Pw, Xp, ok, R, hct, fin, finX⟩ := hsp
  have hl0 : τ0.length = ps.length := by rw [← R.len, List.length_map]; exact hl
  refine ⟨⟨H, Mu ad τ0, fo, ad⟩, ad, τ0 ++ List.replicate (N.length - ps.length) .un, endX τ0 Xp, endF τ0 Pw, ?_, ?_, vc τ0 Xp Pw hl0 ok hct, ?_⟩
  · have := R.start (N.length - ps.length)
    unfold L2.start
    rw [hl]
    exact this
  · intro y τ ad' σ dx H' v ⟨τ', e, hx⟩ R' hv xf
    obtain ⟨r1, r2, r3⟩ := R.fin ok R' e
    exact finX y τ' dx H' v hx r3 r1 hv (xf.less r2)
  · refine ⟨fun _ _ _ _ h => h.elim, fun _ _ _ _ _ _ h => h.elim, fun ds τ ad' σ p xs H' ⟨τ', e, hp⟩ R' h0 hf hx dn => ?_, fun _ _ _ _ h => h.elim, fun _ _ _ _ h => h.elim⟩
    have R0 : Rep K ⟨H, Mu ad τ0, fun a => fo a ∨ a = p, ad⟩ ad (vs.map some) τ0 (upd H p (.lst [])) := R.plus h0 (same_upd h0) (by rw [upd_same]; exact fun z => nomatch z)
    have R0' : Rep K ⟨upd H p (.lst []), Mu ad τ0, fun a => fo a ∨ a = p, ad⟩ ad (vs.map some) τ0 (upd H p (.lst [])) := R0.here
    -- the list may stand there from the start, for the parameters' sake
    have g : Go (upd H p (.lst [])) (fun a => Mu ad τ0 a ∨ a = p) H' (fun a => Mu ad' τ a ∨ a = p) := by
      refine ⟨fun a o q n => R'.go.keep a o (by rwa [upd_ne (fun z => n (.inr z))] at q) (fun m => n (.inl m)), fun a m => ?_, fun a q z => ?_⟩
      · rcases m with m | m
        · rcases R'.go.new a m with m | z
          · exact .inl (.inl m)
          · by_cases q : a = p
            · exact .inl (.inr q)
            · exact .inr (by rw [upd_ne q]; exact z)
        · exact .inl (.inr m)
      · by_cases w : a = p
        · rw [w, hx] at z; cases z
        · rw [upd_ne w] at q; exact R'.go.there a q z
    have lsts : Lsts (upd H p (.lst [])) (fun a => Mu ad τ0 a ∨ a = p) := fun a m => by
      by_cases w : a = p
      · exact ⟨[], by rw [w]; exact upd_same⟩
      · obtain ⟨ys, q⟩ := R.lsts a (m.resolve_right w)
        exact ⟨ys, by rw [upd_ne w]; exact q⟩
    obtain ⟨r1, r2, r3⟩ : Rep K ⟨H, Mu ad τ0, fun a => fo a ∨ a = p, ad⟩ ad (vs.map some) τ' H' ∧ (∀ a, Bd ⟨H, Mu ad τ0, fun a => fo a ∨ a = p, ad⟩ ad τ' a → Bd ⟨H, Mu ad τ0, fun a => fo a ∨ a = p, ad⟩ ad' τ a) ∧ kept τ0 τ' := by
      have own : ∀ {j : Nat} {es : List D}, OwnAt τ' j es → ∃ ds : List D, τ0[j]? = some (.io ds) ∧ τ[j]? = some (.io es) := fun {j es} h => by
        cases q : τ0[j]? with
        | none => rcases h with h | h <;> (rw [(endT_get e j).2.2 q] at h; cases h)
        | some s =>
          rcases okPar_get ok q with ⟨d, rfl⟩ | ⟨ds, rfl⟩
          · rcases h with h | h <;> (rw [(endT_get e j).1 d q] at h; cases h)
          · obtain ⟨fs, h1, h2⟩ := (endT_get e j).2.1 ds q
            rcases h with h | h <;> (rw [h2] at h; cases h)
            exact ⟨ds, rfl, h1⟩
      have mu : ∀ a, Mu ad τ' a → Mu ad' τ a := fun a ⟨j, ⟨es, h⟩, q⟩ => by
        obtain ⟨ds, h1, h2⟩ := own h
        exact ⟨j, ⟨es, .inr h2⟩, by rw [R'.io j es h2]; exact q⟩
      have bd : ∀ a, Bd ⟨H, Mu ad τ0, fun a => fo a ∨ a = p, ad⟩ ad τ' a → Bd ⟨H, Mu ad τ0, fun a => fo a ∨ a = p, ad⟩ ad' τ a := fun a m => m.elim (fun m => .inl (mu a m)) .inr
      refine ⟨⟨fun j d h => ?_, fun j es h => ?_, fun i j ⟨ds, h⟩ ⟨es, g⟩ q => ?_, fun j es h => rfl, ?_, R'.go.less mu, R'.fo, fun j ⟨es, h⟩ => ?_⟩, bd, fun j ds h => ?_⟩
      · cases q : τ0[j]? with
        | none => rw [(endT_get e j).2.2 q] at h; cases h
        | some s =>
          rcases okPar_get ok q with ⟨d', rfl⟩ | ⟨ds, rfl⟩
          · rw [(endT_get e j).1 d' q] at h
            cases h
            obtain ⟨v, h1, h2⟩ := R0.val j d q
            refine ⟨v, h1, Dn.less (fun a m => ?_) (Dn.go (fo := fo) lsts g (h2.less fun a m => ?_))⟩
            · rcases bd a m with m | m | m
              · exact .inl (.inl m)
              · exact .inr m
              · exact .inl (.inr m)
            · rcases m with (m | m) | m
              · exact .inl m
              · exact .inr (.inr m)
              · exact .inr (.inl m)
          · obtain ⟨fs, h1, h2⟩ := (endT_get e j).2.1 ds q
            rw [h2] at h
            cases h
      · obtain ⟨ds, h1, h2⟩ := own h
        obtain ⟨_, ys, h4, h5⟩ := R'.own j es (.inr h2)
        rw [R'.io j es h2] at h4
        exact ⟨(R.own j ds (.inr h1)).1, ys, h4, h5.less bd⟩
      · obtain ⟨d1, h1, _⟩ := own h
        obtain ⟨d2, h3, _⟩ := own g
        exact R.inj i j ⟨d1, .inr h1⟩ ⟨d2, .inr h3⟩ q
      · rw [endT_len e]; exact R.len
      · obtain ⟨d1, h1, h2⟩ := own h
        have := R'.nfo j ⟨es, .inr h2⟩
        rwa [R'.io j es h2] at this
      · obtain ⟨es, _, h2⟩ := (endT_get e j).2.1 ds h
        exact ⟨es, h2⟩
    exact fin ds τ' p xs H' hp r3 r1 h0 hf hx (dn.less r2)
end

/-! ### a call -/
inductive Ar where
  | v (d : D)
  | s (i : Nat)
abbrev WAr := Ta → XP → (List Ar → Ta → Prop) → Prop
def arNil : WAr := fun τ _ P => P [] τ
def arE (a : WE) (r : WAr) : WAr := fun τ X P => a τ X fun d τ1 => r τ1 X fun as τ2 => P (.v d :: as) τ2
def arS (i : Nat) (r : WAr) : WAr := fun τ X P => hasL τ i ∧ r τ X fun as τ1 => P (.s i :: as) τ1
inductive ArR (K : Fg) (H : Hp) (B : Addr → Prop) (σ : L2.St) : List V → List Ar → Prop
  | nil : ArR K H B σ [] []
  | v {x : V} {vs : List V} {d : D} {as : List Ar} : Dn K H B x d → ArR K H B σ vs as → ArR K H B σ (x :: vs) (.v d :: as)
  | s {x : V} {vs : List V} {i : Nat} {as : List Ar} : σ[i]? = some (some x) → ArR K H B σ vs as → ArR K H B σ (x :: vs) (.s i :: as)
def liftAr (c : LC) (w : WAr) : TA := fun σ H Q => ∃ F ad τ X P, Rep c.K F ad σ τ H ∧ XOk c F X ∧ w τ X P ∧
  ∀ as τ' vs H', P as τ' → Rep c.K F ad σ τ' H' → ArR c.K H' (Bd F ad τ') σ vs as → Q vs H'
theorem useAr {c : LC} {F : Fr} {ad : Nat → Addr} {σ : L2.St} {τ : Ta} {H : Hp} {X : XP} {w : WAr} {P : List Ar → Ta → Prop} {Q : List V → Hp → Prop} (R : Rep c.K F ad σ τ H) (x : XOk c F X) (h : w τ X P)
    (k : ∀ ds τ' vs H', P ds τ' → Rep c.K F ad σ τ' H' → Rep c.K (F.here ad τ H) ad σ τ' H' → ArR c.K H' (Bd F ad τ') σ vs ds → Q vs H') : liftAr c w σ H Q :=
  ⟨F.here ad τ H, ad, τ, X, P, R.here, x.here R, h, fun d τ' v H' p R' dn => k d τ' v H' p (R.back R') R' dn⟩
section
variable {X : Cx} {c : LC} {pos : Pos}
theorem ppr_nil : PA X [] (liftAr c arNil) := PA.imp pa_nil fun σ H Q ⟨F, ad, τ, Xp, P, R, x, h, k⟩ => k [] τ [] H h R .nil
theorem ppr_e {e : Expr} {es : List Expr} {a : WE} {r : WAr} (ha : PE X e (liftE c a)) (hr : PA X es (liftAr c r)) (hs : starEach (e :: es) X.env = (false, eval e X.env) :: starEach es X.env := by rfl) : PA X (e :: es) (liftAr c (arE a r)) :=
  PA.imp (pa_cons ha hr hs) fun σ H Q ⟨F, ad, τ, Xp, P, R, x, h, k⟩ => useE R x h fun d τ1 v H1 h1 R1 _ dn1 => useAr R1 x h1 fun ds τ2 vs H2 h2 R2 R2' dn2 =>
    k _ τ2 _ H2 h2 R2 (.v (R1.carry R2' dn1) dn2)
theorem ppr_s {i : Nat} {y : Str} {p : Pos} {es : List Expr} {r : WAr} (ha : PE X (.Name y p) (tVar i)) (hr : PA X es (liftAr c r)) (hs : starEach (.Name y p :: es) X.env = (false, eval (.Name y p) X.env) :: starEach es X.env := by rfl) : PA X (.Name y p :: es) (liftAr c (arS i r)) :=
  PA.imp (pa_cons ha hr hs) fun σ H Q ⟨F, ad, τ, Xp, P, R, x, ⟨h0, h⟩, k⟩ => ⟨_, (R.tyL h0).1, useAr R x h fun ds τ2 vs H2 h2 R2 R2' dn2 => k _ τ2 _ H2 h2 R2 (.s (R.tyL h0).1 dn2)⟩

def pars (τ : Ta) : List Ar → Option Ta
  | [] => some []
  | .v d :: r => (pars τ r).map (.val d :: ·)
  | .s i :: r => match getL τ i with
    | some ds => (pars τ r).map (.io ds :: ·)
    | none => none
def slotsA : List Ar → List Nat
  | [] => []
  | .v _ :: r => slotsA r
  | .s i :: r => i :: slotsA r
def backA : List Ar → Ta → Ta → Ta
  | .s i :: r, .io ds :: t, τ => setL (backA r t τ) i ds
  | _ :: r, _ :: t, τ => backA r t τ
  | _, _, τ => τ
/-- f(..), by its contract -/
def wFn (n : Nat) (ct : WE) (ar : WAr) : WE := fun τ X P => ar τ X fun as τ1 => ∃ τ0, pars τ1 as = some τ0 ∧ (as.length = n ∧ (slotsA as).Nodup) ∧ ct τ0 (fun x τ' => X x (backA as τ' τ1)) (fun d τ' => P d (backA as τ' τ1))
def wFnF (n : Nat) (ct : WA) (ar : WAr) : WA := fun τ X P => ar τ X fun as τ1 => ∃ τ0, pars τ1 as = some τ0 ∧ (as.length = n ∧ (slotsA as).Nodup) ∧ ct τ0 (fun x τ' => X x (backA as τ' τ1)) (fun d τ' => P d (backA as τ' τ1))
end
end PV
end

section
set_option maxRecDepth 100000
namespace PV
open PySem PySem.Spec PyProof.Rows L2
set_option autoImplicit false

theorem pars_get : ∀ {τ : Ta} {as : List Ar} {τ0 : Ta}, pars τ as = some τ0 → ∀ j : Nat, (as[j]? = none → τ0[j]? = none) ∧ (∀ d : D, as[j]? = some (.v d) → τ0[j]? = some (.val d)) ∧ (∀ i : Nat, as[j]? = some (.s i) → ∃ ds : List D, getL τ i = some ds ∧ τ0[j]? = some (.io ds))
  | _, [], _, h, j => by cases h; exact ⟨fun _ => rfl, fun _ h => (by cases h), fun _ h => (by cases h)⟩
  | τ, .v d :: r, _, h, j => by
    obtain ⟨q, h1, h2⟩ := Option.map_eq_some_iff.mp h
    subst h2
    cases j with
    | zero => exact ⟨fun h => (by cases h), fun e h => (by cases h; rfl), fun i h => (by cases h)⟩
    | succ j => exact pars_get h1 j
  | τ, .s i :: r, _, h, j => by
    unfold pars at h
    cases q : getL τ i with
    | none => rw [q] at h; cases h
    | some ds =>
      rw [q] at h
      obtain ⟨q2, h1, h2⟩ := Option.map_eq_some_iff.mp h
      subst h2
      cases j with
      | zero => exact ⟨fun h => (by cases h), fun e h => (by cases h), fun i h => (by cases h; exact ⟨ds, q, rfl⟩)⟩
      | succ j => exact pars_get h1 j
theorem pars_ok : ∀ {τ : Ta} {as : List Ar} {τ0 : Ta}, pars τ as = some τ0 → okPar τ0
  | _, [], _, h => by cases h; trivial
  | τ, .v d :: r, _, h => by
    obtain ⟨q, h1, h2⟩ := Option.map_eq_some_iff.mp h
    subst h2
    exact (show okPar q from pars_ok (as := r) h1)
  | τ, .s i :: r, _, h => by
    unfold pars at h
    cases q : getL τ i with
    | none => rw [q] at h; cases h
    | some ds =>
      rw [q] at h
      obtain ⟨q2, h1, h2⟩ := Option.map_eq_some_iff.mp h
      subst h2
      exact (show okPar q2 from pars_ok (as := r) h1)
theorem pars_len : ∀ {τ : Ta} {as : List Ar} {τ0 : Ta}, pars τ as = some τ0 → τ0.length = as.length
  | _, [], _, h => by cases h; rfl
  | τ, .v d :: r, _, h => by
    obtain ⟨q, h1, h2⟩ := Option.map_eq_some_iff.mp h
    subst h2
    exact congrArg (· + 1) (pars_len (as := r) h1)
  | τ, .s i :: r, _, h => by
    unfold pars at h
    cases q : getL τ i with
    | none => rw [q] at h; cases h
    | some ds =>
      rw [q] at h
      obtain ⟨q2, h1, h2⟩ := Option.map_eq_some_iff.mp h
      subst h2
      exact congrArg (· + 1) (pars_len (as := r) h1)
section
variable {K : Fg} {H : Hp} {B : Addr → Prop} {σ : L2.St}
theorem ArR.len : ∀ {vs : List V} {as : List Ar}, ArR K H B σ vs as → vs.length = as.length
  | _, _, .nil => rfl
  | _, _, .v _ r => congrArg (· + 1) r.len
  | _, _, .s _ r => congrArg (· + 1) r.len
theorem ArR.get : ∀ {vs : List V} {as : List Ar}, ArR K H B σ vs as → ∀ j : Nat, (∀ d : D, as[j]? = some (.v d) → ∃ x, vs[j]? = some x ∧ Dn K H B x d) ∧ (∀ i : Nat, as[j]? = some (.s i) → ∃ x, vs[j]? = some x ∧ σ[i]? = some (some x))
  | _, _, .nil, j => ⟨fun _ h => (by cases h), fun _ h => (by cases h)⟩
  | _, _, .v dn r, 0 => ⟨fun _ h => (by cases h; exact ⟨_, rfl, dn⟩), fun _ h => (by cases h)⟩
  | _, _, .s e r, 0 => ⟨fun _ h => (by cases h), fun _ h => (by cases h; exact ⟨_, rfl, e⟩)⟩
  | _, _, .v dn r, j + 1 => r.get j
  | _, _, .s e r, j + 1 => r.get j
end
theorem slots_mem : ∀ {as : List Ar} {j i : Nat}, as[j]? = some (.s i) → i ∈ slotsA as
  | .v d :: r, 0, _, h => by cases h
  | .s i :: r, 0, _, h => by cases h; exact List.mem_cons_self
  | .v d :: r, j + 1, _, h => slots_mem (as := r) (j := j) h
  | .s i :: r, j + 1, _, h => List.mem_cons_of_mem _ (slots_mem (as := r) (j := j) h)
theorem slots_inj : ∀ {as : List Ar} {j l i : Nat}, (slotsA as).Nodup → as[j]? = some (.s i) → as[l]? = some (.s i) → j = l
  | .v d :: r, 0, _, _, _, h, _ => by cases h
  | .v d :: r, _ + 1, 0, _, _, _, h => by cases h
  | .v d :: r, j + 1, l + 1, _, n, h, g => congrArg (· + 1) (slots_inj (as := r) n h g)
  | .s i :: r, 0, 0, _, _, _, _ => rfl
  | .s i :: r, 0, l + 1, _, n, h, g => by cases h; exact absurd (slots_mem (as := r) (j := l) g) (List.nodup_cons.mp n).1
  | .s i :: r, j + 1, 0, _, n, h, g => by cases g; exact absurd (slots_mem (as := r) (j := j) h) (List.nodup_cons.mp n).1
  | .s i :: r, j + 1, l + 1, _, n, h, g => congrArg (· + 1) (slots_inj (as := r) (List.nodup_cons.mp n).2 h g)

theorem back_len : ∀ {as : List Ar} {τ' τ : Ta}, (backA as τ' τ).length = τ.length
  | [], _, _ => rfl
  | .v d :: r, [], _ => rfl
  | .s i :: r, [], _ => rfl
  | .v d :: r, s :: t, τ => by unfold backA; exact back_len
  | .s i :: r, .io ds :: t, τ => by unfold backA; rw [setL_len]; exact back_len
  | .s i :: r, .un :: t, τ => by unfold backA; exact back_len
  | .s i :: r, .val d :: t, τ => by unfold backA; exact back_len
  | .s i :: r, .own ds :: t, τ => by unfold backA; exact back_len
/-- the caller's slots behind the call -/
theorem back_own : ∀ {as : List Ar} {τ' τ : Ta}, (slotsA as).Nodup → (∀ j i : Nat, as[j]? = some (.s i) → (∃ es : List D, τ'[j]? = some (.io es)) ∧ IsOwn τ i) → ∀ i : Nat,
    (∀ es : List D, OwnAt (backA as τ' τ) i es → (∃ j : Nat, as[j]? = some (.s i) ∧ τ'[j]? = some (.io es)) ∨ (i ∉ slotsA as ∧ OwnAt τ i es)) ∧ (IsOwn τ i → IsOwn (backA as τ' τ) i)
  | [], τ', τ, _, _, i => by
    have e : backA [] τ' τ = τ := by cases τ' <;> rfl
    rw [e]
    exact ⟨fun es h => .inr ⟨fun m => (by cases m), h⟩, id⟩
  | .v d :: r, [], τ, n, k, i => by
    refine ⟨fun es h => .inr ⟨fun m => ?_, h⟩, id⟩
    exfalso
    -- no list is handed over, as none stands behind
    obtain ⟨j, hj⟩ : ∃ j : Nat, r[j]? = some (Ar.s i) := by
      have go : ∀ (l : List Ar), i ∈ slotsA l → ∃ j : Nat, l[j]? = some (Ar.s i) := fun l => by
        induction l with
        | nil => intro h; cases h
        | cons a l ih =>
          intro h
          cases a with
          | v d => obtain ⟨j, q⟩ := ih h; exact ⟨j + 1, q⟩
          | s z =>
            rcases List.mem_cons.mp h with e | h
            · subst e; exact ⟨0, rfl⟩
            · obtain ⟨j, q⟩ := ih h; exact ⟨j + 1, q⟩
      exact go r m
    obtain ⟨⟨es, q⟩, _⟩ := k (j + 1) i hj
    cases q
  | .s z :: r, [], τ, n, k, i => by
    obtain ⟨⟨es, q⟩, _⟩ := k 0 z rfl
    cases q
  | .v d :: r, s :: t, τ, n, k, i => by
    have ih := back_own (as := r) (τ' := t) (τ := τ) n (fun j i h => k (j + 1) i h) i
    unfold backA
    refine ⟨fun es h => ?_, ih.2⟩
    rcases ih.1 es h with ⟨j, h1, h2⟩ | h
    · exact .inl ⟨j + 1, h1, h2⟩
    · exact .inr h
  | .s z :: r, .io ds :: t, τ, n, k, i => by
    have n2 := List.nodup_cons.mp n
    have ih := fun i => back_own (as := r) (τ' := t) (τ := τ) n2.2 (fun j i h => k (j + 1) i h) i
    unfold backA
    obtain ⟨es0, o0⟩ := (ih z).2 (k 0 z rfl).2
    refine ⟨fun es h => ?_, fun o => ?_⟩
    · rcases own_setL o0 h with ⟨e1, e2⟩ | ⟨ne, h⟩
      · subst e1 e2; exact .inl ⟨0, rfl, rfl⟩
      · rcases (ih i).1 es h with ⟨j, h1, h2⟩ | ⟨h1, h2⟩
        · exact .inl ⟨j + 1, h1, h2⟩
        · exact .inr ⟨fun m => (List.mem_cons.mp m).elim ne h1, h2⟩
    · by_cases e : i = z
      · subst e; exact ⟨ds, setL_own o0⟩
      · obtain ⟨fs, q⟩ := (ih i).2 o
        refine ⟨fs, ?_⟩
        have hz : ∀ es, setL (backA r t τ) z es = (match (backA r t τ)[z]? with | some (.own _) => (backA r t τ).set z (.own es) | some (.io _) => (backA r t τ).set z (.io es) | _ => backA r t τ) := fun _ => rfl
        unfold OwnAt at q ⊢
        rcases o0 with o0 | o0 <;>
        · rw [hz, o0]
          simp only
          rw [List.getElem?_set_ne (Ne.symm e)]
          exact q
  | .s z :: r, .un :: t, τ, n, k, i => by obtain ⟨⟨es, q⟩, _⟩ := k 0 z rfl; cases q
  | .s z :: r, .val d :: t, τ, n, k, i => by obtain ⟨⟨es, q⟩, _⟩ := k 0 z rfl; cases q
  | .s z :: r, .own ds :: t, τ, n, k, i => by obtain ⟨⟨es, q⟩, _⟩ := k 0 z rfl; cases q
theorem setL_val' {τ : Ta} {i : Nat} {es : List D} {j : Nat} {d : D} (g : (setL τ i es)[j]? = some (.val d)) : τ[j]? = some (.val d) := by
  unfold setL at g
  split at g
  · rename_i fs e
    exact setL_val (es := es) (.inl e) (by unfold setL; rw [e]; exact g)
  · rename_i fs e
    exact setL_val (es := es) (.inr e) (by unfold setL; rw [e]; exact g)
  · exact g
theorem setL_io' {τ : Ta} {i : Nat} {es : List D} {j : Nat} {fs : List D} (g : (setL τ i es)[j]? = some (.io fs)) : ∃ gs, τ[j]? = some (.io gs) := by
  unfold setL at g
  split at g
  · rename_i hs e
    exact setL_io (es := es) (.inl e) (by unfold setL; rw [e]; exact g)
  · rename_i hs e
    exact setL_io (es := es) (.inr e) (by unfold setL; rw [e]; exact g)
  · exact ⟨_, g⟩
theorem back_val : ∀ {as : List Ar} {τ' τ : Ta} {i : Nat} {d : D}, (backA as τ' τ)[i]? = some (.val d) → τ[i]? = some (.val d)
  | [], τ', τ, i, d, h => by cases τ' <;> exact h
  | .v _ :: r, [], τ, i, d, h => h
  | .s _ :: r, [], τ, i, d, h => h
  | .v _ :: r, s :: t, τ, i, d, h => back_val (as := r) (τ' := t) h
  | .s z :: r, .io ds :: t, τ, i, d, h => back_val (as := r) (τ' := t) (setL_val' (show (setL (backA r t τ) z ds)[i]? = some (.val d) from h))
  | .s z :: r, .un :: t, τ, i, d, h => back_val (as := r) (τ' := t) h
  | .s z :: r, .val _ :: t, τ, i, d, h => back_val (as := r) (τ' := t) h
  | .s z :: r, .own _ :: t, τ, i, d, h => back_val (as := r) (τ' := t) h
theorem back_io : ∀ {as : List Ar} {τ' τ : Ta} {i : Nat} {fs : List D}, (backA as τ' τ)[i]? = some (.io fs) → ∃ gs, τ[i]? = some (.io gs)
  | [], τ', τ, i, d, h => by cases τ' <;> exact ⟨_, h⟩
  | .v _ :: r, [], τ, i, d, h => ⟨_, h⟩
  | .s _ :: r, [], τ, i, d, h => ⟨_, h⟩
  | .v _ :: r, s :: t, τ, i, d, h => back_io (as := r) (τ' := t) h
  | .s z :: r, .io ds :: t, τ, i, d, h => by
    obtain ⟨gs, q⟩ := setL_io' (show (setL (backA r t τ) z ds)[i]? = some (.io d) from h)
    exact back_io (as := r) (τ' := t) q
  | .s z :: r, .un :: t, τ, i, d, h => back_io (as := r) (τ' := t) h
  | .s z :: r, .val _ :: t, τ, i, d, h => back_io (as := r) (τ' := t) h
  | .s z :: r, .own _ :: t, τ, i, d, h => back_io (as := r) (τ' := t) h

section
variable {K : Fg} {F : Fr} {ad : Nat → Addr} {σ : L2.St} {τ τ0 τ' : Ta} {H H' : Hp} {vs : List V} {as : List Ar}
def adA (ad : Nat → Addr) (as : List Ar) : Nat → Addr := fun j => match as[j]? with
  | some (.s i) => ad i
  | _ => 0
/-- what a callee may not touch -/
def foA (F : Fr) (ad : Nat → Addr) (τ : Ta) (as : List Ar) (τ0 : Ta) : Addr → Prop := fun a => Bd F ad τ a ∧ ¬ Mu (adA ad as) τ0 a
theorem par_own (hp : pars τ as = some τ0) {j : Nat} {ds : List D} (h : OwnAt τ0 j ds) : ∃ i : Nat, as[j]? = some (.s i) ∧ getL τ i = some ds ∧ adA ad as j = ad i := by
  cases q : as[j]? with
  | none => rcases h with h | h <;> (rw [(pars_get hp j).1 q] at h; cases h)
  | some a =>
    cases a with
    | v d => rcases h with h | h <;> (rw [(pars_get hp j).2.1 d q] at h; cases h)
    | s i =>
      obtain ⟨es, h1, h2⟩ := (pars_get hp j).2.2 i q
      rcases h with h | h <;> (rw [h2] at h; cases h)
      exact ⟨i, rfl, h1, by unfold adA; rw [q]⟩
theorem muA (hp : pars τ as = some τ0) : ∀ a, Mu (adA ad as) τ0 a → ∃ i : Nat, i ∈ slotsA as ∧ IsOwn τ i ∧ ad i = a := fun a ⟨j, ⟨ds, h⟩, e⟩ => by
  obtain ⟨i, h1, h2, h3⟩ := par_own (ad := ad) hp h
  exact ⟨i, slots_mem h1, ⟨ds, getL_own h2⟩, by rw [← h3]; exact e⟩
theorem Rep.enter (R : Rep K F ad σ τ H) (ar : ArR K H (Bd F ad τ) σ vs as) (hp : pars τ as = some τ0) (nd : (slotsA as).Nodup) :
    Rep K ⟨H, Mu (adA ad as) τ0, foA F ad τ as τ0, adA ad as⟩ (adA ad as) (vs.map some) τ0 H := by
  have bd : ∀ a, Bd ⟨H, Mu (adA ad as) τ0, foA F ad τ as τ0, adA ad as⟩ (adA ad as) τ0 a → Bd F ad τ a := fun a m => by
    rcases m with m | m
    · obtain ⟨i, _, h, e⟩ := muA hp a m
      exact .inl ⟨i, h, e⟩
    · exact m.1
  refine ⟨fun j d h => ?_, fun j ds h => ?_, fun j l ⟨ds, h⟩ ⟨es, g⟩ e => ?_, fun _ _ _ => rfl, by rw [List.length_map, ar.len, pars_len hp], Go.refl _ _, fun a m => R.bthere a m.1, fun j h m => m.2 ⟨j, h, rfl⟩⟩
  · cases q : as[j]? with
    | none => rw [(pars_get hp j).1 q] at h; cases h
    | some a =>
      cases a with
      | v d' =>
        rw [(pars_get hp j).2.1 d' q] at h
        cases h
        obtain ⟨x, h1, h2⟩ := (ar.get j).1 d q
        exact ⟨x, by rw [List.getElem?_map, h1]; rfl, h2.less bd⟩
      | s i =>
        obtain ⟨es, h1, h2⟩ := (pars_get hp j).2.2 i q
        rw [h2] at h; cases h
  · obtain ⟨i, h1, h2, h3⟩ := par_own (ad := ad) hp h
    obtain ⟨e1, xs, e2, e3⟩ := R.getL h2
    obtain ⟨x, h4, h5⟩ := (ar.get j).2 i h1
    rw [h5] at e1
    cases e1
    rw [h3]
    exact ⟨by rw [List.getElem?_map, h4]; rfl, xs, e2, e3.less bd⟩
  · obtain ⟨i, h1, h2, h3⟩ := par_own (ad := ad) hp h
    obtain ⟨i2, h4, h5, h6⟩ := par_own (ad := ad) hp g
    rw [h3, h6] at e
    have := R.inj i i2 ⟨ds, getL_own h2⟩ ⟨es, getL_own h5⟩ e
    subst this
    exact slots_inj nd h1 h4
theorem Rep.leave {fo' Ff' : Addr → Prop} (R : Rep K F ad σ τ H) (ar : ArR K H (Bd F ad τ) σ vs as) (hp : pars τ as = some τ0) (nd : (slotsA as).Nodup) (kp : kept τ0 τ')
    (R' : Rep K ⟨H, Mu (adA ad as) τ0, fo', adA ad as⟩ (adA ad as) (vs.map some) τ' H') (g1 : ∀ a, fo' a → foA F ad τ as τ0 a ∨ H a = none) (g2 : ∀ a, Ff' a → fo' a) (g3 : ∀ a, foA F ad τ as τ0 a → fo' a) (g4 : ∀ i : Nat, IsOwn τ i → ¬ Ff' (ad i)) :
    Rep K { F with fo := Ff' } ad σ (backA as τ' τ) H' ∧ ∀ a, Bd { F with fo := Ff' } ad (backA as τ' τ) a → Bd ⟨H, Mu (adA ad as) τ0, fo', adA ad as⟩ (adA ad as) τ' a := by
  have R0 := R.enter ar hp nd
  have hk : ∀ j i : Nat, as[j]? = some (.s i) → (∃ es : List D, τ'[j]? = some (.io es)) ∧ IsOwn τ i := fun j i h => by
    obtain ⟨ds, h1, h2⟩ := (pars_get hp j).2.2 i h
    exact ⟨kp j ds h2, ⟨ds, getL_own h1⟩⟩
  have bo := back_own nd hk
  have isown : ∀ {i : Nat}, IsOwn (backA as τ' τ) i → IsOwn τ i := fun {i} ⟨es, h⟩ => by
    rcases (bo i).1 es h with ⟨j, h1, _⟩ | ⟨_, h⟩
    · exact (hk j i h1).2
    · exact ⟨es, h⟩
  have mu : ∀ a, Mu ad (backA as τ' τ) a → Mu ad τ a := fun a ⟨i, h, e⟩ => ⟨i, isown h, e⟩
  have nomu : ∀ {i : Nat}, i ∉ slotsA as → IsOwn τ i → ¬ Mu (adA ad as) τ0 (ad i) := fun {i} hn ho m => by
    obtain ⟨z, h1, h2, h3⟩ := muA hp _ m
    have := R.inj z i h2 ho h3
    subst this
    exact hn h1
  have bd : ∀ a, Bd { F with fo := Ff' } ad (backA as τ' τ) a → Bd ⟨H, Mu (adA ad as) τ0, fo', adA ad as⟩ (adA ad as) τ' a := fun a m => by
    rcases m with ⟨i, ⟨es, h⟩, e⟩ | m
    · rcases (bo i).1 es h with ⟨j, h1, h2⟩ | ⟨hn, h⟩
      · exact .inl ⟨j, ⟨es, .inr h2⟩, by unfold adA; rw [h1]; exact e⟩
      · refine .inr (g3 a ⟨.inl ⟨i, ⟨es, h⟩, e⟩, ?_⟩)
        rw [← e]
        exact nomu hn ⟨es, h⟩
    · exact .inr (g2 a m)
  have up : ∀ a, Bd ⟨H, Mu (adA ad as) τ0, foA F ad τ as τ0, adA ad as⟩ (adA ad as) τ0 a → Bd F ad τ a := fun a m => by
    rcases m with m | m
    · obtain ⟨i, _, h, e⟩ := muA hp a m
      exact .inl ⟨i, h, e⟩
    · exact m.1
  have carry : ∀ {v : V} {d : D}, Dn K H (Bd F ad τ) v d → Dn K H' (Bd { F with fo := Ff' } ad (backA as τ' τ)) v d := fun h => Dn.less bd (Dn.go2 (fo := foA F ad τ as τ0) (fo' := fo') R0.lsts R'.go g1 (h.less up))
  have carryA : ∀ {v : List V} {d : List D}, DnA K H (Bd F ad τ) v d → DnA K H' (Bd { F with fo := Ff' } ad (backA as τ' τ)) v d := fun h => DnA.less bd (DnA.go2 (fo := foA F ad τ as τ0) (fo' := fo') R0.lsts R'.go g1 (h.less up))
  refine ⟨⟨fun i d h => ?_, fun i es h => ?_, fun i j h g e => R.inj i j (isown h) (isown g) e, fun i es h => ?_, by rw [back_len]; exact R.len, R.go.trans ⟨fun a o e n => R'.go.keep a o e fun m => ?_, fun a m => .inl (mu a m), R'.go.there⟩, fun a m => R'.fo a (g2 a m), fun i h => g4 i (isown h)⟩, bd⟩
  · obtain ⟨v, h1, h2⟩ := R.val i d (back_val h)
    exact ⟨v, h1, carry h2⟩
  · rcases (bo i).1 es h with ⟨j, h1, h2⟩ | ⟨hn, h⟩
    · obtain ⟨ds, ho⟩ := (hk j i h1).2
      obtain ⟨_, xs, h4, h5⟩ := R'.own j es (.inr h2)
      have e : adA ad as j = ad i := by unfold adA; rw [h1]
      rw [e] at h4
      exact ⟨(R.own i ds ho).1, xs, h4, h5.less bd⟩
    · obtain ⟨h1, xs, h2, h3⟩ := R.own i es h
      exact ⟨h1, xs, R'.go.keep _ _ h2 (nomu hn ⟨es, h⟩), carryA h3⟩
  · obtain ⟨gs, q⟩ := back_io h
    exact R.io i gs q
  · obtain ⟨i, _, h, e'⟩ := muA hp a m
    exact n ⟨i, h, e'⟩
end

section
variable {X : Cx} {c : LC} {pos : Pos} {k : Nat} {f : Addr} {fd : FuncData} {ps : List Str} {x : Str} {p : Pos} {e : Expr} {es : List Expr} {w : WAr}
theorem foA_fo {F : Fr} {ad : Nat → Addr} {τ τ0 : Ta} {as : List Ar} {K : Fg} {σ : L2.St} {H : Hp} (R : Rep K F ad σ τ H) (hp : pars τ as = some τ0) : ∀ a, F.fo a → foA F ad τ as τ0 a := fun a m => ⟨.inr m, fun q => by
  obtain ⟨i, _, h, e⟩ := muA hp a q
  exact R.nfo i h (by rw [e]; exact m)⟩
theorem call_use {ct : WE} {n : Nat} {σ : L2.St} {H : Hp} {Q : VK} {F : Fr} {ad : Nat → Addr} {τ : Ta} {Xp : XP} {P : D → Ta → Prop} (R : Rep c.K F ad σ τ H) (xo : XOk c F Xp) {as : List Ar} {vs : List V} (ar : ArR c.K H (Bd F ad τ) σ vs as) (hn : vs.length = n)
    {τ0 : Ta} (hp : pars τ as = some τ0) (nd : (slotsA as).Nodup) (h : ct τ0 (fun x τ' => Xp x (backA as τ' τ)) (fun d τ' => P d (backA as τ' τ)))
    (k : ∀ d τ' v H', P d τ' → Rep c.K F ad σ τ' H' → Dn c.K H' (Bd F ad τ') v d → Q v H') : spOf c.K c.cl n ct vs H Q (L2.WE c.W σ) := by
  refine ⟨hn, foA F ad τ as τ0, adA ad as, τ0, _, _, pars_ok hp, R.enter ar hp nd, h, fun d τ' v H' p kp R' dn => ?_, fun y τ' dx H' v p kp R' hv xf => ?_⟩
  · obtain ⟨r1, r2⟩ := R.leave (Ff' := F.fo) ar hp nd kp R' (fun a m => .inl m) (foA_fo R hp) (fun a m => m) R.nfo
    exact k d _ v H' p r1 (dn.less r2)
  · obtain ⟨r1, r2⟩ := R.leave (Ff' := F.fo) ar hp nd kp R' (fun a m => .inl m) (foA_fo R hp) (fun a m => m) R.nfo
    exact xo y _ ad σ dx H' v p r1 hv (xf.less r2)
theorem call_useF {ct : WA} {n : Nat} {σ : L2.St} {H : Hp} {Q : VK} {F : Fr} {ad : Nat → Addr} {τ : Ta} {Xp : XP} {P : List D → Ta → Prop} (R : Rep c.K F ad σ τ H) (xo : XOk c F Xp) {as : List Ar} {vs : List V} (ar : ArR c.K H (Bd F ad τ) σ vs as) (hn : vs.length = n)
    {τ0 : Ta} (hp : pars τ as = some τ0) (nd : (slotsA as).Nodup) (h : ct τ0 (fun x τ' => Xp x (backA as τ' τ)) (fun d τ' => P d (backA as τ' τ)))
    (k : ∀ ds τ' p xs H', P ds τ' → Rep c.K { F with fo := fun a => F.fo a ∨ a = p } ad σ τ' H' → F.H0 p = none → ¬ F.fo p → H' p = some (.lst xs) → DnA c.K H' (Bd { F with fo := fun a => F.fo a ∨ a = p } ad τ') xs ds → Q (.ref p) H') :
    spOfF c.K c.cl n ct vs H Q (L2.WE c.W σ) := by
  refine ⟨hn, foA F ad τ as τ0, adA ad as, τ0, _, _, pars_ok hp, R.enter ar hp nd, h, fun ds τ' p xs H' pp kp R' h0 hf hx dn => ?_, fun y τ' dx H' v p kp R' hv xf => ?_⟩
  · obtain ⟨r1, r2⟩ := R.leave (Ff' := fun a => F.fo a ∨ a = p) ar hp nd kp R' (fun a m => m.elim .inl fun e => .inr (by rw [e]; exact h0)) (fun a m => m.elim (fun m => .inl (foA_fo R hp a m)) .inr) (fun a m => .inl m) (fun i hi m => by
      rcases m with m | m
      · exact R.nfo i hi m
      · obtain ⟨ys, q⟩ := R.lsts (ad i) ⟨i, hi, rfl⟩
        rw [m, h0] at q; cases q)
    exact k ds _ p xs H' pp r1 (R.free0 h0) (R.freeF h0) hx (dn.less r2)
  · obtain ⟨r1, r2⟩ := R.leave (Ff' := F.fo) ar hp nd kp R' (fun a m => .inl m) (foA_fo R hp) (fun a m => m) R.nfo
    exact xo y _ ad σ dx H' v p r1 hv (xf.less r2)
theorem ar_len {F : Fr} {ad : Nat → Addr} {τ : Ta} {H : Hp} {σ : L2.St} {K : Fg} {vs : List V} {as : List Ar} (ar : ArR K H (Bd F ad τ) σ vs as) {τ0 : Ta} (hp : pars τ as = some τ0) : vs.length = τ0.length := by rw [ar.len, pars_len hp]
/-- f(a, ..) -/
theorem ppe_fn {ct : WE} {n : Nat} (G : FnG X.prog X.w X.K X.mg X.base k f fd ps (spOf X.K c.cl n ct)) (hK : c.K = X.K) (hr : Room k X.A) (hg0 : X.A.guards = some []) (hg : Gl X x) (hm : X.mg x = some (.ref f)) (hk : PySem.W.keepIn X.K (.ref f) = true) (hb : Binds X.K fd ps []) (tk : Takes X c.W)
    (ha : PA X (e :: es) (liftAr c w)) (hdb : (x == ("__debug__" : Str)) = false := by decide) (he : starEach (e :: es) X.env = (false, eval e X.env) :: starEach es X.env := by rfl) (hpl : (backTo pos (starEach es X.env)).any (·.1) = false := by rfl) :
    PE X (.Call (.Name x p) (e :: es) [] pos) (liftE c (wFn n ct w)) :=
  PE.imp (pe_callG G hr hg0 hg hm hk hb tk ha hdb he hpl) fun σ H Q ⟨F, ad, τ, Xp, P, R, xo, h, kk⟩ => useAr R xo h fun as τ1 vs H1 ⟨τ0, hp, ⟨hl, nd⟩, q⟩ R1 _ ar => by
    rw [← hK]
    exact call_use R1 xo ar (by rw [ar.len]; exact hl) hp nd q kk
theorem ppf_fn {ct : WA} {n : Nat} (G : FnG X.prog X.w X.K X.mg X.base k f fd ps (spOfF X.K c.cl n ct)) (hK : c.K = X.K) (hr : Room k X.A) (hg0 : X.A.guards = some []) (hg : Gl X x) (hm : X.mg x = some (.ref f)) (hk : PySem.W.keepIn X.K (.ref f) = true) (hb : Binds X.K fd ps []) (tk : Takes X c.W)
    (ha : PA X (e :: es) (liftAr c w)) (hdb : (x == ("__debug__" : Str)) = false := by decide) (he : starEach (e :: es) X.env = (false, eval e X.env) :: starEach es X.env := by rfl) (hpl : (backTo pos (starEach es X.env)).any (·.1) = false := by rfl) :
    PE X (.Call (.Name x p) (e :: es) [] pos) (liftF c (wFnF n ct w)) :=
  PE.imp (pe_callG G hr hg0 hg hm hk hb tk ha hdb he hpl) fun σ H Q ⟨F, ad, τ, Xp, P, R, xo, h, kk⟩ => useAr R xo h fun as τ1 vs H1 ⟨τ0, hp, ⟨hl, nd⟩, q⟩ R1 _ ar => by
    rw [← hK]
    exact call_useF R1 xo ar (by rw [ar.len]; exact hl) hp nd q kk
end
end PV
end

section
set_option maxRecDepth 100000
namespace PV
open PySem PySem.Spec PyProof.Rows L2
set_option autoImplicit false

/-! ### the head, where the law's def is told over data -/
def lawCt (n : Nat) : WE := fun τ X P => (∃ ns : List Int, ns.length ≤ n ∧ τ = [.val (.list (ns.map PyData.int))]) ∧ P (.bool true) τ
theorem dnA_ints {K : Fg} {H : Hp} {B : Addr → Prop} : ∀ ns : List Int, DnA K H B (ns.map V.int) (ns.map PyData.int)
  | [] => .nil
  | n :: ns => .cons (.int n) (dnA_ints ns)
/-- the script: a list of the heap, or one that the top has written -/
theorem enter_law {K : Fg} {cl : Str → Option Value} {n : Nat} {H : Hp} {a : Addr} {ns : List Int} (hn : ns.length ≤ n) (hr : Rd H a (.lst (ns.map V.int))) :
    spOf K cl 1 (lawCt n) [.ref a] H (fun v _ => v = .bl true) fun _ _ _ => False := by
  have no : ∀ {j : Nat} {ds : List D}, ¬ OwnAt [.val (.list (ns.map PyData.int))] j ds := fun {j ds} h => by
    rcases h with h | h <;> (cases j with
      | zero => cases h
      | succ j => cases h)
  refine ⟨rfl, fun _ => False, fun _ => 0, [.val (.list (ns.map PyData.int))], fun d _ => d = .bool true, fun _ _ => False, trivial, ?_, ⟨⟨ns, hn, rfl⟩, rfl⟩, fun d τ' v H' hd _ _ dn => ?_, fun _ _ _ _ _ h => h.elim⟩
  · refine ⟨fun j d h => ?_, fun j ds h => (no h).elim, fun i j ⟨ds, h⟩ => (no h).elim, fun j ds h => (no (.inr h)).elim, rfl, Go.refl _ _, fun _ h => h.elim, fun j ⟨ds, h⟩ => (no h).elim⟩
    cases j with
    | zero =>
      cases h
      refine ⟨.ref a, rfl, .lst hr (fun m => ?_) (dnA_ints ns)⟩
      rcases m with ⟨i, ⟨ds, h⟩, _⟩ | m
      · exact no h
      · exact m
    | succ j => cases h
  · subst hd
    cases dn
    rfl
section
variable {P : Program} {w : World} {K : Fg} {mg mb : Str → Option Value} {k : Nat} {fa a : Addr} {fd : FuncData} {x : Str} {s : Shared} {vs : List Value} {ns : List Int} {n : Nat} {cl : Str → Option Value}
theorem call_lawG (inK : K.In s.heap) (nsG : s.heap.Ns mainGlobals mg) (nsB : s.heap.Ns builtinsNs mb) (boot : ∀ x : Str, x ≠ "__name__" → mb x = bootBuiltins x) (lim : s.heap.NoLimit) (g0 : s.gens = #[])
    (sc : s.heap.get? a = some { cls := .type "list", data := .seq vs.toArray }) (hi : IntsAre vs ns) (hn : ns.length ≤ n) (h63 : n ≤ sizeLine) (room : Room k callerA)
    (G : ∀ base : Heap, K.In base → base.Ns mainGlobals mg → FnG P w K mg base k fa fd [x] (spOf K cl 1 (lawCt n))) (bind : ∀ (s : Shared) (u : Value), BindsTo s fd ⟨[u], []⟩ [(x, u)]) (out : K.lookup a = none) :
    codeAny (model P w) callerA (.call (.ref fa) ⟨[.ref a], []⟩) (fun r s' => r = .ok (.ret (.bool true)) ∧ OldK s.heap s'.heap ∧ s'.os = s.os ∧ AllBare s'.gens) s := by
  have rv := vals_ints hi
  have lv := hi.length
  let scr : HO := .frz { cls := .type "list", data := .seq vs.toArray } (.lst (ns.map V.int))
  let H : Hp := fun b => if b = a then some scr else none
  have Ha : H a = some scr := if_pos rfl
  have Hb : ∀ {b}, b ≠ a → H b = none := fun h => if_neg h
  have told : ∀ {b u}, H b = some u → b = a ∧ u = scr := fun {b u} z => by
    by_cases q : b = a
    · subst q; exact ⟨rfl, (Option.some.inj (Ha.symm.trans z)).symm⟩
    · rw [Hb q] at z; cases z
  have hok : HOk P w H s.heap := fun b u z => by
    obtain ⟨rfl, rfl⟩ := told z
    exact ⟨sc, by rw [List.length_map]; exact Nat.le_trans hn h63, vs, _, rv, sc⟩
  have seen : ∀ {b : Addr} {o : Obj}, s.heap.get? b = some o → b ≠ a → (hidT s.heap H).get? b = some o := fun e q => hidT_get e (Hb q)
  have dict : ∀ {b : Addr} {m : Str → Option Value}, s.heap.Ns b m → (hidT s.heap H).Ns b m := fun {b m} ⟨o, es, ep, e, d, r⟩ => by
    have q : b ≠ a := fun q => by
      subst q
      have e2 := Option.some.inj (sc.symm.trans e)
      rw [← e2] at d
      have d' : Data.seq vs.toArray _ = Data.dict es ep := d
      cases d'
    exact ⟨o, es, ep, seen e q, d, r⟩
  have inB : K.In (hidT s.heap H) := fun b o e => seen (inK b o e) fun q => by rw [q, out] at e; cases e
  have env0 : Env0 P w K mg (hidT s.heap H) callerA [] s H :=
    ⟨rfl, ⟨inB, dict nsG, ⟨mb, dict nsB, boot⟩, let ⟨mc, h1, h2⟩ := lim; ⟨mc, dict h1, h2⟩⟩, fun b o e => of_hidT e, Nat.le_of_eq (hidT_size _ _), trivial, fun b hb => absurd (show b ∈ ([] : List Addr) from hb) (by simp), hok, .of_eq g0⟩
  refine codeAny_mono ((G _ inB (dict nsG)).run callerA [] s H ⟨[.ref a], []⟩ [.ref a] [.ref a] _ _ room rfl env0 (bind s (.ref a)) (.cons rfl .nil) (enter_law hn (.inr ⟨_, Ha⟩))) fun r s' h => ?_
  cases r with
  | error e =>
    obtain ⟨_, _, _, _, _, _, _, _, _, _, _, _, z⟩ := h
    exact z.elim
  | ok fl =>
    cases fl with
    | next => exact False.elim h
    | brk => exact False.elim h
    | cont => exact False.elim h
    | ret u =>
      obtain ⟨v, H', os, bare, un, hok', r', q⟩ := h
      have q' : v = .bl true := q
      subst q'
      obtain rfl : u = Value.bool true := r'
      refine ⟨rfl, OldK.of_keep fun b o e => ?_, os, bare⟩
      by_cases q : b = a
      · subst q
        obtain ⟨e2, _⟩ := hok' b _ (un.frzs b _ _ Ha)
        exact (Option.some.inj (sc.symm.trans e)) ▸ e2
      · exact un.keep b o e (Hb q) (by intro z; exact absurd (show b ∈ ([] : List Addr) from z) (by simp)) (by simp)
end
def isList : Value → Bool
  | .type n => n == "list"
  | _ => false
/-- the top has written no list -/
def noLists (K : Fg) : Bool := K.all fun y => !(isList y.2.cls)
theorem mem_lookup {K : Fg} {a : Addr} {o : Obj} (h : K.lookup a = some o) : (a, o) ∈ K := by
  induction K with
  | nil => cases h
  | cons y K ih =>
    obtain ⟨b, u⟩ := y
    rw [List.lookup_cons] at h
    split at h
    · rename_i e
      cases h
      rw [show a = b from eq_of_beq e]
      exact List.mem_cons_self
    · exact List.mem_cons_of_mem _ (ih h)
theorem noLists_of {K : Fg} {a : Addr} {o : Obj} (n : noLists K = true) (h : K.lookup a = some o) : o.cls ≠ .type "list" := fun e => by
  have := List.all_eq_true.mp n _ (mem_lookup h)
  simp only [e, isList] at this
  exact absurd this (by decide)
/-- what k_head leaves, from the law's def -/
theorem walk_G {l : PySem.W.OpenLaw} {n k : Nat} {q : Program} {loose : List Str} {XP : (Str → Option Value) → Heap → Prop} {YP : World → Heap → Prop} {d : DefRec} {K : Params → Fg} {x : Str}
    (hn : l.most = some n) (hn2 : n ≤ sizeLine) (hdf : d.params.defaults = []) (hr : Room k callerA) (hY : ∀ (w : World) (h : Heap), YP w h → (K w.params).In h)
    (F : ∀ (w : World) (mg : Str → Option Value) (fa : Addr) (h : Heap), (K w.params).In h → h.Ns mainGlobals mg → mg d.name = some (.ref fa) →
      noLists (K w.params) = true ∧ ∃ (fd : FuncData) (cl : Str → Option Value), (∀ (s : Shared) (u : Value), BindsTo s fd ⟨[u], []⟩ [(x, u)]) ∧
        ∀ base : Heap, (K w.params).In base → base.Ns mainGlobals mg → FnG l.prog w (K w.params) mg base k fa fd [x] (spOf (K w.params) cl 1 (lawCt n))) :
    PySem.W.WalkO q loose XP YP l.row.toRowW d [] (fun f vs => PySem.call f vs) :=
  Att.attach_call hn hdf fun w s₀ s₁ mg mb fa o pm cd doc a vs ns G Y ho hd hcd hmg hobj hints hlen hg => by
    obtain ⟨nl, fd, cl, hb, hF⟩ := F w mg fa _ (hY w _ Y) G.T.g hmg
    refine call_lawG (hY w _ Y) G.T.g G.T.b G.T.builtins G.T.nolimit hg hobj hints hlen hn2 hr hF hb ?_
    cases e : (K w.params).lookup a with
    | none => rfl
    | some u =>
      have e2 := hY w _ Y _ _ e
      rw [hobj] at e2
      cases e2
      exact absurd rfl (noLists_of nl e)
end PV
end

section
set_option maxRecDepth 100000
namespace PV
open PySem PySem.Spec PyProof.Rows L2
set_option autoImplicit false

/-! ### set(texts): how many texts there are -/
def stepS (σ : List Str) (z : Str) : List Str := if σ.any (· == z) then σ else σ ++ [z]
def metS (xs : List Str) : Nat → List Str
  | 0 => []
  | i + 1 => stepS (metS xs i) (xs.getD i Str.empty)
theorem metS_le (xs : List Str) : ∀ i, (metS xs i).length ≤ i
  | 0 => Nat.le_refl _
  | i + 1 => by
    have ih := metS_le xs i
    unfold metS stepS
    split <;> simp <;> omega
theorem stepS_any (σ : List Str) (z k : Str) : (stepS σ z).any (· == k) = (σ.any (· == k) || decide (k = z)) := by
  unfold stepS
  by_cases e : k = z
  · subst e
    cases h : σ.any (· == k) <;> simp [h]
  · have ne : (z == k) = false := by simpa [beq_iff_eq] using fun q : z = k => e q.symm
    cases h : σ.any (· == z) <;> simp [h, e, ne]
theorem stepS_len (σ : List Str) (z : Str) : (stepS σ z).length = if σ.any (· == z) then σ.length else σ.length + 1 := by
  unfold stepS
  cases h : σ.any (· == z) <;> simp [h]
theorem metS_nodup {xs : List Str} (h : xs.Nodup) : ∀ i, i ≤ xs.length → metS xs i = xs.take i
  | 0, _ => rfl
  | i + 1, hi => by
    have hlt : i < xs.length := hi
    have e : xs.getD i Str.empty = xs[i] := by
      rw [List.getD_eq_getElem?_getD, List.getElem?_eq_getElem hlt]; rfl
    have out : (xs.take i).any (· == xs[i]) = false := by
      rw [List.any_eq_false]
      intro y hy q
      obtain ⟨j, hj, ej⟩ := List.mem_take_iff_getElem.mp hy
      have q2 : y = xs[i] := eq_of_beq q
      have hji : j < i := by omega
      exact absurd (ej.trans q2) (List.pairwise_iff_getElem.mp h j i (by omega) hlt hji)
    rw [metS, metS_nodup h i (by omega), e, stepS, out, List.take_add_one, List.getElem?_eq_getElem hlt]
    rfl
section
variable {P : Program} {w : World} {A : Around} {R : Result → Shared → Prop} {I : Addr} {fp wr : List Addr} {G : Array GenState → Array GenState → Prop} {n : Nat} {Pv : Nat → Value → Prop} {St : Nat → Shared → Prop}
abbrev SetAt (P : Program) (w : World) (h : Heap) (D : Addr) (σ : List Str) : Prop := h.SetOf (PySem.strKind P w) D (fun z => σ.any (· == z)) σ.length
theorem SetAt.move {h h' : Heap} {D : Addr} {σ : List Str} (k : ∀ o, h.get? D = some o → h'.get? D = some o) : SetAt P w h D σ → SetAt P w h' D σ := fun ⟨o, es, ep, t, ho, r⟩ => ⟨o, es, ep, t, k o ho, r⟩
theorem fill_set (W : WalksS P w A.in1 I fp wr G n Pv St) (D : Addr) (out : D ∉ fp) (xs : List Str) (val : ∀ i v, Pv i v → ∃ t, v = .str (xs.getD i Str.empty) t) (small : n + 1 < scanBound) :
    ∀ (k i : Nat) (s : Shared), n - i = k → i ≤ n → St i s → SetAt P w s.heap D (metS xs i) →
      (∀ u, Moved (D :: wr) G s u → SetAt P w u.heap D (metS xs n) → R (.ok (.ret .none)) u) → codeAny (model P w) A (.builtin "set.update.loop" ⟨[.ref D, .ref I], []⟩) R s
  | 0, i, s, hk, hi, st, hS, q => by
    obtain rfl : i = n := by omega
    refine codeAny_builtin PyProof.Rows.F.entry_set_update_loop ?_
    rw [Around.under_plainId PyProof.Rows.F.plain_set_update_loop _]
    change wpAny _ A.in1 (pyNext (.ref I) >>= _) _ _ s
    refine wpAny_bind (W.done s _ _ st fun u m => ?_)
    change wpAny _ A.in1 (ret Value.none) _ _ u
    exact wpAny_pure (q u (m.mono fun b hb => List.mem_cons_of_mem _ hb) (hS.move fun o e => m.heap D _ (fun z => out (W.sub _ z)) e))
  | k + 1, i, s, hk, hi, st, hS, q => by
    have hlt : i < n := by omega
    refine codeAny_builtin PyProof.Rows.F.entry_set_update_loop ?_
    rw [Around.under_plainId PyProof.Rows.F.plain_set_update_loop _]
    change wpAny _ A.in1 (pyNext (.ref I) >>= _) _ _ s
    refine wpAny_bind (W.item i s _ _ hlt st fun v s1 hP st1 m => ?_)
    obtain ⟨t, rfl⟩ := val i v hP
    have hS1 : SetAt P w s1.heap D (metS xs i) := hS.move fun o e => m.heap D _ (fun z => out (W.sub _ z)) e
    change wpAny _ A.in1 (holding [Value.str (xs.getD i Str.empty) t] (setAdd D (.str (xs.getD i Str.empty) t)) >>= _) _ _ s1
    refine wpAny_bind (wpAny_holding ?_)
    unfold setAdd
    refine wpAny_holding (wpAny_bind ((PySem.strKind P w).pyHash (k := xs.getD i Str.empty) (strKind_is _ _ _ _) ?_))
    have room : (metS xs i).length + 1 < scanBound := Nat.lt_of_le_of_lt (Nat.add_le_add_right (metS_le xs i) 1) (by omega)
    refine wpAny_setAddHashed_of (s := { s1 with toks := s1.toks + 1 }) (knd := PySem.strKind P w) (strKind_is _ _ _ _) rfl hS1 room fun h2 sb hS2 => ?_
    have hS3 : SetAt P w h2 D (metS xs (i + 1)) := PyProof.Rows.SetOf_congr hS2 (fun z => (stepS_any _ _ z).symm) (stepS_len _ _).symm
    have stay : ∀ b o, b ≠ D → s1.heap.get? b = some o → h2.get? b = some o := fun b o ne e => (sb.2 b ne).trans e
    refine wpAny_pure ⟨plainId_quiet PyProof.Rows.F.plain_set_update_loop _, fill_set W D out xs val small k (i + 1) _ (by omega) hlt
      (W.frame _ s1 _ _ st1 (Nat.le_succ _) fun b hb o e => stay b o (fun z => out (by rw [← z]; exact hb)) e) hS3 fun u m2 hu => q u (Moved.trans W.gtrans ((m.mono fun b hb => List.mem_cons_of_mem _ hb).then_heap (Nat.le_succ _) fun b o hb e => ?_) m2) hu⟩
    exact stay b o (fun z => hb (by rw [z]; exact List.mem_cons_self)) e
end
section
variable {P : Program} {w : World} {A : Around} {E : Value → Shared → Prop} {s : Shared}
abbrev emptySet (led : Bool) : Obj := { cls := .type "set", dict := none, data := .set #[] 0 (.fresh 0 0 led) }
set_option maxHeartbeats 3200000 in
theorem set_texts {l : Addr} {its : Array Value} {xs : List Str} {Q : Value → Shared → Prop} (hd : A.handled = none) (hl : s.heap.IsList l its) (hi : PyProof.Rows.StrsAre its.toList xs) (small : its.size + 1 < scanBound)
    (q : ∀ (h2 : Heap) (tk : Nat), SetAt P w h2 s.heap.objs.size (metS xs its.size) → (∀ b o, b < s.heap.objs.size → s.heap.get? b = some o → h2.get? b = some o) → Q (.ref s.heap.objs.size) { s with heap := h2, toks := tk }) :
    wpAny (model P w) A (call (.type "set") [.ref l]) Q E s := by
  obtain ⟨_, _, mro1⟩ := PySem.F.called_set.mro
  have made1 := PySem.F.called_set.made
  have sub1 := PySem.F.called_set.sub
  refine wpAny_call (codeAny_of_tree ?_)
  change wpAny _ _ (callAny (.type "set") _) _ _ _
  refine wpAny_pure ⟨Code.quiet_builtin _ (by decide +kernel), ?_⟩
  refine codeAny_builtin PySem.F.entry_type_call ?_
  rw [Around.under_plain (weight_type_call_type "set" [.ref l] []) rfl]
  have no1 := PySem.F.called_set.notType
  have can1 := PySem.F.called_set.canCreate
  have chk1 := PySem.F.typeCall_set_1 (.ref l)
  repeat (any_goals (first | assumption | wp_step))
  refine codeAny_mono (code_set_new_1 (.ref l) (E := E) (Q₁ := fun v u => ∃ led : Bool, v = .ref s.heap.objs.size ∧ u = { s with heap := s.heap.push (emptySet led) }) fun led => ⟨led, rfl, rfl⟩) fun r u hr => ?_
  match r, hr with
  | .error _, hr => exact hr
  | .ok .next, hr => exact hr.elim
  | .ok .brk, hr => exact hr.elim
  | .ok .cont, hr => exact hr.elim
  | .ok (.ret v), ⟨led, ev, eu⟩ =>
    subst ev eu
    have at1 : (s.heap.push (emptySet led)).get? s.heap.objs.size = some (emptySet led) := Heap.get?_push_size _ rfl
    have ty1 : Shared.TypeIs { s with heap := s.heap.push (emptySet led) } (.ref s.heap.objs.size) "set" := ⟨_, at1, rfl⟩
    have look1 := PySem.F.called_set.init.lookup
    have bind1 := PySem.F.called_set.init.bind (.ref s.heap.objs.size)
    repeat (any_goals (first | assumption | wp_step))
    refine codeAny_mono (codeAny_call_builtin (R := wants (fun r u => r = .none ∧ ∃ h2 tk, u = { s with heap := h2, toks := tk } ∧ SetAt P w h2 s.heap.objs.size (metS xs its.size) ∧ (∀ b o, b < s.heap.objs.size → s.heap.get? b = some o → h2.get? b = some o)) E)
      PySem.F.called_set.init.plain PySem.F.entry_set_init (check_set_init_1 ty1 ?_)) fun r2 u2 hr2 => ?_
    · obtain ⟨⟨_, dd, _, sl⟩, ho, hc, nl, hdat⟩ := hl
      simp only at hc hdat
      subst hc hdat
      have ho1 : (s.heap.push (emptySet led)).get? l = some { cls := .type "list", dict := dd, data := .seq its nl, slots := sl } := Heap.get?_push_of_some _ ho
      have ns1 := PySem.F.sub_list_set
      have ns2 := PySem.F.sub_list_frozenset
      have ns3 : (Value.type "list" == Value.type "dict") = false := by decide
      have li1 : (s.heap.push (emptySet led)).IsList l its := ⟨_, ho1, rfl, nl, rfl⟩
      unfold Builtin.«set.__init__» noKeywords Builtin.Frozenset.updateFrom
      generalize hit : pyIter = itf
      wp_walk
      subst hit
      refine wpAny_pyIter_list li1 (wpAny_bind (wpAny_runValue ?_))
      have lt1 : l < s.heap.objs.size := Heap.lt_size ho
      have hd3 : A.in1.in1.in1.handled = none := by simp [hd]
      have size1 : (s.heap.push (emptySet led)).objs.size = s.heap.objs.size + 1 := Heap.size_push ..
      have val1 : ∀ (i : Nat) (v : Value), its[i]? = some v → ∃ t, v = .str (xs.getD i Str.empty) t := fun i v hv => SS.strs_at hi i v (by rw [Array.getElem?_toList]; exact hv)
      refine fill_set ((Walks.list hd3 _ l (by rw [size1]; exact Nat.ne_of_lt (Nat.lt_succ_of_lt lt1)) its).toS) s.heap.objs.size (by rw [size1]; simp only [List.mem_cons, List.not_mem_nil, or_false, not_or]; exact ⟨Nat.ne_of_lt (Nat.lt_succ_self _), Nat.ne_of_gt lt1⟩) xs val1 small (its.size - 0) 0 _ (by omega) (Nat.zero_le _)
        ⟨⟨_, Heap.get?_push_size _ rfl, rfl, rfl⟩, li1.push _⟩ ?first ?last
      case first => exact PyProof.Rows.SetOf_congr ((PyProof.Rows.setObjOf_fresh (knd := PySem.strKind P w) led).setOf (Heap.get?_push_of_some _ at1) (by unfold scanBound; omega)) (fun _ => rfl) rfl
      case last =>
        rintro ⟨h2, g2, d2, tk2, os2⟩ m hS
        obtain rfl : g2 = s.gens := m.gens
        obtain rfl : d2 = s.drawn := m.drawn
        obtain rfl : os2 = s.os := m.os
        change wpAny _ _ _ _ _ _
        refine wpAny_pure ?_
        change wpAny _ _ (ret Value.none) _ _ _
        refine wpAny_pure ⟨rfl, h2, tk2, rfl, hS, fun b o hb e => m.heap b o ?_ (Heap.get?_push_of_some _ (Heap.get?_push_of_some _ e))⟩
        rw [size1]
        simp only [List.mem_cons, List.not_mem_nil, or_false, not_or]
        exact ⟨Nat.ne_of_lt hb, Nat.ne_of_lt (Nat.lt_succ_of_lt hb)⟩
    · match r2, hr2 with
      | .error _, hr2 => exact hr2
      | .ok .next, hr2 => exact hr2.elim
      | .ok .brk, hr2 => exact hr2.elim
      | .ok .cont, hr2 => exact hr2.elim
      | .ok (.ret _), ⟨e1, h2, tk2, e2, hS, hk⟩ =>
        subst e1 e2
        repeat (any_goals (first | assumption | wp_step))
        exact q _ _ hS hk
end
end PV
end

section
set_option maxRecDepth 100000
namespace PV
open PySem PySem.Spec PyProof.Rows L2
set_option autoImplicit false
section
variable {X : Cx} {c : LC} {pos : Pos}
/-! ### names of the module -/
theorem ppe_gI {x : Str} {i : Int} {t : Tok} (hg : Gl X x) (hm : X.mg x = some (.int i t)) (hd : (x == ("__debug__" : Str)) = false := by decide) : PE X (.Name x pos) (liftE c (wC (.int i))) :=
  ppe_c (pe_glob (v := .int i) hg hm ⟨t, rfl⟩ hd) fun _ _ => .int i
theorem ppe_gS {x : Str} {z : Str} {t : Tok} (hg : Gl X x) (hm : X.mg x = some (.str z t)) (hd : (x == ("__debug__" : Str)) = false := by decide) : PE X (.Name x pos) (liftE c (wC (.str z))) :=
  ppe_c (pe_glob (v := .str z) hg hm ⟨t, rfl⟩ hd) fun _ _ => .str z
/-- a value as the top has written it: texts and ints -/
inductive Wr : Value → V → D → Prop
  | int (i : Int) (t : Tok) : Wr (.int i t) (.int i) (.int i)
  | str (z : Str) (t : Tok) : Wr (.str z t) (.str z) (.str z)
inductive WrA : List Value → List V → List D → Prop
  | nil : WrA [] [] []
  | cons {u : Value} {v : V} {d : D} {us : List Value} {vs : List V} {ds : List D} : Wr u v d → WrA us vs ds → WrA (u :: us) (v :: vs) (d :: ds)
theorem WrA.vals : ∀ {us : List Value} {vs : List V} {ds : List D}, WrA us vs ds → Vals vs us
  | _, _, _, .nil => .nil
  | _, _, _, .cons (.int i t) r => .cons ⟨t, rfl⟩ r.vals
  | _, _, _, .cons (.str z t) r => .cons ⟨t, rfl⟩ r.vals
theorem WrA.dn {K : Fg} {H : Hp} {B : Addr → Prop} : ∀ {us : List Value} {vs : List V} {ds : List D}, WrA us vs ds → DnA K H B vs ds
  | _, _, _, .nil => .nil
  | _, _, _, .cons (.int i t) r => .cons (.int i) r.dn
  | _, _, _, .cons (.str z t) r => .cons (.str z) r.dn
/-- a tuple of the module: its place and its items -/
def KTup (K : Fg) (a : Addr) (ds : List D) : Prop := ∃ (us : List Value) (vs : List V) (n : Nat), K.lookup a = some ⟨.type "tuple", none, .seq us.toArray n, #[]⟩ ∧ us.length ≤ sizeLine ∧ WrA us vs ds
theorem ppe_gT {x : Str} {a : Addr} {ds : List D} (hK : c.K = X.K) (hg : Gl X x) (hm : X.mg x = some (.ref a)) (k : KTup c.K a ds) (hd : (x == ("__debug__" : Str)) = false := by decide) : PE X (.Name x pos) (liftE c (wC (.tuple ds))) := by
  obtain ⟨us, vs, n, h1, h2, h3⟩ := k
  exact ppe_c (pe_glob (v := .ref a) hg hm rfl hd) fun H B => .tup (.inr ⟨_, us.toArray, n, h1, rfl, rfl, by rw [List.size_toArray]; exact h2, by simpa using h3.vals⟩) h3.dn

/-! ### len(set(texts)) -/
def strsD : List D → Option (List Str)
  | [] => some []
  | .str z :: r => (strsD r).map (z :: ·)
  | _ :: _ => none
def lenSetD : D → Option D
  | .list ds => match strsD ds with
    | some xs => if xs.length ≤ 4000 then some (.int (metS xs xs.length).length) else none
    | none => none
  | _ => none
theorem strsD_dn {K : Fg} {H : Hp} {B : Addr → Prop} : ∀ {ds : List D} {xs : List Str} {vs : List V}, strsD ds = some xs → DnA K H B vs ds → vs = xs.map V.str
  | [], _, _, h, a => by cases h; cases a; rfl
  | .str b :: r, bs, _, h, a => by
    cases a with
    | cons x a =>
      cases hb : strsD r with
      | none => rw [strsD, hb] at h; cases h
      | some cs =>
        rw [strsD, hb] at h
        cases h
        cases x
        rw [strsD_dn hb a]
        rfl
  | .none :: _, _, _, h, _ => nomatch h
  | .int _ :: _, _, _, h, _ => nomatch h
  | .bool _ :: _, _, _, h, _ => nomatch h
  | .list _ :: _, _, _, h, _ => nomatch h
  | .tuple _ :: _, _, _, h, _ => nomatch h
  | .dict _ :: _, _, _, h, _ => nomatch h
def tLenSetX (K : Fg) (ta : TE) : TE := fun σ H Q => ta σ H fun x H1 => ∃ (l : Addr) (xs : List Str), x = .ref l ∧ SqL K H1 l (xs.map V.str) ∧ xs.length ≤ 4000 ∧ Q (.int ((metS xs xs.length).length : Nat)) H1
theorem pe_lenSetX {a : Expr} {ta : TE} {p p2 q : Pos} (hg : Gl X "len") (hm : X.mg "len" = none) (hg2 : Gl X "set") (hm2 : X.mg "set" = none) (ha : PE X a ta) (hc : X.calm = true)
    (na : starEach [a] X.env = (false, eval a X.env) :: starEach [] X.env := by rfl) : PE X (.Call (.Name "len" p) [.Call (.Name "set" p2) [a] [] q] [] pos) (tLenSetX X.K ta) := by
  refine ⟨fun pins s σ H Q I h => Call_ (ld_blt I hg hm boot_len ?_)⟩
  refine PyProof.Rows.callWith_builtin1 (PyProof.Rows.args_cons (Call_ (ld_blt I hg2 hm2 boot_set ?_)) rfl) rfl rfl
  refine PyProof.Rows.callWith_type1 (PyProof.Rows.args_cons (thn (ha.run pins s σ H _ I h) fun v s1 ⟨x, H1, I1, r1, l, xs, ex, hq, hl, q1⟩ => PyProof.Rows.args_nil ?_) na) na rfl
  subst ex
  cases r1
  obtain ⟨its, r, pl, hz⟩ := I1.list hq
  have hlen : its.toArray.size = xs.length := by rw [List.size_toArray, ← r.length, List.length_map]
  refine set_texts (I1.ok.hd hc) pl.isList (by simpa using strsAre_of r) (by rw [hlen]; unfold scanBound; omega) fun h2 tk hS hk => PyProof.Rows.args_nil ?_
  rw [hlen] at hS
  obtain ⟨o, es, ep, t, ho, hex, hd, _, _, _, hf, hn⟩ := hS
  have I2 : Inv X pins σ H1 { s1 with heap := h2, toks := tk } := I1.kept fun b o e => hk b o (Heap.lt_size e) e
  have le := metS_le xs xs.length
  exact call_len_set ho hex hd hf (by rw [hn]; omega) ⟨.int (metS xs xs.length).length, H1, I2.tok _, ⟨_, by rw [hn]⟩, q1⟩
theorem ppe_lenSet {a : Expr} {w : WE} {p p2 q : Pos} (hK : c.K = X.K) (hc : X.calm = true) (hg : Gl X "len") (hm : X.mg "len" = none) (hg2 : Gl X "set") (hm2 : X.mg "set" = none) (ha : PE X a (liftE c w))
    (na : starEach [a] X.env = (false, eval a X.env) :: starEach [] X.env := by rfl) : PE X (.Call (.Name "len" p) [.Call (.Name "set" p2) [a] [] q] [] pos) (liftE c (wUn lenSetD w)) :=
  PE.imp (pe_lenSetX hg hm hg2 hm2 ha hc na) fun σ H Q ⟨F, ad, τ, Xp, P, R, x, hw, k⟩ => useE R x hw fun d τ1 v H1 ⟨r, h1, p⟩ R1 _ dn => by
    cases dn with
    | @lst a ys ds hs na hd =>
      cases e : strsD ds with
      | none => simp [lenSetD, e] at h1
      | some xs =>
        by_cases hl : xs.length ≤ 4000
        · simp [lenSetD, e, hl] at h1
          subst h1
          have := strsD_dn e hd
          subst this
          rw [← hK]
          exact ⟨a, xs, rfl, .inl hs, hl, k _ _ _ _ p R1 (.int _)⟩
        · simp [lenSetD, e, hl] at h1
    | _ => simp [lenSetD] at h1

/-! ### x += [..], x a list of ours -/
def sExtF (i : Nat) (w : WA) : WS := fun E X τ => hasL τ i ∧ w τ X fun ds τ1 => ∃ es, getL τ1 i = some es ∧ es.length + ds.length ≤ sizeLine ∧ E.nx (setL τ1 i (es ++ ds))
theorem set_same {σ : L2.St} {i : Nat} {o : Option V} (h : σ[i]? = some o) : σ.set i o = σ := by
  apply List.ext_getElem?
  intro j
  by_cases e : i = j
  · subst e
    rw [List.getElem?_set_self (List.getElem?_eq_some_iff.mp h).1, h]
  · rw [List.getElem?_set_ne e]
theorem pps_extF {i : Nat} {x : Str} {e : Expr} {w : WA} {p2 : Pos} (hN : X.N.Nodup) (hi : X.N[i]? = some x) (hx : Loc X.env.scope x) (he : PE X e (liftF c w)) (hf : X.fn x = true ∨ X.env.scope.names.lookup x = some .local := by first | exact .inl rfl | exact .inr rfl | assumption) :
    PS X (.AugAssign (.Name x p2) .Add e pos) (liftS c (sExtF i w)) :=
  PS.imp (ps_aug hN hi hx he iop_ext hf) fun T σ H ⟨F, ad, τ, Xp, E, R, x, ⟨h0, h⟩, eo⟩ => by
    obtain ⟨t1, _⟩ := R.tyL h0
    refine ⟨.ref (ad i), t1, F, ad, τ, Xp, _, R, x, h, fun ds τ' p xs H' ⟨es, q1, q2, q3⟩ R' hp0 hpf hp dn => ?_⟩
    obtain ⟨_, ys, h3, h4⟩ := R'.getL q1
    refine ⟨ad i, p, ys, xs, rfl, rfl, h3, hp, by rw [h4.len, dn.len]; exact q2, ?_⟩
    show T.nx (σ.set i (some (.ref (ad i)))) _
    rw [set_same t1]
    exact eo.nx _ ad σ _ q3 ((R'.write (getL_own q1) (h4.app dn)).minus)

/-! ### x[i] = e, x a list of ours -/
def sPut (i : Nat) (a b : WE) : WS := fun E X τ => a τ X fun d τ1 => hasL τ1 i ∧ b τ1 X fun e τ2 => ∃ ds k j, getL τ2 i = some ds ∧ e = .int k ∧ ixN ds.length k = some j ∧ E.nx (setL τ2 i (ds.set j d))
theorem pps_put {i : Nat} {x : Str} {e ix : Expr} {a b : WE} {p p2 : Pos} (ha : PE X e (liftE c a)) (hx : PE X (.Name x p) (tVar i)) (hb : PE X ix (liftE c b))
    (hq : ∀ v, assign (.Subscript (.Name x p) ix p2) X.env v = (do
      let ov ← holding [v] (eval (.Name x p) X.env)
      let iv ← holding [v, ov] (eval ix X.env)
      standAt p2
      holding [v, ov, iv] (setItem ov iv v)
      release [v, ov, iv] []) := by intro _; rfl)
    (hs : swapsWithSole [.Subscript (.Name x p) ix p2] e pos.line X.env = pure false := by rfl) (hw : swappedStores [.Subscript (.Name x p) ix p2] e X.env = pure none := by rfl)
    (h1 : (assignEach [.Subscript (.Name x p) ix p2] X.env).map (·.2) = [assign (.Subscript (.Name x p) ix p2) X.env] := by rfl) : PS X (.Assign [.Subscript (.Name x p) ix p2] e pos) (liftS c (sPut i a b)) :=
  PS.imp (ps_asg ha (pg_sub hx hb set_list hq) hs hw h1) fun T σ H ⟨F, ad, τ, Xp, E, R, x, h, eo⟩ => useE R x h fun d τ1 v H1 ⟨h0, h1⟩ R1 _ dn => by
    refine ⟨.ref (ad i), (R1.tyL h0).1, useE R1 x h1 fun d2 τ2 v2 H2 ⟨ds, k, j, q1, q2, q3, q4⟩ R2 R2' dn2 => ?_⟩
    subst q2
    obtain ⟨_, ys, h3, h4⟩ := R2.getL q1
    exact ⟨ad i, ys, k, j, rfl, dn_int dn2, h3, by rw [h4.len]; exact q3, eo.nx _ ad σ _ q4 (R2.write (getL_own q1) (DnA.set (R1.carry R2' dn) j h4))⟩
end
end PV
end

section
set_option maxRecDepth 100000
namespace PV
open PySem PySem.Spec PyProof.Rows L2
set_option autoImplicit false
/-- a fresh list as a value -/
def wOf (w : WA) : WE := fun τ Xp P => w τ Xp fun ds τ' => P (.list ds) τ'
/-- no promise at all -/
def ctNo : WE := fun _ _ _ => False
theorem u64 {A : Around} {k : Nat} (hr : Room k A) : A.units + 64 < cLine := by have := hr.un; omega
theorem u65 {A : Around} {k : Nat} (hr : Room k A) : A.units + 65 < cLine := by have := hr.un; omega
theorem u102 {A : Around} {k : Nat} (hr : Room k A) : A.units + 102 < cLine := by have := hr.un; omega
section
variable {X : Cx} {c : LC} {pos : Pos}
theorem ppe_ofF {e : Expr} {w : WA} (h : PE X e (liftF c w)) : PE X e (liftE c (wOf w)) := ppe_of_fresh h
/-- x, y = [..], b -/
def sParF (i j : Nat) (a : WA) (b : WE) : WS := fun E X τ => a τ X fun ds τ1 => b τ1 X fun e τ2 => okSet τ2 i ∧ okSet τ2 j ∧ i ≠ j ∧ E.nx ((τ2.set i (.own ds)).set j (.val e))
theorem XOk.plus {F : Fr} {Xp : XP} {p : Addr} (x : XOk c F Xp) : XOk c { F with fo := fun a => F.fo a ∨ a = p } Xp := fun y τ' ad' σ' dx H' v h R' hv f => x y τ' ad' σ' dx H' v h R'.minus hv (XF.less (fun a m => m.elim .inl fun m => .inr (.inl m)) f)
theorem pps_parF {i j : Nat} {x y : Str} {a b : Expr} {wa : WA} {wb : WE} {px py pt : Pos} {kt k2 : Nat} {pt2 : Pos} (hc : X.calm = true) (hN : X.N.Nodup) (hi : X.N[i]? = some x) (hj : X.N[j]? = some y) (hij : i ≠ j)
    (hx : X.env.scope.names.lookup x = some .local) (hy : X.env.scope.names.lookup y = some .local) (ha : PE X a (liftF c wa)) (hb : PE X b (liftE c wb))
    (hw : swappedStores [.Tuple [.Name x px, .Name y py] kt pt] (.Tuple [a, b] k2 pt2) X.env = pure (some [x, y]))
    (hs : swapsWithSole [.Tuple [.Name x px, .Name y py] kt pt] (.Tuple [a, b] k2 pt2) pos.line X.env = pure false := by rfl)
    (s1 : starEach [a, b] X.env = (false, eval a X.env) :: starEach [b] X.env := by rfl) (s2 : starEach [b] X.env = (false, eval b X.env) :: starEach [] X.env := by rfl) :
    PS X (.Assign [.Tuple [.Name x px, .Name y py] kt pt] (.Tuple [a, b] k2 pt2) pos) (liftS c (sParF i j wa wb)) :=
  PS.imp (ps_par hc hN hi hj hij hx hy (pa_cons ha (pa_cons hb pa_nil s2) s1) hw hs) fun T σ H ⟨F, ad, τ, Xp, E, R, x, h, eo⟩ => ⟨F, ad, τ, Xp, _, R, x, h, fun ds τ1 p xs H1 h1 R1 h0 hf hp dn1 =>
    useE R1 x.plus h1 fun e τ2 u H2 ⟨o1, o2, hne, q⟩ R2 R2' dn2 => by
    have dn1' := R1.carryA R2' dn1
    have hp2 : H2 p = some (.lst xs) := R2'.go.keep _ _ hp (R1.ne_fo (.inr rfl))
    have R3 := R2.setVal o2 dn2
    have dn3 : DnA c.K H2 (Bd { F with fo := fun a => F.fo a ∨ a = p } ad (τ2.set j (.val e))) xs ds := dn1'.less setVal_bd
    have R4 := R3.setOwn (okSet_ne (Ne.symm hne) o1) h0 hf hp2 dn3
    have R5 : Rep c.K F (fun k => if k = i then p else ad k) ((σ.set i (some (.ref p))).set j (some u)) ((τ2.set i (.own ds)).set j (.val e)) H2 := by
      rw [List.set_comm (some (V.ref p)) (some u) hne, List.set_comm (Sl.own ds) (Sl.val e) hne]
      exact R4
    exact ⟨.ref p, u, rfl, eo.nx _ _ _ H2 q R5⟩⟩
/-! a comprehension, its own names' places given -/
section
variable {elt tg iter : Expr} {ifs : List Expr} {scope : Scope} {own : List (Str × Nat)} {vs : List Nat} {wi : WI} {g : WG} {t : WT} {e : WE}
theorem lcf (hc : X.calm = true) (hN : X.N.Nodup) (hi : PI X tg iter (liftI c wi)) (ok : BlkOk X.N X.env.scope scope own) (hv : own.map (·.2) = vs)
    (hg : ∀ (s : Shared) (H : Hp) (C : Addr) (cl : List (Str × Addr)) (fp : List Addr), PG (X.blk s H scope (compEnvC scope cl C X.env) fp) tg (liftG c.nox (SW vs) g))
    (ht : ∀ (s : Shared) (H : Hp) (C : Addr) (cl : List (Str × Addr)) (fp : List Addr), PTs (X.blk s H scope (compEnvC scope cl C X.env) fp) ifs (liftT c.nox t))
    (he : ∀ (s : Shared) (H : Hp) (C : Addr) (cl : List (Str × Addr)) (fp : List Addr), PE (X.blk s H scope (compEnvC scope cl C X.env) fp) elt (liftE c.nox e)) (hs : ∀ x, foldedSetIterable iter X.env x = pure x := by intro _; rfl) :
    PE X (.ListComp elt [⟨tg, iter, ifs, 0⟩] scope pos) (liftF c (wLC wi g t e vs)) := by
  subst hv
  exact ppf_lc hc hN hi ok hg ht he hs
variable {i : Nat} {y : Str} {py spos : Pos}
theorem lcs (hc : X.calm = true) (hN : X.N.Nodup) (hy : X.N[i]? = some y) (hyl : X.env.scope.names.lookup y = some .local)
    (hsw : swapsWith (.ListComp elt [⟨tg, iter, ifs, 0⟩] scope pos) (some (.Name y py)) spos.line X.env = pure true) (hi : PI X tg iter (liftI c wi)) (ok : BlkOk X.N X.env.scope scope own) (hv : own.map (·.2) = vs)
    (hg : ∀ (s : Shared) (H : Hp) (C : Addr) (cl : List (Str × Addr)) (fp : List Addr), PG (X.blk s H scope (compEnvC scope cl C X.env) fp) tg (liftG c.nox (SW vs) g))
    (ht : ∀ (s : Shared) (H : Hp) (C : Addr) (cl : List (Str × Addr)) (fp : List Addr), PTs (X.blk s H scope (compEnvC scope cl C X.env) fp) ifs (liftT c.nox t))
    (he : ∀ (s : Shared) (H : Hp) (C : Addr) (cl : List (Str × Addr)) (fp : List Addr), PE (X.blk s H scope (compEnvC scope cl C X.env) fp) elt (liftE c.nox e)) (hs : ∀ x, foldedSetIterable iter X.env x = pure x := by intro _; rfl) :
    PS X (.Assign [.Name y py] (.ListComp elt [⟨tg, iter, ifs, 0⟩] scope pos) spos) (liftS c (sSetF i (wLC wi g t e vs))) := by
  subst hv
  exact pps_setLc hc hN hy hyl hsw hi ok hg ht he hs
theorem lcv (hc : X.calm = true) (hN : X.N.Nodup) (hy : X.N[i]? = some y) (hyl : X.env.scope.names.lookup y = some .local)
    (hsw : swapsWith (.ListComp elt [⟨tg, iter, ifs, 0⟩] scope pos) (some (.Name y py)) spos.line X.env = pure true) (hi : PI X tg iter (liftI c wi)) (ok : BlkOk X.N X.env.scope scope own) (hv : own.map (·.2) = vs)
    (hg : ∀ (s : Shared) (H : Hp) (C : Addr) (cl : List (Str × Addr)) (fp : List Addr), PG (X.blk s H scope (compEnvC scope cl C X.env) fp) tg (liftG c.nox (SW vs) g))
    (ht : ∀ (s : Shared) (H : Hp) (C : Addr) (cl : List (Str × Addr)) (fp : List Addr), PTs (X.blk s H scope (compEnvC scope cl C X.env) fp) ifs (liftT c.nox t))
    (he : ∀ (s : Shared) (H : Hp) (C : Addr) (cl : List (Str × Addr)) (fp : List Addr), PE (X.blk s H scope (compEnvC scope cl C X.env) fp) elt (liftE c.nox e)) (hs : ∀ x, foldedSetIterable iter X.env x = pure x := by intro _; rfl) :
    PS X (.Assign [.Name y py] (.ListComp elt [⟨tg, iter, ifs, 0⟩] scope pos) spos) (liftS c (sSetL i (wLC wi g t e vs))) := by
  subst hv
  exact pps_setLcV hc hN hy hyl hsw hi ok hg ht he hs
end
/-- f() -/
theorem ppe_fn0 {k : Nat} {f : Addr} {fd : FuncData} {x : Str} {p : Pos} {ct : WE} (G : FnG X.prog X.w X.K X.mg X.base k f fd [] (spOf X.K c.cl 0 ct)) (hK : c.K = X.K) (hr : Room k X.A) (hg0 : X.A.guards = some []) (hg : Gl X x) (hm : X.mg x = some (.ref f)) (hk : PySem.W.keepIn X.K (.ref f) = true) (hb : Binds X.K fd [] []) (tk : Takes X c.W)
    (hdb : (x == ("__debug__" : Str)) = false := by decide) : PE X (.Call (.Name x p) [] [] pos) (liftE c (wFn 0 ct arNil)) :=
  PE.imp (pe_callG0 G hr hg0 hg hm hk hb tk hdb) fun σ H Q ⟨F, ad, τ, Xp, P, R, xo, ⟨τ0, hp, ⟨hl, nd⟩, q⟩, kk⟩ => by
    show spOf X.K c.cl 0 ct [] H Q (L2.WE c.W σ)
    rw [← hK]
    exact call_use R xo .nil rfl hp nd q kk
end
end PV
end

section
set_option maxRecDepth 100000
namespace PV
open PySem PySem.Spec PyProof.Rows L2
set_option autoImplicit false
section
variable {X : Cx} {c : LC} {pos : Pos} {e : Expr} {w : WE}
/-! ### T.index(x), T a tuple of texts of the module -/
theorem WrA.strs : ∀ {us : List Value} {vs : List V} {xs : List Str}, WrA us vs (xs.map .str) → vs = xs.map V.str
  | _, _, [], .nil => rfl
  | _, _, x :: xs, .cons (.str _ _) r => congrArg (V.str x :: ·) r.strs
def wIndex (xs : List Str) (w : WE) : WE := fun τ X P => w τ X fun d τ1 => ∃ (z : Str) (j : Nat), d = .str z ∧ xs[j]? = some z ∧ (∀ m, m < j → xs[m]? ≠ some z) ∧ P (.int j) τ1
theorem ppe_index {x : Str} {p p2 : Pos} {a : Addr} {xs : List Str} (hK : c.K = X.K) (hg : Gl X x) (hm : X.mg x = some (.ref a)) (k : KTup c.K a (xs.map .str)) (he : PE X e (liftE c w)) (hd : (x == ("__debug__" : Str)) = false := by decide)
    (hbase : attributeBase (.Name x p) "index" X.env (eval (.Name x p) X.env) = eval (.Name x p) X.env := by rfl)
    (hfew : ((backTo pos (starEach [e] X.env)).all (fun x => !x.1) && (backToKw pos (keywordEach [] X.env)).all (fun x => x.1.isSome)
      && decide (([e] : List Expr).length + ([] : List Keyword).length + (if ([] : List Keyword).isEmpty then 0 else 1) < 30)) = true := by rfl)
    (hline : (p2.endLine == pos.line) = true := by rfl) (hs : starEach [e] X.env = (false, eval e X.env) :: starEach [] X.env := by rfl) (hplain : (backTo pos (starEach [] X.env)).any (·.1) = false := by rfl) :
    PE X (.Call (.Attribute (.Name x p) "index" p2) [e] [] pos) (liftE c (wIndex xs w)) := by
  obtain ⟨us, vs, n, h1, h2, h3⟩ := k
  have ev := h3.strs
  subst ev
  have hq : ∀ H, SqT X.K H a (xs.map V.str) := fun H => .inr ⟨_, us.toArray, n, by rw [← hK]; exact h1, rfl, rfl, by rw [List.size_toArray]; exact h2, by simpa using h3.vals⟩
  refine PE.imp (pe_bm PySem.F.plainAttrs_tuple PySem.F.slot_tuple_index PySem.F.type_tuple_index mt_tup_index (pe_glob (v := .ref a) hg hm rfl hd) (pa_cons he pa_nil hs) hbase hfew hline hs hplain) fun σ H Q ⟨F, ad, τ, Xp, P, R, x, h, k⟩ => ?_
  refine ⟨.inr (.inl ⟨rfl, _, by rw [← hK]; exact h1, rfl, rfl⟩), useE R x h fun d τ1 v H1 ⟨z, j, h4, h5, h6, q⟩ R1 _ dn => ?_⟩
  subst h4
  exact ⟨a, xs, z, j, rfl, by rw [dn_str dn], hq _, h5, h6, k _ _ _ _ q R1 (.int _)⟩
/-! ### isinstance(x, (A, B)) -/
theorem kit2 {K : Fg} {a t u : String} (ha : a ∈ ["NoneType", "bool", "int", "str", "list", "tuple", "dict"]) (ht : t ∈ ["bool", "int", "str", "list", "tuple", "dict"]) (hu : u ∈ ["bool", "int", "str", "list", "tuple", "dict"]) :
    PySem.W.kitAny K (.type a) [.type t, .type u] = some (isiS a t || isiS a u) :=
  kitAny_cons (kit_ty (kit_table _ ha _ ht)) (fun e => by rw [e]; exact kitAny_cons (kit_ty (kit_table _ ha _ hu)) (fun e => by rw [e]; exact kitAny_nil) (fun e => by rw [e]; rfl)) (fun e => by rw [e]; rfl)
theorem ppe_isiT {p p2 p3 p4 : Pos} {kk : Nat} {T U : Str} {t u : String} (hK : c.K = X.K) (hg : Gl X "isinstance") (hm : X.mg "isinstance" = none) (hgT : Gl X T) (hmT : X.mg T = none) (hvT : bootBuiltins T = some (.type t)) (ht : t ∈ ["bool", "int", "str", "list", "tuple", "dict"])
    (hgU : Gl X U) (hmU : X.mg U = none) (hvU : bootBuiltins U = some (.type u)) (hu : u ∈ ["bool", "int", "str", "list", "tuple", "dict"]) (he : PE X e (liftE c w))
    (hn : T ≠ "__name__" := by decide) (hd : (T == ("__debug__" : Str)) = false := by decide) (hn2 : U ≠ "__name__" := by decide) (hd2 : (U == ("__debug__" : Str)) = false := by decide)
    (hs : starEach [e, .Tuple [.Name T p2, .Name U p3] kk p4] X.env = (false, eval e X.env) :: starEach [.Tuple [.Name T p2, .Name U p3] kk p4] X.env := by rfl)
    (hs2 : starEach [.Tuple [.Name T p2, .Name U p3] kk p4] X.env = (false, eval (.Tuple [.Name T p2, .Name U p3] kk p4) X.env) :: starEach [] X.env := by rfl)
    (ht1 : starEach [.Name T p2, .Name U p3] X.env = (false, eval (.Name T p2) X.env) :: starEach [.Name U p3] X.env := by rfl) (ht2 : starEach [.Name U p3] X.env = (false, eval (.Name U p3) X.env) :: starEach [] X.env := by rfl)
    (hpl : (backTo pos (starEach [.Tuple [.Name T p2, .Name U p3] kk p4] X.env)).any (·.1) = false := by rfl) :
    PE X (.Call (.Name "isinstance" p) [e, .Tuple [.Name T p2, .Name U p3] kk p4] [] pos) (liftE c (wIsiT t u w)) :=
  PE.imp (pe_callB call_isiT hg hm PyProof.Rows.boot_isinstance (pa_cons he (pa_cons (pe_tup (pa_cons (pe_bltn (v := .ty t) hgT hmT hvT rfl hn hd) (pa_cons (pe_bltn (v := .ty u) hgU hmU hvU rfl hn2 hd2) pa_nil ht2) ht1)) pa_nil hs2) hs) (by decide) (by decide) hs hpl) fun σ H Q ⟨F, ad, τ, Xp, P, R, x, hw, k⟩ =>
    useE R x hw fun d τ1 v H1 p R1 _ dn => by
      refine ⟨show (2 : Nat) ≤ sizeLine by decide, fun q hq => ?_⟩
      have s := same_upd (o := .tup [.ty t, .ty u]) hq
      refine ⟨v, q, [.ty t, .ty u], .type (tyD d), [.type t, .type u], isiS (tyD d) t || isiS (tyD d) u, rfl, upd_same, .cons (.ty t) (.cons (.ty u) .nil), ?_, kit2 (tyD_mem d) ht hu, k _ _ _ _ p (R1.same s) (.bl _)⟩
      rw [← hK]
      exact tyX_of (dn.grow s (B' := Bd F ad τ1) fun _ m => .inl m)
end
end PV
end

section
set_option maxRecDepth 100000
namespace PV
open PySem PySem.Spec PyProof.Rows L2
set_option autoImplicit false
/-! ### comprehensions of two clauses -/
def lcW2 (g : WG) (t : WT) (s1 : WI) (g1 : WG) (t1 : WT) (e : WE) (vs vs1 : List Nat) : List D → List D → (List D → Ta → Prop) → Ta → Prop
  | [], acc, P, τ => P acc τ
  | d :: ds, acc, P, τ => g d τ fun τ1 => t τ1 (fun _ _ => False) fun b τ2 => if b = true then s1 τ2 (fun _ _ => False) fun ds1 τ3 =>
      lcW g1 t1 e vs1 ds1 acc (fun acc2 τ4 => lcW2 g t s1 g1 t1 e vs vs1 ds acc2 P (wipeT τ4 vs)) (wipeT τ3 vs1)
    else lcW2 g t s1 g1 t1 e vs vs1 ds acc P (wipeT τ2 vs)
def wLC2 (s : WI) (g : WG) (t : WT) (s1 : WI) (g1 : WG) (t1 : WT) (e : WE) (vs vs1 : List Nat) : WA := fun τ X P => s τ X fun ds τ1 => okW τ1 vs ∧ lcW2 g t s1 g1 t1 e vs vs1 ds [] (fun acc τ2 => P acc (backT τ1 τ2 vs)) (wipeT τ1 vs)
section
variable {X : Cx} {c : LC} {pos : Pos}
theorem wipe_in {σ σ2 : L2.St} {vs vs1 : List Nat} (hv : ∀ i ∈ vs1, i ∈ vs) (h : wipe σ2 vs = wipe σ vs) (i : Nat) (hi : i ∉ vs) : (wipe σ vs)[i]? = (wipe σ2 vs1)[i]? := by
  rw [wipe_get fun m => hi (hv i m), ← wipe_get (σ := σ2) hi, h]
theorem goD {H H' : Hp} {mu mu' : Addr → Prop} {D : Addr} (g : Go H mu H' mu') : Go H (fun a => mu a ∨ a = D) H' (fun a => mu' a ∨ a = D) :=
  ⟨fun a o e n => g.keep a o e fun m => n (.inl m), fun a m => m.elim (fun m => (g.new a m).elim (fun m => .inl (.inl m)) .inr) (fun m => .inl (.inr m)), g.there⟩
theorem wipe_mu {ad : Nat → Addr} {τ : Ta} {vs : List Nat} : ∀ a, Mu ad (wipeT τ vs) a → Mu ad τ a := fun a ⟨j, ⟨ds, h⟩, e⟩ => ⟨j, ⟨ds, (wipeT_own h).2⟩, e⟩
theorem lc2_use {s s1 : WI} {g g1 : WG} {t t1 : WT} {e : WE} {vs vs1 : List Nat} {σ : L2.St} {H : Hp} {Q : VK} (hv : ∀ i ∈ vs1, i ∈ vs) (h : liftF c (wLC2 s g t s1 g1 t1 e vs vs1) σ H Q) :
    tLc2 (liftI c s) (liftG c.nox (SW vs) g) (liftT c.nox t) (liftI c.nox s1) (liftG c.nox (SW vs1) g1) (liftT c.nox t1) (liftE c.nox e) vs vs1 σ H Q := by
  obtain ⟨F, ad, τ, Xp, P, R, x, hw, k⟩ := h
  refine ⟨F, ad, τ, Xp, _, R, x, hw, fun ds τ1 J H1 ⟨ok, hl⟩ R1 sv D hD => ?_⟩
  have R2 : Rep c.K (F.at ad τ1 H1 D) ad (wipe σ vs) (wipeT τ1 vs) (upd H1 D (.lst [])) :=
    (R1.here.plus hD (same_upd hD) (by rw [upd_same]; exact fun z => nomatch z)).wipe (fun i hi => wipe_get hi) (wipe_length _ _)
  have hfo : ∀ a, (F.at ad τ1 H1 D).fo a → F.fo a ∨ H1 a = none := fun a m => m.elim .inl fun m => .inr (by rw [m]; exact hD)
  have hDfo : (F.at ad τ1 H1 D).fo D := .inr rfl
  refine ⟨fun i m H => m = ds.length - i ∧ i ≤ ds.length ∧ ∃ τ' acc xs, Rep c.K (F.at ad τ1 H1 D) ad (wipe σ vs) τ' H ∧ H D = some (.lst xs) ∧ DnA c.K H (Bd (F.at ad τ1 H1 D) ad τ') xs acc ∧
    lcW2 g t s1 g1 t1 e vs vs1 (ds.drop i) acc (fun acc τ2 => P acc (backT τ1 τ2 vs)) τ', ⟨ds.length, by simp, Nat.zero_le _, _, [], [], R2, upd_same, .nil, hl⟩, ?_⟩
  rintro i m H2 ⟨rfl, hi, τ', acc, xs, R', hx, dx, hl'⟩
  by_cases hlt : i < ds.length
  · obtain ⟨a1, a2⟩ := sv.plain.go i H2 (Mu ad τ') (F.at ad τ1 H1 D).fo R'.go hfo R'.fo hlt
    rw [List.drop_eq_getElem_cons hlt] at hl'
    refine .inr ⟨a1, fun H => ∃ τ' acc xs, Rep c.K (F.at ad τ1 H1 D) ad (wipe σ vs) τ' H ∧ H D = some (.lst xs) ∧ DnA c.K H (Bd (F.at ad τ1 H1 D) ad τ') xs acc ∧
      lcW2 g t s1 g1 t1 e vs vs1 (ds.drop (i + 1)) acc (fun acc τ2 => P acc (backT τ1 τ2 vs)) τ', fun H' ⟨τ', acc, xs, r1, r2, r3, r4⟩ => ⟨ds.length - (i + 1), by omega, rfl, hlt, τ', acc, xs, r1, r2, r3, r4⟩, fun y H3 yl => ?_⟩
    obtain ⟨s3, d3⟩ := a2 y H3 yl
    have R3 := R'.same s3
    have hx3 := s3 _ _ hx
    have dx3 := dx.grow s3 (B' := Bd (F.at ad τ1 H1 D) ad τ') fun _ m => .inl m
    refine ⟨(F.at ad τ1 H1 D).here ad τ' H3, ad, τ', ds[i], _, R3.here, d3 _ (List.getElem?_eq_getElem hlt), hl', fun τ4 ad4 σ4 H4 p4 R4' s4 a4 => ?_⟩
    have ea : ad4 = ad := a4.resolve_left sw_ne
    subst ea
    have R4 := R3.back R4'
    have sw : wipe σ4 vs = wipe σ vs := Eq.trans s4 wipe_wipe
    have hx4 : H4 D = some (.lst xs) := R4'.go.keep _ _ hx3 (R3.ne_fo hDfo)
    have dx4 := R3.carryA R4' dx3
    refine ⟨sw, useT R4 xok_nox p4 fun b τ5 H5 p5 R5 R5' => ?_⟩
    have hx5 : H5 D = some (.lst xs) := R5'.go.keep _ _ hx4 (R4.ne_fo hDfo)
    have dx5 := R4.carryA R5' dx4
    cases b with
    | false => exact ⟨wipeT τ5 vs, acc, xs, R5.wipe (fun i hi => wipe_get_eq sw i hi) (wipe_len_eq sw), hx5, dx5.less wipe_bd, p5⟩
    | true =>
      refine ⟨(F.at ad4 τ1 H1 D).here ad4 τ5 H5, ad4, τ5, _, _, R5.here, xok_nox, p5, fun ds1 τ6 J1 H6 p6 R6' sv1 => ?_⟩
      have R6 := R5.back R6'
      have hx6 : H6 D = some (.lst xs) := R6'.go.keep _ _ hx5 (R5.ne_fo hDfo)
      have dx6 := R5.carryA R6' dx5
      -- the inner loop
      have sv2 := sv1 (fun a => a = D) (fun a e => by rw [e]; exact hDfo) (fun a e => ⟨xs, by rw [e]; exact hx6⟩)
      refine ⟨fun j m H => m = ds1.length - j ∧ j ≤ ds1.length ∧ ∃ τ' acc xs, Rep c.K (F.at ad4 τ1 H1 D) ad4 (wipe σ4 vs1) τ' H ∧ Go H6 (fun a => Mu ad4 τ6 a ∨ a = D) H (fun a => Mu ad4 τ' a ∨ a = D) ∧ H D = some (.lst xs) ∧ DnA c.K H (Bd (F.at ad4 τ1 H1 D) ad4 τ') xs acc ∧
        lcW g1 t1 e vs1 (ds1.drop j) acc (fun acc2 τ4 => lcW2 g t s1 g1 t1 e vs vs1 (ds.drop (i + 1)) acc2 (fun acc τ2 => P acc (backT τ1 τ2 vs)) (wipeT τ4 vs)) τ',
        ⟨ds1.length, by simp, Nat.zero_le _, wipeT τ6 vs1, acc, xs, R6.wipe (fun i hi => wipe_get hi) (wipe_length _ _), goD (((Go.refl _ _)).less fun a m => wipe_mu a m), hx6, dx6.less wipe_bd, p6⟩, ?_⟩
      rintro j m H7 ⟨rfl, hj, τ7, acc7, xs7, R7, G7, hx7, dx7, hl7⟩
      by_cases hjt : j < ds1.length
      · obtain ⟨b1, b2⟩ := sv2.go j H7 (fun a => Mu ad4 τ7 a ∨ a = D) (F.at ad4 τ1 H1 D).fo G7 (fun _ m => .inl m) R7.fo hjt
        rw [List.drop_eq_getElem_cons hjt] at hl7
        refine .inr ⟨b1, fun H => ∃ τ' acc xs, Rep c.K (F.at ad4 τ1 H1 D) ad4 (wipe σ4 vs1) τ' H ∧ Go H6 (fun a => Mu ad4 τ6 a ∨ a = D) H (fun a => Mu ad4 τ' a ∨ a = D) ∧ H D = some (.lst xs) ∧ DnA c.K H (Bd (F.at ad4 τ1 H1 D) ad4 τ') xs acc ∧
          lcW g1 t1 e vs1 (ds1.drop (j + 1)) acc (fun acc2 τ4 => lcW2 g t s1 g1 t1 e vs vs1 (ds.drop (i + 1)) acc2 (fun acc τ2 => P acc (backT τ1 τ2 vs)) (wipeT τ4 vs)) τ',
          fun H' ⟨τ', acc, xs, r1, r2, r3, r4, r5⟩ => ⟨ds1.length - (j + 1), by omega, rfl, hjt, τ', acc, xs, r1, r2, r3, r4, r5⟩, fun y H8 yl => ?_⟩
        obtain ⟨s8, d8⟩ := b2 y H8 yl
        have R8 := R7.same s8
        have G8 : Go H6 (fun a => Mu ad4 τ6 a ∨ a = D) H8 (fun a => Mu ad4 τ7 a ∨ a = D) := G7.trans (goD ⟨fun a o e _ => s8 _ _ e, fun a m => .inl m, fun a e z => e (by
          cases q : H7 a with
          | none => rfl
          | some o => rw [s8 _ _ q] at z; cases z)⟩)
        have hx8 := s8 _ _ hx7
        have dx8 := dx7.grow s8 (B' := Bd (F.at ad4 τ1 H1 D) ad4 τ7) fun _ m => .inl m
        refine ⟨(F.at ad4 τ1 H1 D).here ad4 τ7 H8, ad4, τ7, ds1[j], _, R8.here, (d8 _ (List.getElem?_eq_getElem hjt)).less (fun a m => m.elim (fun m => .inl (.inl m)) .inr), hl7, fun τ9 ad9 σ9 H9 p9 R9' s9 a9 => ?_⟩
        have ea : ad9 = ad4 := a9.resolve_left sw_ne
        subst ea
        have R9 := R8.back R9'
        have G9 := G8.trans (goD R9'.go)
        have sw1 : wipe σ9 vs1 = wipe σ4 vs1 := Eq.trans s9 wipe_wipe
        have hx9 : H9 D = some (.lst xs7) := R9'.go.keep _ _ hx8 (R8.ne_fo hDfo)
        have dx9 := R8.carryA R9' dx8
        refine ⟨sw1, useT R9 xok_nox p9 fun b τ10 H10 p10 R10 R10' => ?_⟩
        have G10 := G9.trans (goD R10'.go)
        have hx10 : H10 D = some (.lst xs7) := R10'.go.keep _ _ hx9 (R9.ne_fo hDfo)
        have dx10 := R9.carryA R10' dx9
        cases b with
        | false => exact ⟨wipeT τ10 vs1, acc7, xs7, R10.wipe (fun i hi => wipe_get_eq sw1 i hi) (wipe_len_eq sw1), G10.less fun a m => m.elim (fun m => .inl (wipe_mu a m)) .inr, hx10, dx10.less wipe_bd, p10⟩
        | true =>
          refine useE R10 xok_nox p10 fun d τ11 v H11 ⟨p11, p12⟩ R11 R11' dn => ?_
          have G11 := G10.trans (goD R11'.go)
          have hx11 : H11 D = some (.lst xs7) := R11'.go.keep _ _ hx10 (R10.ne_fo hDfo)
          have dx11 := R10.carryA R11' dx10
          refine ⟨xs7, hx11, by rw [dx11.len]; exact p11, wipeT τ11 vs1, acc7 ++ [d], xs7 ++ [v], ?_, ?_, upd_same, ?_, p12⟩
          · exact (R11.wipe (fun i hi => wipe_get_eq sw1 i hi) (wipe_len_eq sw1)).updFo hx11 hDfo hD
          · refine (G11.less fun a m => m.elim (fun m => .inl (wipe_mu a m)) .inr).trans ⟨fun a o e n => by rw [upd_ne fun z => n (.inr z)]; exact e, fun a m => .inl m, fun a e z => ?_⟩
            by_cases q : a = D
            · rw [q, upd_same] at z; cases z
            · rw [upd_ne q] at z; exact e z
          · exact (dn_updFo hx11 hDfo (dx11.app (.cons dn .nil))).less wipe_bd
      · have ej : j = ds1.length := by omega
        subst ej
        rw [List.drop_length] at hl7
        refine .inl ⟨sv2.stop H7 _ G7, wipeT τ7 vs, acc7, xs7, R7.wipe (fun i hi => wipe_in hv sw i hi) ?_, hx7, dx7.less wipe_bd, hl7⟩
        exact (wipe_len_eq sw).trans (wipe_length _ _).symm
  · have e : i = ds.length := by omega
    subst e
    rw [List.drop_length] at hl'
    exact .inl ⟨sv.plain.stop H2 _ R'.go, k acc _ D xs H2 hl' (R1.unwipe ok hD R') (R1.free0 hD) (R1.freeF hD) hx (dx.less fun a m => m.elim (fun ⟨j, ⟨ds', h⟩, e⟩ => by
      refine .inl ⟨j, ⟨ds', ?_⟩, e⟩
      have hlen : τ1.length = τ'.length := by rw [← R1.len, ← R'.len, wipe_length]
      by_cases hj : j ∈ vs
      · exfalso
        unfold OwnAt at h
        rw [backT_in hlen hj] at h
        have z := okW_mem ok j hj
        rcases h with h | h <;> (rw [h] at z; exact z)
      · unfold OwnAt at h ⊢
        rwa [backT_out hj] at h) .inr)⟩

section
variable {X : Cx} {c : LC} {pos : Pos} {elt tg iter tg1 iter1 : Expr} {ifs ifs1 : List Expr} {scope : Scope} {own : List (Str × Nat)} {vs vs1 : List Nat} {wi wi1 : WI} {g g1 : WG} {t t1 : WT} {e : WE} {i : Nat} {y : Str} {py spos : Pos}
/-- what the two clauses give, their names' places given -/
structure Two (X : Cx) (c : LC) (elt tg iter tg1 iter1 : Expr) (ifs ifs1 : List Expr) (scope : Scope) (own : List (Str × Nat)) (vs vs1 : List Nat) (wi wi1 : WI) (g g1 : WG) (t t1 : WT) (e : WE) : Prop where
  hi : PI X tg iter (liftI c wi)
  ok : BlkOk X.N X.env.scope scope own
  hv : own.map (·.2) = vs
  sub : ∀ i ∈ vs1, i ∈ vs
  hg : ∀ (s : Shared) (H : Hp) (C : Addr) (cl : List (Str × Addr)) (fp : List Addr), PG (X.blk s H scope (compEnvC scope cl C X.env) fp) tg (liftG c.nox (SW vs) g)
  ht : ∀ (s : Shared) (H : Hp) (C : Addr) (cl : List (Str × Addr)) (fp : List Addr), PTs (X.blk s H scope (compEnvC scope cl C X.env) fp) ifs (liftT c.nox t)
  hi1 : ∀ (s : Shared) (H : Hp) (C : Addr) (cl : List (Str × Addr)) (fp : List Addr), PI (X.blk s H scope (compEnvC scope cl C X.env) fp) tg1 iter1 (liftI c.nox wi1)
  hg1 : ∀ (s : Shared) (H : Hp) (C : Addr) (cl : List (Str × Addr)) (fp : List Addr), PG (X.blk s H scope (compEnvC scope cl C X.env) fp) tg1 (liftG c.nox (SW vs1) g1)
  ht1 : ∀ (s : Shared) (H : Hp) (C : Addr) (cl : List (Str × Addr)) (fp : List Addr), PTs (X.blk s H scope (compEnvC scope cl C X.env) fp) ifs1 (liftT c.nox t1)
  he : ∀ (s : Shared) (H : Hp) (C : Addr) (cl : List (Str × Addr)) (fp : List Addr), PE (X.blk s H scope (compEnvC scope cl C X.env) fp) elt (liftE c.nox e)
theorem lcf2 (hc : X.calm = true) (hN : X.N.Nodup) (w : Two X c elt tg iter tg1 iter1 ifs ifs1 scope own vs vs1 wi wi1 g g1 t t1 e) (hs : ∀ x, foldedSetIterable iter X.env x = pure x := by intro _; rfl) (hs1 : ∀ env x, foldedSetIterable iter1 env x = pure x := by intro _ _; rfl) :
    PE X (.ListComp elt [⟨tg, iter, ifs, 0⟩, ⟨tg1, iter1, ifs1, 0⟩] scope pos) (liftF c (wLC2 wi g t wi1 g1 t1 e vs vs1)) := by
  obtain ⟨hi, ok, rfl, sub, hg, ht, hi1, hg1, ht1, he⟩ := w
  exact PE.imp (pe_lc2 hc hN hi ok sub hg ht hi1 hg1 ht1 he hs hs1) fun σ H Q h => lc2_use sub h
theorem lcv2 (hc : X.calm = true) (hN : X.N.Nodup) (hy : X.N[i]? = some y) (hyl : X.env.scope.names.lookup y = some .local)
    (hsw : swapsWith (.ListComp elt [⟨tg, iter, ifs, 0⟩, ⟨tg1, iter1, ifs1, 0⟩] scope pos) (some (.Name y py)) spos.line X.env = pure true) (w : Two X c elt tg iter tg1 iter1 ifs ifs1 scope own vs vs1 wi wi1 g g1 t t1 e) (hs : ∀ x, foldedSetIterable iter X.env x = pure x := by intro _; rfl) (hs1 : ∀ env x, foldedSetIterable iter1 env x = pure x := by intro _ _; rfl) :
    PS X (.Assign [.Name y py] (.ListComp elt [⟨tg, iter, ifs, 0⟩, ⟨tg1, iter1, ifs1, 0⟩] scope pos) spos) (liftS c (sSetL i (wLC2 wi g t wi1 g1 t1 e vs vs1))) := by
  obtain ⟨hi, ok, rfl, sub, hg, ht, hi1, hg1, ht1, he⟩ := w
  exact PS.imp (ps_setLc2 hc hN hy hyl hsw hi ok sub hg ht hi1 hg1 ht1 he hs hs1) fun T σ H ⟨F, ad, τ, Xp, E, R, x, h, eo⟩ => lc2_use sub ⟨F, ad, τ, Xp, _, R, x, h, fun ds τ' p xs H' ⟨ok, q⟩ R' h0 hf hp dn =>
    eo.nx _ ad _ H' q (R'.minus.setVal ok (R'.let hf hp dn))⟩
theorem lcs2 (hc : X.calm = true) (hN : X.N.Nodup) (hy : X.N[i]? = some y) (hyl : X.env.scope.names.lookup y = some .local)
    (hsw : swapsWith (.ListComp elt [⟨tg, iter, ifs, 0⟩, ⟨tg1, iter1, ifs1, 0⟩] scope pos) (some (.Name y py)) spos.line X.env = pure true) (w : Two X c elt tg iter tg1 iter1 ifs ifs1 scope own vs vs1 wi wi1 g g1 t t1 e) (hs : ∀ x, foldedSetIterable iter X.env x = pure x := by intro _; rfl) (hs1 : ∀ env x, foldedSetIterable iter1 env x = pure x := by intro _ _; rfl) :
    PS X (.Assign [.Name y py] (.ListComp elt [⟨tg, iter, ifs, 0⟩, ⟨tg1, iter1, ifs1, 0⟩] scope pos) spos) (liftS c (sSetF i (wLC2 wi g t wi1 g1 t1 e vs vs1))) := by
  obtain ⟨hi, ok, rfl, sub, hg, ht, hi1, hg1, ht1, he⟩ := w
  exact PS.imp (ps_setLc2 hc hN hy hyl hsw hi ok sub hg ht hi1 hg1 ht1 he hs hs1) fun T σ H ⟨F, ad, τ, Xp, E, R, x, h, eo⟩ => lc2_use sub ⟨F, ad, τ, Xp, _, R, x, h, fun ds τ' p xs H' ⟨ok, q⟩ R' h0 hf hp dn => eo.nx _ _ _ H' q (R'.setOwn ok h0 hf hp dn)⟩
end
end
end PV
end

section
set_option maxRecDepth 100000
namespace PV
open PySem PySem.Spec PyProof.Rows L2
set_option autoImplicit false
section
variable {X : Cx} {c : LC} {e : Expr} {w : WE} {tg : Expr}
/-! ### a loop over a list or a tuple, whichever comes -/
def tLT (K : Fg) (tl : TE) : TI := fun σ H R => tl σ H fun x H1 => ∃ a, x = .ref a ∧ (((∃ xs, SqL K H1 a xs) ∧ R (Itl K a) H1) ∨ ((∃ xs, SqT K H1 a xs) ∧ R (Itt K a) H1))
theorem pi_lt {tl : TE} (hl : PE X e tl) : PI X tg e (tLT X.K tl) := by
  refine ⟨fun pins s σ H R I h => thn (hl.run pins s σ H _ I h) fun v s1 ⟨x, H1, I1, r1, a, ex, q1⟩ => ?_⟩
  subst ex
  cases r1
  have new : ∀ b, b ∈ [s1.heap.objs.size] → FpOk X pins H1 b := fun b hb => by
    rw [List.mem_singleton.mp hb]
    exact I1.fpOk (Nat.le_refl _) (I1.hok.fresh (Nat.le_refl _))
  have keep : ∀ (o : Obj), Inv X pins σ H1 { s1 with heap := s1.heap.push o } := fun o => I1.kept (t' := s1.toks) fun b u q => Heap.get?_push_of_some _ q
  rcases q1 with ⟨⟨xs, hq⟩, q⟩ | ⟨⟨xs, hq⟩, q⟩
  · obtain ⟨its, rv, p, hz⟩ := I1.list hq
    exact wpAny_pyIter_list p.isList ⟨s1.heap.objs.size, [s1.heap.objs.size], _, _, H1, rfl, keep _, turn_list a _, ⟨_, Heap.get?_push_size _ rfl, rfl, rfl⟩, new, q⟩
  · obtain ⟨its, rv, p, hz⟩ := I1.tuple hq
    exact wpAny_pyIter_tuple (show s1.heap.IsTuple a its.toArray from p) ⟨s1.heap.objs.size, [s1.heap.objs.size], _, _, H1, rfl, keep _, turn_tuple a _, ⟨_, Heap.get?_push_size _ rfl, rfl, rfl⟩, new, q⟩
def iLT (w : WE) : WI := fun τ X P => w τ X fun d τ1 => ∃ ds, (d = .list ds ∨ d = .tuple ds) ∧ P ds τ1
theorem ppi_lt (hK : c.K = X.K) (he : PE X e (liftE c w)) : PI X tg e (liftI c (iLT w)) :=
  PI.imp (pi_lt he) fun σ H Q ⟨F, ad, τ, Xp, P, R, x, h, k⟩ => useE R x h fun d τ1 v H1 ⟨ds, hd, p⟩ R1 _ dn => by
    rcases hd with rfl | rfl
    · cases dn with
      | @lst a xs _ hs hn ha => exact ⟨a, rfl, .inl ⟨⟨xs, .inl hs⟩, by rw [← hK]; exact k ds τ1 _ H1 p R1 (serves_lst R1.lsts hs hn ha)⟩⟩
    · cases dn with
      | @tup a xs _ hs ha => exact ⟨a, rfl, .inr ⟨⟨xs, by rw [← hK]; exact hs⟩, by rw [← hK]; exact k ds τ1 _ H1 p R1 (serves_tup R1.lsts hs ha)⟩⟩
end
end PV
end

section
set_option maxRecDepth 100000
namespace PV
open PySem PySem.Spec PyProof.Rows L2
set_option autoImplicit false
/-! ### enumerate of a tuple -/
abbrev tupIt (a : Addr) : Obj := { cls := .type "tuple_iterator", data := .fields #[.ref a, .int 0 0] }
abbrev enumOb (it : Addr) : Obj := { cls := .type "enumerate", data := .fields #[.none, .bool false, .ref it, rawInt 0, .none, .none] }
set_option maxHeartbeats 1000000 in
theorem enum_newT (a : Addr) (its : Array Value) : Meets (Builtin.«enumerate.__new__» ⟨[.type "enumerate", .ref a], []⟩) (fun _ R s => s.heap.IsTuple a its ∧
    R (.ok (.ret (.ref (s.heap.push (tupIt a)).objs.size))) { s with heap := (s.heap.push (tupIt a)).push (enumOb s.heap.objs.size) }) :=
  .of_wp fun prog w A R s h => by
    obtain ⟨hp, gens, dr, tk, os⟩ := s
    obtain ⟨ht, h⟩ := h
    have sub1 := sub_enumerate
    have ht' : Heap.IsTuple (Shared.heap ⟨hp, gens, dr, tk, os⟩) a its := ht
    have beg := fun (P : Program) (w : World) (A : Around) (E : Value → Shared → Prop) (Q : Value → Shared → Prop) (q : Q (.ref hp.objs.size) ⟨hp.push (tupIt a), gens, dr, tk, os⟩) => (begins_tuple a its).iter P w A E ⟨hp, gens, dr, tk, os⟩ Q ht' q
    wp_walk
    refine wpAny_stack_any fun st => wpAny_pure ?_
    split
    · rename_i c _ _ _ _ _
      cases (c == Value.type "enumerate")
      · wp_walk using wpAny_pyIter_tuple ht'
        exact ⟨_, rfl, h⟩
      · wp_walk using wpAny_pyIter_tuple ht'
        exact ⟨_, rfl, h⟩
    · wp_walk using wpAny_pyIter_tuple ht'
      exact ⟨_, rfl, h⟩
section
variable {P : Program} {w : World} {A : Around} {E : Value → Shared → Prop} {s : Shared}
theorem call_enumT {a : Addr} {its : Array Value} {Q : Value → Shared → Prop} (ht : s.heap.IsTuple a its)
    (h : ∀ h2 : Heap, IsEnum h2 (s.heap.objs.size + 1) s.heap.objs.size 0 .none → h2.IsTupleIter s.heap.objs.size a 0 → (∀ b o, s.heap.get? b = some o → h2.get? b = some o) → Q (.ref (s.heap.objs.size + 1)) { s with heap := h2 }) :
    wpAny (model P w) A (call (.type "enumerate") [.ref a]) Q E s := by
  refine callType_new F.called_enumerate (by decide) (F.typeCall_enumerate_1 _) (F.newCall_enumerate_1 _) (fun obj => F.args_object_init_2 obj _) F.entry_enumerate_new (enum_newT a its) ⟨ht, ?_⟩
  have hz : (s.heap.push (tupIt a)).objs.size = s.heap.objs.size + 1 := Heap.size_push ..
  show _ ∧ _
  rw [hz]
  have he : IsEnum ((s.heap.push (tupIt a)).push (enumOb s.heap.objs.size)) (s.heap.objs.size + 1) s.heap.objs.size 0 .none := by
    have := Heap.get?_push_size (s.heap.push (tupIt a)) (o := enumOb s.heap.objs.size) rfl
    rw [hz] at this
    exact this
  exact ⟨⟨_, he, rfl⟩, h _ he ⟨_, Heap.get?_push_of_some _ (Heap.get?_push_size _ rfl), rfl, rfl⟩ fun b o x => Heap.get?_push_of_some _ (Heap.get?_push_of_some _ x)⟩
end
/-- the tuple at a, each item in a new pair with its place -/
def IteT (K : Fg) (a : Addr) : It :=
  ⟨fun i H => ∃ (xs : List V) (x : V), SqT K H a xs ∧ xs[i]? = some x, fun i H v H' => ∃ T x, v = .ref T ∧ H T = none ∧ H' = upd H T (.tup [.int (i : Nat), x]) ∧ ∀ xs, SqT K H a xs → xs[i]? = some x, fun i H => ∃ xs : List V, SqT K H a xs ∧ xs.length = i⟩
theorem apart_of {h : Heap} {a b : Addr} {o o' : Obj} (h1 : h.get? a = some o) (h2 : h.get? b = some o') (c : o.cls ≠ o'.cls) : a ≠ b := fun e => by
  subst e
  rw [h1] at h2
  cases h2
  exact c rfl
theorem turn_enumT {P : Program} {w : World} {K : Fg} {elts : List Expr} {kk : Nat} {tpos : Pos} (a e it : Addr) :
    Turn P w K (.Tuple elts kk tpos) (IteT K a) [e, it] e (fun i h => (∃ old, IsEnum h e it ((i : Nat) : Int) old) ∧ h.IsTupleIter it a i ∧ e ≠ it) where
  mem := by simp
  obj := fun i h st b hb => by
    obtain ⟨⟨old, he⟩, ⟨o, ho, hc, hd⟩, _⟩ := st
    rcases (by simpa using hb : b = e ∨ b = it) with z | z <;> subst z
    · exact ⟨_, he, fun v q => nomatch q⟩
    · exact ⟨o, ho, fun v q => by rw [hd] at q; cases q⟩
  keep := fun i h h2 st k => let ⟨⟨old, he⟩, hi, ne⟩ := st; ⟨⟨old, k e (by simp) _ he⟩, hi.at fun o q => k it (by simp) o q, ne⟩
  item := by
    intro X hP hw hK hc i pins s σ H E I hf st hg
    subst hP hw hK
    obtain ⟨⟨old, he⟩, hit, ne⟩ := st
    obtain ⟨xs, x, hq, hx⟩ := hg
    obtain ⟨its, rv, p, hz⟩ := I.tuple hq
    obtain ⟨u, hu, ru⟩ := rv.get hx
    have pt : s.heap.IsTuple a its.toArray := p
    obtain ⟨oa, hoa, hca, _⟩ := id pt
    obtain ⟨oi, hoi, hci, _⟩ := id hit
    have nai : a ≠ it := apart_of hoa hoi (by rw [hca, hci]; decide)
    have nea : e ≠ a := apart_of he hoa (by rw [hca]; show Value.type "enumerate" ≠ Value.type "tuple"; decide)
    have hel : e < s.heap.objs.size := Heap.lt_size he
    have hil : it < s.heap.objs.size := Heap.lt_size hoi
    have hlt : i < its.toArray.size := by
      have := (List.getElem?_eq_some_iff.mp hu).1
      simpa using this
    have hd1 : X.A.in1.in1.handled = none := by simp [I.ok.hd hc]
    have D := PySem.Draws.tuple (prog := X.prog) (w := X.w) (A := X.A.in1) (by simp [I.ok.hd hc]) it a nai its.toArray
    refine wpAny_pyNext_enum_itemC D he ⟨hit, pt⟩ hlt ne (by simp; exact ⟨ne, nea⟩) fun y h' tk hy ho hst hT hsz hk => ?_
    have ey : y = u := by
      have hu' : its.toArray[i]? = some u := by simpa using hu
      exact Option.some.inj (hy.symm.trans hu')
    subst ey
    refine ⟨_, rfl, wpAny_letOwnedTupleGo_enum (s := { s with heap := h', toks := tk + 1 }) ho fun h2 he2 sb => ?_⟩
    have hT2 : h2.get? s.heap.objs.size = some { cls := .type "tuple", data := .seq #[.int i tk, y] } := (sb.2 _ (Nat.ne_of_gt hel)).trans hT
    have new : ObjOk X.prog X.w (upd H s.heap.objs.size (.tup [.int (i : Nat), x])) h2 s.heap.objs.size (.tup [.int (i : Nat), x]) :=
      ⟨by show 2 ≤ sizeLine; decide, [.int i tk, y], .cons ⟨_, rfl⟩ (.cons ru .nil), ⟨_, hT2, rfl, _, rfl⟩⟩
    have I1 : Inv X pins σ (upd H s.heap.objs.size (.tup [.int (i : Nat), x])) { s with heap := h2, toks := tk + 1 } :=
      I.turnedNew (ch := [e, it]) (fun b ob hb q => (sb.2 b (fun z => hb (by simp [z]))).trans (hk b ob (fun z => hb (by simp [z])) (fun z => hb (by simp [z])) q)) hf (Nat.le_refl _) new
    refine ⟨.ref s.heap.objs.size, _, I1, rfl, ⟨_, x, rfl, I.hok.fresh (Nat.le_refl _), rfl, fun ys hy => by rw [I.tuple_inj hy hq]; exact hx⟩, ⟨⟨y, ?_⟩, hst.1.at fun o q => (sb.2 it (Ne.symm ne)).trans q, ne⟩, fun b hb => ?_⟩
    · rw [show ((i + 1 : Nat) : Int) = (i : Int) + 1 by omega]
      exact he2
    · have lt : b < s.heap.objs.size := by
        rcases (by simpa using hb : b = e ∨ b = it) with z | z <;> subst z
        · exact hel
        · exact hil
      rw [upd_ne (Nat.ne_of_lt lt)]
      exact (hf b hb).1
  done := by
    intro X hP hw hK hc i pins s σ H E I hf st hg
    subst hP hw hK
    obtain ⟨⟨old, he⟩, hit, ne⟩ := st
    obtain ⟨xs, hq, hx⟩ := hg
    obtain ⟨its, rv, p, hz⟩ := I.tuple hq
    have pt : s.heap.IsTuple a its.toArray := p
    obtain ⟨oa, hoa, hca, _⟩ := id pt
    obtain ⟨oi, hoi, hci, _⟩ := id hit
    have nai : a ≠ it := apart_of hoa hoi (by rw [hca, hci]; decide)
    obtain ⟨f0, f1, f2, f3, f4, f5⟩ := hf it (by simp)
    have hl : its.toArray.size = i := by rw [List.size_toArray, ← rv.length, hx]
    have D := PySem.Draws.tuple (prog := X.prog) (w := X.w) (A := X.A.in1) (by simp [I.ok.hd hc]) it a nai its.toArray
    exact wpAny_pyNext_enum_endD D he ⟨by rw [hl]; exact hit, pt⟩ fun h' eb => ⟨rfl, I.turned (t' := s.toks) (fun b o hb q => eb b o hb q) f0 f1 f3 f4 f5⟩
  self := fun A i s Q E st h => let ⟨⟨_, he⟩, _⟩ := st; wpAny_pyIter_enum he h
def tEnumT (K : Fg) (ta : TA) : TI := fun σ H R => ta σ H fun vs H1 => ∃ a xs, vs = [.ref a] ∧ SqT K H1 a xs ∧ R (IteT K a) H1
theorem pi_enumT {X : Cx} {e : Expr} {ta : TA} {p pos tpos : Pos} {elts : List Expr} {kk : Nat} (hg : Gl X "enumerate") (hm : X.mg "enumerate" = none) (ha : PA X [e] ta) (hs : starEach [e] X.env = [(false, eval e X.env)] := by rfl) :
    PI X (.Tuple elts kk tpos) (.Call (.Name "enumerate" p) [e] [] pos) (tEnumT X.K ta) := by
  refine ⟨fun pins s σ H R I h => Call_ (ld_blt I hg hm PyProof.Rows.boot_enumerate (PyProof.Rows.callWith_type1 (thn (ha.run pos pins s σ H _ I h) fun us s1 ⟨vs, H1, I1, r1, a, xs, ex, hq, q⟩ => ?_) hs rfl))⟩
  subst ex
  cases r1 with
  | cons r rr =>
    cases rr
    cases r
    obtain ⟨its, rv, pt, hz⟩ := I1.tuple hq
    refine call_enumT (show s1.heap.IsTuple a its.toArray from pt) fun h2 he hit hk => wpAny_pyIter_enum he ?_
    refine ⟨s1.heap.objs.size + 1, [s1.heap.objs.size + 1, s1.heap.objs.size], _, _, H1, rfl, I1.kept (t' := s1.toks) hk, turn_enumT a (s1.heap.objs.size + 1) s1.heap.objs.size, ⟨⟨.none, he⟩, hit, Nat.succ_ne_self _⟩, fun b hb => ?_, q⟩
    have le : s1.heap.objs.size ≤ b := by
      rcases (by simpa using hb : b = s1.heap.objs.size + 1 ∨ b = s1.heap.objs.size) with z | z <;> subst z
      · exact Nat.le_succ _
      · exact Nat.le_refl _
    exact I1.fpOk le (I1.hok.fresh le)
section
variable {X : Cx} {c : LC}
theorem serves0_enumT {K : Fg} {H0 : Hp} {mu0 fo : Addr → Prop} {a : Addr} {xs : List V} {ds : List D} (l : Lsts H0 mu0) (hs : SqT K H0 a xs) (ha : DnA K H0 (fun a => mu0 a ∨ fo a) xs ds) : Serves0 K (IteT K a) (enumD ds) H0 mu0 fo where
  go := fun i H mu fo' g hf ht hi => by
    have s1 := SqT.go l g hs
    have a1 := DnA.go2 (fo := fo) (fo' := fo') l g hf ha
    have hi' : i < xs.length := by
      rw [ha.len]
      simpa [enumD] using hi
    refine ⟨⟨xs, xs[i], s1, List.getElem?_eq_getElem _⟩, fun v H' ⟨T, x, e1, e2, e3, e4⟩ => ?_⟩
    subst e1 e3
    refine ⟨same_upd e2, fun d hd => ?_⟩
    obtain ⟨y, h1, rfl⟩ := enumD_get hd
    obtain ⟨z, h2, h3⟩ := a1.get h1
    have := e4 xs s1
    rw [h2] at this
    cases this
    exact .tup (.inl (.inl upd_same)) ((DnA.cons (.int _) (.cons h3 .nil)).grow (same_upd e2) fun _ m => .inl m)
  stop := fun H mu g => ⟨xs, SqT.go l g hs, by rw [ha.len]; simp [enumD]⟩
def iEnT (a : WE) : WI := fun τ X P => a τ X fun d τ1 => ∃ ds, d = .tuple ds ∧ P (enumD ds) τ1
theorem ppi_enumT {a : Expr} {wa : WE} {p pos tpos : Pos} {elts : List Expr} {kk : Nat} (hK : c.K = X.K) (hg : Gl X "enumerate") (hm : X.mg "enumerate" = none) (ha : PE X a (liftE c wa)) (hs : starEach [a] X.env = [(false, eval a X.env)] := by rfl) :
    PI X (.Tuple elts kk tpos) (.Call (.Name "enumerate" p) [a] [] pos) (liftI c (iEnT wa)) :=
  PI.imp (pi_enumT hg hm (pa_cons ha pa_nil hs) hs) fun σ H Q ⟨F, ad, τ, Xp, P, R, x, h, k⟩ => useE R x h fun d τ1 v H1 ⟨ds, hd, p⟩ R1 _ dn => by
    subst hd
    cases dn with
    | @tup a xs _ hs ha => exact ⟨a, xs, rfl, by rw [← hK]; exact hs, by rw [← hK]; exact k _ _ _ _ p R1 (fun ws h lw => serves0_enumT (lsts_or R1.lsts lw) hs (ha.less (ws_less h)))⟩
end
end PV
end

section
set_option maxRecDepth 100000
namespace PV
open PySem PySem.Spec PyProof.Rows L2
set_option autoImplicit false
/-! ### reckoned: what a body does, as a function -/
inductive Res (α : Type) where
  | ok (a : α) (τ : Ta)
  | ex (x : Xn) (τ : Ta)
  | bad
def Res.to {α : Type} (r : Res α) (X : XP) (P : α → Ta → Prop) : Prop := match r with
  | .ok a τ => P a τ
  | .ex x τ => X x τ
  | .bad => False
def Res.bnd {α β : Type} (r : Res α) (k : α → Ta → Res β) : Res β := match r with
  | .ok a τ => k a τ
  | .ex x τ => .ex x τ
  | .bad => .bad
def ofO {α : Type} (o : Option α) (τ : Ta) : Res α := match o with
  | some a => .ok a τ
  | none => .bad
def rif {α : Type} (b : Bool) (r : Res α) : Res α := match b with
  | true => r
  | false => .bad
structure BR (α : Type) where
  w : Ta → XP → (α → Ta → Prop) → Prop
  e : Ta → Res α
  ok : ∀ (τ : Ta) (X : XP) (P : α → Ta → Prop), (e τ).to X P → w τ X P
abbrev BE := BR D
abbrev BT := BR Bool
abbrev BA := BR (List D)
abbrev BAr := BR (List Ar)
section
variable {α β : Type} {X : XP}
theorem BR.use {a : BR α} {k : α → Ta → Res β} {τ : Ta} {P : β → Ta → Prop} {Q : α → Ta → Prop} (h : ((a.e τ).bnd k).to X P) (f : ∀ (d : α) (τ1 : Ta), (k d τ1).to X P → Q d τ1) : a.w τ X Q := by
  refine a.ok τ X Q ?_
  cases e : a.e τ with
  | ok d τ1 => rw [e] at h; exact f d τ1 h
  | ex x τ1 => rw [e] at h; exact h
  | bad => rw [e] at h; exact h
theorem ofO_to {o : Option α} {τ : Ta} {P : α → Ta → Prop} (h : (ofO o τ).to X P) : ∃ r, o = some r ∧ P r τ := by
  cases o with
  | some a => exact ⟨a, rfl, h⟩
  | none => exact h.elim
theorem rif_to {b : Bool} {r : Res α} {P : α → Ta → Prop} (h : (rif b r).to X P) : b = true ∧ r.to X P := by
  cases b with
  | true => exact ⟨rfl, h⟩
  | false => exact h.elim
end
theorem vget {τ : Ta} {i : Nat} {d : D} (h : τ[i]? = some (.val d)) : τ[i]? = some (.val d) := h
def valAt (τ : Ta) (i : Nat) : Option D := match τ[i]? with
  | some (.val d) => some d
  | _ => none
def ownAt (τ : Ta) (i : Nat) : Option (List D) := match τ[i]? with
  | some (.own d) => some d
  | _ => none
theorem valAt_of {τ : Ta} {i : Nat} {d : D} (h : valAt τ i = some d) : τ[i]? = some (.val d) := by
  unfold valAt at h
  split at h
  · rename_i e; cases h; exact e
  · exact nomatch h
theorem ownAt_of {τ : Ta} {i : Nat} {d : List D} (h : ownAt τ i = some d) : τ[i]? = some (.own d) := by
  unfold ownAt at h
  split at h
  · rename_i e; cases h; exact e
  · exact nomatch h
def okSetb (τ : Ta) (i : Nat) : Bool := match τ[i]? with
  | some (.io _) => false
  | none => false
  | _ => true
theorem okSet_of {τ : Ta} {i : Nat} (h : okSetb τ i = true) : okSet τ i := by
  unfold okSetb at h
  unfold okSet
  cases q : τ[i]? with
  | none => rw [q] at h; exact nomatch h
  | some s => cases s with
    | io ds => rw [q] at h; exact nomatch h
    | _ => trivial
def isValb : Option Sl → Bool
  | some (.val _) => true
  | some .un => true
  | _ => false
theorem isVal_of : ∀ {o : Option Sl}, isValb o = true → isVal o
  | some (.val _), _ => trivial
  | some .un, _ => trivial
def okWb (τ : Ta) : List Nat → Bool
  | [] => true
  | v :: vs => isValb τ[v]? && okWb τ vs
theorem okW_of {τ : Ta} : ∀ {vs : List Nat}, okWb τ vs = true → okW τ vs
  | [], _ => trivial
  | v :: vs, h => by
    rw [okWb, Bool.and_eq_true] at h
    exact ⟨isVal_of h.1, okW_of h.2⟩
/-! names, constants, displays -/
def qVar (i : Nat) : BE := ⟨wVar i, fun τ => ofO (valAt τ i) τ, fun τ X P h => by
  obtain ⟨d, e, p⟩ := ofO_to h
  exact ⟨d, valAt_of e, p⟩⟩
def qC (d : D) : BE := ⟨wC d, fun τ => .ok d τ, fun τ X P h => h⟩
def qFrz (i : Nat) : BE := ⟨wFrz i, fun τ => (ofO (ownAt τ i) τ).bnd fun ds τ => .ok (.list ds) (τ.set i (.val (.list ds))), fun τ X P h => by
  cases e : ownAt τ i with
  | none => rw [e] at h; exact h.elim
  | some ds => rw [e] at h; exact ⟨ds, ownAt_of e, h⟩⟩
def qNil : BA := ⟨wNil, fun τ => .ok [] τ, fun τ X P h => h⟩
def qCons (a : BE) (r : BA) : BA := ⟨wCons a.w r.w, fun τ => (a.e τ).bnd fun d τ1 => (r.e τ1).bnd fun ds τ2 => .ok (d :: ds) τ2, fun τ X P h =>
  BR.use h fun d τ1 h => BR.use h fun ds τ2 h => h⟩
def qTup (a : BA) : BE := ⟨wTup a.w, fun τ => (a.e τ).bnd fun ds τ1 => rif (decide (ds.length ≤ sizeLine)) (.ok (.tuple ds) τ1), fun τ X P h =>
  BR.use h fun d τ1 h => by obtain ⟨h1, h2⟩ := rif_to h; exact ⟨of_decide_eq_true h1, h2⟩⟩
def qLst (a : BA) : BE := ⟨wLst a.w, fun τ => (a.e τ).bnd fun ds τ1 => rif (decide (ds.length ≤ sizeLine)) (.ok (.list ds) τ1), fun τ X P h =>
  BR.use h fun d τ1 h => by obtain ⟨h1, h2⟩ := rif_to h; exact ⟨of_decide_eq_true h1, h2⟩⟩
def qLstF (a : BA) : BA := ⟨wLstF a.w, fun τ => (a.e τ).bnd fun ds τ1 => rif (decide (ds.length ≤ sizeLine)) (.ok ds τ1), fun τ X P h =>
  BR.use h fun d τ1 h => by obtain ⟨h1, h2⟩ := rif_to h; exact ⟨of_decide_eq_true h1, h2⟩⟩
def qOf (a : BA) : BE := ⟨wOf a.w, fun τ => (a.e τ).bnd fun ds τ1 => .ok (.list ds) τ1, fun τ X P h => BR.use h fun d τ1 h => h⟩
/-! operations -/
def qOp (f : D → D → Option D) (a b : BE) : BE := ⟨wOp f a.w b.w, fun τ => (a.e τ).bnd fun d τ1 => (b.e τ1).bnd fun e τ2 => ofO (f d e) τ2, fun τ X P h =>
  BR.use h fun d τ1 h => BR.use h fun ds τ2 h => ofO_to h⟩
def qUn (f : D → Option D) (a : BE) : BE := ⟨wUn f a.w, fun τ => (a.e τ).bnd fun d τ1 => ofO (f d) τ1, fun τ X P h => BR.use h fun d τ1 h => ofO_to h⟩
def qCall (f : List D → Option D) (a : BA) : BE := ⟨wCall f a.w, fun τ => (a.e τ).bnd fun d τ1 => ofO (f d) τ1, fun τ X P h => BR.use h fun d τ1 h => ofO_to h⟩
def asBool : D → Option Bool
  | .bool b => some b
  | _ => none
theorem asBool_of : ∀ {d : D} {b : Bool}, asBool d = some b → d = .bool b
  | .bool _, _, h => by cases h; rfl
def asInt : D → Option Int
  | .int b => some b
  | _ => none
theorem asInt_of : ∀ {d : D} {b : Int}, asInt d = some b → d = .int b
  | .int _, _, h => by cases h; rfl
def asList : D → Option (List D)
  | .list b => some b
  | _ => none
theorem asList_of : ∀ {d : D} {b : List D}, asList d = some b → d = .list b
  | .list _, _, h => by cases h; rfl
def asTup : D → Option (List D)
  | .tuple b => some b
  | _ => none
theorem asTup_of : ∀ {d : D} {b : List D}, asTup d = some b → d = .tuple b
  | .tuple _, _, h => by cases h; rfl
def asStr : D → Option Str
  | .str b => some b
  | _ => none
theorem asStr_of : ∀ {d : D} {b : Str}, asStr d = some b → d = .str b
  | .str _, _, h => by cases h; rfl
def asSeq : D → Option (List D)
  | .tuple b => some b
  | .list b => some b
  | _ => none
theorem asSeq_of : ∀ {d : D} {b : List D}, asSeq d = some b → d = .list b ∨ d = .tuple b
  | .tuple _, _, h => by cases h; exact .inr rfl
  | .list _, _, h => by cases h; exact .inl rfl
def qTru (a : BE) : BT := ⟨wTru a.w, fun τ => (a.e τ).bnd fun d τ1 => ofO (asBool d) τ1, fun τ X P h => BR.use h fun d τ1 h => by
  obtain ⟨b, e, p⟩ := ofO_to h
  exact ⟨b, asBool_of e, p⟩⟩
def rite {α : Type} (b : Bool) (x y : Unit → Res α) : Res α := match b with
  | true => x ()
  | false => y ()
def qChain (f g : D → D → Option D) (a b c : BE) : BE := ⟨wChain f g a.w b.w c.w, fun τ => (a.e τ).bnd fun d τ1 => (b.e τ1).bnd fun e τ2 => (ofO (f d e) τ2).bnd fun r τ2 => (ofO (asBool r) τ2).bnd fun k τ2 =>
    rite k (fun _ => (c.e τ2).bnd fun d3 τ3 => ofO (g e d3) τ3) (fun _ => .ok (.bool false) τ2), fun τ X P h =>
  BR.use h fun d τ1 h => BR.use h fun e τ2 h => by
    cases q : f d e with
    | none => rw [q] at h; exact h.elim
    | some r =>
      rw [q] at h
      cases q2 : asBool r with
      | none => simp only [ofO, Res.bnd, q2] at h; exact h.elim
      | some k =>
        simp only [ofO, Res.bnd, q2] at h
        refine ⟨k, by rw [asBool_of q2], ?_⟩
        cases k with
        | true => rw [if_pos rfl]; exact BR.use h fun d τ1 h => ofO_to h
        | false => exact h⟩
def qAnd (a b : BT) : BT := ⟨wAnd a.w b.w, fun τ => (a.e τ).bnd fun k τ1 => rite k (fun _ => b.e τ1) (fun _ => .ok false τ1), fun τ X P h => BR.use h fun k τ1 h => by
  cases k with
  | true => rw [if_pos rfl]; exact b.ok _ _ _ h
  | false => exact h⟩
def qOr (a b : BT) : BT := ⟨wOr a.w b.w, fun τ => (a.e τ).bnd fun k τ1 => rite k (fun _ => .ok true τ1) (fun _ => b.e τ1), fun τ X P h => BR.use h fun k τ1 h => by
  cases k with
  | true => exact h
  | false => rw [if_neg (by simp)]; exact b.ok _ _ _ h⟩
def qNot (a : BT) : BT := ⟨wNot a.w, fun τ => (a.e τ).bnd fun k τ1 => .ok (!k) τ1, fun τ X P h => BR.use h fun k τ1 h => h⟩
def qAndV (a b : BE) : BE := ⟨wAndV a.w b.w, fun τ => (a.e τ).bnd fun d τ1 => (ofO (asBool d) τ1).bnd fun k τ1 => rite k (fun _ => b.e τ1) (fun _ => .ok (.bool false) τ1), fun τ X P h => BR.use h fun d τ1 h => by
  cases q : asBool d with
  | none => rw [q] at h; exact h.elim
  | some k =>
    rw [q] at h
    refine ⟨k, asBool_of q, ?_⟩
    cases k with
    | true => rw [if_pos rfl]; exact b.ok _ _ _ h
    | false => exact h⟩
def qOrV (a b : BE) : BE := ⟨wOrV a.w b.w, fun τ => (a.e τ).bnd fun d τ1 => (ofO (asBool d) τ1).bnd fun k τ1 => rite k (fun _ => .ok (.bool true) τ1) (fun _ => b.e τ1), fun τ X P h => BR.use h fun d τ1 h => by
  cases q : asBool d with
  | none => rw [q] at h; exact h.elim
  | some k =>
    rw [q] at h
    refine ⟨k, asBool_of q, ?_⟩
    cases k with
    | true => exact h
    | false => rw [if_neg (by simp)]; exact b.ok _ _ _ h⟩
def qNotV (a : BE) : BE := ⟨wNotV a.w, fun τ => (a.e τ).bnd fun d τ1 => (ofO (asBool d) τ1).bnd fun k τ1 => .ok (.bool (!k)) τ1, fun τ X P h => BR.use h fun d τ1 h => by
  cases q : asBool d with
  | none => rw [q] at h; exact h.elim
  | some k => rw [q] at h; exact ⟨k, asBool_of q, h⟩⟩
def qIf (t : BT) (a b : BE) : BE := ⟨wIf t.w a.w b.w, fun τ => (t.e τ).bnd fun k τ1 => rite k (fun _ => a.e τ1) (fun _ => b.e τ1), fun τ X P h => BR.use h fun k τ1 h => by
  cases k with
  | true => rw [if_pos rfl]; exact a.ok _ _ _ h
  | false => rw [if_neg (by simp)]; exact b.ok _ _ _ h⟩
def qIsi (T : String) (a : BE) : BE := ⟨wIsi T a.w, fun τ => (a.e τ).bnd fun d τ1 => .ok (.bool (isiS (tyD d) T)) τ1, fun τ X P h => BR.use h fun d τ1 h => h⟩
def qIsiT (T U : String) (a : BE) : BE := ⟨wIsiT T U a.w, fun τ => (a.e τ).bnd fun d τ1 => .ok (.bool (isiS (tyD d) T || isiS (tyD d) U)) τ1, fun τ X P h => BR.use h fun d τ1 h => h⟩
/-! slices -/
def qPN : BR (Option Int) := ⟨wPN, fun τ => .ok none τ, fun τ X P h => h⟩
def qPS (a : BE) : BR (Option Int) := ⟨wPS a.w, fun τ => (a.e τ).bnd fun d τ1 => (ofO (asInt d) τ1).bnd fun i τ1 => .ok (some i) τ1, fun τ X P h => BR.use h fun d τ1 h => by
  cases q : asInt d with
  | none => rw [q] at h; exact h.elim
  | some i => rw [q] at h; exact ⟨i, asInt_of q, h⟩⟩
def qSlice (a : BE) (l h : BR (Option Int)) : BE := ⟨wSlice a.w l.w h.w, fun τ => (a.e τ).bnd fun d τ1 => (l.e τ1).bnd fun lo τ2 => (h.e τ2).bnd fun hi τ3 => ofO (sliceD d lo hi) τ3, fun τ X P h =>
  BR.use h fun d τ1 h => BR.use h fun lo τ1 h => BR.use h fun hi τ1 h => ofO_to h⟩
/-! lists of ours -/
theorem hasL_of {τ : Ta} {i : Nat} (h : (getL τ i).isSome = true) : hasL τ i := Option.isSome_iff_exists.mp h
def qAppend (i : Nat) (a : BE) : BE := ⟨wAppend i a.w, fun τ => rif (getL τ i).isSome ((a.e τ).bnd fun d τ1 => (ofO (getL τ1 i) τ1).bnd fun ds τ1 => rif (decide (ds.length < sizeLine)) (.ok .none (setL τ1 i (ds ++ [d])))), fun τ X P h => by
  obtain ⟨h1, h⟩ := rif_to h
  refine ⟨hasL_of h1, BR.use h fun d τ1 h => ?_⟩
  cases q : getL τ1 i with
  | none => rw [q] at h; exact h.elim
  | some ds =>
    rw [q] at h
    obtain ⟨h2, h⟩ := rif_to h
    exact ⟨ds, rfl, of_decide_eq_true h2, h⟩⟩
def qPop (i : Nat) : BE := ⟨wPop i, fun τ => (ofO (getL τ i) τ).bnd fun ds τ => (ofO ds[ds.length - 1]? τ).bnd fun d τ => .ok d (setL τ i ds.dropLast), fun τ X P h => by
  cases q : getL τ i with
  | none => rw [q] at h; exact h.elim
  | some ds =>
    simp only [ofO, Res.bnd, q] at h
    cases q2 : ds[ds.length - 1]? with
    | none => simp only [q2] at h; exact h.elim
    | some d => simp only [q2] at h; exact ⟨ds, d, q, q2, h⟩⟩
def qPopAt (i : Nat) (a : BE) : BE := ⟨wPopAt i a.w, fun τ => rif (getL τ i).isSome ((a.e τ).bnd fun e τ1 => (ofO (getL τ1 i) τ1).bnd fun ds τ1 => (ofO (asInt e) τ1).bnd fun k τ1 => rif (decide (0 ≤ k ∧ k < 2 ^ 63)) ((ofO ds[k.toNat]? τ1).bnd fun d τ1 => .ok d (setL τ1 i (ds.eraseIdx k.toNat)))), fun τ X P h => by
  obtain ⟨h1, h⟩ := rif_to h
  refine ⟨hasL_of h1, BR.use h fun e τ1 h => ?_⟩
  cases q : getL τ1 i with
  | none => rw [q] at h; exact h.elim
  | some ds =>
    simp only [ofO, Res.bnd, q] at h
    cases q2 : asInt e with
    | none => simp only [q2] at h; exact h.elim
    | some k =>
      simp only [q2] at h
      obtain ⟨h2, h⟩ := rif_to h
      have h2 := of_decide_eq_true h2
      cases q3 : ds[k.toNat]? with
      | none => simp only [q3] at h; exact h.elim
      | some d => simp only [q3] at h; exact ⟨ds, k, d, rfl, asInt_of q2, h2.1, h2.2, q3, h⟩⟩
def qInsert (i : Nat) (a b : BE) : BE := ⟨wInsert i a.w b.w, fun τ => rif (getL τ i).isSome ((a.e τ).bnd fun e τ1 => (b.e τ1).bnd fun d τ1 => (ofO (getL τ1 i) τ1).bnd fun ds τ1 => (ofO (asInt e) τ1).bnd fun k τ1 => rif (decide (0 ≤ k ∧ k < 2 ^ 63 ∧ ds.length < sizeLine)) (.ok .none (setL τ1 i (ds.take k.toNat ++ [d] ++ ds.drop k.toNat)))), fun τ X P h => by
  obtain ⟨h1, h⟩ := rif_to h
  refine ⟨hasL_of h1, BR.use h fun e τ1 h => BR.use h fun d τ1 h => ?_⟩
  cases q : getL τ1 i with
  | none => rw [q] at h; exact h.elim
  | some ds =>
    simp only [ofO, Res.bnd, q] at h
    cases q2 : asInt e with
    | none => simp only [q2] at h; exact h.elim
    | some k =>
      simp only [q2] at h
      obtain ⟨h2, h⟩ := rif_to h
      have h2 := of_decide_eq_true h2
      exact ⟨ds, k, rfl, asInt_of q2, h2.1, h2.2.1, h2.2.2, h⟩⟩
def qPk (f : D → D → Option D) (i : Nat) (b : BE) : BE := ⟨wPk f i b.w, fun τ => rif (getL τ i).isSome ((b.e τ).bnd fun e τ1 => (ofO (getL τ1 i) τ1).bnd fun ds τ1 => (ofO (f (.list ds) e) τ1).bnd fun r τ1 => rif (flat r) (.ok r τ1)), fun τ X P h => by
  obtain ⟨h1, h⟩ := rif_to h
  refine ⟨hasL_of h1, BR.use h fun e τ1 h => ?_⟩
  cases q : getL τ1 i with
  | none => rw [q] at h; exact h.elim
  | some ds =>
    simp only [ofO, Res.bnd, q] at h
    cases q2 : f (.list ds) e with
    | none => simp only [q2] at h; exact h.elim
    | some r =>
      simp only [q2] at h
      obtain ⟨h2, h⟩ := rif_to h
      exact ⟨ds, r, rfl, q2, h2, h⟩⟩
def qPkR (f : D → D → Option D) (a : BE) (i : Nat) : BE := ⟨wPkR f a.w i, fun τ => (a.e τ).bnd fun e τ1 => (ofO (getL τ1 i) τ1).bnd fun ds τ1 => (ofO (f e (.list ds)) τ1).bnd fun r τ1 => rif (flat r) (.ok r τ1), fun τ X P h => by
  refine BR.use h fun e τ1 h => ?_
  cases q : getL τ1 i with
  | none => rw [q] at h; exact h.elim
  | some ds =>
    simp only [ofO, Res.bnd, q] at h
    cases q2 : f e (.list ds) with
    | none => simp only [q2] at h; exact h.elim
    | some r =>
      simp only [q2] at h
      obtain ⟨h2, h⟩ := rif_to h
      exact ⟨ds, r, rfl, q2, h2, h⟩⟩
def qPk1 (f : List D → Option D) (i : Nat) : BE := ⟨wPk1 f i, fun τ => (ofO (getL τ i) τ).bnd fun ds τ1 => (ofO (f [.list ds]) τ1).bnd fun r τ1 => rif (flat r) (.ok r τ1), fun τ X P h => by
  cases q : getL τ i with
  | none => rw [q] at h; exact h.elim
  | some ds =>
    simp only [ofO, Res.bnd, q] at h
    cases q2 : f [.list ds] with
    | none => simp only [q2] at h; exact h.elim
    | some r =>
      simp only [q2] at h
      obtain ⟨h2, h⟩ := rif_to h
      exact ⟨ds, r, q, q2, h2, h⟩⟩
def qPkIx (i : Nat) (b : BE) : BE := ⟨wPkIx i b.w, fun τ => rif (getL τ i).isSome ((b.e τ).bnd fun e τ1 => (ofO (getL τ1 i) τ1).bnd fun ds τ1 => (ofO (asInt e) τ1).bnd fun k τ1 => ofO (atI ds k) τ1), fun τ X P h => by
  obtain ⟨h1, h⟩ := rif_to h
  refine ⟨hasL_of h1, BR.use h fun e τ1 h => ?_⟩
  cases q : getL τ1 i with
  | none => rw [q] at h; exact h.elim
  | some ds =>
    simp only [ofO, Res.bnd, q] at h
    cases q2 : asInt e with
    | none => simp only [q2] at h; exact h.elim
    | some k =>
      simp only [q2] at h
      obtain ⟨d, h1, h2⟩ := ofO_to h
      exact ⟨ds, k, d, rfl, asInt_of q2, h1, h2⟩⟩
def qPkTup (i : Nat) : BE := ⟨wPkTup i, fun τ => (ofO (getL τ i) τ).bnd fun ds τ1 => .ok (.tuple ds) τ1, fun τ X P h => by
  cases q : getL τ i with
  | none => rw [q] at h; exact h.elim
  | some ds => rw [q] at h; exact ⟨ds, q, h⟩⟩
def idxS (xs : List Str) (z : Str) : Nat → Option Nat
  | j => match xs with
    | [] => none
    | x :: xs => if x = z then some j else idxS xs z (j + 1)
theorem idxS_of (z : Str) : ∀ (xs : List Str) (b j : Nat), idxS xs z b = some j → ∃ i, j = b + i ∧ xs[i]? = some z ∧ ∀ m, m < i → xs[m]? ≠ some z
  | [], _, _, h => nomatch h
  | x :: xs, b, j, h => by
    unfold idxS at h
    simp only at h
    split at h
    · rename_i e
      cases h
      exact ⟨0, rfl, by rw [e]; rfl, fun m h => absurd h (Nat.not_lt_zero m)⟩
    · rename_i e
      obtain ⟨i, h1, h2, h3⟩ := idxS_of z xs (b + 1) j h
      refine ⟨i + 1, by omega, h2, fun m hm => ?_⟩
      cases m with
      | zero => exact fun q => e (Option.some.inj q)
      | succ m => exact h3 m (by omega)
def qIndex (xs : List Str) (a : BE) : BE := ⟨wIndex xs a.w, fun τ => (a.e τ).bnd fun d τ1 => (ofO (asStr d) τ1).bnd fun z τ1 => (ofO (idxS xs z 0) τ1).bnd fun j τ1 => .ok (.int (j : Nat)) τ1, fun τ X P h => BR.use h fun d τ1 h => by
  cases q : asStr d with
  | none => rw [q] at h; exact h.elim
  | some z =>
    simp only [ofO, Res.bnd, q] at h
    cases q2 : idxS xs z 0 with
    | none => simp only [q2] at h; exact h.elim
    | some j =>
      simp only [q2] at h
      obtain ⟨i, h1, h2, h3⟩ := idxS_of z xs 0 j q2
      have e : j = i := by omega
      subst e
      exact ⟨z, j, asStr_of q, h2, h3, h⟩⟩
/-! targets -/
structure BG where
  w : WG
  e : D → Ta → Option Ta
  ok : ∀ (d : D) (τ τ' : Ta) (P : Ta → Prop), e d τ = some τ' → P τ' → w d τ P
structure BGs where
  w : WGs
  e : List D → Ta → Option Ta
  ok : ∀ (d : List D) (τ τ' : Ta) (P : Ta → Prop), e d τ = some τ' → P τ' → w d τ P
def kN (i : Nat) : BG := ⟨gN i, fun d τ => if okSetb τ i = true then some (τ.set i (.val d)) else none, fun d τ τ' P h p => by
  split at h
  · rename_i q; cases h; exact ⟨okSet_of q, p⟩
  · exact nomatch h⟩
def kNil : BGs := ⟨gNil', fun d τ => match d with | [] => some τ | _ :: _ => none, fun d τ τ' P h p => by
  cases d with
  | nil => cases h; exact ⟨rfl, p⟩
  | cons _ _ => exact nomatch h⟩
def kCons (g : BG) (r : BGs) : BGs := ⟨gCons' g.w r.w, fun d τ => match d with | [] => none | d :: es => (g.e d τ).bind fun τ1 => r.e es τ1, fun d τ τ' P h p => by
  cases d with
  | nil => exact nomatch h
  | cons d es =>
    obtain ⟨τ1, h1, h2⟩ := Option.bind_eq_some_iff.mp h
    exact ⟨d, es, rfl, g.ok _ _ _ _ h1 (r.ok _ _ _ _ h2 p)⟩⟩
def kTup (n : Nat) (r : BGs) : BG := ⟨gTup' n r.w, fun d τ => match d with | .tuple ds => if ds.length = n then r.e ds τ else none | _ => none, fun d τ τ' P h p => by
  cases d with
  | tuple ds =>
    simp only at h
    split at h
    · rename_i q; exact ⟨ds, rfl, q, r.ok _ _ _ _ h p⟩
    · exact nomatch h
  | _ => exact nomatch h⟩
/-! what is walked -/
def qL (a : BE) : BA := ⟨iL a.w, fun τ => (a.e τ).bnd fun d τ1 => ofO (asList d) τ1, fun τ X P h => BR.use h fun d τ1 h => by
  obtain ⟨ds, e, p⟩ := ofO_to h
  exact ⟨ds, asList_of e, p⟩⟩
def qT (a : BE) : BA := ⟨iT a.w, fun τ => (a.e τ).bnd fun d τ1 => ofO (asTup d) τ1, fun τ X P h => BR.use h fun d τ1 h => by
  obtain ⟨ds, e, p⟩ := ofO_to h
  exact ⟨ds, asTup_of e, p⟩⟩
def qLT (a : BE) : BA := ⟨iLT a.w, fun τ => (a.e τ).bnd fun d τ1 => ofO (asSeq d) τ1, fun τ X P h => BR.use h fun d τ1 h => by
  obtain ⟨ds, e, p⟩ := ofO_to h
  exact ⟨ds, asSeq_of e, p⟩⟩
def rng : Int → Bool
  | .ofNat n => Nat.ble n 4611686018427387903
  | .negSucc n => Nat.ble n 4611686018427387903
theorem rng_iff {j : Int} : rng j = true ↔ -(2 ^ 62) ≤ j ∧ j < 2 ^ 62 := by
  cases j with
  | ofNat n =>
    show Nat.ble n 4611686018427387903 = true ↔ _
    rw [Nat.ble_eq]
    simp only [Int.ofNat_eq_natCast]
    omega
  | negSucc n =>
    show Nat.ble n 4611686018427387903 = true ↔ _
    rw [Nat.ble_eq]
    omega
def qRange (a : BE) : BA := ⟨iRange a.w, fun τ => (a.e τ).bnd fun d τ1 => (ofO (asInt d) τ1).bnd fun j τ1 => rif (rng j) (.ok (rngD 0 j.toNat) τ1), fun τ X P h => BR.use h fun d τ1 h => by
  cases q : asInt d with
  | none => rw [q] at h; exact h.elim
  | some j =>
    rw [q] at h
    obtain ⟨h1, h⟩ := rif_to h
    exact ⟨j, asInt_of q, rng_iff.mp h1, h⟩⟩
def qRange2 (a b : BE) : BA := ⟨iRange2 a.w b.w, fun τ => (a.e τ).bnd fun d τ1 => (b.e τ1).bnd fun e τ1 => (ofO (asInt d) τ1).bnd fun i τ1 => (ofO (asInt e) τ1).bnd fun j τ1 => rif (rng i) (rif (rng j) (.ok (rngD i (j - i).toNat) τ1)), fun τ X P h => BR.use h fun d τ1 h => BR.use h fun e τ1 h => by
  cases q : asInt d with
  | none => rw [q] at h; exact h.elim
  | some i =>
    simp only [ofO, Res.bnd, q] at h
    cases q2 : asInt e with
    | none => simp only [q2] at h; exact h.elim
    | some j =>
      simp only [q2] at h
      obtain ⟨h1, h⟩ := rif_to h
      obtain ⟨h2, h⟩ := rif_to h
      have h1 := rng_iff.mp h1
      have h2 := rng_iff.mp h2
      exact ⟨i, j, asInt_of q, asInt_of q2, ⟨h1.1, h1.2, h2.1, h2.2⟩, h⟩⟩
def qStr (a : BE) : BA := ⟨iStr' a.w, fun τ => (a.e τ).bnd fun d τ1 => (ofO (asStr d) τ1).bnd fun z τ1 => .ok (signsD z) τ1, fun τ X P h => BR.use h fun d τ1 h => by
  cases q : asStr d with
  | none => rw [q] at h; exact h.elim
  | some z => rw [q] at h; exact ⟨z, asStr_of q, h⟩⟩
def qZip (a b : BE) : BA := ⟨iZip' a.w b.w, fun τ => (a.e τ).bnd fun d τ1 => (b.e τ1).bnd fun e τ1 => (ofO (seqs d e) τ1).bnd fun q τ1 => .ok (zipD q.1 q.2) τ1, fun τ X P h => BR.use h fun d τ1 h => BR.use h fun e τ1 h => by
  cases q : seqs d e with
  | none => rw [q] at h; exact h.elim
  | some z => rw [q] at h; exact ⟨z, rfl, h⟩⟩
def qEnum (a : BE) : BA := ⟨iEnum' a.w, fun τ => (a.e τ).bnd fun d τ1 => (ofO (asList d) τ1).bnd fun z τ1 => .ok (enumD z) τ1, fun τ X P h => BR.use h fun d τ1 h => by
  cases q : asList d with
  | none => rw [q] at h; exact h.elim
  | some z => rw [q] at h; exact ⟨z, asList_of q, h⟩⟩
def qEnT (a : BE) : BA := ⟨iEnT a.w, fun τ => (a.e τ).bnd fun d τ1 => (ofO (asTup d) τ1).bnd fun z τ1 => .ok (enumD z) τ1, fun τ X P h => BR.use h fun d τ1 h => by
  cases q : asTup d with
  | none => rw [q] at h; exact h.elim
  | some z => rw [q] at h; exact ⟨z, asTup_of q, h⟩⟩
/-! comprehensions -/
def qYes : BT := ⟨wYes, fun τ => .ok true τ, fun τ X P h => h⟩
/-- nothing is raised within -/
def Res.nox {α : Type} : Res α → Res α
  | .ok a τ => .ok a τ
  | _ => .bad
def bndO {α β : Type} (o : Option α) (k : α → Res β) : Res β := match o with
  | some a => k a
  | none => .bad
theorem BR.useN {α β : Type} {X : XP} {a : BR α} {k : α → Ta → Res β} {τ : Ta} {P : β → Ta → Prop} {Q : α → Ta → Prop} (h : ((a.e τ).nox.bnd k).to X P) (f : ∀ (d : α) (τ1 : Ta), (k d τ1).to X P → Q d τ1) : a.w τ (fun _ _ => False) Q := by
  refine a.ok τ _ Q ?_
  cases e : a.e τ with
  | ok d τ1 => rw [e] at h; exact f d τ1 h
  | ex x τ1 => rw [e] at h; exact h
  | bad => rw [e] at h; exact h
theorem BG.use {β : Type} {X : XP} {g : BG} {d : D} {τ : Ta} {k : Ta → Res β} {P : β → Ta → Prop} {Q : Ta → Prop} (h : (bndO (g.e d τ) k).to X P) (f : ∀ τ1, (k τ1).to X P → Q τ1) : g.w d τ Q := by
  cases e : g.e d τ with
  | none => rw [e] at h; exact h.elim
  | some τ1 => rw [e] at h; exact g.ok _ _ _ _ e (f _ h)
def lcE (g : BG) (t : BT) (e : BE) (vs : List Nat) : List D → List D → Ta → Res (List D)
  | [], acc, τ => .ok acc τ
  | d :: ds, acc, τ => bndO (g.e d τ) fun τ1 => (t.e τ1).nox.bnd fun b τ2 => rite b (fun _ => (e.e τ2).nox.bnd fun r τ3 => rif (decide (acc.length < sizeLine)) (lcE g t e vs ds (acc ++ [r]) (wipeT τ3 vs)))
      (fun _ => lcE g t e vs ds acc (wipeT τ2 vs))
theorem lcE_ok {g : BG} {t : BT} {e : BE} {vs : List Nat} {X : XP} {P : List D → Ta → Prop} : ∀ (ds acc : List D) (τ : Ta), (lcE g t e vs ds acc τ).to X P → lcW g.w t.w e.w vs ds acc P τ
  | [], _, _, h => h
  | d :: ds, acc, τ, h => BG.use h fun τ1 h => BR.useN h fun b τ2 h => by
    cases b with
    | true =>
      rw [if_pos rfl]
      exact BR.useN h fun r τ3 h => by
        obtain ⟨h1, h⟩ := rif_to h
        exact ⟨of_decide_eq_true h1, lcE_ok ds _ _ h⟩
    | false => rw [if_neg (by simp)]; exact lcE_ok ds _ _ h
theorem to_map {α β : Type} {r : Res α} {X : XP} {k : α → Ta → Res β} {P : β → Ta → Prop} (h : (r.bnd k).to X P) : r.to X fun a τ => (k a τ).to X P := by
  cases r <;> exact h
def qLC (s : BA) (g : BG) (t : BT) (e : BE) (vs : List Nat) : BA := ⟨wLC s.w g.w t.w e.w vs, fun τ => (s.e τ).bnd fun ds τ1 => rif (okWb τ1 vs) ((lcE g t e vs ds [] (wipeT τ1 vs)).bnd fun acc τ2 => .ok acc (backT τ1 τ2 vs)), fun τ X P h => BR.use h fun ds τ1 h => by
  obtain ⟨h1, h⟩ := rif_to h
  exact ⟨okW_of h1, lcE_ok _ _ _ (to_map h)⟩⟩
def lcE2 (g : BG) (t : BT) (s1 : BA) (g1 : BG) (t1 : BT) (e : BE) (vs vs1 : List Nat) : List D → List D → Ta → Res (List D)
  | [], acc, τ => .ok acc τ
  | d :: ds, acc, τ => bndO (g.e d τ) fun τ1 => (t.e τ1).nox.bnd fun b τ2 => rite b (fun _ => (s1.e τ2).nox.bnd fun ds1 τ3 => (lcE g1 t1 e vs1 ds1 acc (wipeT τ3 vs1)).bnd fun acc2 τ4 => lcE2 g t s1 g1 t1 e vs vs1 ds acc2 (wipeT τ4 vs))
      (fun _ => lcE2 g t s1 g1 t1 e vs vs1 ds acc (wipeT τ2 vs))
theorem lcW_mono {g : WG} {t : WT} {e : WE} {vs : List Nat} : True := trivial
theorem lcE2_ok {g : BG} {t : BT} {s1 : BA} {g1 : BG} {t1 : BT} {e : BE} {vs vs1 : List Nat} {X : XP} {P : List D → Ta → Prop} : ∀ (ds acc : List D) (τ : Ta), (lcE2 g t s1 g1 t1 e vs vs1 ds acc τ).to X P → lcW2 g.w t.w s1.w g1.w t1.w e.w vs vs1 ds acc P τ
  | [], _, _, h => h
  | d :: ds, acc, τ, h => BG.use h fun τ1 h => BR.useN h fun b τ2 h => by
    cases b with
    | true =>
      rw [if_pos rfl]
      refine BR.useN h fun r τ3 h => lcE_ok (X := X) _ _ _ ?_
      have h := to_map h
      cases q : lcE g1 t1 e vs1 r acc (wipeT τ3 vs1) with
      | ok a τ4 => rw [q] at h; exact lcE2_ok ds _ _ h
      | ex x τ4 => rw [q] at h; exact h
      | bad => rw [q] at h; exact h
    | false => rw [if_neg (by simp)]; exact lcE2_ok ds _ _ h
def qLC2 (s : BA) (g : BG) (t : BT) (s1 : BA) (g1 : BG) (t1 : BT) (e : BE) (vs vs1 : List Nat) : BA := ⟨wLC2 s.w g.w t.w s1.w g1.w t1.w e.w vs vs1, fun τ => (s.e τ).bnd fun ds τ1 => rif (okWb τ1 vs) ((lcE2 g t s1 g1 t1 e vs vs1 ds [] (wipeT τ1 vs)).bnd fun acc τ2 => .ok acc (backT τ1 τ2 vs)), fun τ X P h => BR.use h fun ds τ1 h => by
  obtain ⟨h1, h⟩ := rif_to h
  exact ⟨okW_of h1, lcE2_ok _ _ _ (to_map h)⟩⟩
/-! calls -/
def zNil : BAr := ⟨arNil, fun τ => .ok [] τ, fun τ X P h => h⟩
def zE (a : BE) (r : BAr) : BAr := ⟨arE a.w r.w, fun τ => (a.e τ).bnd fun d τ1 => (r.e τ1).bnd fun as τ2 => .ok (.v d :: as) τ2, fun τ X P h => BR.use h fun d τ1 h => BR.use h fun as τ1 h => h⟩
def zS (i : Nat) (r : BAr) : BAr := ⟨arS i r.w, fun τ => rif (getL τ i).isSome ((r.e τ).bnd fun as τ2 => .ok (.s i :: as) τ2), fun τ X P h => by
  obtain ⟨h1, h⟩ := rif_to h
  exact ⟨hasL_of h1, BR.use h fun d τ1 h => h⟩⟩
def ctE (f : Ta → Res D) : WE := fun τ X P => (f τ).to X P
def ctF (f : Ta → Res D) : WA := fun τ X P => (f τ).to X fun d τ' => ∃ ds, d = .list ds ∧ P ds τ'
/-- what a call leaves at its caller -/
def Res.back {α : Type} (as : List Ar) (τ1 : Ta) : Res α → Res α
  | .ok d τ' => .ok d (backA as τ' τ1)
  | .ex x τ' => .ex x (backA as τ' τ1)
  | .bad => .bad
theorem back_to {α : Type} {as : List Ar} {τ1 : Ta} {X : XP} {P : α → Ta → Prop} {r : Res α} (h : (r.back as τ1).to X P) : r.to (fun x τ' => X x (backA as τ' τ1)) (fun d τ' => P d (backA as τ' τ1)) := by
  cases r <;> exact h
def okArs (n : Nat) (as : List Ar) : Bool := decide (as.length = n ∧ (slotsA as).Nodup)
def qFn (n : Nat) (f : Ta → Res D) (ar : BAr) : BE := ⟨wFn n (ctE f) ar.w, fun τ => (ar.e τ).bnd fun as τ1 => bndO (pars τ1 as) fun τ0 => rif (okArs n as) ((f τ0).back as τ1), fun τ X P h => BR.use h fun as τ1 h => by
  cases q : pars τ1 as with
  | none => rw [q] at h; exact h.elim
  | some τ0 =>
    rw [q] at h
    obtain ⟨h1, h⟩ := rif_to h
    exact ⟨τ0, rfl, of_decide_eq_true h1, back_to h⟩⟩
def Res.lst : Res D → Res (List D)
  | .ok (.list ds) τ => .ok ds τ
  | .ok _ _ => .bad
  | .ex x τ => .ex x τ
  | .bad => .bad
def qFnF (n : Nat) (f : Ta → Res D) (ar : BAr) : BA := ⟨wFnF n (ctF f) ar.w, fun τ => (ar.e τ).bnd fun as τ1 => bndO (pars τ1 as) fun τ0 => rif (okArs n as) (((f τ0).lst).back as τ1), fun τ X P h => BR.use h fun as τ1 h => by
  cases q : pars τ1 as with
  | none => rw [q] at h; exact h.elim
  | some τ0 =>
    rw [q] at h
    obtain ⟨h1, h⟩ := rif_to h
    refine ⟨τ0, rfl, of_decide_eq_true h1, ?_⟩
    have h := back_to h
    unfold ctF
    cases e : f τ0 with
    | ok d τ' =>
      rw [e] at h
      cases d with
      | list ds => exact ⟨ds, rfl, h⟩
      | _ => exact h.elim
    | ex x τ' => rw [e] at h; exact h
    | bad => rw [e] at h; exact h⟩
/-! statements -/
inductive SRes where
  | nx (τ : Ta)
  | rt (d : D) (τ : Ta)
  | rf (ds : List D) (τ : Ta)
  | bk (τ : Ta)
  | ct (τ : Ta)
  | ex (x : Xn) (τ : Ta)
  | bad
def SRes.to (r : SRes) (E : PEn) (X : XP) : Prop := match r with
  | .nx τ => E.nx τ
  | .rt d τ => E.rt d τ
  | .rf ds τ => E.rf ds τ
  | .bk τ => E.bk τ
  | .ct τ => E.ct τ
  | .ex x τ => X x τ
  | .bad => False
structure BS where
  w : WS
  e : Ta → SRes
  ok : ∀ (E : PEn) (X : XP) (τ : Ta), (e τ).to E X → w E X τ
/-- behind the end, what follows -/
def SRes.then (r : SRes) (k : Ta → SRes) : SRes := match r with
  | .nx τ => k τ
  | r => r
def Res.s {α : Type} (r : Res α) (k : α → Ta → SRes) : SRes := match r with
  | .ok a τ => k a τ
  | .ex x τ => .ex x τ
  | .bad => .bad
def bndS {α : Type} (o : Option α) (k : α → SRes) : SRes := match o with
  | some a => k a
  | none => .bad
def sif (b : Bool) (r : SRes) : SRes := match b with
  | true => r
  | false => .bad
def site (b : Bool) (x y : Unit → SRes) : SRes := match b with
  | true => x ()
  | false => y ()
theorem sif_to {b : Bool} {r : SRes} {E : PEn} {X : XP} (h : (sif b r).to E X) : b = true ∧ r.to E X := by
  cases b with
  | true => exact ⟨rfl, h⟩
  | false => exact h.elim
theorem BR.useS {α : Type} {X : XP} {E : PEn} {a : BR α} {k : α → Ta → SRes} {τ : Ta} {Q : α → Ta → Prop} (h : ((a.e τ).s k).to E X) (f : ∀ (d : α) (τ1 : Ta), (k d τ1).to E X → Q d τ1) : a.w τ X Q := by
  refine a.ok τ X Q ?_
  cases e : a.e τ with
  | ok d τ1 => rw [e] at h; exact f d τ1 h
  | ex x τ1 => rw [e] at h; exact h
  | bad => rw [e] at h; exact h
theorem BG.useS {X : XP} {E : PEn} {g : BG} {d : D} {τ : Ta} {k : Ta → SRes} {Q : Ta → Prop} (h : (bndS (g.e d τ) k).to E X) (f : ∀ τ1, (k τ1).to E X → Q τ1) : g.w d τ Q := by
  cases e : g.e d τ with
  | none => rw [e] at h; exact h.elim
  | some τ1 => rw [e] at h; exact g.ok _ _ _ _ e (f _ h)
def tNil : BS := ⟨sNil, fun τ => .nx τ, fun E X τ h => h⟩
def tPass : BS := ⟨sPass, fun τ => .nx τ, fun E X τ h => h⟩
def tBreak : BS := ⟨sBreak, fun τ => .bk τ, fun E X τ h => h⟩
def tCont : BS := ⟨sCont, fun τ => .ct τ, fun E X τ h => h⟩
def tNever : BS := ⟨sNever, fun τ => .bad, fun E X τ h => h⟩
def tRetN : BS := ⟨sRetN, fun τ => .rt .none τ, fun E X τ h => h⟩
def tCons (a b : BS) : BS := ⟨sCons a.w b.w, fun τ => (a.e τ).then b.e, fun E X τ h => by
  refine a.ok _ X τ ?_
  cases q : a.e τ <;> rw [q] at h <;> first | exact h | exact b.ok _ _ _ h⟩
def tRet (a : BE) : BS := ⟨sRet a.w, fun τ => (a.e τ).s fun d τ1 => .rt d τ1, fun E X τ h => BR.useS h fun d τ1 h => h⟩
def tRetF (a : BA) : BS := ⟨sRetF a.w, fun τ => (a.e τ).s fun d τ1 => .rf d τ1, fun E X τ h => BR.useS h fun d τ1 h => h⟩
def tExpr (a : BE) : BS := ⟨sExpr a.w, fun τ => (a.e τ).s fun d τ1 => .nx τ1, fun E X τ h => BR.useS h fun d τ1 h => h⟩
def tIf (t : BT) (a b : BS) : BS := ⟨sIf t.w a.w b.w, fun τ => (t.e τ).s fun k τ1 => site k (fun _ => a.e τ1) (fun _ => b.e τ1), fun E X τ h => BR.useS h fun k τ1 h => by
  cases k with
  | true => rw [if_pos rfl]; exact a.ok _ _ _ h
  | false => rw [if_neg (by simp)]; exact b.ok _ _ _ h⟩
def tAsg (a : BE) (g : BG) : BS := ⟨sAsg a.w g.w, fun τ => (a.e τ).s fun d τ1 => bndS (g.e d τ1) .nx, fun E X τ h => BR.useS h fun d τ1 h => BG.useS h fun τ1 h => h⟩
def tSetF (i : Nat) (a : BA) : BS := ⟨sSetF i a.w, fun τ => (a.e τ).s fun ds τ1 => sif (okSetb τ1 i) (.nx (τ1.set i (.own ds))), fun E X τ h => BR.useS h fun d τ1 h => by
  obtain ⟨h1, h⟩ := sif_to h
  exact ⟨okSet_of h1, h⟩⟩
def tSetL (i : Nat) (a : BA) : BS := ⟨sSetL i a.w, fun τ => (a.e τ).s fun ds τ1 => sif (okSetb τ1 i) (.nx (τ1.set i (.val (.list ds)))), fun E X τ h => BR.useS h fun d τ1 h => by
  obtain ⟨h1, h⟩ := sif_to h
  exact ⟨okSet_of h1, h⟩⟩
def tPar (i j : Nat) (a b : BE) : BS := ⟨sPar i j a.w b.w, fun τ => (a.e τ).s fun d τ1 => (b.e τ1).s fun e τ2 => sif (okSetb τ2 i && (okSetb τ2 j && !(i == j))) (.nx ((τ2.set i (.val d)).set j (.val e))), fun E X τ h => BR.useS h fun d τ1 h => BR.useS h fun e τ2 h => by
  obtain ⟨h1, h⟩ := sif_to h
  simp only [Bool.and_eq_true] at h1
  exact ⟨okSet_of h1.1, okSet_of h1.2.1, by simpa using h1.2.2, h⟩⟩
def tParF (i j : Nat) (a : BA) (b : BE) : BS := ⟨sParF i j a.w b.w, fun τ => (a.e τ).s fun d τ1 => (b.e τ1).s fun e τ2 => sif (okSetb τ2 i && (okSetb τ2 j && !(i == j))) (.nx ((τ2.set i (.own d)).set j (.val e))), fun E X τ h => BR.useS h fun d τ1 h => BR.useS h fun e τ2 h => by
  obtain ⟨h1, h⟩ := sif_to h
  simp only [Bool.and_eq_true] at h1
  exact ⟨okSet_of h1.1, okSet_of h1.2.1, by simpa using h1.2.2, h⟩⟩
def tExtF (i : Nat) (a : BA) : BS := ⟨sExtF i a.w, fun τ => sif (getL τ i).isSome ((a.e τ).s fun ds τ1 => bndS (getL τ1 i) fun es => sif (decide (es.length + ds.length ≤ sizeLine)) (.nx (setL τ1 i (es ++ ds)))), fun E X τ h => by
  obtain ⟨h1, h⟩ := sif_to h
  refine ⟨hasL_of h1, BR.useS h fun ds τ1 h => ?_⟩
  cases q : getL τ1 i with
  | none => rw [q] at h; exact h.elim
  | some es =>
    rw [q] at h
    obtain ⟨h2, h⟩ := sif_to h
    exact ⟨es, rfl, of_decide_eq_true h2, h⟩⟩
def tPut (i : Nat) (a b : BE) : BS := ⟨sPut i a.w b.w, fun τ => (a.e τ).s fun d τ1 => sif (getL τ1 i).isSome ((b.e τ1).s fun e τ2 => bndS (getL τ2 i) fun ds => bndS (asInt e) fun k => bndS (ixN ds.length k) fun j => .nx (setL τ2 i (ds.set j d))), fun E X τ h => BR.useS h fun d τ1 h => by
  obtain ⟨h1, h⟩ := sif_to h
  refine ⟨hasL_of h1, BR.useS h fun e τ2 h => ?_⟩
  cases q : getL τ2 i with
  | none => rw [q] at h; exact h.elim
  | some ds =>
    simp only [q, bndS] at h
    cases q2 : asInt e with
    | none => simp only [q2] at h; exact h.elim
    | some k =>
      simp only [q2] at h
      cases q3 : ixN ds.length k with
      | none => simp only [q3] at h; exact h.elim
      | some j => simp only [q3] at h; exact ⟨ds, k, j, rfl, asInt_of q2, q3, h⟩⟩
/-- behind a turn: on, out, or away -/
def SRes.turn (r : SRes) (on : Ta → SRes) : SRes := match r with
  | .nx τ => on τ
  | .ct τ => on τ
  | .bk τ => .nx τ
  | r => r
def forE (g : BG) (b : BS) : List D → Ta → SRes
  | [], τ => .nx τ
  | d :: ds, τ => bndS (g.e d τ) fun τ1 => (b.e τ1).turn (forE g b ds)
theorem forE_ok {g : BG} {b : BS} {E : PEn} {X : XP} : ∀ (ds : List D) (τ : Ta), (forE g b ds τ).to E X → forW g.w b.w ds E X τ
  | [], _, h => h
  | d :: ds, τ, h => BG.useS h fun τ1 h => by
    refine b.ok _ _ _ ?_
    cases q : b.e τ1 <;> rw [q] at h <;> first | exact h | exact forE_ok ds _ h
def tFor (s : BA) (g : BG) (b : BS) : BS := ⟨sFor s.w g.w b.w, fun τ => (s.e τ).s fun ds τ1 => forE g b ds τ1, fun E X τ h => BR.useS h fun ds τ1 h => forE_ok ds τ1 h⟩
def whileE (t : BT) (b : BS) : Nat → Ta → SRes
  | 0, _ => .bad
  | n + 1, τ => (t.e τ).s fun k τ1 => site k (fun _ => (b.e τ1).turn (whileE t b n)) (fun _ => .nx τ1)
def tWhile (t : BT) (b : BS) : BS := ⟨sWhile t.w b.w, fun τ => whileE t b 1000000000000 τ, fun E X τ h => by
  refine ⟨fun m τ => (whileE t b m τ).to E X, ⟨_, h⟩, fun m τ h => ?_⟩
  cases m with
  | zero => exact h.elim
  | succ m =>
    refine BR.useS h fun k τ1 h => ?_
    cases k with
    | false => rw [if_neg (by simp)]; exact h
    | true =>
      rw [if_pos rfl]
      refine b.ok _ _ _ ?_
      cases q : b.e τ1 <;> simp only [site, q, SRes.turn] at h <;> first | exact h | exact ⟨m, Nat.lt_succ_self m, h⟩⟩
/-! a def's end -/
def finE (τ0 : Ta) : SRes → Res D
  | .nx τ => match endT τ0 τ with
    | some τ' => .ok .none τ'
    | none => .bad
  | .rt d τ => match endT τ0 τ with
    | some τ' => .ok d τ'
    | none => .bad
  | .ex x τ => match endT τ0 τ with
    | some τ' => .ex x τ'
    | none => .bad
  | _ => .bad
def finF (τ0 : Ta) : SRes → Res D
  | .rf ds τ => match endT τ0 τ with
    | some τ' => .ok (.list ds) τ'
    | none => .bad
  | .ex x τ => match endT τ0 τ with
    | some τ' => .ex x τ'
    | none => .bad
  | _ => .bad
def runE (b : BS) (l : Nat) (τ0 : Ta) : Res D := finE τ0 (b.e (τ0 ++ List.replicate l .un))
def runF (b : BS) (l : Nat) (τ0 : Ta) : Res D := finF τ0 (b.e (τ0 ++ List.replicate l .un))
theorem runE_vc {b : BS} {l n : Nat} {f : Ta → Res D} (hf : ∀ τ, f τ = runE b l τ) (τ0 : Ta) (X : XP) (Q : D → Ta → Prop) (_ : τ0.length = n) (_ : okPar τ0) (h : ctE f τ0 X Q) : b.w (endE τ0 Q) (endX τ0 X) (τ0 ++ List.replicate l .un) := by
  refine b.ok _ _ _ ?_
  unfold ctE at h
  rw [hf, runE] at h
  cases e : b.e (τ0 ++ List.replicate l .un) <;> rw [e] at h
  case nx τ => 
    simp only [finE] at h
    cases q : endT τ0 τ with
    | none => rw [q] at h; exact h.elim
    | some τ' => rw [q] at h; exact ⟨τ', q, h⟩
  case rt d τ =>
    simp only [finE] at h
    cases q : endT τ0 τ with
    | none => rw [q] at h; exact h.elim
    | some τ' => rw [q] at h; exact ⟨τ', q, h⟩
  case ex d τ =>
    simp only [finE] at h
    cases q : endT τ0 τ with
    | none => rw [q] at h; exact h.elim
    | some τ' => rw [q] at h; exact ⟨τ', q, h⟩
  all_goals exact h.elim
theorem runF_vc {b : BS} {l n : Nat} {f : Ta → Res D} (hf : ∀ τ, f τ = runF b l τ) (τ0 : Ta) (X : XP) (Q : List D → Ta → Prop) (_ : τ0.length = n) (_ : okPar τ0) (h : ctF f τ0 X Q) : b.w (endF τ0 Q) (endX τ0 X) (τ0 ++ List.replicate l .un) := by
  refine b.ok _ _ _ ?_
  unfold ctF at h
  rw [hf, runF] at h
  cases e : b.e (τ0 ++ List.replicate l .un) <;> rw [e] at h
  case rf d τ =>
    simp only [finF] at h
    cases q : endT τ0 τ with
    | none => rw [q] at h; exact h.elim
    | some τ' =>
      rw [q] at h
      obtain ⟨ds, e, h⟩ := h
      cases e
      exact ⟨τ', q, h⟩
  case ex d τ =>
    simp only [finF] at h
    cases q : endT τ0 τ with
    | none => rw [q] at h; exact h.elim
    | some τ' => rw [q] at h; exact ⟨τ', q, h⟩
  all_goals exact h.elim
end PV
end

section
set_option maxRecDepth 100000
namespace PV
open PySem PySem.Spec PyProof.Rows L2
set_option autoImplicit false
section
variable {P : Program} {w : World} {K : Fg} {mg : Str → Option Value} {base : Heap} {cl : Str → Option Value}
theorem fng_bad {k n : Nat} {f : Addr} {fd : FuncData} {ps : List Str} {e : Ta → Res D} (h : ∀ τ, e τ = .bad) : FnG P w K mg base k f fd ps (spOf K cl n (ctE e)) :=
  ⟨fun vs H Q E q => by obtain ⟨_, _, _, _, _, _, _, _, z, _⟩ := q; unfold ctE at z; rw [h] at z; exact z.elim, fun A outer s H args us vs Q E _ _ _ _ _ q => by obtain ⟨_, _, _, _, _, _, _, _, z, _⟩ := q; unfold ctE at z; rw [h] at z; exact z.elim⟩
theorem fng_badF {k n : Nat} {f : Addr} {fd : FuncData} {ps : List Str} {e : Ta → Res D} (h : ∀ τ, e τ = .bad) : FnG P w K mg base k f fd ps (spOfF K cl n (ctF e)) :=
  ⟨fun vs H Q E q => by obtain ⟨_, _, _, _, _, _, _, _, z, _⟩ := q; unfold ctF at z; rw [h] at z; exact z.elim, fun A outer s H args us vs Q E _ _ _ _ _ q => by obtain ⟨_, _, _, _, _, _, _, _, z, _⟩ := q; unfold ctF at z; rw [h] at z; exact z.elim⟩
theorem spOf_imp {n : Nat} {c c' : WE} (h : ∀ τ X P, c' τ X P → c τ X P) : ∀ vs H Q E, spOf K cl n c' vs H Q E → spOf K cl n c vs H Q E :=
  fun vs H Q E ⟨l, fo, ad, τ0, P, Xp, ok, R, ct, q, x⟩ => ⟨l, fo, ad, τ0, P, Xp, ok, R, h _ _ _ ct, q, x⟩
theorem law_of {k n : Nat} {f : Addr} {fd : FuncData} {ps : List Str} {e : Ta → Res D} (F : FnG P w K mg base k f fd ps (spOf K cl 1 (ctE e)))
    (h : ∀ ns : List Int, ns.length ≤ n → e [.val (.list (ns.map PyData.int))] = .ok (.bool true) [.val (.list (ns.map PyData.int))]) : FnG P w K mg base k f fd ps (spOf K cl 1 (lawCt n)) :=
  F.imp (spOf_imp fun τ X P ⟨⟨ns, hl, e1⟩, p⟩ => by subst e1; unfold ctE; rw [h ns hl]; exact p)
end
/-! ### reckoning by rewriting -/
section
variable {α β : Type}
@[simp] theorem bnd_ok (a : α) (τ : Ta) (k : α → Ta → Res β) : (Res.ok a τ).bnd k = k a τ := (rfl)
@[simp] theorem bnd_bad (k : α → Ta → Res β) : (Res.bad : Res α).bnd k = .bad := (rfl)
@[simp] theorem bnd_ex (x : Xn) (τ : Ta) (k : α → Ta → Res β) : (Res.ex x τ : Res α).bnd k = .ex x τ := (rfl)
@[simp] theorem s_ok (a : α) (τ : Ta) (k : α → Ta → SRes) : (Res.ok a τ).s k = k a τ := (rfl)
@[simp] theorem s_bad (k : α → Ta → SRes) : (Res.bad : Res α).s k = .bad := (rfl)
@[simp] theorem s_ex (x : Xn) (τ : Ta) (k : α → Ta → SRes) : (Res.ex x τ : Res α).s k = .ex x τ := (rfl)
@[simp] theorem ofO_some (a : α) (τ : Ta) : ofO (some a) τ = .ok a τ := (rfl)
@[simp] theorem ofO_none (τ : Ta) : ofO (none : Option α) τ = .bad := (rfl)
@[simp] theorem rif_true (r : Res α) : rif true r = r := (rfl)
@[simp] theorem rif_false (r : Res α) : rif false r = .bad := (rfl)
@[simp] theorem sif_true (r : SRes) : sif true r = r := (rfl)
@[simp] theorem sif_false (r : SRes) : sif false r = .bad := (rfl)
@[simp] theorem rite_true (x y : Unit → Res α) : rite true x y = x () := (rfl)
@[simp] theorem rite_false (x y : Unit → Res α) : rite false x y = y () := (rfl)
@[simp] theorem site_true (x y : Unit → SRes) : site true x y = x () := (rfl)
@[simp] theorem site_false (x y : Unit → SRes) : site false x y = y () := (rfl)
@[simp] theorem bndO_some (a : α) (k : α → Res β) : bndO (some a) k = k a := (rfl)
@[simp] theorem bndO_none (k : α → Res β) : bndO none k = .bad := (rfl)
@[simp] theorem bndS_some (a : α) (k : α → SRes) : bndS (some a) k = k a := (rfl)
@[simp] theorem bndS_none (k : α → SRes) : bndS none k = .bad := (rfl)
@[simp] theorem then_nx (τ : Ta) (k : Ta → SRes) : (SRes.nx τ).then k = k τ := (rfl)
@[simp] theorem then_rt (d : D) (τ : Ta) (k : Ta → SRes) : (SRes.rt d τ).then k = .rt d τ := (rfl)
@[simp] theorem then_rf (d : List D) (τ : Ta) (k : Ta → SRes) : (SRes.rf d τ).then k = .rf d τ := (rfl)
@[simp] theorem then_bk (τ : Ta) (k : Ta → SRes) : (SRes.bk τ).then k = .bk τ := (rfl)
@[simp] theorem then_ct (τ : Ta) (k : Ta → SRes) : (SRes.ct τ).then k = .ct τ := (rfl)
@[simp] theorem then_ex (x : Xn) (τ : Ta) (k : Ta → SRes) : (SRes.ex x τ).then k = .ex x τ := (rfl)
@[simp] theorem then_bad (k : Ta → SRes) : SRes.bad.then k = .bad := (rfl)
@[simp] theorem turn_nx (τ : Ta) (k : Ta → SRes) : (SRes.nx τ).turn k = k τ := (rfl)
@[simp] theorem turn_ct (τ : Ta) (k : Ta → SRes) : (SRes.ct τ).turn k = k τ := (rfl)
@[simp] theorem turn_bk (τ : Ta) (k : Ta → SRes) : (SRes.bk τ).turn k = .nx τ := (rfl)
@[simp] theorem turn_rt (d : D) (τ : Ta) (k : Ta → SRes) : (SRes.rt d τ).turn k = .rt d τ := (rfl)
@[simp] theorem turn_rf (d : List D) (τ : Ta) (k : Ta → SRes) : (SRes.rf d τ).turn k = .rf d τ := (rfl)
@[simp] theorem turn_ex (x : Xn) (τ : Ta) (k : Ta → SRes) : (SRes.ex x τ).turn k = .ex x τ := (rfl)
@[simp] theorem nox_ok (a : α) (τ : Ta) : (Res.ok a τ).nox = .ok a τ := (rfl)
@[simp] theorem nox_bad : (Res.bad : Res α).nox = .bad := (rfl)
@[simp] theorem nox_ex (x : Xn) (τ : Ta) : (Res.ex x τ : Res α).nox = .bad := (rfl)
@[simp] theorem back_ok (as : List Ar) (τ1 : Ta) (d : α) (τ' : Ta) : (Res.ok d τ').back as τ1 = .ok d (backA as τ' τ1) := (rfl)
@[simp] theorem back_ex (as : List Ar) (τ1 : Ta) (x : Xn) (τ' : Ta) : (Res.ex x τ' : Res α).back as τ1 = .ex x (backA as τ' τ1) := (rfl)
@[simp] theorem back_bad (as : List Ar) (τ1 : Ta) : (Res.bad : Res α).back as τ1 = .bad := (rfl)
@[simp] theorem lst_ok (ds : List D) (τ' : Ta) : (Res.ok (.list ds) τ').lst = .ok ds τ' := (rfl)
@[simp] theorem lst_ex (x : Xn) (τ' : Ta) : (Res.ex x τ' : Res D).lst = .ex x τ' := (rfl)
end
section
variable {τ : Ta} {i j : Nat} {d : D} {a b c : BE} {t u : BT} {as : BA} {f g : D → D → Option D} {h : D → Option D} {l : List D → Option D} {x y : BS}
@[simp] theorem qVar_e : (qVar i).e τ = ofO (valAt τ i) τ := (rfl)
@[simp] theorem qC_e : (qC d).e τ = .ok d τ := (rfl)
@[simp] theorem qFrz_e : (qFrz i).e τ = (ofO (ownAt τ i) τ).bnd fun ds τ => .ok (.list ds) (τ.set i (.val (.list ds))) := (rfl)
@[simp] theorem qNil_e : qNil.e τ = .ok [] τ := (rfl)
@[simp] theorem qCons_e : (qCons a as).e τ = (a.e τ).bnd fun d τ1 => (as.e τ1).bnd fun ds τ2 => .ok (d :: ds) τ2 := (rfl)
@[simp] theorem qTup_e : (qTup as).e τ = (as.e τ).bnd fun ds τ1 => rif (decide (ds.length ≤ sizeLine)) (.ok (.tuple ds) τ1) := (rfl)
@[simp] theorem qLst_e : (qLst as).e τ = (as.e τ).bnd fun ds τ1 => rif (decide (ds.length ≤ sizeLine)) (.ok (.list ds) τ1) := (rfl)
@[simp] theorem qLstF_e : (qLstF as).e τ = (as.e τ).bnd fun ds τ1 => rif (decide (ds.length ≤ sizeLine)) (.ok ds τ1) := (rfl)
@[simp] theorem qOf_e : (qOf as).e τ = (as.e τ).bnd fun ds τ1 => .ok (.list ds) τ1 := (rfl)
@[simp] theorem qOp_e : (qOp f a b).e τ = (a.e τ).bnd fun d τ1 => (b.e τ1).bnd fun e τ2 => ofO (f d e) τ2 := (rfl)
@[simp] theorem qUn_e : (qUn h a).e τ = (a.e τ).bnd fun d τ1 => ofO (h d) τ1 := (rfl)
@[simp] theorem qCall_e : (qCall l as).e τ = (as.e τ).bnd fun d τ1 => ofO (l d) τ1 := (rfl)
@[simp] theorem qTru_e : (qTru a).e τ = (a.e τ).bnd fun d τ1 => ofO (asBool d) τ1 := (rfl)
@[simp] theorem qChain_e : (qChain f g a b c).e τ = (a.e τ).bnd fun d τ1 => (b.e τ1).bnd fun e τ2 => (ofO (f d e) τ2).bnd fun r τ2 => (ofO (asBool r) τ2).bnd fun k τ2 => rite k (fun _ => (c.e τ2).bnd fun d3 τ3 => ofO (g e d3) τ3) (fun _ => .ok (.bool false) τ2) := (rfl)
@[simp] theorem qAnd_e : (qAnd t u).e τ = (t.e τ).bnd fun k τ1 => rite k (fun _ => u.e τ1) (fun _ => .ok false τ1) := (rfl)
@[simp] theorem qOr_e : (qOr t u).e τ = (t.e τ).bnd fun k τ1 => rite k (fun _ => .ok true τ1) (fun _ => u.e τ1) := (rfl)
@[simp] theorem qNot_e : (qNot t).e τ = (t.e τ).bnd fun k τ1 => .ok (!k) τ1 := (rfl)
@[simp] theorem qAndV_e : (qAndV a b).e τ = (a.e τ).bnd fun d τ1 => (ofO (asBool d) τ1).bnd fun k τ1 => rite k (fun _ => b.e τ1) (fun _ => .ok (.bool false) τ1) := (rfl)
@[simp] theorem qOrV_e : (qOrV a b).e τ = (a.e τ).bnd fun d τ1 => (ofO (asBool d) τ1).bnd fun k τ1 => rite k (fun _ => .ok (.bool true) τ1) (fun _ => b.e τ1) := (rfl)
@[simp] theorem qNotV_e : (qNotV a).e τ = (a.e τ).bnd fun d τ1 => (ofO (asBool d) τ1).bnd fun k τ1 => .ok (.bool (!k)) τ1 := (rfl)
@[simp] theorem qIf_e : (qIf t a b).e τ = (t.e τ).bnd fun k τ1 => rite k (fun _ => a.e τ1) (fun _ => b.e τ1) := (rfl)
@[simp] theorem qIsi_e {T : String} : (qIsi T a).e τ = (a.e τ).bnd fun d τ1 => .ok (.bool (isiS (tyD d) T)) τ1 := (rfl)
@[simp] theorem qIsiT_e {T U : String} : (qIsiT T U a).e τ = (a.e τ).bnd fun d τ1 => .ok (.bool (isiS (tyD d) T || isiS (tyD d) U)) τ1 := (rfl)
@[simp] theorem qPN_e : qPN.e τ = .ok none τ := (rfl)
@[simp] theorem qPS_e : (qPS a).e τ = (a.e τ).bnd fun d τ1 => (ofO (asInt d) τ1).bnd fun i τ1 => .ok (some i) τ1 := (rfl)
@[simp] theorem qSlice_e {lo hi : BR (Option Int)} : (qSlice a lo hi).e τ = (a.e τ).bnd fun d τ1 => (lo.e τ1).bnd fun lo τ2 => (hi.e τ2).bnd fun hi τ3 => ofO (sliceD d lo hi) τ3 := (rfl)
@[simp] theorem qAppend_e : (qAppend i a).e τ = rif (getL τ i).isSome ((a.e τ).bnd fun d τ1 => (ofO (getL τ1 i) τ1).bnd fun ds τ1 => rif (decide (ds.length < sizeLine)) (.ok .none (setL τ1 i (ds ++ [d])))) := (rfl)
@[simp] theorem qPop_e : (qPop i).e τ = (ofO (getL τ i) τ).bnd fun ds τ => (ofO ds[ds.length - 1]? τ).bnd fun d τ => .ok d (setL τ i ds.dropLast) := (rfl)
@[simp] theorem qPopAt_e : (qPopAt i a).e τ = rif (getL τ i).isSome ((a.e τ).bnd fun e τ1 => (ofO (getL τ1 i) τ1).bnd fun ds τ1 => (ofO (asInt e) τ1).bnd fun k τ1 => rif (decide (0 ≤ k ∧ k < 2 ^ 63)) ((ofO ds[k.toNat]? τ1).bnd fun d τ1 => .ok d (setL τ1 i (ds.eraseIdx k.toNat)))) := (rfl)
@[simp] theorem qInsert_e : (qInsert i a b).e τ = rif (getL τ i).isSome ((a.e τ).bnd fun e τ1 => (b.e τ1).bnd fun d τ1 => (ofO (getL τ1 i) τ1).bnd fun ds τ1 => (ofO (asInt e) τ1).bnd fun k τ1 => rif (decide (0 ≤ k ∧ k < 2 ^ 63 ∧ ds.length < sizeLine)) (.ok .none (setL τ1 i (ds.take k.toNat ++ [d] ++ ds.drop k.toNat)))) := (rfl)
@[simp] theorem qPk_e : (qPk f i b).e τ = rif (getL τ i).isSome ((b.e τ).bnd fun e τ1 => (ofO (getL τ1 i) τ1).bnd fun ds τ1 => (ofO (f (.list ds) e) τ1).bnd fun r τ1 => rif (flat r) (.ok r τ1)) := (rfl)
@[simp] theorem qPkR_e : (qPkR f a i).e τ = (a.e τ).bnd fun e τ1 => (ofO (getL τ1 i) τ1).bnd fun ds τ1 => (ofO (f e (.list ds)) τ1).bnd fun r τ1 => rif (flat r) (.ok r τ1) := (rfl)
@[simp] theorem qPk1_e : (qPk1 l i).e τ = (ofO (getL τ i) τ).bnd fun ds τ1 => (ofO (l [.list ds]) τ1).bnd fun r τ1 => rif (flat r) (.ok r τ1) := (rfl)
@[simp] theorem qPkIx_e : (qPkIx i b).e τ = rif (getL τ i).isSome ((b.e τ).bnd fun e τ1 => (ofO (getL τ1 i) τ1).bnd fun ds τ1 => (ofO (asInt e) τ1).bnd fun k τ1 => ofO (atI ds k) τ1) := (rfl)
@[simp] theorem qPkTup_e : (qPkTup i).e τ = (ofO (getL τ i) τ).bnd fun ds τ1 => .ok (.tuple ds) τ1 := (rfl)
@[simp] theorem qIndex_e {xs : List Str} : (qIndex xs a).e τ = (a.e τ).bnd fun d τ1 => (ofO (asStr d) τ1).bnd fun z τ1 => (ofO (idxS xs z 0) τ1).bnd fun j τ1 => .ok (.int (j : Nat)) τ1 := (rfl)
@[simp] theorem kN_e : (kN i).e d τ = if okSetb τ i = true then some (τ.set i (.val d)) else none := (rfl)
@[simp] theorem kNil_e : kNil.e [] τ = some τ := (rfl)
@[simp] theorem kCons_e {k : BG} {r : BGs} {ds : List D} : (kCons k r).e (d :: ds) τ = (k.e d τ).bind fun τ1 => r.e ds τ1 := (rfl)
@[simp] theorem kTup_e {n : Nat} {r : BGs} {ds : List D} : (kTup n r).e (.tuple ds) τ = if ds.length = n then r.e ds τ else none := (rfl)
@[simp] theorem qL_e : (qL a).e τ = (a.e τ).bnd fun d τ1 => ofO (asList d) τ1 := (rfl)
@[simp] theorem qT_e : (qT a).e τ = (a.e τ).bnd fun d τ1 => ofO (asTup d) τ1 := (rfl)
@[simp] theorem qLT_e : (qLT a).e τ = (a.e τ).bnd fun d τ1 => ofO (asSeq d) τ1 := (rfl)
@[simp] theorem qRange_e : (qRange a).e τ = (a.e τ).bnd fun d τ1 => (ofO (asInt d) τ1).bnd fun j τ1 => rif (rng j) (.ok (rngD 0 j.toNat) τ1) := (rfl)
@[simp] theorem qRange2_e : (qRange2 a b).e τ = (a.e τ).bnd fun d τ1 => (b.e τ1).bnd fun e τ1 => (ofO (asInt d) τ1).bnd fun i τ1 => (ofO (asInt e) τ1).bnd fun j τ1 => rif (rng i) (rif (rng j) (.ok (rngD i (j - i).toNat) τ1)) := (rfl)
@[simp] theorem qStr_e : (qStr a).e τ = (a.e τ).bnd fun d τ1 => (ofO (asStr d) τ1).bnd fun z τ1 => .ok (signsD z) τ1 := (rfl)
@[simp] theorem qZip_e : (qZip a b).e τ = (a.e τ).bnd fun d τ1 => (b.e τ1).bnd fun e τ1 => (ofO (seqs d e) τ1).bnd fun q τ1 => .ok (zipD q.1 q.2) τ1 := (rfl)
@[simp] theorem qEnum_e : (qEnum a).e τ = (a.e τ).bnd fun d τ1 => (ofO (asList d) τ1).bnd fun z τ1 => .ok (enumD z) τ1 := (rfl)
@[simp] theorem qEnT_e : (qEnT a).e τ = (a.e τ).bnd fun d τ1 => (ofO (asTup d) τ1).bnd fun z τ1 => .ok (enumD z) τ1 := (rfl)
@[simp] theorem qYes_e : qYes.e τ = .ok true τ := (rfl)
@[simp] theorem zNil_e : zNil.e τ = .ok [] τ := (rfl)
@[simp] theorem zE_e {r : BAr} : (zE a r).e τ = (a.e τ).bnd fun d τ1 => (r.e τ1).bnd fun as τ2 => .ok (.v d :: as) τ2 := (rfl)
@[simp] theorem zS_e {r : BAr} : (zS i r).e τ = rif (getL τ i).isSome ((r.e τ).bnd fun as τ2 => .ok (.s i :: as) τ2) := (rfl)
@[simp] theorem qFn_e {n : Nat} {f : Ta → Res D} {r : BAr} : (qFn n f r).e τ = (r.e τ).bnd fun as τ1 => bndO (pars τ1 as) fun τ0 => rif (okArs n as) ((f τ0).back as τ1) := (rfl)
@[simp] theorem qFnF_e {n : Nat} {f : Ta → Res D} {r : BAr} : (qFnF n f r).e τ = (r.e τ).bnd fun as τ1 => bndO (pars τ1 as) fun τ0 => rif (okArs n as) (((f τ0).lst).back as τ1) := (rfl)
@[simp] theorem tNil_e : tNil.e τ = .nx τ := (rfl)
@[simp] theorem tPass_e : tPass.e τ = .nx τ := (rfl)
@[simp] theorem tBreak_e : tBreak.e τ = .bk τ := (rfl)
@[simp] theorem tCont_e : tCont.e τ = .ct τ := (rfl)
@[simp] theorem tNever_e : tNever.e τ = .bad := (rfl)
@[simp] theorem tRetN_e : tRetN.e τ = .rt .none τ := (rfl)
@[simp] theorem tCons_e : (tCons x y).e τ = (x.e τ).then y.e := (rfl)
@[simp] theorem tRet_e : (tRet a).e τ = (a.e τ).s fun d τ1 => .rt d τ1 := (rfl)
@[simp] theorem tRetF_e : (tRetF as).e τ = (as.e τ).s fun d τ1 => .rf d τ1 := (rfl)
@[simp] theorem tExpr_e : (tExpr a).e τ = (a.e τ).s fun d τ1 => .nx τ1 := (rfl)
@[simp] theorem tIf_e : (tIf t x y).e τ = (t.e τ).s fun k τ1 => site k (fun _ => x.e τ1) (fun _ => y.e τ1) := (rfl)
@[simp] theorem tAsg_e {k : BG} : (tAsg a k).e τ = (a.e τ).s fun d τ1 => bndS (k.e d τ1) .nx := (rfl)
@[simp] theorem tSetF_e : (tSetF i as).e τ = (as.e τ).s fun ds τ1 => sif (okSetb τ1 i) (.nx (τ1.set i (.own ds))) := (rfl)
@[simp] theorem tSetL_e : (tSetL i as).e τ = (as.e τ).s fun ds τ1 => sif (okSetb τ1 i) (.nx (τ1.set i (.val (.list ds)))) := (rfl)
@[simp] theorem tPar_e : (tPar i j a b).e τ = (a.e τ).s fun d τ1 => (b.e τ1).s fun e τ2 => sif (okSetb τ2 i && (okSetb τ2 j && !(i == j))) (.nx ((τ2.set i (.val d)).set j (.val e))) := (rfl)
@[simp] theorem tParF_e : (tParF i j as b).e τ = (as.e τ).s fun d τ1 => (b.e τ1).s fun e τ2 => sif (okSetb τ2 i && (okSetb τ2 j && !(i == j))) (.nx ((τ2.set i (.own d)).set j (.val e))) := (rfl)
@[simp] theorem tExtF_e : (tExtF i as).e τ = sif (getL τ i).isSome ((as.e τ).s fun ds τ1 => bndS (getL τ1 i) fun es => sif (decide (es.length + ds.length ≤ sizeLine)) (.nx (setL τ1 i (es ++ ds)))) := (rfl)
@[simp] theorem tPut_e : (tPut i a b).e τ = (a.e τ).s fun d τ1 => sif (getL τ1 i).isSome ((b.e τ1).s fun e τ2 => bndS (getL τ2 i) fun ds => bndS (asInt e) fun k => bndS (ixN ds.length k) fun j => .nx (setL τ2 i (ds.set j d))) := (rfl)
@[simp] theorem tFor_e {k : BG} : (tFor as k x).e τ = (as.e τ).s fun ds τ1 => forE k x ds τ1 := (rfl)
end
section
variable {d : D} {s : Sl} {r r' τ : Ta} {i : Nat}
@[simp] theorem valAt_0 : valAt (.val d :: r) 0 = some d := (rfl)
@[simp] theorem valAt_s : valAt (s :: r) (i + 1) = valAt r i := (rfl)
@[simp] theorem ownAt_0 {ds : List D} : ownAt (.own ds :: r) 0 = some ds := (rfl)
@[simp] theorem ownAt_s : ownAt (s :: r) (i + 1) = ownAt r i := (rfl)
@[simp] theorem getL_o {ds : List D} : getL (.own ds :: r) 0 = some ds := (rfl)
@[simp] theorem getL_i {ds : List D} : getL (.io ds :: r) 0 = some ds := (rfl)
@[simp] theorem getL_s : getL (s :: r) (i + 1) = getL r i := (rfl)
@[simp] theorem setL_o {ds es : List D} : setL (.own ds :: r) 0 es = .own es :: r := (rfl)
@[simp] theorem setL_i {ds es : List D} : setL (.io ds :: r) 0 es = .io es :: r := (rfl)
@[simp] theorem setL_s {es : List D} : setL (s :: r) (i + 1) es = s :: setL r i es := by
  unfold setL
  cases h : r[i]? with
  | none => simp [h]
  | some x => cases x <;> simp [h]
@[simp] theorem okSetb_u : okSetb (.un :: r) 0 = true := (rfl)
@[simp] theorem okSetb_v : okSetb (.val d :: r) 0 = true := (rfl)
@[simp] theorem okSetb_o {ds : List D} : okSetb (.own ds :: r) 0 = true := (rfl)
@[simp] theorem okSetb_s : okSetb (s :: r) (i + 1) = okSetb r i := (rfl)
@[simp] theorem endT_n : endT [] τ = some [] := (rfl)
@[simp] theorem endT_v : endT (.val d :: r) (s :: r') = (endT r r').map (.val d :: ·) := (rfl)
@[simp] theorem endT_i {ds es : List D} : endT (.io ds :: r) (.io es :: r') = (endT r r').map (.io es :: ·) := (rfl)
@[simp] theorem pars_n : pars τ [] = some [] := (rfl)
@[simp] theorem pars_v {as : List Ar} : pars τ (.v d :: as) = (pars τ as).map (.val d :: ·) := (rfl)
@[simp] theorem okArs_def {n : Nat} {as : List Ar} : okArs n as = decide (as.length = n ∧ (slotsA as).Nodup) := (rfl)
@[simp] theorem slotsA_n : slotsA [] = [] := (rfl)
@[simp] theorem slotsA_v {as : List Ar} : slotsA (.v d :: as) = slotsA as := (rfl)
@[simp] theorem slotsA_i {as : List Ar} : slotsA (.s i :: as) = i :: slotsA as := (rfl)
@[simp] theorem backA_n : backA [] r τ = τ := by cases r <;> rfl
@[simp] theorem backA_v {as : List Ar} : backA (.v d :: as) (s :: r) τ = backA as r τ := (rfl)
@[simp] theorem backA_i {as : List Ar} {ds : List D} : backA (.s i :: as) (.io ds :: r) τ = setL (backA as r τ) i ds := (rfl)
@[simp] theorem wipeT_n : wipeT τ [] = τ := (rfl)
@[simp] theorem wipeT_c {v : Nat} {vs : List Nat} : wipeT τ (v :: vs) = (wipeT τ vs).set v .un := (rfl)
@[simp] theorem okWb_n : okWb τ [] = true := (rfl)
@[simp] theorem okWb_c {v : Nat} {vs : List Nat} : okWb τ (v :: vs) = (isValb τ[v]? && okWb τ vs) := (rfl)
@[simp] theorem isValb_v : isValb (some (.val d)) = true := (rfl)
@[simp] theorem isValb_u : isValb (some .un) = true := (rfl)
@[simp] theorem finE_nx : finE r (.nx τ) = match endT r τ with | some τ' => .ok .none τ' | none => .bad := (rfl)
@[simp] theorem finE_rt : finE r (.rt d τ) = match endT r τ with | some τ' => .ok d τ' | none => .bad := (rfl)
@[simp] theorem finE_bad : finE r .bad = .bad := (rfl)
@[simp] theorem finE_ex {x : Xn} : finE r (.ex x τ) = match endT r τ with | some τ' => .ex x τ' | none => .bad := (rfl)
@[simp] theorem finF_rf {ds : List D} : finF r (.rf ds τ) = match endT r τ with | some τ' => .ok (.list ds) τ' | none => .bad := (rfl)
@[simp] theorem asBool_b {b : Bool} : asBool (.bool b) = some b := (rfl)
@[simp] theorem asInt_b {b : Int} : asInt (.int b) = some b := (rfl)
@[simp] theorem asList_b {b : List D} : asList (.list b) = some b := (rfl)
@[simp] theorem asTup_b {b : List D} : asTup (.tuple b) = some b := (rfl)
@[simp] theorem asStr_b {b : Str} : asStr (.str b) = some b := (rfl)
@[simp] theorem asSeq_l {b : List D} : asSeq (.list b) = some b := (rfl)
@[simp] theorem asSeq_t {b : List D} : asSeq (.tuple b) = some b := (rfl)
end
end PV
end

section
set_option maxRecDepth 100000
namespace PV
open PySem PySem.Spec PyProof.Rows L2
set_option autoImplicit false
/-! ### loops and comprehensions, reckoned -/
section
variable {g : BG} {b : BS} {t : BT} {e : BE} {vs : List Nat}
@[simp] theorem forE_nil (τ : Ta) : forE g b [] τ = .nx τ := (rfl)
theorem forE_cons (d : D) (ds : List D) (τ : Ta) : forE g b (d :: ds) τ = bndS (g.e d τ) fun τ1 => (b.e τ1).turn (forE g b ds) := rfl
/-- one turn of a loop -/
def turnE (g : BG) (b : BS) (d : D) (τ : Ta) : SRes := bndS (g.e d τ) fun τ1 => (b.e τ1).turn .nx
theorem forE_turn {d : D} {ds : List D} {τ τ' : Ta} (h : bndS (g.e d τ) b.e = .nx τ') : forE g b (d :: ds) τ = forE g b ds τ' := by
  rw [forE_cons]
  cases q : g.e d τ with
  | none => rw [q] at h; exact nomatch h
  | some τ1 => rw [q] at h; simp only [bndS_some] at h ⊢; rw [h]; rfl
theorem forE_turnC {d : D} {ds : List D} {τ τ' : Ta} (h : bndS (g.e d τ) b.e = .ct τ') : forE g b (d :: ds) τ = forE g b ds τ' := by
  rw [forE_cons]
  cases q : g.e d τ with
  | none => rw [q] at h; exact nomatch h
  | some τ1 => rw [q] at h; simp only [bndS_some] at h ⊢; rw [h]; rfl
theorem forE_rt {d r : D} {ds : List D} {τ τ' : Ta} (h : bndS (g.e d τ) b.e = .rt r τ') : forE g b (d :: ds) τ = .rt r τ' := by
  rw [forE_cons]
  cases q : g.e d τ with
  | none => rw [q] at h; exact nomatch h
  | some τ1 => rw [q] at h; simp only [bndS_some] at h ⊢; rw [h]; rfl
theorem forE_bk {d : D} {ds : List D} {τ τ' : Ta} (h : bndS (g.e d τ) b.e = .bk τ') : forE g b (d :: ds) τ = .nx τ' := by
  rw [forE_cons]
  cases q : g.e d τ with
  | none => rw [q] at h; exact nomatch h
  | some τ1 => rw [q] at h; simp only [bndS_some] at h ⊢; rw [h]; rfl
/-- a loop that keeps what holds -/
theorem forE_inv (I : Ta → Prop) : ∀ (ds : List D) (τ : Ta), I τ → (∀ d ∈ ds, ∀ τ, I τ → ∃ τ', (bndS (g.e d τ) b.e = .nx τ' ∨ bndS (g.e d τ) b.e = .ct τ') ∧ I τ') → ∃ τ', forE g b ds τ = .nx τ' ∧ I τ'
  | [], τ, h, _ => ⟨τ, rfl, h⟩
  | d :: ds, τ, h, st => by
    obtain ⟨τ1, h1, h2⟩ := st d List.mem_cons_self τ h
    obtain ⟨τ2, h3, h4⟩ := forE_inv I ds τ1 h2 fun d m => st d (List.mem_cons_of_mem _ m)
    refine ⟨τ2, ?_, h4⟩
    rcases h1 with h1 | h1
    · rw [forE_turn h1, h3]
    · rw [forE_turnC h1, h3]
/-- a loop by places -/
theorem forE_fold (S : Nat → Ta → Prop) : ∀ (ds : List D) (i : Nat) (τ : Ta), S i τ → (∀ (j : Nat) (d : D), ds[j]? = some d → ∀ τ, S (i + j) τ → ∃ τ', (bndS (g.e d τ) b.e = .nx τ' ∨ bndS (g.e d τ) b.e = .ct τ') ∧ S (i + j + 1) τ') → ∃ τ', forE g b ds τ = .nx τ' ∧ S (i + ds.length) τ'
  | [], i, τ, h, _ => ⟨τ, rfl, h⟩
  | d :: ds, i, τ, h, st => by
    obtain ⟨τ1, h1, h2⟩ := st 0 d rfl τ h
    obtain ⟨τ2, h3, h4⟩ := forE_fold S ds (i + 1) τ1 h2 fun j d m τ hs => by
      have := st (j + 1) d m τ (by rw [show i + (j + 1) = i + 1 + j by omega]; exact hs)
      rw [show i + 1 + j + 1 = i + (j + 1) + 1 by omega]
      exact this
    refine ⟨τ2, ?_, by rw [List.length_cons, show i + (ds.length + 1) = i + 1 + ds.length by omega]; exact h4⟩
    rcases h1 with h1 | h1
    · rw [forE_turn h1, h3]
    · rw [forE_turnC h1, h3]
@[simp] theorem lcE_nil (acc : List D) (τ : Ta) : lcE g t e vs [] acc τ = .ok acc τ := (rfl)
theorem lcE_cons (d : D) (ds acc : List D) (τ : Ta) : lcE g t e vs (d :: ds) acc τ = bndO (g.e d τ) fun τ1 => (t.e τ1).nox.bnd fun b τ2 => rite b (fun _ => (e.e τ2).nox.bnd fun r τ3 => rif (decide (acc.length < sizeLine)) (lcE g t e vs ds (acc ++ [r]) (wipeT τ3 vs)))
      (fun _ => lcE g t e vs ds acc (wipeT τ2 vs)) := rfl
/-- a comprehension that changes nothing -/
theorem lcE_pure {τ : Ta} {p : D → Bool} {f : D → D} : ∀ {ds acc : List D}, (∀ d ∈ ds, ∃ τ1, g.e d τ = some τ1 ∧ wipeT τ1 vs = τ ∧ t.e τ1 = .ok (p d) τ1 ∧ (p d = true → e.e τ1 = .ok (f d) τ1)) → acc.length + ds.length ≤ sizeLine →
    lcE g t e vs ds acc τ = .ok (acc ++ (ds.filter p).map f) τ
  | [], acc, _, _ => by simp
  | d :: ds, acc, h, hl => by
    obtain ⟨τ1, h1, h2, h3, h4⟩ := h d List.mem_cons_self
    rw [List.length_cons] at hl
    rw [lcE_cons, h1, bndO_some, h3, nox_ok, bnd_ok]
    cases q : p d with
    | true =>
      rw [rite_true, h4 q, nox_ok, bnd_ok, decide_eq_true (show acc.length < sizeLine by omega), rif_true, h2, lcE_pure (fun d m => h d (List.mem_cons_of_mem _ m)) (by rw [List.length_append, List.length_singleton]; omega), List.filter_cons_of_pos q]
      simp
    | false =>
      rw [rite_false, h2, lcE_pure (fun d m => h d (List.mem_cons_of_mem _ m)) (by omega), List.filter_cons_of_neg (by simp [q])]
theorem lcE_map {τ : Ta} {f : D → D} {ds acc : List D} (h : ∀ d ∈ ds, ∃ τ1, g.e d τ = some τ1 ∧ wipeT τ1 vs = τ ∧ e.e τ1 = .ok (f d) τ1) (hl : acc.length + ds.length ≤ sizeLine) :
    lcE g qYes e vs ds acc τ = .ok (acc ++ ds.map f) τ := by
  rw [lcE_pure (p := fun _ => true) (f := f) (fun d m => by obtain ⟨τ1, h1, h2, h3⟩ := h d m; exact ⟨τ1, h1, h2, rfl, fun _ => h3⟩) hl, List.filter_eq_self.mpr fun _ _ => rfl]
/-- the same over things -/
theorem lcA_pure {α : Type} {τ : Ta} {src : α → D} (p : α → Bool) (f : α → D) : ∀ {as : List α} {acc : List D}, (∀ a ∈ as, ∃ τ1, g.e (src a) τ = some τ1 ∧ wipeT τ1 vs = τ ∧ t.e τ1 = .ok (p a) τ1 ∧ (p a = true → e.e τ1 = .ok (f a) τ1)) → acc.length + as.length ≤ sizeLine →
    lcE g t e vs (as.map src) acc τ = .ok (acc ++ (as.filter p).map f) τ
  | [], acc, _, _ => by simp
  | d :: ds, acc, h, hl => by
    obtain ⟨τ1, h1, h2, h3, h4⟩ := h d List.mem_cons_self
    rw [List.length_cons] at hl
    rw [List.map_cons, lcE_cons, h1, bndO_some, h3, nox_ok, bnd_ok]
    cases q : p d with
    | true =>
      rw [rite_true, h4 q, nox_ok, bnd_ok, decide_eq_true (show acc.length < sizeLine by omega), rif_true, h2, lcA_pure p f (fun d m => h d (List.mem_cons_of_mem _ m)) (by rw [List.length_append, List.length_singleton]; omega), List.filter_cons_of_pos q]
      simp
    | false =>
      rw [rite_false, h2, lcA_pure p f (fun d m => h d (List.mem_cons_of_mem _ m)) (by omega), List.filter_cons_of_neg (by simp [q])]
theorem lcA_map {α : Type} {τ : Ta} {src : α → D} (f : α → D) {as : List α} {acc : List D} (h : ∀ a ∈ as, ∃ τ1, g.e (src a) τ = some τ1 ∧ wipeT τ1 vs = τ ∧ e.e τ1 = .ok (f a) τ1) (hl : acc.length + as.length ≤ sizeLine) :
    lcE g qYes e vs (as.map src) acc τ = .ok (acc ++ as.map f) τ := by
  rw [lcA_pure (p := fun _ => true) (f := f) (fun d m => by obtain ⟨τ1, h1, h2, h3⟩ := h d m; exact ⟨τ1, h1, h2, rfl, fun _ => h3⟩) hl, List.filter_eq_self.mpr fun _ _ => rfl]
/-- a comprehension that keeps what holds -/
theorem lcE_inv (I : List D → Ta → Prop) : ∀ (ds acc : List D) (τ : Ta), acc.length + ds.length ≤ sizeLine → I acc τ → (∀ d ∈ ds, ∀ acc τ, I acc τ → ∃ τ1 τ2 r, g.e d τ = some τ1 ∧ e.e τ1 = .ok r τ2 ∧ I (acc ++ [r]) (wipeT τ2 vs)) →
    ∃ acc' τ', lcE g qYes e vs ds acc τ = .ok acc' τ' ∧ I acc' τ' ∧ acc'.length = acc.length + ds.length
  | [], acc, τ, _, h, _ => ⟨acc, τ, rfl, h, rfl⟩
  | d :: ds, acc, τ, hl, h, st => by
    obtain ⟨τ1, τ2, r, h1, h2, h3⟩ := st d List.mem_cons_self acc τ h
    rw [List.length_cons] at hl
    obtain ⟨acc', τ', h4, h5, h6⟩ := lcE_inv I ds (acc ++ [r]) _ (by rw [List.length_append, List.length_singleton]; omega) h3 fun d m => st d (List.mem_cons_of_mem _ m)
    refine ⟨acc', τ', ?_, h5, by rw [h6]; simp; omega⟩
    rw [lcE_cons, h1, bndO_some, qYes_e, nox_ok, bnd_ok, rite_true, h2, nox_ok, bnd_ok, decide_eq_true (show acc.length < sizeLine by omega), rif_true, h4]
@[simp] theorem qLC_e {s : BA} {τ : Ta} : (qLC s g t e vs).e τ = (s.e τ).bnd fun ds τ1 => rif (okWb τ1 vs) ((lcE g t e vs ds [] (wipeT τ1 vs)).bnd fun acc τ2 => .ok acc (backT τ1 τ2 vs)) := (rfl)
@[simp] theorem backT_n {τ0 τ : Ta} : backT τ0 τ [] = τ := (rfl)
theorem backT_c {τ0 τ : Ta} {v : Nat} {vs : List Nat} {s : Sl} (h : τ0[v]? = some s) : backT τ0 τ (v :: vs) = (backT τ0 τ vs).set v s := by
  rw [backT, h]
end
section
variable {t : BT} {b : BS}
theorem whileE_s (n : Nat) (τ : Ta) : whileE t b (n + 1) τ = (t.e τ).s fun k τ1 => site k (fun _ => (b.e τ1).turn (whileE t b n)) (fun _ => .nx τ1) := rfl
/-- a while that ends behind its test -/
theorem whileE_inv (I : Nat → Ta → Prop) : ∀ (n m : Nat) (τ : Ta), m < n → I m τ → (∀ m τ, I m τ → (∃ τ1, t.e τ = .ok false τ1 ∧ I 0 τ1) ∨ ∃ τ1 τ2 m', t.e τ = .ok true τ1 ∧ (b.e τ1 = .nx τ2 ∨ b.e τ1 = .ct τ2) ∧ m' < m ∧ I m' τ2) →
    ∃ τ' m', whileE t b n τ = .nx τ' ∧ I m' τ' ∧ ∃ τ0 m0, I m0 τ0 ∧ t.e τ0 = .ok false τ'
  | 0, m, _, h, _, _ => absurd h (Nat.not_lt_zero m)
  | n + 1, m, τ, h, hi, st => by
    rcases st m τ hi with ⟨τ1, h1, h2⟩ | ⟨τ1, τ2, m', h1, h2, h3, h4⟩
    · exact ⟨τ1, 0, by rw [whileE_s, h1]; rfl, h2, τ, m, hi, h1⟩
    · obtain ⟨τ', m2, h5, h6, h7⟩ := whileE_inv I n m' τ2 (by omega) h4 st
      refine ⟨τ', m2, ?_, h6, h7⟩
      rw [whileE_s, h1, s_ok, site_true]
      rcases h2 with h2 | h2 <;> rw [h2] <;> exact h5
@[simp] theorem tWhile_e {τ : Ta} : (tWhile t b).e τ = whileE t b 1000000000000 τ := (rfl)
end
/-! ### the slots of a state -/
def slotV : Sl → Bool
  | .un => true
  | .val _ => true
  | _ => false
@[simp] theorem slotV_u : slotV .un = true := (rfl)
@[simp] theorem slotV_v (d : D) : slotV (.val d) = true := (rfl)
theorem okSetb_q {s : Sl} {r : Ta} (h : slotV s = true) : okSetb (s :: r) 0 = true := by
  cases s <;> first | rfl | exact nomatch h
theorem isValb_q {s : Sl} (h : slotV s = true) : isValb (some s) = true := by
  cases s <;> first | rfl | exact nomatch h
/-! ### small facts -/
theorem len_str {z : Str} (h : z.length ≤ sizeLine) : lenD [.str z] = some (.int z.length) := if_pos h
@[simp] theorem len_list (ds : List D) : lenD [.list ds] = some (.int ds.length) := (rfl)
@[simp] theorem len_tup (ds : List D) : lenD [.tuple ds] = some (.int ds.length) := (rfl)
theorem idx0 (a : D) (r : List D) : idxD (.tuple (a :: r)) (.int 0) = some a := atI_nat (xs := a :: r) (j := 0) rfl
theorem idx1 (a b : D) (r : List D) : idxD (.tuple (a :: b :: r)) (.int 1) = some b := atI_nat (xs := a :: b :: r) (j := 1) rfl
theorem idx2 (a b c : D) (r : List D) : idxD (.tuple (a :: b :: c :: r)) (.int 2) = some c := atI_nat (xs := a :: b :: c :: r) (j := 2) rfl
theorem idx3 (a b c d : D) (r : List D) : idxD (.tuple (a :: b :: c :: d :: r)) (.int 3) = some d := atI_nat (xs := a :: b :: c :: d :: r) (j := 3) rfl
theorem idxL (ds : List D) (j : Nat) (d : D) (h : ds[j]? = some d) : idxD (.list ds) (.int (j : Nat)) = some d := atI_nat h
theorem idxT (ds : List D) (j : Nat) (d : D) (h : ds[j]? = some d) : idxD (.tuple ds) (.int (j : Nat)) = some d := atI_nat h
theorem endT_val {d : D} {τ τ' : Ta} (h : endT [.val d] τ = some τ') : τ' = [.val d] := by
  cases τ with
  | nil => exact nomatch h
  | cons s r => exact (Option.some.inj h).symm
def isTrue : Res D → Bool
  | .ok (.bool true) _ => true
  | _ => false
theorem isTrue_of {d : D} {r : SRes} (h : isTrue (finE [.val d] r) = true) : finE [.val d] r = .ok (.bool true) [.val d] := by
  cases e : finE [.val d] r with
  | ok x τ =>
    have ht : τ = [.val d] := by
      cases r with
      | nx τ1 => simp only [finE] at e; cases q : endT [.val d] τ1 with
        | none => rw [q] at e; exact nomatch e
        | some τ2 => rw [q] at e; cases e; exact endT_val q
      | rt y τ1 => simp only [finE] at e; cases q : endT [.val d] τ1 with
        | none => rw [q] at e; exact nomatch e
        | some τ2 => rw [q] at e; cases e; exact endT_val q
      | ex y τ1 => simp only [finE] at e; cases q : endT [.val d] τ1 with
        | none => rw [q] at e; exact nomatch e
        | some τ2 => rw [q] at e; cases e
      | rf _ _ => exact nomatch e
      | bk _ => exact nomatch e
      | ct _ => exact nomatch e
      | bad => exact nomatch e
    subst ht
    rw [e] at h
    cases x with
    | bool b =>
      cases b with
      | true => rfl
      | false => exact nomatch h
    | _ => exact nomatch h
  | ex _ _ => rw [e] at h; exact nomatch h
  | bad => rw [e] at h; exact nomatch h
def seqE : List BS → Ta → SRes
  | [], τ => .nx τ
  | b :: bs, τ => (b.e τ).then (seqE bs)
theorem seqE_cons {a b : BS} {bs : List BS} {τ τ' : Ta} {k : Ta → SRes} (h : seqE (a :: bs) τ = .nx τ') (hb : ∀ τ1, seqE bs τ1 = .nx τ' → b.e τ1 = k τ') : (tCons a b).e τ = k τ' := by
  rw [tCons_e]
  unfold seqE at h
  cases e : a.e τ with
  | nx τ1 => rw [e] at h; exact hb τ1 h
  | _ => rw [e] at h; exact nomatch h
theorem seqE_nil {b : BS} {τ τ' : Ta} (h : seqE [] τ = .nx τ') : b.e τ = b.e τ' := by cases h; rfl
/-- the state behind -/
def nxt : SRes → Ta
  | .nx τ => τ
  | _ => []
end PV
end

section
set_option maxRecDepth 100000
namespace PV
open PySem PySem.Spec PyProof.Rows L2
set_option autoImplicit false
/-! ### operations, for rewriting -/
theorem sz (n : Nat) (h : n ≤ 16777216 := by decide) : n ≤ sizeLine := h
theorem dsz (n : Nat) (h : n ≤ 16777216 := by decide) : decide (n ≤ sizeLine) = true := decide_eq_true h
section
variable (i j : Int) (a b : Bool) (x y : Str) (xs ys : List D) (d e : D)
@[simp] theorem add_ii : addD (.int i) (.int j) = some (.int (i + j)) := (rfl)
@[simp] theorem sub_ii : subD (.int i) (.int j) = some (.int (i - j)) := (rfl)
@[simp] theorem neg_i : negD (.int i) = some (.int (-i)) := (rfl)
theorem add_tt (h : xs.length + ys.length ≤ sizeLine) : addD (.tuple xs) (.tuple ys) = some (.tuple (xs ++ ys)) := if_pos h
theorem add_ll (h : xs.length + ys.length ≤ sizeLine) : addD (.list xs) (.list ys) = some (.list (xs ++ ys)) := if_pos h
theorem add_ss (h : x.length + y.length ≤ sizeLine) : addD (.str x) (.str y) = some (.str (x ++ y)) := if_pos h
theorem mul_r (h : -18446744073709551616 < j ∧ j < 18446744073709551616) : mulD (.int i) (.int j) = some (.int (i * j)) := if_pos (.inr h)
theorem mul_l (h : -18446744073709551616 < i ∧ i < 18446744073709551616) : mulD (.int i) (.int j) = some (.int (i * j)) := if_pos (.inl h)
theorem mod_ii (h : 0 < j) : modD (.int i) (.int j) = some (.int (i % j)) := if_pos h
theorem fdiv_ii (h : 0 < j) (h2 : j < 18446744073709551616) : fdivD (.int i) (.int j) = some (.int (i / j)) := if_pos ⟨h, by
  have h3 : j.natAbs < 2 ^ 64 := by omega
  have : j.natAbs.log2 < 64 := (Nat.log2_lt (by omega)).mpr h3
  omega⟩
@[simp] theorem lt_ii : ltD (.int i) (.int j) = some (.bool (decide (i < j))) := (rfl)
@[simp] theorem le_ii : leD (.int i) (.int j) = some (.bool (decide (i ≤ j))) := (rfl)
@[simp] theorem gt_ii : gtD (.int i) (.int j) = some (.bool (decide (j < i))) := (rfl)
@[simp] theorem ge_ii : geD (.int i) (.int j) = some (.bool (decide (j ≤ i))) := (rfl)
@[simp] theorem lt_ss : ltD (.str x) (.str y) = some (.bool (decide (x.cps.toList < y.cps.toList))) := (rfl)
@[simp] theorem lt_bb : ltD (.bool a) (.bool b) = some (.bool (decide (b2n a < b2n b))) := (rfl)
@[simp] theorem eq_ii : eqD (.int i) (.int j) = some (.bool (i == j)) := (rfl)
@[simp] theorem ne_ii : neD (.int i) (.int j) = some (.bool (!(i == j))) := (rfl)
@[simp] theorem eq_ss : eqD (.str x) (.str y) = some (.bool (x == y)) := (rfl)
@[simp] theorem ne_ss : neD (.str x) (.str y) = some (.bool (!(x == y))) := (rfl)
@[simp] theorem is_n : isD d .none = some (.bool (isN d)) := by cases d <;> rfl
@[simp] theorem isnot_n : isnotD d .none = some (.bool (!isN d)) := by cases d <;> rfl
@[simp] theorem is_bb : isD (.bool a) (.bool b) = some (.bool (decide (a = b))) := (rfl)
@[simp] theorem isnot_bb : isnotD (.bool a) (.bool b) = some (.bool (!decide (a = b))) := (rfl)
@[simp] theorem isN_n : isN .none = true := (rfl)
@[simp] theorem isN_b : isN (.bool a) = false := (rfl)
@[simp] theorem isN_i : isN (.int i) = false := (rfl)
@[simp] theorem isN_s : isN (.str x) = false := (rfl)
@[simp] theorem isN_t : isN (.tuple xs) = false := (rfl)
@[simp] theorem isN_l : isN (.list xs) = false := (rfl)
@[simp] theorem int_i : PV.intD [.int i] = some (.int i) := (rfl)
@[simp] theorem abs_i : absD [.int i] = some (.int (if i < 0 then -i else i)) := (rfl)
@[simp] theorem list_l : listD [.list xs] = some (.list xs) := (rfl)
@[simp] theorem list_t : listD [.tuple xs] = some (.list xs) := (rfl)
@[simp] theorem tup_l : tupleD [.list xs] = some (.tuple xs) := (rfl)
@[simp] theorem tup_t : tupleD [.tuple xs] = some (.tuple xs) := (rfl)
@[simp] theorem idx_t : idxD (.tuple xs) (.int i) = atI xs i := (rfl)
@[simp] theorem idx_l : idxD (.list xs) (.int i) = atI xs i := (rfl)
@[simp] theorem at0 : atI (d :: xs) 0 = some d := atI_nat (j := 0) rfl
@[simp] theorem at1 (d0 : D) : atI (d0 :: d :: xs) 1 = some d := atI_nat (j := 1) rfl
@[simp] theorem at2 (d0 d1 : D) : atI (d0 :: d1 :: d :: xs) 2 = some d := atI_nat (j := 2) rfl
@[simp] theorem at3 (d0 d1 d2 : D) : atI (d0 :: d1 :: d2 :: d :: xs) 3 = some d := atI_nat (j := 3) rfl
@[simp] theorem at4 (d0 d1 d2 d3 : D) : atI (d0 :: d1 :: d2 :: d3 :: d :: xs) 4 = some d := atI_nat (j := 4) rfl
@[simp] theorem pars_s (τ : Ta) (i : Nat) (as : List Ar) : pars τ (.s i :: as) = (getL τ i).bind fun ds => (pars τ as).map (.io ds :: ·) := by
  rw [pars]
  cases getL τ i <;> rfl
@[simp] theorem ix20 : ixN 2 0 = some 0 := by decide
@[simp] theorem ix21 : ixN 2 1 = some 1 := by decide
@[simp] theorem asB_of (h : D → Bool) : asBool (.bool (h d)) = some (h d) := (rfl)
/-! what kind of datum -/
@[simp] theorem ty_n : tyD .none = "NoneType" := (rfl)
@[simp] theorem ty_b : tyD (.bool a) = "bool" := (rfl)
@[simp] theorem ty_i : tyD (.int i) = "int" := (rfl)
@[simp] theorem ty_s : tyD (.str x) = "str" := (rfl)
@[simp] theorem ty_l : tyD (.list xs) = "list" := (rfl)
@[simp] theorem ty_t : tyD (.tuple xs) = "tuple" := (rfl)
@[simp] theorem ty_d (kv : List (D × D)) : tyD (.dict kv) = "dict" := (rfl)
end
@[simp] theorem isS_a : isiS "int" "int" = true := (rfl)
@[simp] theorem isS_b : isiS "bool" "int" = true := (rfl)
@[simp] theorem isS_c : isiS "str" "int" = false := (rfl)
@[simp] theorem isS_d : isiS "tuple" "int" = false := (rfl)
@[simp] theorem isS_e : isiS "list" "int" = false := (rfl)
@[simp] theorem isS_f : isiS "dict" "int" = false := (rfl)
@[simp] theorem isS_g : isiS "NoneType" "int" = false := (rfl)
@[simp] theorem isS_h : isiS "int" "bool" = false := (rfl)
@[simp] theorem isS_i : isiS "bool" "bool" = true := (rfl)
@[simp] theorem isS_j : isiS "str" "bool" = false := (rfl)
@[simp] theorem isS_k : isiS "tuple" "bool" = false := (rfl)
@[simp] theorem isS_l : isiS "list" "bool" = false := (rfl)
@[simp] theorem isS_m : isiS "dict" "bool" = false := (rfl)
@[simp] theorem isS_n : isiS "NoneType" "bool" = false := (rfl)
@[simp] theorem isS_o : isiS "int" "str" = false := (rfl)
@[simp] theorem isS_p : isiS "bool" "str" = false := (rfl)
@[simp] theorem isS_q : isiS "str" "str" = true := (rfl)
@[simp] theorem isS_r : isiS "tuple" "str" = false := (rfl)
@[simp] theorem isS_s : isiS "list" "str" = false := (rfl)
@[simp] theorem isS_t : isiS "dict" "str" = false := (rfl)
@[simp] theorem isS_u : isiS "NoneType" "str" = false := (rfl)
@[simp] theorem isS_v : isiS "int" "tuple" = false := (rfl)
@[simp] theorem isS_w : isiS "bool" "tuple" = false := (rfl)
@[simp] theorem isS_x : isiS "str" "tuple" = false := (rfl)
@[simp] theorem isS_y : isiS "tuple" "tuple" = true := (rfl)
@[simp] theorem isS_z : isiS "list" "tuple" = false := (rfl)
@[simp] theorem isS_1 : isiS "dict" "tuple" = false := (rfl)
@[simp] theorem isS_2 : isiS "NoneType" "tuple" = false := (rfl)
@[simp] theorem isS_3 : isiS "int" "list" = false := (rfl)
@[simp] theorem isS_4 : isiS "bool" "list" = false := (rfl)
@[simp] theorem isS_5 : isiS "str" "list" = false := (rfl)
@[simp] theorem isS_6 : isiS "tuple" "list" = false := (rfl)
@[simp] theorem isS_7 : isiS "list" "list" = true := (rfl)
@[simp] theorem isS_8 : isiS "dict" "list" = false := (rfl)
@[simp] theorem isS_9 : isiS "NoneType" "list" = false := (rfl)

/-! ### the top, def by def -/
def DefH (K : Fg) (x : Str) (st : Stmt) (ps : List Str) : Prop := ∃ (a : Addr) (fd : FuncData), Fun K x x st a fd ∧ Binds K fd ps [] ∧ PySem.W.nsIn K mainGlobals x = some (some (.ref a))
def TupH (K : Fg) (x : Str) (ds : List D) : Prop := ∃ a : Addr, PySem.W.nsIn K mainGlobals x = some (some (.ref a)) ∧ KTup K a ds
theorem tupH_mk {K : Fg} {x : Str} {ds : List D} {vs : List V} {a : Addr} {us : List Value} {n : Nat} (g : PySem.W.nsIn K mainGlobals x = some (some (.ref a))) (l : K.lookup a = some ⟨.type "tuple", none, .seq us.toArray n, #[]⟩) (hs : us.length ≤ sizeLine) (h : WrA us vs ds) : TupH K x ds := ⟨a, g, us, vs, n, l, hs, h⟩
theorem defH_mk {K : Fg} {x : Str} {st : Stmt} {ps : List Str} {a : Addr} {oc : Value} {od an : Option Addr} {osl : Array (Option Value)} {kV doc pm cdv ct : Value} (g : PySem.W.nsIn K mainGlobals x = some (some (.ref a))) (l : K.lookup a = some ⟨oc, od, .func (PySem.W.fnOf x x (defArgs st) (defBody st) (defScope st) .none kV doc pm an cdv ct), osl⟩)
    (c : PySem.W.codeIn K cdv x = true) (k : PySem.W.keepIn K (.ref a) = true)
    (h : ∀ (kV doc pm : Value) (an : Option Addr) (cdv ct : Value) (us : List Value), us.length = ps.length → bindArgs (PySem.W.fnOf x x (defArgs st) (defBody st) (defScope st) .none kV doc pm an cdv ct) ⟨us, []⟩ = pure (ps.zip us)) : DefH K x st ps :=
  ⟨a, _, fun_mk l c k, (fun_mk l c k).binds h, g⟩
def LawH (K : Fg) (st : Stmt) : Prop := ∃ (a : Addr) (fd : FuncData), Fun K "law" "law" st a fd ∧ Binds K fd ["script"] [] ∧ PySem.W.nsIn K mainGlobals "law" = some (some (.ref a)) ∧ ∀ (s : Shared) (u : Value), BindsTo s fd ⟨[u], []⟩ [("script", u)]
theorem lawH_mk {K : Fg} {st : Stmt} {a : Addr} {oc : Value} {od an : Option Addr} {osl : Array (Option Value)} {kV doc pm cdv ct : Value} (g : PySem.W.nsIn K mainGlobals "law" = some (some (.ref a))) (l : K.lookup a = some ⟨oc, od, .func (PySem.W.fnOf "law" "law" (defArgs st) (defBody st) (defScope st) .none kV doc pm an cdv ct), osl⟩)
    (c : PySem.W.codeIn K cdv "law" = true) (k : PySem.W.keepIn K (.ref a) = true)
    (h : ∀ (kV doc pm : Value) (an : Option Addr) (cdv ct : Value) (us : List Value), us.length = 1 → bindArgs (PySem.W.fnOf "law" "law" (defArgs st) (defBody st) (defScope st) .none kV doc pm an cdv ct) ⟨us, []⟩ = pure ([("script" : Str)].zip us)) : LawH K st :=
  ⟨a, _, fun_mk l c k, (fun_mk l c k).binds h, g, fun s u => .of_eq (h kV doc pm an cdv ct [u] rfl)⟩
end PV
end

section
set_option maxRecDepth 100000
namespace PV
open PySem PySem.Spec PyProof.Rows L2
set_option autoImplicit false
/-! ### the hall's values -/
inductive Val where
  | nul
  | tru (b : Bool)
  | num (i : Int)
  | txt (s : Str)
  | lst (vs : List Val)
  | doc (fs : List (Str × Val))
mutual
def Val.toD : Val → D
  | .nul => .none
  | .tru b => .bool b
  | .num i => .int i
  | .txt s => .str s
  | .lst vs => .tuple [.str "list", .tuple (Val.toDs vs)]
  | .doc fs => .tuple [.str "doc", .tuple (Val.toFs fs)]
def Val.toDs : List Val → List D
  | [] => []
  | x :: xs => x.toD :: Val.toDs xs
def Val.toFs : List (Str × Val) → List D
  | [] => []
  | (z, x) :: fs => .tuple [.str z, x.toD] :: Val.toFs fs
end
def fD (f : Str × Val) : D := .tuple [.str f.1, f.2.toD]
theorem toDs_eq : ∀ vs : List Val, Val.toDs vs = vs.map Val.toD
  | [] => rfl
  | x :: xs => by rw [Val.toDs, toDs_eq xs]; rfl
theorem toFs_eq : ∀ vs : List (Str × Val), Val.toFs vs = vs.map fD
  | [] => rfl
  | (z, x) :: xs => by rw [Val.toFs, toFs_eq xs]; rfl
@[simp] theorem toD_nul : Val.nul.toD = .none := rfl
@[simp] theorem toD_tru (b : Bool) : (Val.tru b).toD = .bool b := rfl
@[simp] theorem toD_num (i : Int) : (Val.num i).toD = .int i := rfl
@[simp] theorem toD_txt (s : Str) : (Val.txt s).toD = .str s := rfl
@[simp] theorem toD_lst (vs : List Val) : (Val.lst vs).toD = .tuple [.str "list", .tuple (vs.map Val.toD)] := by rw [Val.toD, toDs_eq]
@[simp] theorem toD_doc (fs : List (Str × Val)) : (Val.doc fs).toD = .tuple [.str "doc", .tuple (fs.map fD)] := by rw [Val.toD, toFs_eq]
abbrev smallC : List Nat := ("abcdefghijklmnopqrstuvwxyz" : Str).cps.toList
abbrev signsC : List Nat := ("abcdefghijklmnopqrstuvwxyz0123456789" : Str).cps.toList
def nameS (z : Str) : Bool := match z.cps.toList with
  | [] => false
  | q :: r => decide (r.length < 8) && decide (q ∈ smallC) && (q :: r).all fun s => decide (s ∈ signsC)
def textC (q : Nat) : Bool := decide (32 ≤ q) && decide (q ≤ 126) && !decide (q = 37) && !decide (q = 39)
def textS (z : Str) : Bool := decide (z.length ≤ 40) && z.cps.toList.all textC
/-- a value of the hall, nested so deep at most -/
def okV : Nat → Val → Prop
  | _, .nul => True
  | _, .tru _ => True
  | _, .num i => -1000000000000 ≤ i ∧ i ≤ 1000000000000
  | _, .txt s => textS s = true
  | 0, .lst _ => False
  | 0, .doc _ => False
  | n + 1, .lst vs => vs.length ≤ 16 ∧ ∀ v ∈ vs, okV n v
  | n + 1, .doc fs => fs.length ≤ 16 ∧ (fs.map (·.1)).Nodup ∧ ∀ f ∈ fs, nameS f.1 = true ∧ okV n f.2
theorem okV_mono : ∀ {n m : Nat} {v : Val}, n ≤ m → okV n v → okV m v
  | _, _, .nul, _, _ => by unfold okV; trivial
  | _, _, .tru _, _, _ => by unfold okV; trivial
  | _, _, .num _, _, h => by unfold okV at *; exact h
  | _, _, .txt _, _, h => by unfold okV at *; exact h
  | 0, _, .lst _, _, h => by unfold okV at h; exact h.elim
  | 0, _, .doc _, _, h => by unfold okV at h; exact h.elim
  | n + 1, 0, _, l, _ => by omega
  | n + 1, m + 1, .lst vs, l, h => by
    unfold okV at *
    exact ⟨h.1, fun v m => okV_mono (by omega) (h.2 v m)⟩
  | n + 1, m + 1, .doc vs, l, h => by
    unfold okV at *
    exact ⟨h.1, h.2.1, fun v m => ⟨(h.2.2 v m).1, okV_mono (by omega) (h.2.2 v m).2⟩⟩
theorem nameS_len {z : Str} (h : nameS z = true) : z.length ≤ 8 := by
  unfold nameS at h
  show z.cps.toList.length ≤ 8
  split at h
  · exact nomatch h
  · rename_i q r e
    rw [e]
    simp at h
    simp
    omega
theorem nameS_pos {z : Str} (h : nameS z = true) : ∃ q r, z.cps.toList = q :: r ∧ r.length < 8 ∧ q ∈ smallC ∧ ∀ s ∈ q :: r, s ∈ signsC := by
  unfold nameS at h
  split at h
  · exact nomatch h
  · rename_i q r e
    simp only [Bool.and_eq_true, decide_eq_true_eq, List.all_eq_true] at h
    exact ⟨q, r, e, h.1.1, h.1.2, h.2⟩
def Val.isDoc : Val → Bool
  | .doc _ => true
  | _ => false
def Val.isLst : Val → Bool
  | .lst _ => true
  | _ => false
def Val.inner : Val → List Val
  | .lst vs => vs
  | .doc fs => fs.map (·.2)
  | _ => []
/-- how many things are in a value -/
def sizeV : Nat → Val → Nat
  | _, .nul => 1
  | _, .tru _ => 1
  | _, .num _ => 1
  | _, .txt _ => 1
  | 0, _ => 1
  | n + 1, .lst vs => 1 + (vs.map (sizeV n)).sum
  | n + 1, .doc fs => 1 + (fs.map fun f => sizeV n f.2).sum
/-! ### sets of texts -/
theorem strsD_map : ∀ xs : List Str, strsD (xs.map .str) = some xs
  | [] => rfl
  | x :: xs => by rw [List.map_cons, strsD, strsD_map xs]; rfl
theorem lenSet_map (xs : List Str) (h : xs.length ≤ 4000) : lenSetD (.list (xs.map .str)) = some (.int (metS xs xs.length).length) := by
  show (match strsD (xs.map PyData.str) with
    | some xs => if xs.length ≤ 4000 then some (PyData.int (metS xs xs.length).length) else none
    | none => none) = _
  rw [strsD_map]
  exact if_pos h
theorem lenSet_nodup (xs : List Str) (h : xs.length ≤ 4000) (hn : xs.Nodup) : lenSetD (.list (xs.map .str)) = some (.int xs.length) := by
  rw [lenSet_map xs h, metS_nodup hn _ (Nat.le_refl _), List.take_length]
/-! ### all, any of truths -/
theorem bools_map {α : Type} (q : α → Bool) : ∀ xs : List α, bools (xs.map fun x => .bool (q x)) = some (xs.map q)
  | [] => rfl
  | x :: xs => by rw [List.map_cons, bools, bools_map q xs]; rfl
theorem all_map {α : Type} (q : α → Bool) (xs : List α) : allD [.list (xs.map fun x => .bool (q x))] = some (.bool (xs.all q)) := by
  simp [allD, bools_map, List.all_map]
theorem any_map {α : Type} (q : α → Bool) (xs : List α) : anyD [.list (xs.map fun x => .bool (q x))] = some (.bool (xs.any q)) := by
  simp [anyD, bools_map, List.any_map]
theorem ne_nil (ds : List D) : neD (.list ds) (.list []) = some (.bool (!ds.isEmpty)) := by
  show (if eqok (.list ds) (.list []) = true then _ else _) = _
  rw [show eqok (.list ds) (.list []) = true by simp [eqok, nilq]]
  cases ds <;> rfl
theorem eq_nil (ds : List D) : eqD (.list ds) (.list []) = some (.bool ds.isEmpty) := by
  show (if eqok (.list ds) (.list []) = true then _ else _) = _
  rw [show eqok (.list ds) (.list []) = true by simp [eqok, nilq]]
  cases ds <;> rfl
theorem in_strs (z : Str) (xs : List Str) : inD (.str z) (.tuple (xs.map .str)) = some (.bool (xs.any fun y => y == z)) := by
  have h : (xs.map PyData.str).all flat = true := by
    induction xs with
    | nil => rfl
    | cons x xs ih => rw [List.map_cons, List.all_cons, ih]; rfl
  show (if flat (.str z) && (xs.map PyData.str).all flat then some (PyData.bool ((xs.map PyData.str).any fun y => PyData.eqv y (.str z))) else none) = _
  rw [h, show flat (PyData.str z) = true from rfl, Bool.and_self, if_pos rfl, List.any_map]
  rfl
theorem notin2 (z a b : Str) : notInD (.str z) (.tuple [.str a, .str b]) = some (.bool (!(a == z || b == z))) := by
  unfold notInD
  rw [show [PyData.str a, .str b] = [a, b].map .str from rfl, in_strs]
  simp [notD]
theorem notin2i (z a b : Int) : notInD (.int z) (.tuple [.int a, .int b]) = some (.bool (!(a == z || b == z))) := by
  show (some (PyData.bool ([PyData.int a, .int b].any fun y => PyData.eqv y (.int z)))).bind notD = _
  simp [notD, PyData.eqv]
theorem idx_str {z : Str} (h : z.length ≤ sizeLine) (i : Int) : idxD (.str z) (.int i) = (atI z.cps.toList i).map fun c => .str ⟨#[c]⟩ := if_pos h
theorem in_chr (q : Nat) (z : Str) : inD (.str ⟨#[q]⟩) (.str z) = some (.bool (decide (q ∈ z.cps.toList))) := rfl
theorem notin_chr (q : Nat) (z : Str) : notInD (.str ⟨#[q]⟩) (.str z) = some (.bool (!decide (q ∈ z.cps.toList))) := rfl
theorem len_eq (z : Str) : z.length = z.cps.toList.length := rfl
theorem signs_len (z : Str) : (signsD z).length = z.length := by simp [signsD, Str.length]
theorem le_sp (q : Nat) : leD (.str " ") (.str ⟨#[q]⟩) = some (.bool (decide (32 ≤ q))) := by
  show some (PyData.bool (!decide ([q] < [32]))) = _
  congr 2
  by_cases h : 32 ≤ q <;> simp [List.cons_lt_cons_iff, h] <;> omega
theorem le_til (q : Nat) : leD (.str ⟨#[q]⟩) (.str "~") = some (.bool (decide (q ≤ 126))) := by
  show some (PyData.bool (!decide ([126] < [q]))) = _
  congr 2
  by_cases h : q ≤ 126 <;> simp [List.cons_lt_cons_iff, h] <;> omega
/-- a sign's code -/
def chr1 : D → Nat
  | .str y => y.cps.toList.headD 0
  | _ => 0
end PV
end

section
set_option maxRecDepth 100000
namespace PV
open PySem PySem.Spec PyProof.Rows L2
set_option autoImplicit false
/-- a small value: few parts at each place -/
def smV : Nat → Val → Prop
  | _, .nul => True
  | _, .tru _ => True
  | _, .num i => -1000000000000 ≤ i ∧ i ≤ 1000000000000
  | _, .txt s => textS s = true
  | 0, .lst _ => False
  | 0, .doc _ => False
  | n + 1, .lst vs => vs.length ≤ 4 ∧ ∀ v ∈ vs, smV n v
  | n + 1, .doc fs => fs.length ≤ 4 ∧ (fs.map (·.1)).Nodup ∧ ∀ f ∈ fs, nameS f.1 = true ∧ smV n f.2
theorem okV_sm : ∀ {n : Nat} {v : Val}, smV n v → okV n v
  | _, .nul, _ => by unfold okV; trivial
  | _, .tru _, _ => by unfold okV; trivial
  | _, .num _, h => by unfold smV at h; unfold okV; exact h
  | _, .txt _, h => by unfold smV at h; unfold okV; exact h
  | 0, .lst _, h => by unfold smV at h; exact h.elim
  | 0, .doc _, h => by unfold smV at h; exact h.elim
  | n + 1, .lst vs, h => by
    unfold smV at h
    unfold okV
    exact ⟨by omega, fun v m => okV_sm (h.2 v m)⟩
  | n + 1, .doc vs, h => by
    unfold smV at h
    unfold okV
    exact ⟨by omega, h.2.1, fun v m => ⟨(h.2.2 v m).1, okV_sm (h.2.2 v m).2⟩⟩
theorem smV_mono : ∀ {n m : Nat} {v : Val}, n ≤ m → smV n v → smV m v
  | _, _, .nul, _, _ => by unfold smV; trivial
  | _, _, .tru _, _, _ => by unfold smV; trivial
  | _, _, .num _, _, h => by unfold smV at *; exact h
  | _, _, .txt _, _, h => by unfold smV at *; exact h
  | 0, _, .lst _, _, h => by unfold smV at h; exact h.elim
  | 0, _, .doc _, _, h => by unfold smV at h; exact h.elim
  | n + 1, 0, _, l, _ => by omega
  | n + 1, m + 1, .lst vs, l, h => by
    unfold smV at *
    exact ⟨h.1, fun v m => smV_mono (by omega) (h.2 v m)⟩
  | n + 1, m + 1, .doc vs, l, h => by
    unfold smV at *
    exact ⟨h.1, h.2.1, fun v m => ⟨(h.2.2 v m).1, smV_mono (by omega) (h.2.2 v m).2⟩⟩
def plainB : D → Bool
  | .none => true
  | .bool _ => true
  | .int i => decide (-1000000000000 ≤ i) && decide (i ≤ 1000000000000)
  | .str s => textS s
  | _ => false
theorem plainB_of : ∀ {d : D}, plainB d = true → ∃ v : Val, d = v.toD ∧ ∀ n, smV n v
  | .none, _ => ⟨.nul, rfl, fun n => by unfold smV; trivial⟩
  | .bool b, _ => ⟨.tru b, rfl, fun n => by unfold smV; trivial⟩
  | .int i, h => ⟨.num i, rfl, fun n => by simpa [smV, plainB] using h⟩
  | .str s, h => ⟨.txt s, rfl, fun n => by simpa [smV, plainB] using h⟩
theorem plainL {L : List D} {d : D} (h : L.all plainB = true) (m : d ∈ L) : ∃ v : Val, d = v.toD ∧ ∀ n, smV n v := plainB_of (List.all_eq_true.mp h d m)
@[simp] theorem rng_len (lo : Int) (n : Nat) : (rngD lo n).length = n := by simp [rngD]
theorem rng_mem {lo : Int} {n : Nat} {d : D} (h : d ∈ rngD lo n) : ∃ i : Nat, i < n ∧ d = .int (lo + i) := by
  obtain ⟨i, hi, rfl⟩ := List.mem_map.mp h
  exact ⟨i, List.mem_range.mp hi, rfl⟩
theorem toDs_of {vs : List D} {P : Val → Prop} (h : ∀ d ∈ vs, ∃ v : Val, d = v.toD ∧ P v) : ∃ ws : List Val, vs = ws.map Val.toD ∧ ∀ w ∈ ws, P w := by
  induction vs with
  | nil => exact ⟨[], rfl, fun w m => nomatch m⟩
  | cons d vs ih =>
    obtain ⟨v, e, p⟩ := h d List.mem_cons_self
    obtain ⟨ws, e2, p2⟩ := ih fun d m => h d (List.mem_cons_of_mem _ m)
    refine ⟨v :: ws, by rw [List.map_cons, e, e2], fun w m => ?_⟩
    rcases List.mem_cons.mp m with rfl | m
    · exact p
    · exact p2 w m
theorem rng_of {j : Int} (h0 : 0 ≤ j) (h1 : j < 4611686018427387904) : rng j = true := rng_iff.mpr ⟨by omega, by omega⟩
/-! names that are left -/
theorem bool_map_filter {α : Type} (l : List α) (f : α → D) (p : D → Bool) (q : α → Bool) (h : ∀ x ∈ l, p (f x) = q x) : (l.map f).filter p = (l.filter q).map f := by
  induction l with
  | nil => rfl
  | cons x l ih =>
    rw [List.map_cons, List.filter_cons, List.filter_cons, h x List.mem_cons_self, ih fun y m => h y (List.mem_cons_of_mem _ m)]
    cases q x <;> rfl
end PV
end

section
set_option maxRecDepth 100000
namespace PV
open PySem PySem.Spec PyProof.Rows L2
set_option autoImplicit false
/-! ### data of a bounded shape: laid, shown -/
structure Fine (d : D) (k w : Nat) : Prop where
  lay : PyData.canLay0 d = true
  dep : PyData.depth d ≤ k
  wei : PyData.weight d ≤ w
  itx : PyData.intsShort 16 d = true
  shw : PyData.showable d = true
theorem Fine.mono {d : D} {k w k' w' : Nat} (h : Fine d k w) (hk : k ≤ k') (hw : w ≤ w') : Fine d k' w' := ⟨h.lay, Nat.le_trans h.dep hk, Nat.le_trans h.wei hw, h.itx, h.shw⟩
theorem fine_non : Fine .none 0 0 := ⟨rfl, Nat.le_refl _, Nat.le_refl _, rfl, rfl⟩
theorem fine_bool (b : Bool) : Fine (.bool b) 0 0 := ⟨rfl, Nat.le_refl _, Nat.le_refl _, rfl, rfl⟩
theorem fine_str {z : Str} {w : Nat} (h : PyData.strOk z = true) (hl : z.length ≤ w) : Fine (.str z) 0 w := ⟨h, Nat.le_refl _, hl, rfl, rfl⟩
theorem fineAll {ds : List D} {k w : Nat} (h : ∀ d ∈ ds, Fine d k w) : PyData.canLayAll0 ds = true ∧ PyData.depthAll ds ≤ k ∧ PyData.weightAll ds ≤ ds.length * (w + 1) ∧ PyData.intsShortAll 16 ds = true ∧ PyData.showableAll ds = true := by
  induction ds with
  | nil => exact ⟨rfl, Nat.zero_le _, Nat.zero_le _, rfl, rfl⟩
  | cons d ds ih =>
    obtain ⟨h1, h2, h3, h4, h5⟩ := ih fun d m => h d (List.mem_cons_of_mem _ m)
    have h0 := h d List.mem_cons_self
    refine ⟨by rw [PyData.canLayAll0, h0.lay, h1]; rfl, ?_, ?_, by rw [PyData.intsShortAll, h0.itx, h4]; rfl, by rw [PyData.showableAll, h0.shw, h5]; rfl⟩
    · rw [PyData.depthAll]; have := h0.dep; omega
    · rw [PyData.weightAll, List.length_cons, Nat.add_mul]; have := h0.wei; omega
theorem fine_tup {ds : List D} {k w : Nat} (h : ∀ d ∈ ds, Fine d k w) : Fine (.tuple ds) (k + 1) (ds.length * (w + 1)) := by
  obtain ⟨h1, h2, h3, h4, h5⟩ := fineAll h
  exact ⟨h1, by rw [PyData.depth]; omega, h3, h4, h5⟩
theorem fine_lst {ds : List D} {k w : Nat} (h : ∀ d ∈ ds, Fine d k w) : Fine (.list ds) (k + 1) (ds.length * (w + 1)) := by
  obtain ⟨h1, h2, h3, h4, h5⟩ := fineAll h
  exact ⟨h1, by rw [PyData.depth]; omega, h3, h4, h5⟩
theorem fine_repr {d : D} {k w : Nat} (h : Fine d k w) (hk : k ≤ 100) (hw : w ≤ 900000) : reprD [d] = some (.str d.shown) := by
  refine if_pos ⟨h.shw, Nat.le_trans h.dep hk, ?_⟩
  have h1 := PyData.shown_le 16 (by decide) d (PyData.leavesShort_of_canLay0 16 d h.lay h.itx)
  have h2 := h.wei
  show _ ≤ 16777216
  omega
theorem fine_shaped {d : D} {k w : Nat} (h : Fine d k w) (hk : k ≤ 64) : SeqAt.shaped d = true := by
  unfold SeqAt.shaped
  rw [h.lay, Bool.true_and]
  exact decide_eq_true (Nat.le_trans h.dep hk)
theorem fine_eq {d e : D} {k w k' w' : Nat} (h : Fine d k w) (hk : k ≤ 64) (h' : Fine e k' w') (hk' : k' ≤ 64) : eqD d e = some (.bool (PyData.eqv d e)) := by
  refine if_pos ?_
  unfold eqok
  rw [fine_shaped h hk, fine_shaped h' hk']
  simp
theorem textS_ok {z : Str} (h : textS z = true) : PyData.strOk z = true ∧ z.length ≤ 40 := by
  simp only [textS, Bool.and_eq_true, decide_eq_true_eq, List.all_eq_true] at h
  refine ⟨?_, h.1⟩
  unfold PyData.strOk
  rw [← Array.all_toList, List.all_eq_true]
  intro c m
  have := h.2 c m
  simp [textC] at this
  simp
  omega
theorem smallC_lt : ∀ c ∈ signsC, c < 128 := by decide +kernel
theorem nameS_ok {z : Str} (h : nameS z = true) : PyData.strOk z = true ∧ z.length ≤ 8 := by
  refine ⟨?_, nameS_len h⟩
  obtain ⟨q, r, e, _, _, h3⟩ := nameS_pos h
  unfold PyData.strOk
  rw [← Array.all_toList, e, List.all_eq_true]
  intro c m
  have := smallC_lt c (h3 c m)
  simp
  omega
/-- how heavy a small value is -/
def wSm : Nat → Nat
  | 0 => 41
  | n + 1 => 8 + 4 * (wSm n + 12) + 4
theorem wSm_mono (n : Nat) : wSm n ≤ wSm (n + 1) := by rw [wSm]; omega
theorem wSm_41 : ∀ n, 41 ≤ wSm n
  | 0 => Nat.le_refl _
  | n + 1 => Nat.le_trans (wSm_41 n) (wSm_mono n)
theorem fine_int {i : Int} (h : -1000000000000 ≤ i ∧ i ≤ 1000000000000) : Fine (.int i) 0 41 := by
  have hn : i.natAbs ≤ 1000000000000 := by omega
  have hlog : i.natAbs.log2 < 40 := by
    rcases Nat.eq_zero_or_pos i.natAbs with e | e
    · rw [e]; decide
    · exact (Nat.log2_lt (by omega)).mpr (by omega)
  refine ⟨rfl, Nat.le_refl _, ?_, ?_, decide_eq_true (by omega)⟩
  · rw [PyData.weight]
    split <;> omega
  · refine decide_eq_true ?_
    have e := int_text_length_le10 (a := i) (k := 13) (by decide) (by omega)
    show (Str.ofString (toString i)).length ≤ 16
    rw [PySem.ofString_length]
    omega
theorem fine_sm : ∀ (n : Nat) (v : Val), smV n v → Fine v.toD (3 * n) (wSm n)
  | n, .nul, _ => fine_non.mono (Nat.zero_le _) (Nat.zero_le _)
  | n, .tru b, _ => (fine_bool b).mono (Nat.zero_le _) (Nat.zero_le _)
  | n, .num i, h => by unfold smV at h; exact (fine_int h).mono (Nat.zero_le _) (wSm_41 n)
  | n, .txt z, h => by unfold smV at h; obtain ⟨h1, h2⟩ := textS_ok h; exact (fine_str h1 h2).mono (Nat.zero_le _) (Nat.le_trans (by omega) (wSm_41 n))
  | 0, .lst _, h => by unfold smV at h; exact h.elim
  | 0, .doc _, h => by unfold smV at h; exact h.elim
  | n + 1, .lst vs, h => by
    unfold smV at h
    rw [toD_lst]
    have h1 : Fine (.tuple (vs.map Val.toD)) (3 * n + 1) ((vs.map Val.toD).length * (wSm n + 1)) := fine_tup fun d m => by
      obtain ⟨v, hv, rfl⟩ := List.mem_map.mp m
      exact fine_sm n v (h.2 v hv)
    have h2 : (vs.map Val.toD).length * (wSm n + 1) ≤ 4 * (wSm n + 1) := Nat.mul_le_mul_right _ (by simpa using h.1)
    have h3 : Fine (.str "list") 0 4 := fine_str (by decide +kernel) (by decide +kernel)
    obtain ⟨a1, a2, a3, a4, a5⟩ := h1
    obtain ⟨b1, b2, b3, b4, b5⟩ := h3
    refine ⟨by simp [PyData.canLay0, PyData.canLayAll0] at a1 b1 ⊢; exact ⟨b1, a1⟩, ?_, ?_, by simp [PyData.intsShort, PyData.intsShortAll] at a4 ⊢; exact a4, by simp [PyData.showable, PyData.showableAll] at a5 ⊢; exact a5⟩
    · rw [PyData.depth, PyData.depthAll, PyData.depthAll, PyData.depthAll]; omega
    · rw [PyData.weight, PyData.weightAll, PyData.weightAll, PyData.weightAll, wSm]; omega
  | n + 1, .doc fs, h => by
    unfold smV at h
    rw [toD_doc]
    have h1 : Fine (.tuple (fs.map fD)) (3 * n + 2) ((fs.map fD).length * (wSm n + 10 + 1)) := fine_tup fun d m => by
      obtain ⟨f, hf, rfl⟩ := List.mem_map.mp m
      obtain ⟨q1, q2⟩ := h.2.2 f hf
      obtain ⟨n1, n2⟩ := nameS_ok q1
      obtain ⟨c1, c2, c3, c4, c5⟩ := fine_sm n f.2 q2
      obtain ⟨b1, b2, b3, b4, b5⟩ := fine_str n1 n2
      refine ⟨by simp [fD, PyData.canLay0, PyData.canLayAll0] at b1 c1 ⊢; exact ⟨b1, c1⟩, ?_, ?_, by simp [fD, PyData.intsShort, PyData.intsShortAll] at c4 ⊢; exact c4, by simp [fD, PyData.showable, PyData.showableAll] at c5 ⊢; exact c5⟩
      · rw [fD, PyData.depth, PyData.depthAll, PyData.depthAll, PyData.depthAll]; omega
      · rw [fD, PyData.weight, PyData.weightAll, PyData.weightAll, PyData.weightAll]; omega
    have h2 : (fs.map fD).length * (wSm n + 10 + 1) ≤ 4 * (wSm n + 10 + 1) := Nat.mul_le_mul_right _ (by simpa using h.1)
    have h3 : Fine (.str "doc") 0 4 := fine_str (by decide +kernel) (by decide +kernel)
    obtain ⟨a1, a2, a3, a4, a5⟩ := h1
    obtain ⟨b1, b2, b3, b4, b5⟩ := h3
    refine ⟨by simp [PyData.canLay0, PyData.canLayAll0] at a1 b1 ⊢; exact ⟨b1, a1⟩, ?_, ?_, by simp [PyData.intsShort, PyData.intsShortAll] at a4 ⊢; exact a4, by simp [PyData.showable, PyData.showableAll] at a5 ⊢; exact a5⟩
    · rw [PyData.depth, PyData.depthAll, PyData.depthAll, PyData.depthAll]; omega
    · rw [PyData.weight, PyData.weightAll, PyData.weightAll, PyData.weightAll, wSm]; omega
theorem repr_sm {n : Nat} (hn : n ≤ 5) {v : Val} (h : smV n v) : reprD [v.toD] = some (.str v.toD.shown) := by
  refine fine_repr ((fine_sm n v h).mono (k' := 100) (w' := 900000) (by omega) ?_) (Nat.le_refl _) (Nat.le_refl _)
  have : wSm 5 ≤ 900000 := by decide
  match n, hn with
  | 0, _ => exact Nat.le_trans (by decide) this
  | 1, _ => exact Nat.le_trans (by decide) this
  | 2, _ => exact Nat.le_trans (by decide) this
  | 3, _ => exact Nat.le_trans (by decide) this
  | 4, _ => exact Nat.le_trans (by decide) this
  | 5, _ => exact this
end PV
end

section
set_option maxRecDepth 100000
namespace PV
open PySem PySem.Spec PyProof.Rows L2
set_option autoImplicit false
/-! ### shapes of documents -/
abbrev Paths := List (List Str)
def restsP (ps : Paths) (name : Str) : Paths := (ps.filter fun p => p.head? == some name).map List.tail
def Val.isTup (v : Val) : Bool := v.isDoc || v.isLst
def keep1 (k : Val → Paths → Val) (ps : Paths) (f : Str × Val) : Option (Str × Val) :=
  if (restsP ps f.1).any List.isEmpty then some f else if (restsP ps f.1).isEmpty || !f.2.isTup then none else some (f.1, k f.2 (restsP ps f.1))
def keepV : Nat → Val → Paths → Val
  | n + 1, .doc fs, ps => .doc (fs.filterMap (keep1 (keepV n) ps))
  | n + 1, .lst vs, ps => .lst ((vs.filter Val.isDoc).map fun v => keepV n v ps)
  | _, v, _ => v
def left1 (k : Val → Paths → Val) (ps : Paths) (f : Str × Val) : Option (Str × Val) :=
  if (restsP ps f.1).any List.isEmpty then none else some (f.1, k f.2 (restsP ps f.1))
def leftV : Nat → Val → Paths → Val
  | n + 1, .doc fs, ps => if ps.isEmpty then .doc fs else .doc (fs.filterMap (left1 (leftV n) ps))
  | n + 1, .lst vs, ps => if ps.isEmpty then .lst vs else .lst (vs.map fun v => if v.isDoc then leftV n v ps else v)
  | _, v, _ => v
def pathD (p : List Str) : D := .tuple (p.map .str)
structure OkP (ps : Paths) : Prop where
  len : ps.length ≤ 9
  each : ∀ p ∈ ps, p.length ≤ 3 ∧ ∀ s ∈ p, nameS s = true
theorem OkP.rests {ps : Paths} (h : OkP ps) (z : Str) : OkP (restsP ps z) := by
  refine ⟨?_, fun p m => ?_⟩
  · unfold restsP
    rw [List.length_map]
    exact Nat.le_trans (List.length_filter_le _ _) h.len
  · obtain ⟨q, hq, rfl⟩ := List.mem_map.mp m
    have := h.each q (List.mem_filter.mp hq).1
    exact ⟨by rw [List.length_tail]; omega, fun s m => this.2 s (List.mem_of_mem_tail m)⟩
theorem fine_path {p : List Str} (h : p.length ≤ 3 ∧ ∀ s ∈ p, nameS s = true) : Fine (pathD p) 1 27 := by
  have h1 : Fine (pathD p) 1 ((p.map PyData.str).length * (8 + 1)) := fine_tup (k := 0) fun d m => by
    obtain ⟨s, hs, rfl⟩ := List.mem_map.mp m
    obtain ⟨a, b⟩ := nameS_ok (h.2 s hs)
    exact fine_str a b
  exact h1.mono (Nat.le_refl _) (by rw [List.length_map]; omega)
theorem fine_paths {ps : Paths} (h : OkP ps) : Fine (.list (ps.map pathD)) 2 252 := by
  have h1 : Fine (.list (ps.map pathD)) 2 ((ps.map pathD).length * (27 + 1)) := fine_lst (k := 1) fun d m => by
    obtain ⟨s, hs, rfl⟩ := List.mem_map.mp m
    exact fine_path (h.each s hs)
  have := h.len
  exact h1.mono (Nat.le_refl _) (by rw [List.length_map]; omega)
theorem in_paths {ps : Paths} (h : OkP ps) : inD (.tuple []) (.list (ps.map pathD)) = some (.bool (ps.any List.isEmpty)) := by
  have e1 : SeqAt.shaped (.tuple []) = true := by decide +kernel
  have e2 := fine_shaped (fine_paths h) (by decide)
  have e3 : flat (.tuple []) = false := rfl
  have e4 : inD (.tuple []) (.list (ps.map pathD)) = some (.bool ((ps.map pathD).any fun y => PyData.eqv y (.tuple []))) := by
    simp [inD, e1, e2, e3]
  rw [e4]
  congr 2
  rw [List.any_map]
  congr 1
  funext p
  cases p with
  | nil => rfl
  | cons a r => rfl
theorem cutT (a : D) (r : List D) : sliceD (.tuple (a :: r)) (some 1) none = some (.tuple r) := by
  show some (PyData.tuple (PV.cutD (a :: r) (some 1) none)) = _
  unfold PV.cutD
  rw [show HT.sIx (a :: r).length 0 (some 1) = min 1 (a :: r).length from HT.sIx_nat _ 0 1, HT.sIx_none, show min 1 (a :: r).length = 1 by rw [List.length_cons]; omega]
  show some (PyData.tuple (r.take (r.length + 1 - 1))) = _
  rw [Nat.add_sub_cancel, List.take_length]
def headQ (z : Str) : D → Bool
  | .tuple (.str y :: _) => y == z
  | _ => false
def tailD : D → D
  | .tuple (_ :: r) => .tuple r
  | _ => .none
theorem rests_eq (z : Str) : ∀ ps : Paths, (∀ p ∈ ps, p ≠ []) → ((ps.map pathD).filter (headQ z)).map tailD = (restsP ps z).map pathD
  | [], _ => rfl
  | [] :: ps, h => absurd rfl (h [] List.mem_cons_self)
  | (y :: r) :: ps, h => by
    have ih := rests_eq z ps fun p m => h p (List.mem_cons_of_mem _ m)
    unfold restsP at ih ⊢
    rw [List.map_cons, List.filter_cons, List.filter_cons]
    by_cases e : y = z
    · subst e
      simp only [headQ, pathD, List.map_cons, beq_self_eq_true, if_true, List.head?_cons, List.tail_cons, tailD]
      exact congrArg (_ :: ·) ih
    · have e1 : headQ z (pathD (y :: r)) = false := by simpa [headQ, pathD] using e
      have e2 : ((y :: r).head? == some z) = false := by simpa using e
      rw [e1, e2]
      exact ih
theorem restsP_app (ps : Paths) (q : List Str) (z : Str) : restsP (ps ++ [q]) z = restsP ps z ++ restsP [q] z := by
  simp [restsP]
theorem smV_keep : ∀ (n : Nat) (v : Val) (ps : Paths), smV n v → smV n (keepV n v ps)
  | 0, .nul, _, h => h
  | 0, .tru _, _, h => h
  | 0, .num _, _, h => h
  | 0, .txt _, _, h => h
  | 0, .lst _, _, h => h
  | 0, .doc _, _, h => h
  | n + 1, .nul, _, h => h
  | n + 1, .tru _, _, h => h
  | n + 1, .num _, _, h => h
  | n + 1, .txt _, _, h => h
  | n + 1, .lst vs, ps, h => by
    unfold smV at h
    unfold keepV smV
    refine ⟨by rw [List.length_map]; exact Nat.le_trans (List.length_filter_le _ _) h.1, fun v m => ?_⟩
    obtain ⟨w, hw, rfl⟩ := List.mem_map.mp m
    exact smV_keep n w ps (h.2 w (List.mem_filter.mp hw).1)
  | n + 1, .doc fs, ps, h => by
    unfold smV at h
    unfold keepV smV
    refine ⟨Nat.le_trans (List.length_filterMap_le _ _) h.1, ?_, fun f m => ?_⟩
    · refine List.Sublist.nodup ?_ h.2.1
      rw [List.map_filterMap]
      have : ∀ fs : List (Str × Val), (fs.filterMap fun f => (keep1 (keepV n) ps f).map (·.1)).Sublist (fs.map (·.1)) := by
        intro fs
        induction fs with
        | nil => exact List.Sublist.refl _
        | cons f fs ih =>
          rw [List.filterMap_cons, List.map_cons]
          unfold keep1
          split
          · exact ih.cons _
          · rename_i b e
            have : b = f.1 := by
              split at e
              · exact (Option.some.inj e).symm
              · split at e
                · exact nomatch e
                · exact (Option.some.inj e).symm
            subst this
            exact ih.cons₂ _
      exact this fs
    · obtain ⟨g, hg, e⟩ := List.mem_filterMap.mp m
      obtain ⟨h1, h2⟩ := h.2.2 g hg
      unfold keep1 at e
      split at e
      · cases e; exact ⟨h1, h2⟩
      · split at e
        · exact nomatch e
        · cases e; exact ⟨h1, smV_keep n g.2 _ h2⟩
theorem smV_left : ∀ (n : Nat) (v : Val) (ps : Paths), smV n v → smV n (leftV n v ps)
  | 0, .nul, _, h => h
  | 0, .tru _, _, h => h
  | 0, .num _, _, h => h
  | 0, .txt _, _, h => h
  | 0, .lst _, _, h => h
  | 0, .doc _, _, h => h
  | n + 1, .nul, _, h => h
  | n + 1, .tru _, _, h => h
  | n + 1, .num _, _, h => h
  | n + 1, .txt _, _, h => h
  | n + 1, .lst vs, ps, h => by
    unfold leftV
    split
    · exact h
    unfold smV at h ⊢
    refine ⟨by rw [List.length_map]; exact h.1, fun v m => ?_⟩
    obtain ⟨w, hw, rfl⟩ := List.mem_map.mp m
    split
    · exact smV_left n w ps (h.2 w hw)
    · exact h.2 w hw
  | n + 1, .doc fs, ps, h => by
    unfold leftV
    split
    · exact h
    unfold smV at h ⊢
    refine ⟨Nat.le_trans (List.length_filterMap_le _ _) h.1, ?_, fun f m => ?_⟩
    · refine List.Sublist.nodup ?_ h.2.1
      rw [List.map_filterMap]
      have : ∀ fs : List (Str × Val), (fs.filterMap fun f => (left1 (leftV n) ps f).map (·.1)).Sublist (fs.map (·.1)) := by
        intro fs
        induction fs with
        | nil => exact List.Sublist.refl _
        | cons f fs ih =>
          rw [List.filterMap_cons, List.map_cons]
          unfold left1
          split
          · exact ih.cons _
          · rename_i b e
            have : b = f.1 := by
              split at e
              · exact nomatch e
              · exact (Option.some.inj e).symm
            subst this
            exact ih.cons₂ _
      exact this fs
    · obtain ⟨g, hg, e⟩ := List.mem_filterMap.mp m
      obtain ⟨h1, h2⟩ := h.2.2 g hg
      unfold left1 at e
      split at e
      · exact nomatch e
      · cases e; exact ⟨h1, smV_left n g.2 _ h2⟩
end PV
end

section
set_option maxRecDepth 100000
set_option maxHeartbeats 0
namespace Lw
open PySem PySem.Spec PyProof.Rows L2 PV
set_option autoImplicit false
/-! ### what the bodies reckon -/
inductive Nm where
  | is_whole
  | is_tuple_of
  | is_name
  | is_text_sign
  | fits_plain
  | is_knot
  | fits_fields
  | inner_of
  | fits_value
  | is_doc
  | need_document
  | are_apart
  | fits_shape
  | rests_of
  | kept_fields
  | kept_value
  | left_fields
  | left_value
  | shaped_by
  | shaped
  | _law_cup
  | _law_roll
  | _law_some
  | _law_value
  | _law_drawn_fields
  | _law_document
  | _law_shape
  | _law_rest
  | _law_kept
  | _law_dropped
  | _law_shaped
  | law
def q_is_whole (c : Nm → Ta → Res D) : BS :=
  tRet (qAndV (qIsi "int" (qVar 0)) (qAndV (qNotV (qIsi "bool" (qVar 0))) (qChain leD leD (qVar 1) (qVar 0) (qVar 2))))
def q_is_tuple_of (c : Nm → Ta → Res D) : BS :=
  tRet (qAndV (qIsi "tuple" (qVar 0)) (qChain leD leD (qVar 1) (qCall lenD (qCons (qVar 0) (qNil))) (qVar 2)))
def q_is_name (c : Nm → Ta → Res D) : BS :=
  tCons (tIf (qOr (qNot (qTru (qIsi "str" (qVar 0)))) (qOr (qNot (qTru (qChain leD leD (qC (.int 1)) (qCall lenD (qCons (qVar 0) (qNil))) (qC (.int 8))))) (qTru (qOp notInD (qOp idxD (qVar 0) (qC (.int 0))) (qC (.str "abcdefghijklmnopqrstuvwxyz")))))) (tRet (qC (.bool false))) (tNil))
  (tRet (qCall allD (qCons (qOf (qLC (qStr (qVar 0)) (kN 1) (qYes) (qOp inD (qVar 1) (qC (.str "abcdefghijklmnopqrstuvwxyz0123456789"))) [1])) (qNil))))
def q_is_text_sign (c : Nm → Ta → Res D) : BS :=
  tRet (qAndV (qChain leD leD (qC (.str " ")) (qVar 0) (qC (.str "~"))) (qOp notInD (qCall ordD (qCons (qVar 0) (qNil))) (qTup (qCons (qC (.int 37)) (qCons (qC (.int 39)) (qNil))))))
def q_fits_plain (c : Nm → Ta → Res D) : BS :=
  tCons (tIf (qOr (qTru (qOp isD (qVar 0) (qC .none))) (qTru (qIsi "bool" (qVar 0)))) (tRet (qC (.bool true))) (tNil))
  (tCons (tIf (qTru (qIsi "str" (qVar 0))) (tRet (qAndV (qOp leD (qCall lenD (qCons (qVar 0) (qNil))) (qC (.int 40))) (qCall allD (qCons (qOf (qLC (qStr (qVar 0)) (kN 1) (qYes) (qFn 1 (c .is_text_sign) (zE (qVar 1) (zNil))) [1])) (qNil))))) (tNil))
  (tRet (qFn 3 (c .is_whole) (zE (qVar 0) (zE (qUn negD (qC (.int 1000000000000))) (zE (qC (.int 1000000000000)) (zNil)))))))
def q_is_knot (c : Nm → Ta → Res D) : BS :=
  tCons (tIf (qOr (qNot (qTru (qFn 3 (c .is_tuple_of) (zE (qVar 0) (zE (qC (.int 2)) (zE (qC (.int 2)) (zNil))))))) (qOr (qNot (qTru (qIsi "str" (qOp idxD (qVar 0) (qC (.int 0)))))) (qTru (qOp notInD (qOp idxD (qVar 0) (qC (.int 0))) (qTup (qCons (qC (.str "list")) (qCons (qC (.str "doc")) (qNil)))))))) (tRet (qC (.bool false))) (tNil))
  (tRet (qFn 3 (c .is_tuple_of) (zE (qOp idxD (qVar 0) (qC (.int 1))) (zE (qC (.int 0)) (zE (qC (.int 16)) (zNil))))))
def q_fits_fields (c : Nm → Ta → Res D) : BS :=
  tCons (tIf (qNot (qTru (qCall allD (qCons (qOf (qLC (qT (qVar 0)) (kN 1) (qYes) (qAndV (qFn 3 (c .is_tuple_of) (zE (qVar 1) (zE (qC (.int 2)) (zE (qC (.int 2)) (zNil))))) (qFn 1 (c .is_name) (zE (qOp idxD (qVar 1) (qC (.int 0))) (zNil)))) [1])) (qNil))))) (tRet (qC (.bool false))) (tNil))
  (tCons (tSetL 2 (qLC (qT (qVar 0)) (kN 1) (qYes) (qOp idxD (qVar 1) (qC (.int 0))) [1]))
  (tRet (qOp eqD (qUn lenSetD (qVar 2)) (qCall lenD (qCons (qVar 2) (qNil))))))
def q_inner_of (c : Nm → Ta → Res D) : BS :=
  tRet (qIf (qTru (qOp eqD (qOp idxD (qVar 0) (qC (.int 0))) (qC (.str "doc")))) (qOf (qLC (qT (qOp idxD (qVar 0) (qC (.int 1)))) (kN 1) (qYes) (qOp idxD (qVar 1) (qC (.int 1))) [1])) (qCall listD (qCons (qOp idxD (qVar 0) (qC (.int 1))) (qNil))))
def q_fits_value (c : Nm → Ta → Res D) : BS :=
  tCons (tSetF 1 (qLstF (qCons (qTup (qCons (qVar 0) (qCons (qC (.int 1)) (qNil)))) (qNil))))
  (tCons (tWhile (qTru (qPk neD 1 (qLst (qNil)))) (tCons (tAsg (qPop 1) (kTup 2 (kCons (kN 2) (kCons (kN 3) (kNil)))))
  (tIf (qNot (qTru (qFn 1 (c .fits_plain) (zE (qVar 2) (zNil))))) (tCons (tIf (qOr (qTru (qOp gtD (qVar 3) (qC (.int 6)))) (qOr (qNot (qTru (qFn 1 (c .is_knot) (zE (qVar 2) (zNil))))) (qAnd (qTru (qOp eqD (qOp idxD (qVar 2) (qC (.int 0))) (qC (.str "doc")))) (qNot (qTru (qFn 1 (c .fits_fields) (zE (qOp idxD (qVar 2) (qC (.int 1))) (zNil)))))))) (tRet (qC (.bool false))) (tNil))
  (tExtF 1 (qLC (qL (qFn 1 (c .inner_of) (zE (qVar 2) (zNil)))) (kN 4) (qYes) (qTup (qCons (qVar 4) (qCons (qOp addD (qVar 3) (qC (.int 1))) (qNil)))) [4]))) (tNil))))
  (tRet (qC (.bool true))))
def q_is_doc (c : Nm → Ta → Res D) : BS :=
  tRet (qAndV (qIsi "tuple" (qVar 0)) (qOp eqD (qOp idxD (qVar 0) (qC (.int 0))) (qC (.str "doc"))))
def q_need_document (c : Nm → Ta → Res D) : BS :=
  tIf (qOr (qNot (qTru (qFn 1 (c .fits_value) (zE (qVar 0) (zNil))))) (qNot (qTru (qFn 1 (c .is_doc) (zE (qVar 0) (zNil)))))) (tNever) (tNil)
def q_are_apart (c : Nm → Ta → Res D) : BS :=
  tRet (qCall anyD (qCons (qOf (qLC (qZip (qVar 0) (qVar 1)) (kTup 2 (kCons (kN 2) (kCons (kN 3) (kNil)))) (qYes) (qOp neD (qVar 2) (qVar 3)) [2, 3])) (qNil)))
def q_fits_shape (c : Nm → Ta → Res D) : BS :=
  tCons (tIf (qTru (qOp eqD (qVar 0) (qTup (qCons (qC (.str "all")) (qNil))))) (tRet (qC (.bool true))) (tNil))
  (tCons (tIf (qOr (qNot (qTru (qFn 3 (c .is_tuple_of) (zE (qVar 0) (zE (qC (.int 2)) (zE (qC (.int 2)) (zNil))))))) (qOr (qNot (qTru (qIsi "str" (qOp idxD (qVar 0) (qC (.int 0)))))) (qTru (qOp notInD (qOp idxD (qVar 0) (qC (.int 0))) (qTup (qCons (qC (.str "keep")) (qCons (qC (.str "drop")) (qNil)))))))) (tRet (qC (.bool false))) (tNil))
  (tCons (tIf (qOr (qNot (qTru (qFn 3 (c .is_tuple_of) (zE (qOp idxD (qVar 0) (qC (.int 1))) (zE (qC (.int 1)) (zE (qC (.int 8)) (zNil))))))) (qNot (qTru (qCall allD (qCons (qOf (qLC (qT (qOp idxD (qVar 0) (qC (.int 1)))) (kN 1) (qYes) (qFn 3 (c .is_tuple_of) (zE (qVar 1) (zE (qC (.int 1)) (zE (qC (.int 3)) (zNil))))) [1])) (qNil)))))) (tRet (qC (.bool false))) (tNil))
  (tCons (tIf (qOr (qNot (qTru (qCall allD (qCons (qOf (qLC2 (qT (qOp idxD (qVar 0) (qC (.int 1)))) (kN 1) (qYes) (qT (qVar 1)) (kN 2) (qYes) (qFn 1 (c .is_name) (zE (qVar 2) (zNil))) [1, 2] [2])) (qNil))))) (qTru (qCall anyD (qCons (qOf (qLC (qT (qOp idxD (qVar 0) (qC (.int 1)))) (kN 1) (qYes) (qOp eqD (qOp idxD (qVar 1) (qC (.int 0))) (qC (.str "id"))) [1])) (qNil))))) (tRet (qC (.bool false))) (tNil))
  (tRet (qCall allD (qCons (qOf (qLC2 (qEnT (qOp idxD (qVar 0) (qC (.int 1)))) (kTup 2 (kCons (kN 3) (kCons (kN 4) (kNil)))) (qYes) (qT (qSlice (qOp idxD (qVar 0) (qC (.int 1))) (qPN) (qPS (qVar 3)))) (kN 5) (qYes) (qFn 2 (c .are_apart) (zE (qVar 4) (zE (qVar 5) (zNil)))) [3, 4, 5] [5])) (qNil)))))))
def q_rests_of (c : Nm → Ta → Res D) : BS :=
  tRet (qOf (qLC (qLT (qVar 0)) (kN 2) (qTru (qOp eqD (qOp idxD (qVar 2) (qC (.int 0))) (qVar 1))) (qSlice (qVar 2) (qPS (qC (.int 1))) (qPN)) [2]))
def q_kept_fields (c : Nm → Ta → Res D) : BS :=
  tCons (tSetF 2 (qLstF (qNil)))
  (tCons (tFor (qT (qOp idxD (qVar 0) (qC (.int 1)))) (kTup 2 (kCons (kN 3) (kCons (kN 4) (kNil)))) (tCons (tAsg (qFn 2 (c .rests_of) (zE (qVar 1) (zE (qVar 3) (zNil)))) (kN 5))
  (tIf (qTru (qOp inD (qTup (qNil)) (qVar 5))) (tExpr (qAppend 2 (qTup (qCons (qVar 3) (qCons (qVar 4) (qNil)))))) (tIf (qAnd (qTru (qOp neD (qVar 5) (qLst (qNil)))) (qTru (qIsi "tuple" (qVar 4)))) (tExpr (qAppend 2 (qTup (qCons (qVar 3) (qCons (qFn 2 (c .kept_value) (zE (qVar 4) (zE (qVar 5) (zNil)))) (qNil)))))) (tNil)))))
  (tRet (qPkTup 2)))
def q_kept_value (c : Nm → Ta → Res D) : BS :=
  tCons (tIf (qTru (qFn 1 (c .is_doc) (zE (qVar 0) (zNil)))) (tRet (qTup (qCons (qC (.str "doc")) (qCons (qFn 2 (c .kept_fields) (zE (qVar 0) (zE (qVar 1) (zNil)))) (qNil))))) (tNil))
  (tRet (qTup (qCons (qC (.str "list")) (qCons (qCall tupleD (qCons (qOf (qLC (qT (qOp idxD (qVar 0) (qC (.int 1)))) (kN 2) (qTru (qFn 1 (c .is_doc) (zE (qVar 2) (zNil)))) (qTup (qCons (qC (.str "doc")) (qCons (qFn 2 (c .kept_fields) (zE (qVar 2) (zE (qVar 1) (zNil)))) (qNil)))) [2])) (qNil))) (qNil)))))
def q_left_fields (c : Nm → Ta → Res D) : BS :=
  tCons (tSetF 2 (qLstF (qNil)))
  (tCons (tFor (qT (qOp idxD (qVar 0) (qC (.int 1)))) (kTup 2 (kCons (kN 3) (kCons (kN 4) (kNil)))) (tCons (tAsg (qFn 2 (c .rests_of) (zE (qVar 1) (zE (qVar 3) (zNil)))) (kN 5))
  (tIf (qTru (qOp notInD (qTup (qNil)) (qVar 5))) (tExpr (qAppend 2 (qTup (qCons (qVar 3) (qCons (qFn 2 (c .left_value) (zE (qVar 4) (zE (qVar 5) (zNil)))) (qNil)))))) (tNil))))
  (tRet (qPkTup 2)))
def q_left_value (c : Nm → Ta → Res D) : BS :=
  tCons (tIf (qOr (qTru (qOp eqD (qVar 1) (qLst (qNil)))) (qNot (qTru (qIsi "tuple" (qVar 0))))) (tRet (qVar 0)) (tNil))
  (tCons (tIf (qTru (qFn 1 (c .is_doc) (zE (qVar 0) (zNil)))) (tRet (qTup (qCons (qC (.str "doc")) (qCons (qFn 2 (c .left_fields) (zE (qVar 0) (zE (qVar 1) (zNil)))) (qNil))))) (tNil))
  (tRet (qTup (qCons (qC (.str "list")) (qCons (qCall tupleD (qCons (qOf (qLC (qT (qOp idxD (qVar 0) (qC (.int 1)))) (kN 2) (qYes) (qIf (qTru (qFn 1 (c .is_doc) (zE (qVar 2) (zNil)))) (qTup (qCons (qC (.str "doc")) (qCons (qFn 2 (c .left_fields) (zE (qVar 2) (zE (qVar 1) (zNil)))) (qNil)))) (qVar 2)) [2])) (qNil))) (qNil))))))
def q_shaped_by (c : Nm → Ta → Res D) : BS :=
  tCons (tIf (qTru (qOp eqD (qOp idxD (qVar 1) (qC (.int 0))) (qC (.str "all")))) (tRet (qVar 0)) (tNil))
  (tCons (tIf (qTru (qOp eqD (qOp idxD (qVar 1) (qC (.int 0))) (qC (.str "keep")))) (tRet (qTup (qCons (qC (.str "doc")) (qCons (qFn 2 (c .kept_fields) (zE (qVar 0) (zE (qOp addD (qOp idxD (qVar 1) (qC (.int 1))) (qTup (qCons (qTup (qCons (qC (.str "id")) (qNil))) (qNil)))) (zNil)))) (qNil))))) (tNil))
  (tRet (qTup (qCons (qC (.str "doc")) (qCons (qFn 2 (c .left_fields) (zE (qVar 0) (zE (qOp idxD (qVar 1) (qC (.int 1))) (zNil)))) (qNil))))))
def q_shaped (c : Nm → Ta → Res D) : BS :=
  tCons (tExpr (qFn 1 (c .need_document) (zE (qVar 0) (zNil))))
  (tCons (tIf (qNot (qTru (qFn 1 (c .fits_shape) (zE (qVar 1) (zNil))))) (tNever) (tNil))
  (tRet (qFn 2 (c .shaped_by) (zE (qVar 0) (zE (qVar 1) (zNil))))))
def q__law_cup (c : Nm → Ta → Res D) : BS :=
  tCons (tAsg (qCall absD (qCons (qOp idxD (qOp addD (qCall listD (qCons (qVar 0) (qNil))) (qLst (qCons (qC (.int 0)) (qNil)))) (qC (.int 0))) (qNil))) (kN 1))
  (tRetF (qLstF (qCons (qIf (qTru (qOp geD (qVar 1) (qOp powD (qC (.int 10)) (qC (.int 18))))) (qOp fdivD (qVar 1) (qC (.int 89))) (qC (.int 0))) (qCons (qOp addD (qOp modD (qCall intD (qCons (qOp addD (qOp mulD (qVar 1) (qC (.int 311))) (qC (.int 3109))) (qNil))) (qC (.int 2077503101))) (qC (.int 191))) (qNil)))))
def q__law_roll (c : Nm → Ta → Res D) : BS :=
  tCons (tIf (qTru (qOp gtD (qPkIx 0 (qC (.int 0))) (qC (.int 0)))) (tCons (tAsg (qOp modD (qCall intD (qCons (qPkIx 0 (qC (.int 0))) (qNil))) (qVar 1)) (kN 2))
  (tCons (tPut 0 (qOp fdivD (qPkIx 0 (qC (.int 0))) (qVar 1)) (qC (.int 0)))
  (tRet (qVar 2)))) (tNil))
  (tCons (tPut 0 (qOp modD (qCall intD (qCons (qOp addD (qOp mulD (qPkIx 0 (qC (.int 1))) (qC (.int 31091))) (qC (.int 8053))) (qNil))) (qC (.int 2147483423))) (qC (.int 1)))
  (tCons (tAsg (qOp modD (qCall intD (qCons (qOp mulD (qPkIx 0 (qC (.int 1))) (qOp addD (qPkIx 0 (qC (.int 1))) (qC (.int 257)))) (qNil))) (qC (.int 2147483587))) (kN 3))
  (tRet (qOp modD (qCall intD (qCons (qOp fdivD (qVar 3) (qC (.int 853))) (qNil))) (qVar 1)))))
def q__law_some (c : Nm → Ta → Res D) : BS :=
  tRet (qOp idxD (qVar 1) (qFn 2 (c ._law_roll) (zS 0 (zE (qCall lenD (qCons (qVar 1) (qNil))) (zNil)))))
def q__law_value (c : Nm → Ta → Res D) : BS :=
  tCons (tAsg (qFn 2 (c ._law_roll) (zS 0 (zE (qIf (qTru (qOp gtD (qVar 1) (qC (.int 0)))) (qC (.int 12)) (qC (.int 7))) (zNil)))) (kN 2))
  (tCons (tIf (qTru (qOp ltD (qVar 2) (qC (.int 4)))) (tRet (qFn 2 (c ._law_some) (zS 0 (zE (qLst (qCons (qC (.int 0)) (qCons (qC (.int 1)) (qCons (qC (.int 2)) (qCons (qC (.int 3)) (qCons (qC (.int 5)) (qCons (qC (.int 7)) (qCons (qUn negD (qC (.int 1))) (qCons (qC (.int 10)) (qCons (qOp powD (qC (.int 10)) (qC (.int 12))) (qNil))))))))))) (zNil))))) (tNil))
  (tCons (tIf (qTru (qOp ltD (qVar 2) (qC (.int 7)))) (tRet (qIf (qTru (qOp eqD (qVar 2) (qC (.int 4)))) (qFn 2 (c ._law_some) (zS 0 (zE (qLst (qCons (qC .none) (qCons (qC (.bool true)) (qCons (qC (.bool false)) (qNil))))) (zNil)))) (qFn 2 (c ._law_some) (zS 0 (zE (qLst (qCons (qC (.str "")) (qCons (qC (.str "a")) (qCons (qC (.str "b")) (qCons (qC (.str "ab")) (qCons (qC (.str "B 7")) (qCons (qC (.str "~")) (qNil)))))))) (zNil)))))) (tNil))
  (tCons (tIf (qTru (qOp ltD (qVar 2) (qC (.int 10)))) (tRet (qTup (qCons (qC (.str "list")) (qCons (qCall tupleD (qCons (qOf (qLC (qRange (qFn 2 (c ._law_roll) (zS 0 (zE (qC (.int 4)) (zNil))))) (kN 3) (qYes) (qFn 2 (c ._law_value) (zS 0 (zE (qOp subD (qVar 1) (qC (.int 1))) (zNil)))) [3])) (qNil))) (qNil))))) (tNil))
  (tRet (qTup (qCons (qC (.str "doc")) (qCons (qFn 3 (c ._law_drawn_fields) (zS 0 (zE (qOp subD (qVar 1) (qC (.int 1))) (zE (qFn 2 (c ._law_roll) (zS 0 (zE (qC (.int 3)) (zNil)))) (zNil))))) (qNil))))))))
def q__law_drawn_fields (c : Nm → Ta → Res D) : BS :=
  tCons (tPar 3 4 (qTup (qNil)) (qLst (qCons (qC (.str "a")) (qCons (qC (.str "b")) (qCons (qC (.str "c")) (qCons (qC (.str "d1")) (qNil)))))))
  (tCons (tFor (qRange (qVar 2)) (kN 5) (tCons (tAsg (qFn 2 (c ._law_some) (zS 0 (zE (qVar 4) (zNil)))) (kN 6))
  (tCons (tSetL 4 (qLC (qL (qVar 4)) (kN 7) (qTru (qOp neD (qVar 7) (qVar 6))) (qVar 7) [7]))
  (tAsg (qOp addD (qVar 3) (qTup (qCons (qTup (qCons (qVar 6) (qCons (qFn 2 (c ._law_value) (zS 0 (zE (qVar 1) (zNil)))) (qNil)))) (qNil)))) (kN 3)))))
  (tRet (qVar 3)))
def q__law_document (c : Nm → Ta → Res D) : BS :=
  tRet (qTup (qCons (qC (.str "doc")) (qCons (qOp addD (qTup (qCons (qTup (qCons (qC (.str "id")) (qCons (qVar 1) (qNil)))) (qNil))) (qFn 3 (c ._law_drawn_fields) (zS 0 (zE (qC (.int 2)) (zE (qOp addD (qC (.int 1)) (qFn 2 (c ._law_roll) (zS 0 (zE (qC (.int 3)) (zNil))))) (zNil)))))) (qNil))))
def q__law_shape (c : Nm → Ta → Res D) : BS :=
  tCons (tIf (qTru (qOp eqD (qFn 2 (c ._law_roll) (zS 0 (zE (qC (.int 4)) (zNil)))) (qC (.int 0)))) (tRet (qTup (qCons (qC (.str "all")) (qNil)))) (tNil))
  (tCons (tAsg (qLst (qCons (qTup (qCons (qTup (qCons (qC (.str "a")) (qNil))) (qNil))) (qCons (qTup (qCons (qTup (qCons (qC (.str "b")) (qNil))) (qCons (qTup (qCons (qC (.str "c")) (qNil))) (qNil)))) (qCons (qTup (qCons (qTup (qCons (qC (.str "a")) (qCons (qC (.str "b")) (qNil)))) (qNil))) (qCons (qTup (qCons (qTup (qCons (qC (.str "a")) (qCons (qC (.str "b")) (qNil)))) (qCons (qTup (qCons (qC (.str "a")) (qCons (qC (.str "a")) (qNil)))) (qCons (qTup (qCons (qC (.str "c")) (qNil))) (qNil))))) (qCons (qTup (qCons (qTup (qCons (qC (.str "b")) (qCons (qC (.str "a")) (qNil)))) (qCons (qTup (qCons (qC (.str "d1")) (qNil))) (qNil)))) (qCons (qTup (qCons (qTup (qCons (qC (.str "zz")) (qNil))) (qNil))) (qNil)))))))) (kN 1))
  (tCons (tAsg (qOp addD (qVar 1) (qLst (qCons (qTup (qCons (qTup (qCons (qC (.str "a")) (qCons (qC (.str "b")) (qCons (qC (.str "c")) (qNil))))) (qCons (qTup (qCons (qC (.str "a")) (qCons (qC (.str "c")) (qNil)))) (qNil)))) (qCons (qTup (qCons (qTup (qCons (qC (.str "c")) (qCons (qC (.str "a")) (qCons (qC (.str "b")) (qNil))))) (qNil))) (qNil))))) (kN 1))
  (tRet (qTup (qCons (qFn 2 (c ._law_some) (zS 0 (zE (qLst (qCons (qC (.str "keep")) (qCons (qC (.str "drop")) (qNil)))) (zNil)))) (qCons (qFn 2 (c ._law_some) (zS 0 (zE (qVar 1) (zNil)))) (qNil)))))))
def q__law_rest (c : Nm → Ta → Res D) : BS :=
  tRet (qOf (qLC (qLT (qVar 0)) (kN 2) (qTru (qOp eqD (qOp idxD (qVar 2) (qC (.int 0))) (qVar 1))) (qSlice (qVar 2) (qPS (qC (.int 1))) (qPN)) [2]))
def q__law_kept (c : Nm → Ta → Res D) : BS :=
  tCons (tIf (qTru (qOp eqD (qOp idxD (qVar 0) (qC (.int 0))) (qC (.str "list")))) (tRet (qTup (qCons (qC (.str "list")) (qCons (qCall tupleD (qCons (qOf (qLC (qT (qOp idxD (qVar 0) (qC (.int 1)))) (kN 2) (qAnd (qTru (qIsi "tuple" (qVar 2))) (qTru (qOp eqD (qOp idxD (qVar 2) (qC (.int 0))) (qC (.str "doc"))))) (qFn 2 (c ._law_kept) (zE (qVar 2) (zE (qVar 1) (zNil)))) [2])) (qNil))) (qNil))))) (tNil))
  (tCons (tSetF 3 (qLstF (qNil)))
  (tCons (tFor (qT (qOp idxD (qVar 0) (qC (.int 1)))) (kTup 2 (kCons (kN 4) (kCons (kN 2) (kNil)))) (tCons (tAsg (qFn 2 (c ._law_rest) (zE (qVar 1) (zE (qVar 4) (zNil)))) (kN 5))
  (tIf (qTru (qOp inD (qTup (qNil)) (qVar 5))) (tExpr (qAppend 3 (qTup (qCons (qVar 4) (qCons (qVar 2) (qNil)))))) (tIf (qAnd (qTru (qOp neD (qVar 5) (qLst (qNil)))) (qTru (qIsi "tuple" (qVar 2)))) (tExpr (qAppend 3 (qTup (qCons (qVar 4) (qCons (qFn 2 (c ._law_kept) (zE (qVar 2) (zE (qVar 5) (zNil)))) (qNil)))))) (tNil)))))
  (tRet (qTup (qCons (qC (.str "doc")) (qCons (qPkTup 3) (qNil)))))))
def q__law_dropped (c : Nm → Ta → Res D) : BS :=
  tCons (tIf (qOr (qTru (qOp eqD (qVar 1) (qLst (qNil)))) (qNot (qTru (qIsi "tuple" (qVar 0))))) (tRet (qVar 0)) (tNil))
  (tCons (tIf (qTru (qOp eqD (qOp idxD (qVar 0) (qC (.int 0))) (qC (.str "list")))) (tRet (qTup (qCons (qC (.str "list")) (qCons (qCall tupleD (qCons (qOf (qLC (qT (qOp idxD (qVar 0) (qC (.int 1)))) (kN 2) (qYes) (qIf (qAnd (qTru (qIsi "tuple" (qVar 2))) (qTru (qOp eqD (qOp idxD (qVar 2) (qC (.int 0))) (qC (.str "doc"))))) (qFn 2 (c ._law_dropped) (zE (qVar 2) (zE (qVar 1) (zNil)))) (qVar 2)) [2])) (qNil))) (qNil))))) (tNil))
  (tRet (qTup (qCons (qC (.str "doc")) (qCons (qCall tupleD (qCons (qOf (qLC (qT (qOp idxD (qVar 0) (qC (.int 1)))) (kTup 2 (kCons (kN 3) (kCons (kN 2) (kNil)))) (qTru (qOp notInD (qTup (qNil)) (qFn 2 (c ._law_rest) (zE (qVar 1) (zE (qVar 3) (zNil)))))) (qTup (qCons (qVar 3) (qCons (qFn 2 (c ._law_dropped) (zE (qVar 2) (zE (qFn 2 (c ._law_rest) (zE (qVar 1) (zE (qVar 3) (zNil)))) (zNil)))) (qNil)))) [3, 2])) (qNil))) (qNil))))))
def q__law_shaped (c : Nm → Ta → Res D) : BS :=
  tCons (tIf (qTru (qOp eqD (qOp idxD (qVar 1) (qC (.int 0))) (qC (.str "all")))) (tRet (qVar 0)) (tNil))
  (tRet (qIf (qTru (qOp eqD (qOp idxD (qVar 1) (qC (.int 0))) (qC (.str "keep")))) (qFn 2 (c ._law_kept) (zE (qVar 0) (zE (qOp addD (qLst (qCons (qTup (qCons (qC (.str "id")) (qNil))) (qNil))) (qCall listD (qCons (qOp idxD (qVar 1) (qC (.int 1))) (qNil)))) (zNil)))) (qFn 2 (c ._law_dropped) (zE (qVar 0) (zE (qCall listD (qCons (qOp idxD (qVar 1) (qC (.int 1))) (qNil))) (zNil))))))
def p_law_30 (c : Nm → Ta → Res D) : BS :=
  tRet (qOp eqD (qOf (qLC (qL (qVar 6)) (kTup 2 (kCons (kN 4) (kCons (kN 9) (kNil)))) (qOr (qTru (qOp neD (qCall reprD (qCons (qFn 2 (c .shaped) (zE (qVar 5) (zE (qVar 4) (zNil)))) (qNil))) (qCall reprD (qCons (qVar 9) (qNil))))) (qTru (qOp neD (qCall reprD (qCons (qFn 2 (c ._law_shaped) (zE (qVar 5) (zE (qVar 4) (zNil)))) (qNil))) (qCall reprD (qCons (qVar 9) (qNil)))))) (qC (.int 1)) [4, 9])) (qLst (qNil)))
def q_law_30 (c : Nm → Ta → Res D) : BS := p_law_30 c
def p_law_29 (c : Nm → Ta → Res D) : BS :=
  tIf (qTru (qOp neD (qOf (qLC (qL (qVar 18)) (kTup 2 (kCons (kN 4) (kCons (kN 9) (kNil)))) (qTru (qOp neD (qCall reprD (qCons (qFn 2 (c .shaped) (zE (qVar 17) (zE (qVar 4) (zNil)))) (qNil))) (qCall reprD (qCons (qVar 9) (qNil))))) (qC (.int 1)) [4, 9])) (qLst (qNil)))) (tRet (qC (.bool false))) (tNil)
def q_law_29 (c : Nm → Ta → Res D) : BS := tCons (p_law_29 c) (q_law_30 c)
def p_law_28 (c : Nm → Ta → Res D) : BS :=
  tAsg (qOp addD (qVar 18) (qLst (qCons (qTup (qCons (qTup (qCons (qC (.str "keep")) (qCons (qTup (qCons (qTup (qCons (qC (.str "z")) (qNil))) (qNil))) (qNil)))) (qCons (qTup (qCons (qC (.str "doc")) (qCons (qTup (qNil)) (qNil)))) (qNil)))) (qNil)))) (kN 18)
def q_law_28 (c : Nm → Ta → Res D) : BS := tCons (p_law_28 c) (q_law_29 c)
def p_law_27 (c : Nm → Ta → Res D) : BS :=
  tAsg (qLst (qCons (qTup (qCons (qTup (qCons (qC (.str "keep")) (qCons (qTup (qCons (qTup (qCons (qC (.str "a")) (qCons (qC (.str "c")) (qNil)))) (qNil))) (qNil)))) (qCons (qTup (qCons (qC (.str "doc")) (qCons (qTup (qCons (qTup (qCons (qC (.str "a")) (qCons (qTup (qCons (qC (.str "doc")) (qCons (qTup (qNil)) (qNil)))) (qNil)))) (qNil))) (qNil)))) (qNil)))) (qCons (qTup (qCons (qTup (qCons (qC (.str "drop")) (qCons (qTup (qCons (qTup (qCons (qC (.str "a")) (qCons (qC (.str "b")) (qNil)))) (qNil))) (qNil)))) (qCons (qTup (qCons (qC (.str "doc")) (qCons (qTup (qCons (qTup (qCons (qC (.str "a")) (qCons (qTup (qCons (qC (.str "doc")) (qCons (qTup (qNil)) (qNil)))) (qNil)))) (qNil))) (qNil)))) (qNil)))) (qNil)))) (kN 18)
def q_law_27 (c : Nm → Ta → Res D) : BS := tCons (p_law_27 c) (q_law_28 c)
def p_law_26 (c : Nm → Ta → Res D) : BS :=
  tAsg (qTup (qCons (qC (.str "doc")) (qCons (qTup (qCons (qTup (qCons (qC (.str "a")) (qCons (qTup (qCons (qC (.str "doc")) (qCons (qTup (qCons (qTup (qCons (qC (.str "b")) (qCons (qC (.int 2)) (qNil)))) (qNil))) (qNil)))) (qNil)))) (qNil))) (qNil)))) (kN 17)
def q_law_26 (c : Nm → Ta → Res D) : BS := tCons (p_law_26 c) (q_law_27 c)
def p_law_25 (c : Nm → Ta → Res D) : BS :=
  tIf (qTru (qOp neD (qOf (qLC (qL (qVar 16)) (kTup 2 (kCons (kN 4) (kCons (kN 9) (kNil)))) (qOr (qTru (qOp neD (qCall reprD (qCons (qFn 2 (c .shaped) (zE (qVar 13) (zE (qVar 4) (zNil)))) (qNil))) (qCall reprD (qCons (qVar 9) (qNil))))) (qTru (qOp neD (qCall reprD (qCons (qFn 2 (c ._law_shaped) (zE (qVar 13) (zE (qVar 4) (zNil)))) (qNil))) (qCall reprD (qCons (qVar 9) (qNil)))))) (qC (.int 1)) [4, 9])) (qLst (qNil)))) (tRet (qC (.bool false))) (tNil)
def q_law_25 (c : Nm → Ta → Res D) : BS := tCons (p_law_25 c) (q_law_26 c)
def p_law_24 (c : Nm → Ta → Res D) : BS :=
  tAsg (qOp addD (qVar 16) (qLst (qCons (qTup (qCons (qTup (qCons (qC (.str "drop")) (qCons (qTup (qCons (qTup (qCons (qC (.str "a")) (qNil))) (qCons (qTup (qCons (qC (.str "ab")) (qCons (qC (.str "c")) (qNil)))) (qNil)))) (qNil)))) (qCons (qTup (qCons (qC (.str "doc")) (qCons (qTup (qCons (qTup (qCons (qC (.str "id")) (qCons (qC (.int 9)) (qNil)))) (qCons (qTup (qCons (qC (.str "ab")) (qCons (qTup (qCons (qC (.str "doc")) (qCons (qTup (qCons (qTup (qCons (qC (.str "b")) (qCons (qVar 11) (qNil)))) (qNil))) (qNil)))) (qNil)))) (qNil)))) (qNil)))) (qNil)))) (qCons (qTup (qCons (qTup (qCons (qC (.str "keep")) (qCons (qTup (qCons (qTup (qCons (qC (.str "ab")) (qCons (qC (.str "ba")) (qNil)))) (qCons (qTup (qCons (qC (.str "b")) (qNil))) (qNil)))) (qNil)))) (qCons (qTup (qCons (qC (.str "doc")) (qCons (qTup (qCons (qTup (qCons (qC (.str "id")) (qCons (qC (.int 9)) (qNil)))) (qCons (qTup (qCons (qC (.str "ab")) (qCons (qTup (qCons (qC (.str "doc")) (qCons (qTup (qNil)) (qNil)))) (qNil)))) (qNil)))) (qNil)))) (qNil)))) (qNil))))) (kN 16)
def q_law_24 (c : Nm → Ta → Res D) : BS := tCons (p_law_24 c) (q_law_25 c)
def p_law_23 (c : Nm → Ta → Res D) : BS :=
  tAsg (qOp addD (qVar 16) (qLst (qCons (qTup (qCons (qTup (qCons (qC (.str "keep")) (qCons (qTup (qCons (qTup (qCons (qC (.str "ab")) (qCons (qC (.str "b")) (qNil)))) (qCons (qTup (qCons (qC (.str "a")) (qCons (qC (.str "ba")) (qNil)))) (qNil)))) (qNil)))) (qCons (qTup (qCons (qC (.str "doc")) (qCons (qTup (qCons (qTup (qCons (qC (.str "a")) (qCons (qTup (qCons (qC (.str "doc")) (qCons (qTup (qCons (qTup (qCons (qC (.str "ba")) (qCons (qC (.int 4)) (qNil)))) (qNil))) (qNil)))) (qNil)))) (qCons (qTup (qCons (qC (.str "id")) (qCons (qC (.int 9)) (qNil)))) (qCons (qTup (qCons (qC (.str "ab")) (qCons (qTup (qCons (qC (.str "doc")) (qCons (qTup (qCons (qTup (qCons (qC (.str "b")) (qCons (qVar 11) (qNil)))) (qNil))) (qNil)))) (qNil)))) (qNil))))) (qNil)))) (qNil)))) (qNil)))) (kN 16)
def q_law_23 (c : Nm → Ta → Res D) : BS := tCons (p_law_23 c) (q_law_24 c)
def p_law_22 (c : Nm → Ta → Res D) : BS :=
  tAsg (qOp addD (qVar 16) (qLst (qCons (qTup (qCons (qTup (qCons (qC (.str "drop")) (qCons (qTup (qCons (qTup (qCons (qC (.str "a")) (qCons (qC (.str "b")) (qCons (qC (.str "d1")) (qNil))))) (qCons (qTup (qCons (qC (.str "ab")) (qNil))) (qNil)))) (qNil)))) (qCons (qTup (qCons (qC (.str "doc")) (qCons (qTup (qCons (qTup (qCons (qC (.str "a")) (qCons (qTup (qCons (qC (.str "doc")) (qCons (qTup (qCons (qTup (qCons (qC (.str "b")) (qCons (qVar 15) (qNil)))) (qCons (qTup (qCons (qC (.str "ba")) (qCons (qC (.int 4)) (qNil)))) (qNil)))) (qNil)))) (qNil)))) (qCons (qTup (qCons (qC (.str "id")) (qCons (qC (.int 9)) (qNil)))) (qNil)))) (qNil)))) (qNil)))) (qNil)))) (kN 16)
def q_law_22 (c : Nm → Ta → Res D) : BS := tCons (p_law_22 c) (q_law_23 c)
def p_law_21 (c : Nm → Ta → Res D) : BS :=
  tAsg (qLst (qCons (qTup (qCons (qTup (qCons (qC (.str "keep")) (qCons (qTup (qCons (qTup (qCons (qC (.str "a")) (qCons (qC (.str "b")) (qCons (qC (.str "c")) (qNil))))) (qNil))) (qNil)))) (qCons (qTup (qCons (qC (.str "doc")) (qCons (qTup (qCons (qTup (qCons (qC (.str "a")) (qCons (qTup (qCons (qC (.str "doc")) (qCons (qTup (qCons (qTup (qCons (qC (.str "b")) (qCons (qVar 14) (qNil)))) (qNil))) (qNil)))) (qNil)))) (qCons (qTup (qCons (qC (.str "id")) (qCons (qC (.int 9)) (qNil)))) (qNil)))) (qNil)))) (qNil)))) (qNil))) (kN 16)
def q_law_21 (c : Nm → Ta → Res D) : BS := tCons (p_law_21 c) (q_law_22 c)
def p_law_20 (c : Nm → Ta → Res D) : BS :=
  tPar 14 15 (qTup (qCons (qC (.str "list")) (qCons (qTup (qCons (qTup (qCons (qC (.str "doc")) (qCons (qTup (qCons (qTup (qCons (qC (.str "c")) (qCons (qVar 10) (qNil)))) (qNil))) (qNil)))) (qCons (qTup (qCons (qC (.str "doc")) (qCons (qTup (qNil)) (qNil)))) (qNil)))) (qNil)))) (qTup (qCons (qC (.str "list")) (qCons (qTup (qCons (qTup (qCons (qC (.str "doc")) (qCons (qTup (qCons (qTup (qCons (qC (.str "c")) (qCons (qVar 10) (qNil)))) (qNil))) (qNil)))) (qCons (qC (.int 7)) (qCons (qTup (qCons (qC (.str "doc")) (qCons (qTup (qNil)) (qNil)))) (qCons (qOp idxD (qOp idxD (qVar 12) (qC (.int 1))) (qC (.int 3))) (qNil)))))) (qNil))))
def q_law_20 (c : Nm → Ta → Res D) : BS := tCons (p_law_20 c) (q_law_21 c)
def p_law_19 (c : Nm → Ta → Res D) : BS :=
  tAsg (qTup (qCons (qC (.str "doc")) (qCons (qTup (qCons (qTup (qCons (qC (.str "a")) (qCons (qTup (qCons (qC (.str "doc")) (qCons (qTup (qCons (qTup (qCons (qC (.str "b")) (qCons (qVar 12) (qNil)))) (qCons (qTup (qCons (qC (.str "ba")) (qCons (qC (.int 4)) (qNil)))) (qNil)))) (qNil)))) (qNil)))) (qCons (qTup (qCons (qC (.str "id")) (qCons (qC (.int 9)) (qNil)))) (qCons (qTup (qCons (qC (.str "ab")) (qCons (qTup (qCons (qC (.str "doc")) (qCons (qTup (qCons (qTup (qCons (qC (.str "b")) (qCons (qVar 11) (qNil)))) (qCons (qTup (qCons (qC (.str "c")) (qCons (qVar 10) (qNil)))) (qNil)))) (qNil)))) (qNil)))) (qNil))))) (qNil)))) (kN 13)
def q_law_19 (c : Nm → Ta → Res D) : BS := tCons (p_law_19 c) (q_law_20 c)
def p_law_18 (c : Nm → Ta → Res D) : BS :=
  tAsg (qTup (qCons (qC (.str "list")) (qCons (qTup (qCons (qTup (qCons (qC (.str "doc")) (qCons (qTup (qCons (qTup (qCons (qC (.str "c")) (qCons (qVar 10) (qNil)))) (qCons (qTup (qCons (qC (.str "d1")) (qCons (qVar 11) (qNil)))) (qNil)))) (qNil)))) (qCons (qC (.int 7)) (qCons (qTup (qCons (qC (.str "doc")) (qCons (qTup (qCons (qTup (qCons (qC (.str "d1")) (qCons (qC (.int 3)) (qNil)))) (qNil))) (qNil)))) (qCons (qTup (qCons (qC (.str "list")) (qCons (qTup (qCons (qTup (qCons (qC (.str "doc")) (qCons (qTup (qCons (qTup (qCons (qC (.str "c")) (qCons (qC (.int 8)) (qNil)))) (qNil))) (qNil)))) (qNil))) (qNil)))) (qNil)))))) (qNil)))) (kN 12)
def q_law_18 (c : Nm → Ta → Res D) : BS := tCons (p_law_18 c) (q_law_19 c)
def p_law_17 (c : Nm → Ta → Res D) : BS :=
  tPar 10 11 (qFn 2 (c ._law_roll) (zS 1 (zE (qC (.int 9)) (zNil)))) (qOp subD (qUn negD (qC (.int 1))) (qFn 2 (c ._law_roll) (zS 1 (zE (qC (.int 9)) (zNil)))))
def q_law_17 (c : Nm → Ta → Res D) : BS := tCons (p_law_17 c) (q_law_18 c)
def p_law_16 (c : Nm → Ta → Res D) : BS :=
  tIf (qTru (qOp neD (qOf (qLC (qL (qVar 8)) (kTup 2 (kCons (kN 4) (kCons (kN 9) (kNil)))) (qOr (qTru (qOp neD (qCall reprD (qCons (qFn 2 (c .shaped) (zE (qVar 7) (zE (qVar 4) (zNil)))) (qNil))) (qCall reprD (qCons (qVar 9) (qNil))))) (qTru (qOp neD (qCall reprD (qCons (qFn 2 (c ._law_shaped) (zE (qVar 7) (zE (qVar 4) (zNil)))) (qNil))) (qCall reprD (qCons (qVar 9) (qNil)))))) (qC (.int 1)) [4, 9])) (qLst (qNil)))) (tRet (qC (.bool false))) (tNil)
def q_law_16 (c : Nm → Ta → Res D) : BS := tCons (p_law_16 c) (q_law_17 c)
def p_law_15 (c : Nm → Ta → Res D) : BS :=
  tAsg (qOp addD (qVar 8) (qLst (qCons (qTup (qCons (qTup (qCons (qC (.str "drop")) (qCons (qTup (qCons (qTup (qCons (qC (.str "a")) (qCons (qC (.str "b")) (qNil)))) (qCons (qTup (qCons (qC (.str "l")) (qNil))) (qNil)))) (qNil)))) (qCons (qTup (qCons (qC (.str "doc")) (qCons (qTup (qCons (qTup (qCons (qC (.str "id")) (qCons (qC (.int 1)) (qNil)))) (qCons (qTup (qCons (qC (.str "a")) (qCons (qTup (qCons (qC (.str "doc")) (qCons (qTup (qCons (qTup (qCons (qC (.str "id")) (qCons (qC (.int 5)) (qNil)))) (qNil))) (qNil)))) (qNil)))) (qNil)))) (qNil)))) (qNil)))) (qNil)))) (kN 8)
def q_law_15 (c : Nm → Ta → Res D) : BS := tCons (p_law_15 c) (q_law_16 c)
def p_law_14 (c : Nm → Ta → Res D) : BS :=
  tAsg (qOp addD (qVar 8) (qLst (qCons (qTup (qCons (qTup (qCons (qC (.str "drop")) (qCons (qTup (qCons (qTup (qCons (qC (.str "a")) (qCons (qC (.str "id")) (qNil)))) (qCons (qTup (qCons (qC (.str "l")) (qCons (qC (.str "id")) (qNil)))) (qNil)))) (qNil)))) (qCons (qTup (qCons (qC (.str "doc")) (qCons (qTup (qCons (qTup (qCons (qC (.str "id")) (qCons (qC (.int 1)) (qNil)))) (qCons (qTup (qCons (qC (.str "a")) (qCons (qTup (qCons (qC (.str "doc")) (qCons (qTup (qCons (qTup (qCons (qC (.str "b")) (qCons (qC (.int 2)) (qNil)))) (qNil))) (qNil)))) (qNil)))) (qCons (qTup (qCons (qC (.str "l")) (qCons (qTup (qCons (qC (.str "list")) (qCons (qTup (qCons (qTup (qCons (qC (.str "doc")) (qCons (qTup (qCons (qTup (qCons (qC (.str "p")) (qCons (qC (.int 3)) (qNil)))) (qNil))) (qNil)))) (qCons (qC (.int 4)) (qNil)))) (qNil)))) (qNil)))) (qNil))))) (qNil)))) (qNil)))) (qNil)))) (kN 8)
def q_law_14 (c : Nm → Ta → Res D) : BS := tCons (p_law_14 c) (q_law_15 c)
def p_law_13 (c : Nm → Ta → Res D) : BS :=
  tAsg (qOp addD (qVar 8) (qLst (qCons (qTup (qCons (qTup (qCons (qC (.str "keep")) (qCons (qTup (qCons (qTup (qCons (qC (.str "a")) (qCons (qC (.str "id")) (qNil)))) (qNil))) (qNil)))) (qCons (qTup (qCons (qC (.str "doc")) (qCons (qTup (qCons (qTup (qCons (qC (.str "id")) (qCons (qC (.int 1)) (qNil)))) (qCons (qTup (qCons (qC (.str "a")) (qCons (qTup (qCons (qC (.str "doc")) (qCons (qTup (qCons (qTup (qCons (qC (.str "id")) (qCons (qC (.int 5)) (qNil)))) (qNil))) (qNil)))) (qNil)))) (qNil)))) (qNil)))) (qNil)))) (qNil)))) (kN 8)
def q_law_13 (c : Nm → Ta → Res D) : BS := tCons (p_law_13 c) (q_law_14 c)
def p_law_12 (c : Nm → Ta → Res D) : BS :=
  tAsg (qOp addD (qVar 8) (qLst (qCons (qTup (qCons (qTup (qCons (qC (.str "keep")) (qCons (qTup (qCons (qTup (qCons (qC (.str "l")) (qCons (qC (.str "p")) (qNil)))) (qNil))) (qNil)))) (qCons (qTup (qCons (qC (.str "doc")) (qCons (qTup (qCons (qTup (qCons (qC (.str "id")) (qCons (qC (.int 1)) (qNil)))) (qCons (qTup (qCons (qC (.str "l")) (qCons (qTup (qCons (qC (.str "list")) (qCons (qTup (qCons (qTup (qCons (qC (.str "doc")) (qCons (qTup (qCons (qTup (qCons (qC (.str "p")) (qCons (qC (.int 3)) (qNil)))) (qNil))) (qNil)))) (qNil))) (qNil)))) (qNil)))) (qNil)))) (qNil)))) (qNil)))) (qNil)))) (kN 8)
def q_law_12 (c : Nm → Ta → Res D) : BS := tCons (p_law_12 c) (q_law_13 c)
def p_law_11 (c : Nm → Ta → Res D) : BS :=
  tAsg (qLst (qCons (qTup (qCons (qTup (qCons (qC (.str "keep")) (qCons (qTup (qCons (qTup (qCons (qC (.str "a")) (qCons (qC (.str "b")) (qNil)))) (qNil))) (qNil)))) (qCons (qTup (qCons (qC (.str "doc")) (qCons (qTup (qCons (qTup (qCons (qC (.str "id")) (qCons (qC (.int 1)) (qNil)))) (qCons (qTup (qCons (qC (.str "a")) (qCons (qTup (qCons (qC (.str "doc")) (qCons (qTup (qCons (qTup (qCons (qC (.str "b")) (qCons (qC (.int 2)) (qNil)))) (qNil))) (qNil)))) (qNil)))) (qNil)))) (qNil)))) (qNil)))) (qNil))) (kN 8)
def q_law_11 (c : Nm → Ta → Res D) : BS := tCons (p_law_11 c) (q_law_12 c)
def p_law_10 (c : Nm → Ta → Res D) : BS :=
  tAsg (qTup (qCons (qC (.str "doc")) (qCons (qTup (qCons (qTup (qCons (qC (.str "id")) (qCons (qC (.int 1)) (qNil)))) (qCons (qTup (qCons (qC (.str "a")) (qCons (qTup (qCons (qC (.str "doc")) (qCons (qTup (qCons (qTup (qCons (qC (.str "id")) (qCons (qC (.int 5)) (qNil)))) (qCons (qTup (qCons (qC (.str "b")) (qCons (qC (.int 2)) (qNil)))) (qNil)))) (qNil)))) (qNil)))) (qCons (qTup (qCons (qC (.str "l")) (qCons (qTup (qCons (qC (.str "list")) (qCons (qTup (qCons (qTup (qCons (qC (.str "doc")) (qCons (qTup (qCons (qTup (qCons (qC (.str "id")) (qCons (qC (.int 7)) (qNil)))) (qCons (qTup (qCons (qC (.str "p")) (qCons (qC (.int 3)) (qNil)))) (qNil)))) (qNil)))) (qCons (qC (.int 4)) (qNil)))) (qNil)))) (qNil)))) (qNil))))) (qNil)))) (kN 7)
def q_law_10 (c : Nm → Ta → Res D) : BS := tCons (p_law_10 c) (q_law_11 c)
def p_law_9 (c : Nm → Ta → Res D) : BS :=
  tAsg (qOp addD (qVar 6) (qLst (qCons (qTup (qCons (qTup (qCons (qC (.str "drop")) (qCons (qTup (qCons (qTup (qCons (qC (.str "l")) (qCons (qC (.str "p")) (qNil)))) (qCons (qTup (qCons (qC (.str "l")) (qCons (qC (.str "q")) (qCons (qC (.str "r")) (qNil))))) (qCons (qTup (qCons (qC (.str "b")) (qNil))) (qNil))))) (qNil)))) (qCons (qTup (qCons (qC (.str "doc")) (qCons (qTup (qCons (qTup (qCons (qC (.str "id")) (qCons (qC (.int 4)) (qNil)))) (qCons (qTup (qCons (qC (.str "l")) (qCons (qTup (qCons (qC (.str "list")) (qCons (qTup (qCons (qTup (qCons (qC (.str "doc")) (qCons (qTup (qCons (qTup (qCons (qC (.str "q")) (qCons (qTup (qCons (qC (.str "doc")) (qCons (qTup (qCons (qTup (qCons (qC (.str "s")) (qCons (qC (.int 4)) (qNil)))) (qNil))) (qNil)))) (qNil)))) (qNil))) (qNil)))) (qCons (qC (.int 5)) (qCons (qTup (qCons (qC (.str "list")) (qCons (qTup (qCons (qTup (qCons (qC (.str "doc")) (qCons (qTup (qCons (qTup (qCons (qC (.str "p")) (qCons (qC (.int 1)) (qNil)))) (qNil))) (qNil)))) (qNil))) (qNil)))) (qNil))))) (qNil)))) (qNil)))) (qNil)))) (qNil)))) (qNil)))) (qNil)))) (kN 6)
def q_law_9 (c : Nm → Ta → Res D) : BS := tCons (p_law_9 c) (q_law_10 c)
def p_law_8 (c : Nm → Ta → Res D) : BS :=
  tAsg (qOp addD (qVar 6) (qLst (qCons (qTup (qCons (qTup (qCons (qC (.str "drop")) (qCons (qTup (qCons (qTup (qCons (qC (.str "l")) (qCons (qC (.str "q")) (qNil)))) (qNil))) (qNil)))) (qCons (qTup (qCons (qC (.str "doc")) (qCons (qTup (qCons (qTup (qCons (qC (.str "b")) (qCons (qC (.int 1)) (qNil)))) (qCons (qTup (qCons (qC (.str "id")) (qCons (qC (.int 4)) (qNil)))) (qCons (qTup (qCons (qC (.str "l")) (qCons (qTup (qCons (qC (.str "list")) (qCons (qTup (qCons (qTup (qCons (qC (.str "doc")) (qCons (qTup (qCons (qTup (qCons (qC (.str "p")) (qCons (qC (.int 2)) (qNil)))) (qNil))) (qNil)))) (qCons (qC (.int 5)) (qCons (qTup (qCons (qC (.str "list")) (qCons (qTup (qCons (qTup (qCons (qC (.str "doc")) (qCons (qTup (qCons (qTup (qCons (qC (.str "p")) (qCons (qC (.int 1)) (qNil)))) (qNil))) (qNil)))) (qNil))) (qNil)))) (qNil))))) (qNil)))) (qNil)))) (qNil))))) (qNil)))) (qNil)))) (qNil)))) (kN 6)
def q_law_8 (c : Nm → Ta → Res D) : BS := tCons (p_law_8 c) (q_law_9 c)
def p_law_7 (c : Nm → Ta → Res D) : BS :=
  tAsg (qOp addD (qVar 6) (qLst (qCons (qTup (qCons (qTup (qCons (qC (.str "drop")) (qCons (qTup (qCons (qTup (qCons (qC (.str "b")) (qNil))) (qCons (qTup (qCons (qC (.str "l")) (qNil))) (qNil)))) (qNil)))) (qCons (qTup (qCons (qC (.str "doc")) (qCons (qTup (qCons (qTup (qCons (qC (.str "id")) (qCons (qC (.int 4)) (qNil)))) (qNil))) (qNil)))) (qNil)))) (qCons (qTup (qCons (qTup (qCons (qC (.str "drop")) (qCons (qTup (qCons (qTup (qCons (qC (.str "b")) (qCons (qC (.str "x")) (qNil)))) (qNil))) (qNil)))) (qCons (qVar 5) (qNil)))) (qNil))))) (kN 6)
def q_law_7 (c : Nm → Ta → Res D) : BS := tCons (p_law_7 c) (q_law_8 c)
def p_law_6 (c : Nm → Ta → Res D) : BS :=
  tAsg (qOp addD (qVar 6) (qLst (qCons (qTup (qCons (qTup (qCons (qC (.str "keep")) (qCons (qTup (qCons (qTup (qCons (qC (.str "l")) (qCons (qC (.str "q")) (qCons (qC (.str "s")) (qNil))))) (qNil))) (qNil)))) (qCons (qTup (qCons (qC (.str "doc")) (qCons (qTup (qCons (qTup (qCons (qC (.str "id")) (qCons (qC (.int 4)) (qNil)))) (qCons (qTup (qCons (qC (.str "l")) (qCons (qTup (qCons (qC (.str "list")) (qCons (qTup (qCons (qTup (qCons (qC (.str "doc")) (qCons (qTup (qCons (qTup (qCons (qC (.str "q")) (qCons (qTup (qCons (qC (.str "doc")) (qCons (qTup (qCons (qTup (qCons (qC (.str "s")) (qCons (qC (.int 4)) (qNil)))) (qNil))) (qNil)))) (qNil)))) (qNil))) (qNil)))) (qNil))) (qNil)))) (qNil)))) (qNil)))) (qNil)))) (qNil)))) (qNil)))) (kN 6)
def q_law_6 (c : Nm → Ta → Res D) : BS := tCons (p_law_6 c) (q_law_7 c)
def p_law_5 (c : Nm → Ta → Res D) : BS :=
  tAsg (qOp addD (qVar 6) (qLst (qCons (qTup (qCons (qTup (qCons (qC (.str "keep")) (qCons (qTup (qCons (qTup (qCons (qC (.str "l")) (qCons (qC (.str "p")) (qNil)))) (qNil))) (qNil)))) (qCons (qTup (qCons (qC (.str "doc")) (qCons (qTup (qCons (qTup (qCons (qC (.str "id")) (qCons (qC (.int 4)) (qNil)))) (qCons (qTup (qCons (qC (.str "l")) (qCons (qTup (qCons (qC (.str "list")) (qCons (qTup (qCons (qTup (qCons (qC (.str "doc")) (qCons (qTup (qCons (qTup (qCons (qC (.str "p")) (qCons (qC (.int 2)) (qNil)))) (qNil))) (qNil)))) (qNil))) (qNil)))) (qNil)))) (qNil)))) (qNil)))) (qNil)))) (qNil)))) (kN 6)
def q_law_5 (c : Nm → Ta → Res D) : BS := tCons (p_law_5 c) (q_law_6 c)
def p_law_4 (c : Nm → Ta → Res D) : BS :=
  tAsg (qOp addD (qVar 6) (qLst (qCons (qTup (qCons (qTup (qCons (qC (.str "keep")) (qCons (qTup (qCons (qTup (qCons (qC (.str "none")) (qNil))) (qCons (qTup (qCons (qC (.str "b")) (qCons (qC (.str "x")) (qNil)))) (qNil)))) (qNil)))) (qCons (qTup (qCons (qC (.str "doc")) (qCons (qTup (qCons (qTup (qCons (qC (.str "id")) (qCons (qC (.int 4)) (qNil)))) (qNil))) (qNil)))) (qNil)))) (qNil)))) (kN 6)
def q_law_4 (c : Nm → Ta → Res D) : BS := tCons (p_law_4 c) (q_law_5 c)
def p_law_3 (c : Nm → Ta → Res D) : BS :=
  tAsg (qLst (qCons (qTup (qCons (qTup (qCons (qC (.str "all")) (qNil))) (qCons (qVar 5) (qNil)))) (qCons (qTup (qCons (qTup (qCons (qC (.str "keep")) (qCons (qTup (qCons (qTup (qCons (qC (.str "b")) (qNil))) (qNil))) (qNil)))) (qCons (qTup (qCons (qC (.str "doc")) (qCons (qTup (qCons (qTup (qCons (qC (.str "b")) (qCons (qC (.int 1)) (qNil)))) (qCons (qTup (qCons (qC (.str "id")) (qCons (qC (.int 4)) (qNil)))) (qNil)))) (qNil)))) (qNil)))) (qNil)))) (kN 6)
def q_law_3 (c : Nm → Ta → Res D) : BS := tCons (p_law_3 c) (q_law_4 c)
def p_law_2 (c : Nm → Ta → Res D) : BS :=
  tAsg (qTup (qCons (qC (.str "doc")) (qCons (qTup (qCons (qTup (qCons (qC (.str "b")) (qCons (qC (.int 1)) (qNil)))) (qCons (qTup (qCons (qC (.str "id")) (qCons (qC (.int 4)) (qNil)))) (qCons (qTup (qCons (qC (.str "l")) (qCons (qTup (qCons (qC (.str "list")) (qCons (qTup (qCons (qTup (qCons (qC (.str "doc")) (qCons (qTup (qCons (qTup (qCons (qC (.str "p")) (qCons (qC (.int 2)) (qNil)))) (qCons (qTup (qCons (qC (.str "q")) (qCons (qTup (qCons (qC (.str "doc")) (qCons (qTup (qCons (qTup (qCons (qC (.str "r")) (qCons (qC (.int 3)) (qNil)))) (qCons (qTup (qCons (qC (.str "s")) (qCons (qC (.int 4)) (qNil)))) (qNil)))) (qNil)))) (qNil)))) (qNil)))) (qNil)))) (qCons (qC (.int 5)) (qCons (qTup (qCons (qC (.str "list")) (qCons (qTup (qCons (qTup (qCons (qC (.str "doc")) (qCons (qTup (qCons (qTup (qCons (qC (.str "p")) (qCons (qC (.int 1)) (qNil)))) (qNil))) (qNil)))) (qNil))) (qNil)))) (qNil))))) (qNil)))) (qNil)))) (qNil))))) (qNil)))) (kN 5)
def q_law_2 (c : Nm → Ta → Res D) : BS := tCons (p_law_2 c) (q_law_3 c)
def p_law_1 (c : Nm → Ta → Res D) : BS :=
  tFor (qRange (qC (.int 6))) (kN 2) (tCons (tPar 3 4 (qFn 2 (c ._law_document) (zS 1 (zE (qFn 2 (c ._law_some) (zS 1 (zE (qLst (qCons (qC (.int 1)) (qCons (qC (.str "a")) (qCons (qC .none) (qNil))))) (zNil)))) (zNil)))) (qFn 1 (c ._law_shape) (zS 1 (zNil))))
  (tIf (qTru (qOp neD (qCall reprD (qCons (qFn 2 (c .shaped) (zE (qVar 3) (zE (qVar 4) (zNil)))) (qNil))) (qCall reprD (qCons (qFn 2 (c ._law_shaped) (zE (qVar 3) (zE (qVar 4) (zNil)))) (qNil))))) (tRet (qC (.bool false))) (tNil)))
def q_law_1 (c : Nm → Ta → Res D) : BS := tCons (p_law_1 c) (q_law_2 c)
def p_law_0 (c : Nm → Ta → Res D) : BS :=
  tSetF 1 (qFnF 1 (c ._law_cup) (zE (qVar 0) (zNil)))
def q_law_0 (c : Nm → Ta → Res D) : BS := tCons (p_law_0 c) (q_law_1 c)
def q_law (c : Nm → Ta → Res D) : BS := q_law_0 c
def stepN (c : Nm → Ta → Res D) (f : Nm) : Ta → Res D := match f with
  | .is_whole => runE (q_is_whole c) 0
  | .is_tuple_of => runE (q_is_tuple_of c) 0
  | .is_name => runE (q_is_name c) 1
  | .is_text_sign => runE (q_is_text_sign c) 0
  | .fits_plain => runE (q_fits_plain c) 1
  | .is_knot => runE (q_is_knot c) 0
  | .fits_fields => runE (q_fits_fields c) 2
  | .inner_of => runE (q_inner_of c) 1
  | .fits_value => runE (q_fits_value c) 4
  | .is_doc => runE (q_is_doc c) 0
  | .need_document => runE (q_need_document c) 0
  | .are_apart => runE (q_are_apart c) 2
  | .fits_shape => runE (q_fits_shape c) 5
  | .rests_of => runE (q_rests_of c) 1
  | .kept_fields => runE (q_kept_fields c) 4
  | .kept_value => runE (q_kept_value c) 1
  | .left_fields => runE (q_left_fields c) 4
  | .left_value => runE (q_left_value c) 1
  | .shaped_by => runE (q_shaped_by c) 0
  | .shaped => runE (q_shaped c) 0
  | ._law_cup => runF (q__law_cup c) 1
  | ._law_roll => runE (q__law_roll c) 2
  | ._law_some => runE (q__law_some c) 0
  | ._law_value => runE (q__law_value c) 2
  | ._law_drawn_fields => runE (q__law_drawn_fields c) 5
  | ._law_document => runE (q__law_document c) 0
  | ._law_shape => runE (q__law_shape c) 1
  | ._law_rest => runE (q__law_rest c) 1
  | ._law_kept => runE (q__law_kept c) 4
  | ._law_dropped => runE (q__law_dropped c) 2
  | ._law_shaped => runE (q__law_shaped c) 0
  | .law => runE (q_law c) 18
def callN : Nat → Nm → Ta → Res D
  | 0 => fun _ _ => .bad
  | n + 1 => stepN (callN n)
theorem u_is_whole (n : Nat) (s_0 s_1 s_2 : Sl) : callN (n + 1) .is_whole [s_0, s_1, s_2] = finE [s_0, s_1, s_2] ((q_is_whole (callN n)).e [s_0, s_1, s_2]) := rfl
theorem u_is_tuple_of (n : Nat) (s_0 s_1 s_2 : Sl) : callN (n + 1) .is_tuple_of [s_0, s_1, s_2] = finE [s_0, s_1, s_2] ((q_is_tuple_of (callN n)).e [s_0, s_1, s_2]) := rfl
theorem u_is_name (n : Nat) (s_0 : Sl) : callN (n + 1) .is_name [s_0] = finE [s_0] ((q_is_name (callN n)).e [s_0, .un]) := rfl
theorem u_is_text_sign (n : Nat) (s_0 : Sl) : callN (n + 1) .is_text_sign [s_0] = finE [s_0] ((q_is_text_sign (callN n)).e [s_0]) := rfl
theorem u_fits_plain (n : Nat) (s_0 : Sl) : callN (n + 1) .fits_plain [s_0] = finE [s_0] ((q_fits_plain (callN n)).e [s_0, .un]) := rfl
theorem u_is_knot (n : Nat) (s_0 : Sl) : callN (n + 1) .is_knot [s_0] = finE [s_0] ((q_is_knot (callN n)).e [s_0]) := rfl
theorem u_fits_fields (n : Nat) (s_0 : Sl) : callN (n + 1) .fits_fields [s_0] = finE [s_0] ((q_fits_fields (callN n)).e [s_0, .un, .un]) := rfl
theorem u_inner_of (n : Nat) (s_0 : Sl) : callN (n + 1) .inner_of [s_0] = finE [s_0] ((q_inner_of (callN n)).e [s_0, .un]) := rfl
theorem u_fits_value (n : Nat) (s_0 : Sl) : callN (n + 1) .fits_value [s_0] = finE [s_0] ((q_fits_value (callN n)).e [s_0, .un, .un, .un, .un]) := rfl
theorem u_is_doc (n : Nat) (s_0 : Sl) : callN (n + 1) .is_doc [s_0] = finE [s_0] ((q_is_doc (callN n)).e [s_0]) := rfl
theorem u_need_document (n : Nat) (s_0 : Sl) : callN (n + 1) .need_document [s_0] = finE [s_0] ((q_need_document (callN n)).e [s_0]) := rfl
theorem u_are_apart (n : Nat) (s_0 s_1 : Sl) : callN (n + 1) .are_apart [s_0, s_1] = finE [s_0, s_1] ((q_are_apart (callN n)).e [s_0, s_1, .un, .un]) := rfl
theorem u_fits_shape (n : Nat) (s_0 : Sl) : callN (n + 1) .fits_shape [s_0] = finE [s_0] ((q_fits_shape (callN n)).e [s_0, .un, .un, .un, .un, .un]) := rfl
theorem u_rests_of (n : Nat) (s_0 s_1 : Sl) : callN (n + 1) .rests_of [s_0, s_1] = finE [s_0, s_1] ((q_rests_of (callN n)).e [s_0, s_1, .un]) := rfl
theorem u_kept_fields (n : Nat) (s_0 s_1 : Sl) : callN (n + 1) .kept_fields [s_0, s_1] = finE [s_0, s_1] ((q_kept_fields (callN n)).e [s_0, s_1, .un, .un, .un, .un]) := rfl
theorem u_kept_value (n : Nat) (s_0 s_1 : Sl) : callN (n + 1) .kept_value [s_0, s_1] = finE [s_0, s_1] ((q_kept_value (callN n)).e [s_0, s_1, .un]) := rfl
theorem u_left_fields (n : Nat) (s_0 s_1 : Sl) : callN (n + 1) .left_fields [s_0, s_1] = finE [s_0, s_1] ((q_left_fields (callN n)).e [s_0, s_1, .un, .un, .un, .un]) := rfl
theorem u_left_value (n : Nat) (s_0 s_1 : Sl) : callN (n + 1) .left_value [s_0, s_1] = finE [s_0, s_1] ((q_left_value (callN n)).e [s_0, s_1, .un]) := rfl
theorem u_shaped_by (n : Nat) (s_0 s_1 : Sl) : callN (n + 1) .shaped_by [s_0, s_1] = finE [s_0, s_1] ((q_shaped_by (callN n)).e [s_0, s_1]) := rfl
theorem u_shaped (n : Nat) (s_0 s_1 : Sl) : callN (n + 1) .shaped [s_0, s_1] = finE [s_0, s_1] ((q_shaped (callN n)).e [s_0, s_1]) := rfl
theorem u__law_cup (n : Nat) (s_0 : Sl) : callN (n + 1) ._law_cup [s_0] = finF [s_0] ((q__law_cup (callN n)).e [s_0, .un]) := rfl
theorem u__law_roll (n : Nat) (s_0 s_1 : Sl) : callN (n + 1) ._law_roll [s_0, s_1] = finE [s_0, s_1] ((q__law_roll (callN n)).e [s_0, s_1, .un, .un]) := rfl
theorem u__law_some (n : Nat) (s_0 s_1 : Sl) : callN (n + 1) ._law_some [s_0, s_1] = finE [s_0, s_1] ((q__law_some (callN n)).e [s_0, s_1]) := rfl
theorem u__law_value (n : Nat) (s_0 s_1 : Sl) : callN (n + 1) ._law_value [s_0, s_1] = finE [s_0, s_1] ((q__law_value (callN n)).e [s_0, s_1, .un, .un]) := rfl
theorem u__law_drawn_fields (n : Nat) (s_0 s_1 s_2 : Sl) : callN (n + 1) ._law_drawn_fields [s_0, s_1, s_2] = finE [s_0, s_1, s_2] ((q__law_drawn_fields (callN n)).e [s_0, s_1, s_2, .un, .un, .un, .un, .un]) := rfl
theorem u__law_document (n : Nat) (s_0 s_1 : Sl) : callN (n + 1) ._law_document [s_0, s_1] = finE [s_0, s_1] ((q__law_document (callN n)).e [s_0, s_1]) := rfl
theorem u__law_shape (n : Nat) (s_0 : Sl) : callN (n + 1) ._law_shape [s_0] = finE [s_0] ((q__law_shape (callN n)).e [s_0, .un]) := rfl
theorem u__law_rest (n : Nat) (s_0 s_1 : Sl) : callN (n + 1) ._law_rest [s_0, s_1] = finE [s_0, s_1] ((q__law_rest (callN n)).e [s_0, s_1, .un]) := rfl
theorem u__law_kept (n : Nat) (s_0 s_1 : Sl) : callN (n + 1) ._law_kept [s_0, s_1] = finE [s_0, s_1] ((q__law_kept (callN n)).e [s_0, s_1, .un, .un, .un, .un]) := rfl
theorem u__law_dropped (n : Nat) (s_0 s_1 : Sl) : callN (n + 1) ._law_dropped [s_0, s_1] = finE [s_0, s_1] ((q__law_dropped (callN n)).e [s_0, s_1, .un, .un]) := rfl
theorem u__law_shaped (n : Nat) (s_0 s_1 : Sl) : callN (n + 1) ._law_shaped [s_0, s_1] = finE [s_0, s_1] ((q__law_shaped (callN n)).e [s_0, s_1]) := rfl
theorem u_law (n : Nat) (s_0 : Sl) : callN (n + 1) .law [s_0] = finE [s_0] ((q_law (callN n)).e [s_0, .un, .un, .un, .un, .un, .un, .un, .un, .un, .un, .un, .un, .un, .un, .un, .un, .un, .un]) := rfl
end Lw
end

section
set_option maxRecDepth 100000
namespace Lw
open PySem PySem.Spec PyProof.Rows L2 PV
set_option autoImplicit false
theorem r_cup (n : Nat) (ns : List Int) (hl : ns.length ≤ 63) : ∃ a b : Int, callN (n + 1) ._law_cup [.val (.list (ns.map PyData.int))] = .ok (.list [.int a, .int b]) [.val (.list (ns.map PyData.int))] := by
  rw [u__law_cup, q__law_cup]
  have e : ∃ (x : Int) (r : List D), ns.map PyData.int ++ [.int 0] = .int x :: r := by
    cases ns with
    | nil => exact ⟨0, [], rfl⟩
    | cons x xs => exact ⟨x, _, rfl⟩
  obtain ⟨x, r, e⟩ := e
  have e1 : addD (.list (ns.map PyData.int)) (.list [.int 0]) = some (.list (.int x :: r)) := by
    rw [← e]
    exact add_ll _ _ (Nat.le_trans (by rw [List.length_map]; show ns.length + 1 ≤ 64; omega) (sz 64))
  have p : powD (.int 10) (.int 18) = some (.int (10 ^ 18)) := rfl
  simp [e1, sz, p, mul_r, mod_ii, -Int.reducePow]
  by_cases h : 10 ^ 18 ≤ (if x < 0 then -x else x) <;> simp [h, fdiv_ii, sz, mod_ii, mul_r, -Int.reducePow]
theorem r_roll (n : Nat) (a b m : Int) (h0 : 0 < m) (h1 : m < 1000) : ∃ a' b' r : Int, callN (n + 1) ._law_roll [.io [.int a, .int b], .val (.int m)] = .ok (.int r) [.io [.int a', .int b'], .val (.int m)] ∧ 0 ≤ r ∧ r < m := by
  rw [u__law_roll, q__law_roll]
  by_cases h : 0 < a
  · simp [h, mod_ii _ _ h0, fdiv_ii _ _ h0 (by omega)]
    exact ⟨_, _, _, ⟨rfl, rfl, rfl⟩, Int.emod_nonneg _ (by omega), Int.emod_lt_of_pos _ h0⟩
  · have e1 : mulD (.int ((b * 31091 + 8053) % 2147483423)) (.int ((b * 31091 + 8053) % 2147483423 + 257)) = some (.int ((b * 31091 + 8053) % 2147483423 * ((b * 31091 + 8053) % 2147483423 + 257))) := mul_l _ _ (by omega)
    simp [h, mod_ii _ _ h0, mod_ii, fdiv_ii, mul_r, e1]
    exact ⟨_, _, _, ⟨rfl, rfl, rfl⟩, Int.emod_nonneg _ (by omega), Int.emod_lt_of_pos _ h0⟩
/-- one of some things -/
def seqD (l : Bool) (xs : List D) : D := if l then .list xs else .tuple xs
theorem r_some (n : Nat) (a b : Int) (l : Bool) (xs : List D) (h0 : xs ≠ []) (h1 : xs.length < 1000) : ∃ (a' b' : Int) (d : D), callN (n + 2) ._law_some [.io [.int a, .int b], .val (seqD l xs)] = .ok d [.io [.int a', .int b'], .val (seqD l xs)] ∧ d ∈ xs := by
  have h2 : 0 < xs.length := List.length_pos_iff.mpr h0
  obtain ⟨a', b', r, hr, r0, r1⟩ := r_roll n a b xs.length (by omega) (by omega)
  obtain ⟨j, rfl⟩ := Int.eq_ofNat_of_zero_le r0
  have h3 : j < xs.length := by omega
  have e : atI xs (j : Int) = some xs[j] := atI_nat (List.getElem?_eq_getElem h3)
  rw [u__law_some, q__law_some]
  cases l <;> simp [seqD, hr, e] <;> exact ⟨_, _, _, ⟨rfl, rfl, rfl⟩, List.getElem_mem h3⟩
end Lw
end

section
set_option maxRecDepth 100000
namespace Lw
open PySem PySem.Spec PyProof.Rows L2 PV
set_option autoImplicit false
def isWhole (lo hi : Int) : D → Bool
  | .int v => decide (lo ≤ v) && decide (v ≤ hi)
  | _ => false
theorem r_is_whole (n : Nat) (d : D) (lo hi : Int) : callN (n + 1) .is_whole [.val d, .val (.int lo), .val (.int hi)] = .ok (.bool (isWhole lo hi d)) [.val d, .val (.int lo), .val (.int hi)] := by
  rw [u_is_whole, q_is_whole]
  cases d with
  | int v => by_cases h1 : lo ≤ v <;> simp [isWhole, h1]
  | _ => simp [isWhole]
def isTup (lo hi : Int) : D → Bool
  | .tuple v => decide (lo ≤ v.length) && decide ((v.length : Int) ≤ hi)
  | _ => false
theorem r_is_tuple_of (n : Nat) (d : D) (lo hi : Int) : callN (n + 1) .is_tuple_of [.val d, .val (.int lo), .val (.int hi)] = .ok (.bool (isTup lo hi d)) [.val d, .val (.int lo), .val (.int hi)] := by
  rw [u_is_tuple_of, q_is_tuple_of]
  cases d with
  | tuple v => by_cases h1 : lo ≤ v.length <;> simp [isTup, h1]
  | _ => simp [isTup]
theorem r_is_name (n : Nat) (z : Str) (h : nameS z = true) : callN (n + 1) .is_name [.val (.str z)] = .ok (.bool true) [.val (.str z)] := by
  obtain ⟨q, r, e, h1, h2, h3⟩ := nameS_pos h
  have hz : z.length = r.length + 1 := by rw [len_eq, e]; rfl
  have hl : z.length ≤ sizeLine := by have := sz 8; omega
  have e1 := lcE_map (g := kN 1) (e := qOp inD (qVar 1) (qC (.str "abcdefghijklmnopqrstuvwxyz0123456789"))) (vs := [1]) (τ := [.val (.str z), .un]) (ds := signsD z) (acc := [])
    (f := fun d => .bool (decide (chr1 d ∈ signsC))) (fun d m => by
      obtain ⟨s, hs, rfl⟩ := List.mem_map.mp m
      exact ⟨[.val (.str z), .val (.str ⟨#[s]⟩)], rfl, rfl, rfl⟩) (by rw [signs_len]; simpa using hl)
  have e2 : atI (q :: r) 0 = some q := atI_nat (j := 0) rfl
  have e3 : allD [.list ((signsD z).map fun d => .bool (decide (chr1 d ∈ signsC)))] = some (.bool true) := by
    rw [all_map, List.all_eq_true.mpr]
    intro d m
    obtain ⟨s, hs, rfl⟩ := List.mem_map.mp m
    rw [e] at hs
    exact decide_eq_true (h3 s hs)
  have h4 : (r.length : Int) + 1 ≤ 8 := by omega
  have h5 : (1 : Int) ≤ (r.length : Int) + 1 := by omega
  have h6 : decide (q ∈ (Str.ofString "abcdefghijklmnopqrstuvwxyz").cps.toList) = true := decide_eq_true h2
  rw [u_is_name, q_is_name]
  simp only [List.nil_append] at e1
  simp [len_str hl, hz, h4, h5, idx_str hl, e, e2, notin_chr, h6, e1, e3, backT_c, -Array.mem_toList_iff]
theorem r_is_text_sign (n : Nat) (q : Nat) (h : textC q = true) : callN (n + 1) .is_text_sign [.val (.str ⟨#[q]⟩)] = .ok (.bool true) [.val (.str ⟨#[q]⟩)] := by
  have e : ordD [.str ⟨#[q]⟩] = some (.int q) := rfl
  simp [textC] at h
  have a1 : ((37 : Int) == q) = false := by simp; omega
  have a2 : ((39 : Int) == q) = false := by simp; omega
  rw [u_is_text_sign, q_is_text_sign]
  simp [le_sp, le_til, e, notin2i, h, a1, a2, sz]
theorem r_fits_plain (n m : Nat) (v : Val) (h : okV m v) : callN (n + 2) .fits_plain [.val v.toD] = .ok (.bool (!(v.isDoc || v.isLst))) [.val v.toD] := by
  rw [u_fits_plain, q_fits_plain]
  cases v with
  | nul => simp [Val.isDoc, Val.isLst]
  | tru b => simp [Val.isDoc, Val.isLst]
  | num i =>
    unfold okV at h
    have e : isWhole (-1000000000000) 1000000000000 (.int i) = true := by simp [isWhole, h]
    simp [Val.isDoc, Val.isLst, r_is_whole, e]
  | txt z =>
    unfold okV at h
    simp only [textS, Bool.and_eq_true, decide_eq_true_eq, List.all_eq_true] at h
    have hl : z.length ≤ sizeLine := Nat.le_trans h.1 (sz 40)
    have e1 := lcE_map (g := kN 1) (e := qFn 1 (callN (n + 1) .is_text_sign) (zE (qVar 1) zNil)) (vs := [1]) (τ := [.val (.str z), .un]) (ds := signsD z) (acc := [])
      (f := fun d => .bool true) (fun d m => by
        obtain ⟨s, hs, rfl⟩ := List.mem_map.mp m
        refine ⟨[.val (.str z), .val (.str ⟨#[s]⟩)], rfl, rfl, ?_⟩
        simp [r_is_text_sign n s (h.2 s hs)]) (by rw [signs_len]; simpa using hl)
    have e3 : allD [.list ((signsD z).map fun d => .bool true)] = some (.bool true) := by
      rw [all_map (fun _ => true)]
      simp
    have h4 : (z.length : Int) ≤ 40 := by omega
    simp only [List.nil_append] at e1
    simp [Val.isDoc, Val.isLst, len_str hl, h4, e1, e3, backT_c]
  | lst vs => simp [Val.isDoc, Val.isLst, r_is_whole, isWhole]
  | doc vs => simp [Val.isDoc, Val.isLst, r_is_whole, isWhole]
end Lw
end

section
set_option maxRecDepth 100000
namespace Lw
open PySem PySem.Spec PyProof.Rows L2 PV
set_option autoImplicit false
theorem r_is_knot (n : Nat) (w : Str) (xs : List D) (h : xs.length ≤ 16) (hw : w = "list" ∨ w = "doc") : callN (n + 2) .is_knot [.val (.tuple [.str w, .tuple xs])] = .ok (.bool true) [.val (.tuple [.str w, .tuple xs])] := by
  rw [u_is_knot, q_is_knot]
  have h1 : (xs.length : Int) ≤ 16 := by omega
  have h2 : (Str.ofString "list" == w || Str.ofString "doc" == w) = true := by rcases hw with rfl | rfl <;> decide
  simp [r_is_tuple_of, isTup, notin2, sz, h1, h2]
theorem fD_mem {fs : List (Str × Val)} {d : D} (m : d ∈ fs.map fD) : ∃ f ∈ fs, d = .tuple [.str f.1, f.2.toD] := by
  obtain ⟨f, h, rfl⟩ := List.mem_map.mp m
  exact ⟨f, h, rfl⟩
theorem r_fits_fields (n : Nat) (fs : List (Str × Val)) (hl : fs.length ≤ 16) (hn : (fs.map (·.1)).Nodup) (ho : ∀ f ∈ fs, nameS f.1 = true) : callN (n + 2) .fits_fields [.val (.tuple (fs.map fD))] = .ok (.bool true) [.val (.tuple (fs.map fD))] := by
  rw [u_fits_fields, q_fits_fields]
  have e1 := lcE_map (g := kN 1) (e := qAndV (qFn 3 (callN (n + 1) .is_tuple_of) (zE (qVar 1) (zE (qC (.int 2)) (zE (qC (.int 2)) (zNil))))) (qFn 1 (callN (n + 1) .is_name) (zE (qOp idxD (qVar 1) (qC (.int 0))) (zNil)))) (vs := [1]) (τ := [.val (.tuple (fs.map fD)), .un, .un]) (ds := fs.map fD) (acc := [])
    (f := fun d => .bool true) (fun d m => by
      obtain ⟨f, hf, rfl⟩ := fD_mem m
      refine ⟨[.val (.tuple (fs.map fD)), .val (.tuple [.str f.1, f.2.toD]), .un], rfl, rfl, ?_⟩
      simp [r_is_tuple_of, isTup, r_is_name _ _ (ho f hf)]) (by simpa using Nat.le_trans hl (sz 16))
  have e2 := lcE_map (g := kN 1) (e := qOp idxD (qVar 1) (qC (.int 0))) (vs := [1]) (τ := [.val (.tuple (fs.map fD)), .un, .un]) (ds := fs.map fD) (acc := [])
    (f := fun d => match d with | .tuple (a :: _) => a | _ => .none) (fun d m => by
      obtain ⟨f, hf, rfl⟩ := fD_mem m
      refine ⟨[.val (.tuple (fs.map fD)), .val (.tuple [.str f.1, f.2.toD]), .un], rfl, rfl, ?_⟩
      simp) (by simpa using Nat.le_trans hl (sz 16))
  have e3 : allD [.list ((fs.map fD).map fun d => .bool true)] = some (.bool true) := by
    rw [all_map (fun _ => true)]
    simp
  have e4 : (fs.map fD).map (fun d => match d with | .tuple (a :: _) => a | _ => PyData.none) = (fs.map (·.1)).map PyData.str := by
    rw [List.map_map, List.map_map]; rfl
  have e5 := lenSet_nodup (fs.map (·.1)) (by rw [List.length_map]; omega) hn
  simp only [List.nil_append] at e1 e2
  rw [e4] at e2
  simp only [List.length_map] at e5
  simp [-List.map_map, -Array.mem_toList_iff, e1, e3, backT_c, e2, e5]
theorem r_inner_of (n m : Nat) (v : Val) (h : okV m v) (hk : (v.isDoc || v.isLst) = true) : callN (n + 1) .inner_of [.val v.toD] = .ok (.list (v.inner.map Val.toD)) [.val v.toD] := by
  rw [u_inner_of, q_inner_of]
  cases v with
  | lst vs => simp [show (Str.ofString "list" == Str.ofString "doc") = false by decide, Val.inner]
  | doc fs =>
    cases m with
    | zero => unfold okV at h; exact h.elim
    | succ m =>
    unfold okV at h
    have e2 := lcE_map (g := kN 1) (e := qOp idxD (qVar 1) (qC (.int 1))) (vs := [1]) (τ := [.val (Val.doc fs).toD, .un]) (ds := fs.map fD) (acc := [])
      (f := fun d => match d with | .tuple [_, a] => a | _ => .none) (fun d m => by
        obtain ⟨f, hf, rfl⟩ := fD_mem m
        refine ⟨[.val (Val.doc fs).toD, .val (.tuple [.str f.1, f.2.toD])], rfl, rfl, ?_⟩
        simp) (by simpa using Nat.le_trans h.1 (sz 16))
    simp only [List.nil_append, toD_doc] at e2
    simp [show (Str.ofString "doc" == Str.ofString "doc") = true by decide, Val.inner, e2, backT_c]
    intro z x m
    rfl
  | _ => simp [Val.isDoc, Val.isLst] at hk
end Lw
end

section
set_option maxRecDepth 100000
namespace Lw
open PySem PySem.Spec PyProof.Rows L2 PV
set_option autoImplicit false
/-! ### fits_value is true of values -/
def pairV (p : Nat × Val) : D := .tuple [p.2.toD, .int (7 - (p.1 : Int))]
def lineV (l : List (Nat × Val)) : List D := l.reverse.map pairV
def sizeL (l : List (Nat × Val)) : Nat := (l.map fun p => sizeV p.1 p.2).sum
theorem sizeV_pos : ∀ (n : Nat) (v : Val), 0 < sizeV n v
  | n, .nul => by simp [sizeV]
  | n, .tru _ => by simp [sizeV]
  | n, .num _ => by simp [sizeV]
  | n, .txt _ => by simp [sizeV]
  | 0, .lst _ => by simp [sizeV]
  | 0, .doc _ => by simp [sizeV]
  | n + 1, .lst _ => by simp [sizeV]; omega
  | n + 1, .doc _ => by simp [sizeV]; omega
theorem sum_le {α : Type} (f : α → Nat) (b : Nat) : ∀ l : List α, (∀ x ∈ l, f x ≤ b) → (l.map f).sum ≤ l.length * b
  | [], _ => by simp
  | x :: l, h => by
    have := sum_le f b l fun x m => h x (List.mem_cons_of_mem _ m)
    have := h x List.mem_cons_self
    rw [List.map_cons, List.sum_cons, List.length_cons, Nat.add_mul]
    omega
theorem sizeV_le : ∀ (n : Nat) (v : Val), okV n v → sizeV n v ≤ 17 ^ n
  | n, .nul, _ => by simp only [sizeV]; exact Nat.one_le_pow _ _ (by decide)
  | n, .tru _, _ => by simp only [sizeV]; exact Nat.one_le_pow _ _ (by decide)
  | n, .num _, _ => by simp only [sizeV]; exact Nat.one_le_pow _ _ (by decide)
  | n, .txt _, _ => by simp only [sizeV]; exact Nat.one_le_pow _ _ (by decide)
  | 0, .lst _, _ => by simp [sizeV]
  | 0, .doc _, _ => by simp [sizeV]
  | n + 1, .lst vs, h => by
    unfold okV at h
    have h1 := sum_le (sizeV n) (17 ^ n) vs fun v m => sizeV_le n v (h.2 v m)
    have h2 : vs.length * 17 ^ n ≤ 16 * 17 ^ n := Nat.mul_le_mul_right _ h.1
    have h3 : 1 ≤ 17 ^ n := Nat.one_le_pow _ _ (by decide)
    simp only [sizeV]
    rw [Nat.pow_succ]
    omega
  | n + 1, .doc fs, h => by
    unfold okV at h
    have h1 := sum_le (fun f : Str × Val => sizeV n f.2) (17 ^ n) fs fun v m => sizeV_le n v.2 (h.2.2 v m).2
    have h2 : fs.length * 17 ^ n ≤ 16 * 17 ^ n := Nat.mul_le_mul_right _ h.1
    have h3 : 1 ≤ 17 ^ n := Nat.one_le_pow _ _ (by decide)
    simp only [sizeV]
    rw [Nat.pow_succ]
    omega
theorem knotV {k : Nat} {v : Val} (h : okV k v) (hk : (v.isDoc || v.isLst) = true) : ∃ j, k = j + 1 ∧ v.inner.length ≤ 16 ∧ (∀ x ∈ v.inner, okV j x) ∧ sizeV k v = 1 + (v.inner.map (sizeV j)).sum := by
  cases v with
  | lst vs =>
    cases k with
    | zero => unfold okV at h; exact h.elim
    | succ j => unfold okV at h; exact ⟨j, rfl, h.1, h.2, rfl⟩
  | doc fs =>
    cases k with
    | zero => unfold okV at h; exact h.elim
    | succ j =>
      unfold okV at h
      refine ⟨j, rfl, by simpa [Val.inner] using h.1, fun x m => ?_, by simp [sizeV, Val.inner, List.map_map]; rfl⟩
      obtain ⟨f, hf, rfl⟩ := List.mem_map.mp m
      exact (h.2.2 f hf).2
  | _ => simp [Val.isDoc, Val.isLst] at hk
theorem knotD {k : Nat} {v : Val} (h : okV k v) (hk : (v.isDoc || v.isLst) = true) (n : Nat) : ∃ w xs, v.toD = .tuple [.str w, .tuple xs] ∧ xs.length ≤ 16 ∧ (w = "list" ∨ w = "doc") ∧
    (w = "doc" → callN (n + 2) .fits_fields [.val (.tuple xs)] = .ok (.bool true) [.val (.tuple xs)]) := by
  cases v with
  | lst vs =>
    cases k with
    | zero => unfold okV at h; exact h.elim
    | succ j => unfold okV at h; exact ⟨"list", _, toD_lst vs, by simpa using h.1, .inl rfl, fun e => absurd e (by decide)⟩
  | doc fs =>
    cases k with
    | zero => unfold okV at h; exact h.elim
    | succ j => unfold okV at h; exact ⟨"doc", _, toD_doc fs, by simpa using h.1, .inr rfl, fun e => r_fits_fields n fs h.1 h.2.1 fun f hf => (h.2.2 f hf).1⟩
  | _ => simp [Val.isDoc, Val.isLst] at hk
theorem line_last (p : Nat × Val) (l : List (Nat × Val)) : (lineV (p :: l))[(lineV (p :: l)).length - 1]? = some (pairV p) := by
  simp [lineV]
theorem line_drop (p : Nat × Val) (l : List (Nat × Val)) : (lineV (p :: l)).dropLast = lineV l := by
  simp [lineV]
theorem line_more (new l : List (Nat × Val)) : lineV l ++ new.map pairV = lineV (new.reverse ++ l) := by
  simp [lineV]
theorem line_nil (l : List (Nat × Val)) : (lineV l).isEmpty = l.isEmpty := by
  cases l <;> simp [lineV]
/-- the row never gets long -/
def stk : List (Nat × Val) → Prop
  | [] => True
  | p :: l => l.length + 1 + 16 * p.1 ≤ 97 ∧ stk l
theorem stk_len : ∀ {l : List (Nat × Val)}, stk l → l.length ≤ 97
  | [], _ => Nat.zero_le _
  | p :: l, h => by have := h.1; rw [List.length_cons]; omega
theorem stk_app (j : Nat) {l : List (Nat × Val)} (h : stk l) : ∀ (new : List (Nat × Val)), (∀ p ∈ new, p.1 = j) → new.length + l.length + 16 * j ≤ 97 → stk (new ++ l)
  | [], _, _ => h
  | p :: new, hp, hl => by
    rw [List.length_cons] at hl
    refine ⟨?_, stk_app j h new (fun p m => hp p (List.mem_cons_of_mem _ m)) (by omega)⟩
    have e : (new ++ l).length = new.length + l.length := List.length_append
    have := hp p List.mem_cons_self
    show (new ++ l).length + 1 + 16 * p.1 ≤ 97
    omega
theorem r_fits_value (n : Nat) (v : Val) (h : okV 6 v) : callN (n + 4) .fits_value [.val v.toD] = .ok (.bool true) [.val v.toD] := by
  rw [u_fits_value, q_fits_value]
  let I : Nat → Ta → Prop := fun m τ => ∃ l s2 s3 s4, τ = [.val v.toD, .own (lineV l), s2, s3, s4] ∧ slotV s2 = true ∧ slotV s3 = true ∧ slotV s4 = true ∧ (∀ p ∈ l, p.1 ≤ 6 ∧ okV p.1 p.2) ∧ stk l ∧ sizeL l ≤ m
  have start : I (17 ^ 6) [.val v.toD, .own [.tuple [v.toD, .int 1]], .un, .un, .un] :=
    ⟨[(6, v)], .un, .un, .un, rfl, rfl, rfl, rfl, fun p m => by rw [List.mem_singleton.mp m]; exact ⟨Nat.le_refl _, h⟩, ⟨show 0 + 1 + 16 * 6 ≤ 97 by decide, trivial⟩, by simpa [sizeL] using sizeV_le 6 v h⟩
  have W := whileE_inv (t := qTru (qPk neD 1 (qLst (qNil)))) (b := (tCons (tAsg (qPop 1) (kTup 2 (kCons (kN 2) (kCons (kN 3) (kNil)))))
  (tIf (qNot (qTru (qFn 1 (callN (n + 3) .fits_plain) (zE (qVar 2) (zNil))))) (tCons (tIf (qOr (qTru (qOp gtD (qVar 3) (qC (.int 6)))) (qOr (qNot (qTru (qFn 1 (callN (n + 3) .is_knot) (zE (qVar 2) (zNil))))) (qAnd (qTru (qOp eqD (qOp idxD (qVar 2) (qC (.int 0))) (qC (.str "doc")))) (qNot (qTru (qFn 1 (callN (n + 3) .fits_fields) (zE (qOp idxD (qVar 2) (qC (.int 1))) (zNil)))))))) (tRet (qC (.bool false))) (tNil))
  (tExtF 1 (qLC (qL (qFn 1 (callN (n + 3) .inner_of) (zE (qVar 2) (zNil)))) (kN 4) (qYes) (qTup (qCons (qVar 4) (qCons (qOp addD (qVar 3) (qC (.int 1))) (qNil)))) [4]))) (tNil)))) I 1000000000000 (17 ^ 6) _ (by decide) start (by
    rintro m τ ⟨l, s2, s3, s4, rfl, v2, v3, v4, hp, hm1, hm2⟩
    cases l with
    | nil =>
      left
      refine ⟨[.val v.toD, .own (lineV []), s2, s3, s4], ?_, [], s2, s3, s4, rfl, v2, v3, v4, (fun p m => nomatch m), trivial, Nat.le_refl _⟩
      simp [ne_nil, line_nil, flat]
    | cons p l =>
      right
      obtain ⟨k, x⟩ := p
      obtain ⟨hk, hx⟩ := hp (k, x) List.mem_cons_self
      have hp' : ∀ p ∈ l, p.1 ≤ 6 ∧ okV p.1 p.2 := fun p m => hp p (List.mem_cons_of_mem _ m)
      simp only at hk hx
      have hs : sizeL ((k, x) :: l) = sizeV k x + sizeL l := rfl
      have hpos := sizeV_pos k x
      have e2 := okSetb_q (r := [s3, s4]) v2
      have e3 := okSetb_q (r := [s4]) v3
      have e4 := isValb_q v4
      refine ⟨[.val v.toD, .own (lineV ((k, x) :: l)), s2, s3, s4], ?_⟩
      by_cases hkn : (x.isDoc || x.isLst) = true
      · obtain ⟨j, rfl, hi1, hi2, hi3⟩ := knotV hx hkn
        obtain ⟨w, xs, hd, hl, hw, hf⟩ := knotD hx hkn (n + 1)
        have hpl : callN (n + 3) .fits_plain [.val x.toD] = .ok (.bool false) [.val x.toD] := by rw [r_fits_plain (n + 1) _ x hx, hkn]; rfl
        have hkt : callN (n + 3) .is_knot [.val x.toD] = .ok (.bool true) [.val x.toD] := by rw [hd]; exact r_is_knot (n + 1) w xs hl hw
        have hin := r_inner_of (n + 2) _ x hx hkn
        have hlen := stk_len hm1
        rw [List.length_cons] at hlen
        have e5 : (lineV l).length = l.length := by simp [lineV]
        have e6 : (lineV l).length + x.inner.length ≤ sizeLine := by rw [e5]; exact Nat.le_trans (by omega : _ ≤ 200) (sz 200)
        have e7 : ¬ (6 : Int) < 7 - ((j : Int) + 1) := by omega
        have e8 := lcE_map (g := kN 4) (e := qTup (qCons (qVar 4) (qCons (qOp addD (qVar 3) (qC (.int 1))) (qNil)))) (vs := [4]) (τ := [.val v.toD, .own (lineV l), .val x.toD, .val (.int (7 - ((j : Int) + 1))), .un]) (ds := x.inner.map Val.toD) (acc := [])
          (f := fun d => .tuple [d, .int (7 - (j : Int))]) (fun d m => ⟨[.val v.toD, .own (lineV l), .val x.toD, .val (.int (7 - ((j : Int) + 1))), .val d], rfl, rfl, by
            simp [sz]; omega⟩) (by simpa using Nat.le_trans hi1 (sz 16))
        have e9 : ((x.inner.map Val.toD).map fun d => PyData.tuple [d, .int (7 - (j : Int))]) = (x.inner.map fun y => (j, y)).map pairV := by rw [List.map_map, List.map_map]; rfl
        rw [e9] at e8
        simp only [List.nil_append] at e8
        refine ⟨[.val v.toD, .own (lineV ((x.inner.map fun y => (j, y)).reverse ++ l)), .val x.toD, .val (.int (7 - ((j : Int) + 1))), s4], sizeL ((x.inner.map fun y => (j, y)).reverse ++ l), ?_, .inl ?_, ?_, _, _, _, _, rfl, rfl, rfl, v4, ?_, ?_, Nat.le_refl _⟩
        · simp [ne_nil, line_nil, flat]
        · have e10 := line_last (j + 1, x) l
          have e11 := line_drop (j + 1, x) l
          simp only [hd] at hpl hkt hin e8 ⊢
          rcases hw with rfl | rfl
          · have q : (Str.ofString "list" == Str.ofString "doc") = false := by decide
            simp [e10, e11, pairV, e2, e3, hpl, hkt, hin, e7, e4, e8, backT_c, hd, q, e6, -List.map_map, -List.map_reverse]
            exact line_more _ _
          · have q := hf rfl
            simp [e10, e11, pairV, e2, e3, hpl, hkt, hin, e7, e4, e8, backT_c, hd, q, e6, -List.map_map, -List.map_reverse]
            exact line_more _ _
        · have e : sizeL ((x.inner.map fun y => (j, y)).reverse ++ l) = (x.inner.map (sizeV j)).sum + sizeL l := by
            simp [sizeL, List.map_reverse, List.map_map, List.sum_reverse]; rfl
          omega
        · intro p m
          rcases List.mem_append.mp m with m | m
          · obtain ⟨y, hy, rfl⟩ := List.mem_map.mp (List.mem_reverse.mp m)
            exact ⟨by simp; omega, hi2 y hy⟩
          · exact hp' p m
        · refine stk_app j hm1.2 _ (fun p m => ?_) ?_
          · obtain ⟨y, hy, rfl⟩ := List.mem_map.mp (List.mem_reverse.mp m)
            rfl
          · have := hm1.1
            simp at this ⊢
            omega
      · have hkn : (x.isDoc || x.isLst) = false := by simpa using hkn
        have hpl : callN (n + 3) .fits_plain [.val x.toD] = .ok (.bool true) [.val x.toD] := by rw [r_fits_plain (n + 1) _ x hx, hkn]; rfl
        have e10 := line_last (k, x) l
        have e11 := line_drop (k, x) l
        refine ⟨[.val v.toD, .own (lineV l), .val x.toD, .val (.int (7 - (k : Int))), s4], sizeL l, ?_, .inl ?_, by omega, _, _, _, _, rfl, rfl, rfl, v4, hp', hm1.2, Nat.le_refl _⟩
        · simp [ne_nil, line_nil, flat]
        · simp [e10, e11, pairV, e2, e3, hpl])
  obtain ⟨τ', m', h1, h2, τ0, m0, h3, h4⟩ := W
  obtain ⟨l, s2, s3, s4, rfl, _⟩ := h2
  simp [sz, h1]
end Lw
end

section
set_option maxRecDepth 100000
namespace Lw
open PySem PySem.Spec PyProof.Rows L2 PV
set_option autoImplicit false
/-! ### values drawn -/
theorem r_someL (n : Nat) (a b : Int) (xs : List D) (h0 : xs ≠ []) (h1 : xs.length < 1000) : ∃ (a' b' : Int) (d : D), callN (n + 2) ._law_some [.io [.int a, .int b], .val (.list xs)] = .ok d [.io [.int a', .int b'], .val (.list xs)] ∧ d ∈ xs := r_some n a b true xs h0 h1
/-- what a drawing def hands back, whatever is rolled -/
def Drawn (N : Nat) (f : Nm) (args : Ta) (G : D → Prop) : Prop := ∀ a b : Int, ∃ (a' b' : Int) (d : D), callN N f (.io [.int a, .int b] :: args) = .ok d (.io [.int a', .int b'] :: args) ∧ G d
def namesL : List Str := ["a", "b", "c", "d1"]
theorem namesL_nodup : namesL.Nodup := by decide +kernel
def GF (n : Nat) (m : Nat) (d : D) : Prop := ∃ fs : List (Str × Val), d = .tuple (fs.map fD) ∧ fs.length ≤ m ∧ (fs.map (·.1)).Nodup ∧ (∀ f ∈ fs, f.1 ∈ namesL) ∧ ∀ f ∈ fs, smV n f.2
def GV (n : Nat) (d : D) : Prop := ∃ v : Val, d = v.toD ∧ smV n v
theorem v_some {n N : Nat} {L : List D} (hN : 2 ≤ N) (h : L.all plainB = true) (h0 : L ≠ []) (h1 : L.length < 1000) : Drawn N ._law_some [.val (.list L)] (GV n) := by
  intro a b
  obtain ⟨M, rfl⟩ : ∃ M, N = M + 2 := ⟨N - 2, by omega⟩
  obtain ⟨a', b', d, e, m⟩ := r_someL M a b L h0 h1
  obtain ⟨v, e2, h2⟩ := plainL h m
  exact ⟨a', b', d, e, v, e2, h2 n⟩
theorem fields_of (n : Nat) (N : Nat) (hV : ∀ M, 2 * n + 3 ≤ M → Drawn M ._law_value [.val (.int (n : Nat))] (GV n)) (hN : 2 * n + 4 ≤ N) (k : Nat) (hk : k ≤ 3) : Drawn N ._law_drawn_fields [.val (.int (n : Nat)), .val (.int (k : Nat))] (GF n k) := by
  intro a b
  obtain ⟨M, rfl⟩ : ∃ M, N = M + 1 := ⟨N - 1, by omega⟩
  rw [u__law_drawn_fields, q__law_drawn_fields]
  let S : Nat → Ta → Prop := fun i τ => ∃ (a b : Int) (fs : List (Str × Val)) (names : List Str) (s5 s6 s7 : Sl), τ = [.io [.int a, .int b], .val (.int (n : Nat)), .val (.int (k : Nat)), .val (.tuple (fs.map fD)), .val (.list (names.map .str)), s5, s6, s7] ∧
    slotV s5 = true ∧ slotV s6 = true ∧ slotV s7 = true ∧ fs.length = i ∧ (fs.map (·.1) ++ names).Perm namesL ∧ ∀ f ∈ fs, smV n f.2
  have W := forE_fold (g := kN 5) (b := (tCons (tAsg (qFn 2 (callN M ._law_some) (zS 0 (zE (qVar 4) (zNil)))) (kN 6))
  (tCons (tSetL 4 (qLC (qL (qVar 4)) (kN 7) (qTru (qOp neD (qVar 7) (qVar 6))) (qVar 7) [7]))
  (tAsg (qOp addD (qVar 3) (qTup (qCons (qTup (qCons (qVar 6) (qCons (qFn 2 (callN M ._law_value) (zS 0 (zE (qVar 1) (zNil)))) (qNil)))) (qNil)))) (kN 3))))) S (rngD 0 k) 0 [.io [.int a, .int b], .val (.int (n : Nat)), .val (.int (k : Nat)), .val (.tuple []), .val (.list [.str "a", .str "b", .str "c", .str "d1"]), .un, .un, .un] ⟨a, b, [], namesL, .un, .un, .un, rfl, rfl, rfl, rfl, rfl, .refl _, fun f m => nomatch m⟩ (by
    rintro j d hd τ ⟨a, b, fs, names, s5, s6, s7, rfl, v5, v6, v7, hl, hp, hg⟩
    have hj : j < k := by
      have := (List.getElem?_eq_some_iff.mp hd).1
      simpa using this
    have hlen : (fs.map (·.1) ++ names).length = 4 := hp.length_eq
    rw [List.length_append, List.length_map] at hlen
    obtain ⟨M1, rfl⟩ : ∃ M1, M = M1 + 2 := ⟨M - 2, by omega⟩
    obtain ⟨a1, b1, z, e1, m1⟩ := r_someL M1 a b (names.map .str) (by intro h; have := congrArg List.length h; simp at this; subst this; simp at hlen; omega) (by rw [List.length_map]; omega)
    obtain ⟨z, hz, rfl⟩ := List.mem_map.mp m1
    obtain ⟨a2, b2, d2, e2, v, rfl, hv⟩ := hV (M1 + 2) (by omega) a1 b1
    have hnd : (fs.map (·.1) ++ names).Nodup := hp.nodup_iff.mpr namesL_nodup
    have hnn : names.Nodup := (List.nodup_append.mp hnd).2.1
    have e3 := lcE_pure (g := kN 7) (t := qTru (qOp neD (qVar 7) (qVar 6))) (e := qVar 7) (vs := [7]) (τ := [.io [.int a1, .int b1], .val (.int (n : Nat)), .val (.int (k : Nat)), .val (.tuple (fs.map fD)), .val (.list (names.map .str)), .val d, .val (.str z), .un]) (ds := names.map .str) (acc := [])
      (p := fun d => match d with | .str y => !(y == z) | _ => false) (f := fun d => d) (fun d m => by
        obtain ⟨y, hy, rfl⟩ := List.mem_map.mp m
        exact ⟨_, rfl, rfl, rfl, fun _ => rfl⟩) (by simp; exact Nat.le_trans (by omega) (sz 4))
    rw [bool_map_filter names PyData.str _ (fun y => !(y == z)) (fun _ _ => rfl), List.map_id'' (fun _ => rfl), List.nil_append] at e3
    have e4 : names.filter (fun y => !(y == z)) = names.erase z := by
      rw [List.Nodup.erase_eq_filter hnn]
      congr 1
    rw [e4] at e3
    have e5 : addD (.tuple (fs.map fD)) (.tuple [.tuple [.str z, v.toD]]) = some (.tuple ((fs ++ [(z, v)]).map fD)) := by
      rw [add_tt _ _ (by simp; exact Nat.le_trans (by omega) (sz 10)), List.map_append]; rfl
    refine ⟨[.io [.int a2, .int b2], .val (.int (n : Nat)), .val (.int (k : Nat)), .val (.tuple ((fs ++ [(z, v)]).map fD)), .val (.list ((names.erase z).map .str)), .val d, .val (.str z), s7], .inl ?_, a2, b2, fs ++ [(z, v)], names.erase z, _, _, _, rfl, rfl, rfl, v7, by simp; omega, ?_, ?_⟩
    · have o5 := okSetb_q (r := [s6, s7]) v5
      have o6 := okSetb_q (r := [s7]) v6
      have o7 := isValb_q v7
      simp [o5, o6, o7, e1, e2, e3, e5, backT_c, sz, -List.map_append]
    · rw [List.map_append, List.append_assoc]
      exact (List.Perm.append_left _ (List.perm_cons_erase hz).symm).trans hp
    · intro f m
      rcases List.mem_append.mp m with m | m
      · exact hg f m
      · rw [List.mem_singleton.mp m]; exact hv)
  obtain ⟨τ', h1, a', b', fs, names, s5, s6, s7, rfl, _, _, _, hl, hp, hg⟩ := W
  have hr : rng (k : Nat) = true := rng_of (by omega) (by omega)
  have hnd : (fs.map (·.1) ++ names).Nodup := hp.nodup_iff.mpr namesL_nodup
  refine ⟨a', b', .tuple (fs.map fD), ?_, fs, rfl, by simp at hl; omega, (List.nodup_append.mp hnd).1, fun f m => hp.mem_iff.mp (List.mem_append_left _ (List.mem_map_of_mem m)), hg⟩
  simp [sz, hr, h1]
end Lw
end

section
set_option maxRecDepth 100000
namespace Lw
open PySem PySem.Spec PyProof.Rows L2 PV
set_option autoImplicit false
theorem d_roll {N : Nat} (hN : 1 ≤ N) (m : Int) (h0 : 0 < m) (h1 : m < 1000) : Drawn N ._law_roll [.val (.int m)] (fun d => ∃ r : Nat, d = .int r ∧ (r : Int) < m) := by
  intro a b
  obtain ⟨M, rfl⟩ : ∃ M, N = M + 1 := ⟨N - 1, by omega⟩
  obtain ⟨a', b', r, e, r0, r1⟩ := r_roll M a b m h0 h1
  obtain ⟨j, rfl⟩ := Int.eq_ofNat_of_zero_le r0
  exact ⟨a', b', _, e, j, rfl, r1⟩
theorem pow12 : powD (.int 10) (.int 12) = some (.int 1000000000000) := rfl
theorem v_value : ∀ n N : Nat, 2 * n + 3 ≤ N → Drawn N ._law_value [.val (.int (n : Nat))] (GV n) := by
  intro n
  induction n with
  | zero =>
    intro N hN a b
    obtain ⟨M, rfl⟩ : ∃ M, N = M + 1 := ⟨N - 1, by omega⟩
    obtain ⟨a1, b1, _, e1, r, rfl, hr⟩ := d_roll (N := M) (by omega) 7 (by decide) (by decide) a b
    obtain ⟨a2, b2, d2, e2, g2⟩ := v_some (n := 0) (N := M) (L := [.int 0, .int 1, .int 2, .int 3, .int 5, .int 7, .int (-1), .int 10, .int 1000000000000]) (by omega) (by decide +kernel) (by simp) (by simp) a1 b1
    obtain ⟨a3, b3, d3, e3, g3⟩ := v_some (n := 0) (N := M) (L := [.none, .bool true, .bool false]) (by omega) (by decide +kernel) (by simp) (by simp) a1 b1
    obtain ⟨a4, b4, d4, e4, g4⟩ := v_some (n := 0) (N := M) (L := [.str "", .str "a", .str "b", .str "ab", .str "B 7", .str "~"]) (by omega) (by decide +kernel) (by simp) (by simp) a1 b1
    rw [u__law_value, q__law_value]
    by_cases h4 : r < 4
    · exact ⟨a2, b2, d2, by simp [e1, e2, h4, pow12, sz, show (r : Int) < 4 by omega], g2⟩
    · by_cases h5 : r = 4
      · subst h5
        exact ⟨a3, b3, d3, by simp [e1, e3, sz], g3⟩
      · exact ⟨a4, b4, d4, by simp [e1, e4, sz, show ¬ (r : Int) < 4 by omega, show (r : Int) < 7 by omega, show ((r : Int) == 4) = false by simp; omega], g4⟩
  | succ n ih =>
    intro N hN a b
    obtain ⟨M, rfl⟩ : ∃ M, N = M + 1 := ⟨N - 1, by omega⟩
    obtain ⟨a1, b1, _, e1, r, rfl, hr⟩ := d_roll (N := M) (by omega) 12 (by decide) (by decide) a b
    obtain ⟨a2, b2, d2, e2, g2⟩ := v_some (n := n + 1) (N := M) (L := [.int 0, .int 1, .int 2, .int 3, .int 5, .int 7, .int (-1), .int 10, .int 1000000000000]) (by omega) (by decide +kernel) (by simp) (by simp) a1 b1
    obtain ⟨a3, b3, d3, e3, g3⟩ := v_some (n := n + 1) (N := M) (L := [.none, .bool true, .bool false]) (by omega) (by decide +kernel) (by simp) (by simp) a1 b1
    obtain ⟨a4, b4, d4, e4, g4⟩ := v_some (n := n + 1) (N := M) (L := [.str "", .str "a", .str "b", .str "ab", .str "B 7", .str "~"]) (by omega) (by decide +kernel) (by simp) (by simp) a1 b1
    have hn : (0 : Int) < ((n + 1 : Nat) : Int) := by omega
    have hn' : ((n + 1 : Nat) : Int) - 1 = (n : Nat) := by omega
    have h0 : decide ((0 : Int) < ((n + 1 : Nat) : Int)) = true := decide_eq_true hn
    generalize hk : (((n + 1 : Nat) : Int)) = k at *
    rw [u__law_value, q__law_value]
    by_cases h4 : r < 4
    · exact ⟨a2, b2, d2, by simp [h0, e1, e2, h4, pow12, sz, show (r : Int) < 4 by omega], g2⟩
    by_cases h5 : r = 4
    · subst h5
      exact ⟨a3, b3, d3, by simp [h0, e1, e3, sz], g3⟩
    by_cases h7 : r < 7
    · exact ⟨a4, b4, d4, by simp [h0, e1, e4, sz, show ¬ (r : Int) < 4 by omega, show (r : Int) < 7 by omega, show ((r : Int) == 4) = false by simp; omega], g4⟩
    by_cases h10 : r < 10
    · obtain ⟨a5, b5, _, e5, m, rfl, hm⟩ := d_roll (N := M) (by omega) 4 (by decide) (by decide) a1 b1
      have W := lcE_inv (g := kN 3) (e := qFn 2 (callN M ._law_value) (zS 0 (zE (qOp subD (qVar 1) (qC (.int 1))) (zNil)))) (vs := [3]) (fun acc τ => (∃ a b : Int, τ = [.io [.int a, .int b], .val (.int k), .val (.int r), .un]) ∧ ∀ d ∈ acc, GV n d) (rngD 0 m) [] [.io [.int a5, .int b5], .val (.int k), .val (.int r), .un] (by simp; exact Nat.le_trans (by omega) (sz 4)) ⟨⟨a5, b5, rfl⟩, fun d m => nomatch m⟩ (by
        rintro d hd acc τ ⟨⟨a, b, rfl⟩, ha⟩
        obtain ⟨a', b', d', e, g⟩ := ih M (by omega) a b
        refine ⟨[.io [.int a, .int b], .val (.int k), .val (.int r), .val d], [.io [.int a', .int b'], .val (.int k), .val (.int r), .val d], d', rfl, by simp [hn', e], ⟨a', b', rfl⟩, fun x m => ?_⟩
        rcases List.mem_append.mp m with m | m
        · exact ha x m
        · rw [List.mem_singleton.mp m]; exact g)
      obtain ⟨acc, τ', h1, ⟨⟨a6, b6, rfl⟩, hg⟩, hl⟩ := W
      obtain ⟨vs, rfl, hv⟩ := toDs_of (P := smV n) fun d m => hg d m
      have hr2 : rng (m : Nat) = true := rng_of (by omega) (by omega)
      refine ⟨a6, b6, (Val.lst vs).toD, ?_, .lst vs, rfl, ?_⟩
      · simp [h0, e1, e5, hr2, h1, sz, backT_c, show ¬ (r : Int) < 4 by omega, show ¬ (r : Int) < 7 by omega, show (r : Int) < 10 by omega]
      · unfold smV
        simp at hl
        exact ⟨by omega, hv⟩
    · obtain ⟨a5, b5, _, e5, m, rfl, hm⟩ := d_roll (N := M) (by omega) 3 (by decide) (by decide) a1 b1
      obtain ⟨a6, b6, d6, e6, fs, rfl, hl, hnd, hnm, hg⟩ := fields_of n M ih (by omega) m (by omega) a5 b5
      refine ⟨a6, b6, (Val.doc fs).toD, ?_, .doc fs, rfl, ?_⟩
      · simp [h0, e1, e5, e6, hn', sz, show ¬ (r : Int) < 4 by omega, show ¬ (r : Int) < 7 by omega, show ¬ (r : Int) < 10 by omega]
      · unfold smV
        exact ⟨by omega, hnd, fun f m => ⟨List.all_eq_true.mp (show namesL.all nameS = true by decide +kernel) _ (hnm f m), hg f m⟩⟩
theorem v_fields (n N k : Nat) (hk : k ≤ 3) (hN : 2 * n + 4 ≤ N) : Drawn N ._law_drawn_fields [.val (.int (n : Nat)), .val (.int (k : Nat))] (GF n k) := fields_of n N (v_value n) hN k hk
end Lw
end

section
set_option maxRecDepth 100000
namespace Lw
open PySem PySem.Spec PyProof.Rows L2 PV
set_option autoImplicit false
theorem doc_ne : (Str.ofString "list" == Str.ofString "doc") = false := by decide +kernel
theorem doc_ne' : (Str.ofString "doc" == Str.ofString "list") = false := by decide +kernel
theorem r_is_doc (n : Nat) (v : Val) : callN (n + 1) .is_doc [.val v.toD] = .ok (.bool v.isDoc) [.val v.toD] := by
  rw [u_is_doc, q_is_doc]
  cases v <;> simp [Val.isDoc, doc_ne]
theorem r_rests (n : Nat) (l : Bool) (ps : Paths) (z : Str) (hp : ∀ p ∈ ps, p ≠ []) (hl : ps.length ≤ 9) : callN (n + 1) .rests_of [.val (seqD l (ps.map pathD)), .val (.str z)] = .ok (.list ((restsP ps z).map pathD)) [.val (seqD l (ps.map pathD)), .val (.str z)] := by
  rw [u_rests_of, q_rests_of]
  have e1 := lcE_pure (g := kN 2) (t := qTru (qOp eqD (qOp idxD (qVar 2) (qC (.int 0))) (qVar 1))) (e := qSlice (qVar 2) (qPS (qC (.int 1))) qPN) (vs := [2]) (τ := [.val (seqD l (ps.map pathD)), .val (.str z), .un]) (ds := ps.map pathD) (acc := [])
    (p := headQ z) (f := tailD) (fun d m => by
      obtain ⟨p, hq, rfl⟩ := List.mem_map.mp m
      cases p with
      | nil => exact absurd rfl (hp _ hq)
      | cons y r =>
        refine ⟨_, rfl, rfl, ?_, fun _ => ?_⟩
        · simp [pathD, headQ]
        · simp [pathD, cutT, tailD]) (by simp; exact Nat.le_trans hl (sz 9))
  rw [rests_eq z ps hp, List.nil_append] at e1
  cases l <;> simp only [seqD, if_true, Bool.false_eq_true, if_false] at e1 ⊢ <;> simp [e1, backT_c]
theorem r_law_rest (n : Nat) (l : Bool) (ps : Paths) (z : Str) (hp : ∀ p ∈ ps, p ≠ []) (hl : ps.length ≤ 9) : callN (n + 1) ._law_rest [.val (seqD l (ps.map pathD)), .val (.str z)] = .ok (.list ((restsP ps z).map pathD)) [.val (seqD l (ps.map pathD)), .val (.str z)] :=
  r_rests n l ps z hp hl
end Lw
end

section
set_option maxRecDepth 100000
namespace Lw
open PySem PySem.Spec PyProof.Rows L2 PV
set_option autoImplicit false
theorem tup_toD {v : Val} : isiS (tyD v.toD) "tuple" = v.isTup := by
  cases v <;> simp [Val.isTup, Val.isDoc, Val.isLst]
theorem neP_of {ps : Paths} (h : ps.any List.isEmpty = false) : ∀ p ∈ ps, p ≠ [] := by
  intro p m e
  subst e
  have := List.any_eq_false.mp h [] m
  simp at this
theorem kept_loop (n M : Nat) (hM : ∀ v ps, OkP ps → (∀ p ∈ ps, p ≠ []) → smV n v → v.isTup = true → callN M .kept_value [.val v.toD, .val (.list (ps.map pathD))] = .ok (keepV n v ps).toD [.val v.toD, .val (.list (ps.map pathD))]) (hM1 : 1 ≤ M)
    (l : Bool) (ps : Paths) (ho : OkP ps) (hp : ∀ p ∈ ps, p ≠ []) (d : D) : ∀ (fs acc : List (Str × Val)) (s3 s4 s5 : Sl), slotV s3 = true → slotV s4 = true → slotV s5 = true → acc.length + fs.length ≤ 100 → (∀ f ∈ fs, smV n f.2) →
    ∃ s3' s4' s5', forE (kTup 2 (kCons (kN 3) (kCons (kN 4) (kNil)))) (tCons (tAsg (qFn 2 (callN M .rests_of) (zE (qVar 1) (zE (qVar 3) (zNil)))) (kN 5))
  (tIf (qTru (qOp inD (qTup (qNil)) (qVar 5))) (tExpr (qAppend 2 (qTup (qCons (qVar 3) (qCons (qVar 4) (qNil)))))) (tIf (qAnd (qTru (qOp neD (qVar 5) (qLst (qNil)))) (qTru (qIsi "tuple" (qVar 4)))) (tExpr (qAppend 2 (qTup (qCons (qVar 3) (qCons (qFn 2 (callN M .kept_value) (zE (qVar 4) (zE (qVar 5) (zNil)))) (qNil)))))) (tNil))))
    (fs.map fD) [.val d, .val (seqD l (ps.map pathD)), .own (acc.map fD), s3, s4, s5] = .nx [.val d, .val (seqD l (ps.map pathD)), .own ((acc ++ fs.filterMap (keep1 (keepV n) ps)).map fD), s3', s4', s5']
  | [], acc, s3, s4, s5, _, _, _, _, _ => ⟨s3, s4, s5, by simp⟩
  | f :: fs, acc, s3, s4, s5, v3, v4, v5, hl, hs => by
    obtain ⟨M1, rfl⟩ : ∃ M1, M = M1 + 1 := ⟨M - 1, by omega⟩
    rw [List.length_cons] at hl
    have hr := r_rests M1 l ps f.1 hp ho.len
    have o3 := okSetb_q (r := [s4, s5]) v3
    have o4 := okSetb_q (r := [s5]) v4
    have o5 := okSetb_q (r := []) v5
    have hi := in_paths (ho.rests f.1)
    have hz : (acc.map fD).length < sizeLine := by rw [List.length_map]; exact Nat.lt_of_lt_of_le (by omega) (sz 100)
    rw [List.length_map] at hz
    have key : ∃ new : Option (Str × Val), keep1 (keepV n) ps f = new ∧ bndS ((kTup 2 (kCons (kN 3) (kCons (kN 4) (kNil)))).e (fD f) [.val d, .val (seqD l (ps.map pathD)), .own (acc.map fD), s3, s4, s5]) (tCons (tAsg (qFn 2 (callN (M1 + 1) .rests_of) (zE (qVar 1) (zE (qVar 3) (zNil)))) (kN 5))
  (tIf (qTru (qOp inD (qTup (qNil)) (qVar 5))) (tExpr (qAppend 2 (qTup (qCons (qVar 3) (qCons (qVar 4) (qNil)))))) (tIf (qAnd (qTru (qOp neD (qVar 5) (qLst (qNil)))) (qTru (qIsi "tuple" (qVar 4)))) (tExpr (qAppend 2 (qTup (qCons (qVar 3) (qCons (qFn 2 (callN (M1 + 1) .kept_value) (zE (qVar 4) (zE (qVar 5) (zNil)))) (qNil)))))) (tNil)))).e =
      .nx [.val d, .val (seqD l (ps.map pathD)), .own ((acc ++ new.toList).map fD), .val (.str f.1), .val f.2.toD, .val (.list ((restsP ps f.1).map pathD))] := by
      refine ⟨_, rfl, ?_⟩
      unfold keep1
      cases c1 : (restsP ps f.1).any List.isEmpty with
      | true => simp [fD, o3, o4, o5, hr, hi, c1, sz, hz]
      | false =>
        have h2 := neP_of c1
        cases c2 : (restsP ps f.1).isEmpty with
        | true => simp [fD, o3, o4, o5, hr, hi, c1, c2, sz, hz, ne_nil]
        | false =>
          cases c3 : f.2.isTup with
          | false => simp [fD, o3, o4, o5, hr, hi, c1, c2, c3, sz, hz, ne_nil, tup_toD]
          | true =>
            have h3 := hM f.2 (restsP ps f.1) (ho.rests _) h2 (hs f List.mem_cons_self) c3
            simp [fD, o3, o4, o5, hr, hi, c1, c2, c3, sz, hz, ne_nil, tup_toD, h3]
    obtain ⟨new, e1, e2⟩ := key
    obtain ⟨s3', s4', s5', h⟩ := kept_loop n (M1 + 1) hM hM1 l ps ho hp d fs (acc ++ new.toList) (.val (.str f.1)) (.val f.2.toD) (.val (.list ((restsP ps f.1).map pathD))) rfl rfl rfl (by cases new <;> simp <;> omega) fun g m => hs g (List.mem_cons_of_mem _ m)
    refine ⟨s3', s4', s5', ?_⟩
    rw [List.map_cons, forE_turn e2, h, List.filterMap_cons, e1]
    cases new <;> simp
def fldsK : Nat → List (Str × Val) → Paths → List (Str × Val)
  | 0, _, _ => []
  | n + 1, fs, ps => fs.filterMap (keep1 (keepV n) ps)
theorem keep_doc {n : Nat} {fs : List (Str × Val)} (h : smV n (.doc fs)) (ps : Paths) : keepV n (.doc fs) ps = .doc (fldsK n fs ps) := by
  cases n with
  | zero => unfold smV at h; exact h.elim
  | succ n => rfl
def KA (n : Nat) : Prop := ∀ (N : Nat), 2 * n ≤ N → ∀ (l : Bool) (fs : List (Str × Val)) (ps : Paths), OkP ps → (∀ p ∈ ps, p ≠ []) → smV n (.doc fs) → callN N .kept_fields [.val (Val.doc fs).toD, .val (seqD l (ps.map pathD))] = .ok (.tuple ((fldsK n fs ps).map fD)) [.val (Val.doc fs).toD, .val (seqD l (ps.map pathD))]
def KB (n : Nat) : Prop := ∀ (N : Nat), 2 * n + 1 ≤ N → ∀ v ps, OkP ps → (∀ p ∈ ps, p ≠ []) → smV n v → v.isTup = true → callN N .kept_value [.val v.toD, .val (.list (ps.map pathD))] = .ok (keepV n v ps).toD [.val v.toD, .val (.list (ps.map pathD))]
theorem r_kept : ∀ n : Nat, KA n ∧ KB n := by
  intro n
  induction n with
  | zero =>
    refine ⟨fun N hN l fs ps ho hp h => by unfold smV at h; exact h.elim, fun N hN v ps ho hp h ht => ?_⟩
    cases v <;> first | (unfold smV at h; exact h.elim) | exact nomatch ht
  | succ n ih =>
    have hA : KA (n + 1) := by
      intro N hN l fs ps ho hp h
      obtain ⟨M, rfl⟩ : ∃ M, N = M + 1 := ⟨N - 1, by omega⟩
      unfold smV at h
      obtain ⟨s3, s4, s5, h1⟩ := kept_loop n M (ih.2 M (by omega)) (by omega) l ps ho hp (Val.doc fs).toD fs [] .un .un .un rfl rfl rfl (by simp; omega) fun f m => (h.2.2 f m).2
      rw [u_kept_fields, q_kept_fields]
      simp only [toD_doc, List.map_nil, List.nil_append] at h1
      simp [h1, sz, fldsK]
    refine ⟨hA, fun N hN v ps ho hp h ht => ?_⟩
    obtain ⟨M1, rfl⟩ : ∃ M1, N = M1 + 2 := ⟨N - 2, by omega⟩
    rw [u_kept_value, q_kept_value]
    cases v with
    | doc fs =>
      have h1 := hA (M1 + 1) (by omega) true fs ps ho hp h
      have h3 := r_is_doc M1 (.doc fs)
      rw [keep_doc h]
      simp only [toD_doc, seqD, if_true] at h1 h3
      simp [h1, h3, Val.isDoc, sz]
    | lst vs =>
      unfold smV at h
      have h3 := r_is_doc M1 (.lst vs)
      simp only [toD_lst] at h3
      have e1 := lcA_pure (g := kN 2) (t := qTru (qFn 1 (callN (M1 + 1) .is_doc) (zE (qVar 2) (zNil)))) (e := qTup (qCons (qC (.str "doc")) (qCons (qFn 2 (callN (M1 + 1) .kept_fields) (zE (qVar 2) (zE (qVar 1) (zNil)))) (qNil)))) (vs := [2]) (τ := [.val (Val.lst vs).toD, .val (.list (ps.map pathD)), .un]) (src := Val.toD) (as := vs) (acc := []) Val.isDoc (fun v => (keepV n v ps).toD) (fun v m => by
          refine ⟨_, rfl, rfl, by simp [r_is_doc], fun hd => ?_⟩
          have hv := h.2 v m
          cases v with
          | doc fs =>
            have h1 := ih.1 (M1 + 1) (by omega) true fs ps ho hp hv
            rw [keep_doc hv]
            simp only [toD_doc, seqD, if_true] at h1
            simp [h1, sz]
          | _ => exact nomatch hd) (by simp; exact Nat.le_trans h.1 (sz 4))
      simp only [toD_lst, List.nil_append] at e1
      simp [h3, e1, Val.isDoc, sz, keepV, backT_c, List.map_map]
    | _ => exact nomatch ht
end Lw
end

section
set_option maxRecDepth 100000
namespace Lw
open PySem PySem.Spec PyProof.Rows L2 PV
set_option autoImplicit false
theorem notin_paths {ps : Paths} (h : OkP ps) : notInD (.tuple []) (.list (ps.map pathD)) = some (.bool (!ps.any List.isEmpty)) := by
  rw [notInD, in_paths h]; rfl
def fldsL : Nat → List (Str × Val) → Paths → List (Str × Val)
  | 0, _, _ => []
  | n + 1, fs, ps => fs.filterMap (left1 (leftV n) ps)
theorem left_doc {n : Nat} {fs : List (Str × Val)} (h : smV n (.doc fs)) {ps : Paths} (hp : ps ≠ []) : leftV n (.doc fs) ps = .doc (fldsL n fs ps) := by
  cases n with
  | zero => unfold smV at h; exact h.elim
  | succ n => cases ps with
    | nil => exact absurd rfl hp
    | cons p ps => rfl
def LA (n : Nat) : Prop := ∀ (N : Nat), 2 * n ≤ N → ∀ (l : Bool) (fs : List (Str × Val)) (ps : Paths), OkP ps → (∀ p ∈ ps, p ≠ []) → smV n (.doc fs) → callN N .left_fields [.val (Val.doc fs).toD, .val (seqD l (ps.map pathD))] = .ok (.tuple ((fldsL n fs ps).map fD)) [.val (Val.doc fs).toD, .val (seqD l (ps.map pathD))]
def LB (n : Nat) : Prop := ∀ (N : Nat), 2 * n + 1 ≤ N → ∀ v ps, OkP ps → (∀ p ∈ ps, p ≠ []) → smV n v → callN N .left_value [.val v.toD, .val (.list (ps.map pathD))] = .ok (leftV n v ps).toD [.val v.toD, .val (.list (ps.map pathD))]
theorem left_loop (n M : Nat) (hM : ∀ v ps, OkP ps → (∀ p ∈ ps, p ≠ []) → smV n v → callN M .left_value [.val v.toD, .val (.list (ps.map pathD))] = .ok (leftV n v ps).toD [.val v.toD, .val (.list (ps.map pathD))]) (hM1 : 1 ≤ M)
    (l : Bool) (ps : Paths) (ho : OkP ps) (hp : ∀ p ∈ ps, p ≠ []) (d : D) : ∀ (fs acc : List (Str × Val)) (s3 s4 s5 : Sl), slotV s3 = true → slotV s4 = true → slotV s5 = true → acc.length + fs.length ≤ 100 → (∀ f ∈ fs, smV n f.2) →
    ∃ s3' s4' s5', forE (kTup 2 (kCons (kN 3) (kCons (kN 4) (kNil)))) (tCons (tAsg (qFn 2 (callN M .rests_of) (zE (qVar 1) (zE (qVar 3) (zNil)))) (kN 5))
  (tIf (qTru (qOp notInD (qTup (qNil)) (qVar 5))) (tExpr (qAppend 2 (qTup (qCons (qVar 3) (qCons (qFn 2 (callN M .left_value) (zE (qVar 4) (zE (qVar 5) (zNil)))) (qNil)))))) (tNil)))
    (fs.map fD) [.val d, .val (seqD l (ps.map pathD)), .own (acc.map fD), s3, s4, s5] = .nx [.val d, .val (seqD l (ps.map pathD)), .own ((acc ++ fs.filterMap (left1 (leftV n) ps)).map fD), s3', s4', s5']
  | [], acc, s3, s4, s5, _, _, _, _, _ => ⟨s3, s4, s5, by simp⟩
  | f :: fs, acc, s3, s4, s5, v3, v4, v5, hl, hs => by
    obtain ⟨M1, rfl⟩ : ∃ M1, M = M1 + 1 := ⟨M - 1, by omega⟩
    rw [List.length_cons] at hl
    have hr := r_rests M1 l ps f.1 hp ho.len
    have o3 := okSetb_q (r := [s4, s5]) v3
    have o4 := okSetb_q (r := [s5]) v4
    have o5 := okSetb_q (r := []) v5
    have hi := notin_paths (ho.rests f.1)
    have hz : (acc.map fD).length < sizeLine := by rw [List.length_map]; exact Nat.lt_of_lt_of_le (by omega) (sz 100)
    rw [List.length_map] at hz
    have key : ∃ new : Option (Str × Val), left1 (leftV n) ps f = new ∧ bndS ((kTup 2 (kCons (kN 3) (kCons (kN 4) (kNil)))).e (fD f) [.val d, .val (seqD l (ps.map pathD)), .own (acc.map fD), s3, s4, s5]) (tCons (tAsg (qFn 2 (callN (M1 + 1) .rests_of) (zE (qVar 1) (zE (qVar 3) (zNil)))) (kN 5))
  (tIf (qTru (qOp notInD (qTup (qNil)) (qVar 5))) (tExpr (qAppend 2 (qTup (qCons (qVar 3) (qCons (qFn 2 (callN (M1 + 1) .left_value) (zE (qVar 4) (zE (qVar 5) (zNil)))) (qNil)))))) (tNil))).e =
      .nx [.val d, .val (seqD l (ps.map pathD)), .own ((acc ++ new.toList).map fD), .val (.str f.1), .val f.2.toD, .val (.list ((restsP ps f.1).map pathD))] := by
      refine ⟨_, rfl, ?_⟩
      unfold left1
      cases c1 : (restsP ps f.1).any List.isEmpty with
      | true => simp [fD, o3, o4, o5, hr, hi, c1, sz, hz]
      | false =>
        have h3 := hM f.2 (restsP ps f.1) (ho.rests _) (neP_of c1) (hs f List.mem_cons_self)
        simp [fD, o3, o4, o5, hr, hi, c1, sz, hz, h3]
    obtain ⟨new, e1, e2⟩ := key
    obtain ⟨s3', s4', s5', h⟩ := left_loop n (M1 + 1) hM hM1 l ps ho hp d fs (acc ++ new.toList) (.val (.str f.1)) (.val f.2.toD) (.val (.list ((restsP ps f.1).map pathD))) rfl rfl rfl (by cases new <;> simp <;> omega) fun g m => hs g (List.mem_cons_of_mem _ m)
    refine ⟨s3', s4', s5', ?_⟩
    rw [List.map_cons, forE_turn e2, h, List.filterMap_cons, e1]
    cases new <;> simp
theorem r_left : ∀ n : Nat, LA n ∧ LB n := by
  intro n
  induction n with
  | zero =>
    refine ⟨fun N hN l fs ps ho hp h => by unfold smV at h; exact h.elim, fun N hN v ps ho hp h => ?_⟩
    obtain ⟨M1, rfl⟩ : ∃ M1, N = M1 + 1 := ⟨N - 1, by omega⟩
    rw [u_left_value, q_left_value]
    cases v <;> first | (unfold smV at h; exact h.elim) | (cases c : ps.isEmpty <;> simp [eq_nil, c, leftV])
  | succ n ih =>
    have hA : LA (n + 1) := by
      intro N hN l fs ps ho hp h
      obtain ⟨M, rfl⟩ : ∃ M, N = M + 1 := ⟨N - 1, by omega⟩
      unfold smV at h
      obtain ⟨s3, s4, s5, h1⟩ := left_loop n M (ih.2 M (by omega)) (by omega) l ps ho hp (Val.doc fs).toD fs [] .un .un .un rfl rfl rfl (by simp; omega) fun f m => (h.2.2 f m).2
      rw [u_left_fields, q_left_fields]
      simp only [toD_doc, List.map_nil, List.nil_append] at h1
      simp [h1, sz, fldsL]
    refine ⟨hA, fun N hN v ps ho hp h => ?_⟩
    obtain ⟨M1, rfl⟩ : ∃ M1, N = M1 + 2 := ⟨N - 2, by omega⟩
    rw [u_left_value, q_left_value]
    cases c : ps.isEmpty with
    | true => cases v <;> simp [eq_nil, c, leftV]
    | false =>
    have hne : ps ≠ [] := by intro e; rw [e] at c; exact nomatch c
    cases v with
    | doc fs =>
      have h1 := hA (M1 + 1) (by omega) true fs ps ho hp h
      have h3 := r_is_doc M1 (.doc fs)
      rw [left_doc h hne]
      simp only [toD_doc, seqD, if_true] at h1 h3
      simp [h1, h3, Val.isDoc, sz, eq_nil, c]
    | lst vs =>
      unfold smV at h
      have h3 := r_is_doc M1 (.lst vs)
      simp only [toD_lst] at h3
      have e1 := lcA_map (g := kN 2) (e := qIf (qTru (qFn 1 (callN (M1 + 1) .is_doc) (zE (qVar 2) (zNil)))) (qTup (qCons (qC (.str "doc")) (qCons (qFn 2 (callN (M1 + 1) .left_fields) (zE (qVar 2) (zE (qVar 1) (zNil)))) (qNil)))) (qVar 2)) (vs := [2]) (τ := [.val (Val.lst vs).toD, .val (.list (ps.map pathD)), .un]) (src := Val.toD) (as := vs) (acc := []) (fun v => (if v.isDoc then leftV n v ps else v).toD) (fun v m => by
          refine ⟨_, rfl, rfl, ?_⟩
          have hv := h.2 v m
          cases hd : v.isDoc with
          | true =>
            cases v with
            | doc fs =>
              have h1 := ih.1 (M1 + 1) (by omega) true fs ps ho hp hv
              have h4 := r_is_doc M1 (.doc fs)
              rw [if_pos rfl, left_doc hv hne]
              simp only [toD_doc, seqD, if_true] at h1 h4
              simp [h1, h4, sz, Val.isDoc]
            | _ => exact nomatch hd
          | false => simp [r_is_doc, hd]) (by simp; exact Nat.le_trans h.1 (sz 4))
      simp only [toD_lst, List.nil_append] at e1
      simp [h3, e1, Val.isDoc, sz, leftV, backT_c, List.map_map, eq_nil, c]
    | _ => simp [eq_nil, c, leftV]
end Lw
end

section
set_option maxRecDepth 100000
namespace Lw
open PySem PySem.Spec PyProof.Rows L2 PV
set_option autoImplicit false
/-! ### the law's own -/
theorem tup_if {v : Val} : (isiS (tyD v.toD) "tuple") = v.isTup := tup_toD
def LK (n : Nat) : Prop := ∀ (N : Nat), n + 1 ≤ N → ∀ v ps, OkP ps → (∀ p ∈ ps, p ≠ []) → smV n v → v.isTup = true → callN N ._law_kept [.val v.toD, .val (.list (ps.map pathD))] = .ok (keepV n v ps).toD [.val v.toD, .val (.list (ps.map pathD))]
theorem lk_loop (n M : Nat) (hM : ∀ v ps, OkP ps → (∀ p ∈ ps, p ≠ []) → smV n v → v.isTup = true → callN M ._law_kept [.val v.toD, .val (.list (ps.map pathD))] = .ok (keepV n v ps).toD [.val v.toD, .val (.list (ps.map pathD))]) (hM1 : 1 ≤ M)
    (ps : Paths) (ho : OkP ps) (hp : ∀ p ∈ ps, p ≠ []) (d : D) : ∀ (fs acc : List (Str × Val)) (s3 s4 s5 : Sl), slotV s3 = true → slotV s4 = true → slotV s5 = true → acc.length + fs.length ≤ 100 → (∀ f ∈ fs, smV n f.2) →
    ∃ s3' s4' s5', forE (kTup 2 (kCons (kN 4) (kCons (kN 2) (kNil)))) (tCons (tAsg (qFn 2 (callN M ._law_rest) (zE (qVar 1) (zE (qVar 4) (zNil)))) (kN 5))
  (tIf (qTru (qOp inD (qTup (qNil)) (qVar 5))) (tExpr (qAppend 3 (qTup (qCons (qVar 4) (qCons (qVar 2) (qNil)))))) (tIf (qAnd (qTru (qOp neD (qVar 5) (qLst (qNil)))) (qTru (qIsi "tuple" (qVar 2)))) (tExpr (qAppend 3 (qTup (qCons (qVar 4) (qCons (qFn 2 (callN M ._law_kept) (zE (qVar 2) (zE (qVar 5) (zNil)))) (qNil)))))) (tNil))))
    (fs.map fD) [.val d, .val (.list (ps.map pathD)), s4, .own (acc.map fD), s3, s5] = .nx [.val d, .val (.list (ps.map pathD)), s4', .own ((acc ++ fs.filterMap (keep1 (keepV n) ps)).map fD), s3', s5']
  | [], acc, s3, s4, s5, _, _, _, _, _ => ⟨s3, s4, s5, by simp⟩
  | f :: fs, acc, s3, s4, s5, v3, v4, v5, hl, hs => by
    obtain ⟨M1, rfl⟩ : ∃ M1, M = M1 + 1 := ⟨M - 1, by omega⟩
    rw [List.length_cons] at hl
    have hr := r_law_rest M1 true ps f.1 hp ho.len
    simp only [seqD, if_true] at hr
    have o3 := okSetb_q (r := [s5]) v3
    have o4 := okSetb_q (r := [.own (acc.map fD), .val (.str f.1), s5]) v4
    have o5 := okSetb_q (r := []) v5
    have hi := in_paths (ho.rests f.1)
    have hz : (acc.map fD).length < sizeLine := by rw [List.length_map]; exact Nat.lt_of_lt_of_le (by omega) (sz 100)
    rw [List.length_map] at hz
    have key : ∃ new : Option (Str × Val), keep1 (keepV n) ps f = new ∧ bndS ((kTup 2 (kCons (kN 4) (kCons (kN 2) (kNil)))).e (fD f) [.val d, .val (.list (ps.map pathD)), s4, .own (acc.map fD), s3, s5]) (tCons (tAsg (qFn 2 (callN (M1 + 1) ._law_rest) (zE (qVar 1) (zE (qVar 4) (zNil)))) (kN 5))
  (tIf (qTru (qOp inD (qTup (qNil)) (qVar 5))) (tExpr (qAppend 3 (qTup (qCons (qVar 4) (qCons (qVar 2) (qNil)))))) (tIf (qAnd (qTru (qOp neD (qVar 5) (qLst (qNil)))) (qTru (qIsi "tuple" (qVar 2)))) (tExpr (qAppend 3 (qTup (qCons (qVar 4) (qCons (qFn 2 (callN (M1 + 1) ._law_kept) (zE (qVar 2) (zE (qVar 5) (zNil)))) (qNil)))))) (tNil)))).e =
      .nx [.val d, .val (.list (ps.map pathD)), .val f.2.toD, .own ((acc ++ new.toList).map fD), .val (.str f.1), .val (.list ((restsP ps f.1).map pathD))] := by
      refine ⟨_, rfl, ?_⟩
      unfold keep1
      cases c1 : (restsP ps f.1).any List.isEmpty with
      | true => simp [fD, o3, o4, o5, hr, hi, c1, sz, hz]
      | false =>
        have h2 := neP_of c1
        cases c2 : (restsP ps f.1).isEmpty with
        | true => simp [fD, o3, o4, o5, hr, hi, c1, c2, sz, hz, ne_nil]
        | false =>
          cases c3 : f.2.isTup with
          | false => simp [fD, o3, o4, o5, hr, hi, c1, c2, c3, sz, hz, ne_nil, tup_toD]
          | true =>
            have h3 := hM f.2 (restsP ps f.1) (ho.rests _) h2 (hs f List.mem_cons_self) c3
            simp [fD, o3, o4, o5, hr, hi, c1, c2, c3, sz, hz, ne_nil, tup_toD, h3]
    obtain ⟨new, e1, e2⟩ := key
    obtain ⟨s3', s4', s5', h⟩ := lk_loop n (M1 + 1) hM hM1 ps ho hp d fs (acc ++ new.toList) (.val (.str f.1)) (.val f.2.toD) (.val (.list ((restsP ps f.1).map pathD))) rfl rfl rfl (by cases new <;> simp <;> omega) fun g m => hs g (List.mem_cons_of_mem _ m)
    refine ⟨s3', s4', s5', ?_⟩
    rw [List.map_cons, forE_turn e2, h, List.filterMap_cons, e1]
    cases new <;> simp
theorem docTest (v : Val) (τ : Ta) (i : Nat) (h : valAt τ i = some v.toD) : (qAnd (qTru (qIsi "tuple" (qVar i))) (qTru (qOp eqD (qOp idxD (qVar i) (qC (.int 0))) (qC (.str "doc"))))).e τ = .ok v.isDoc τ := by
  cases v <;> (rw [Val.toD] at h) <;> simp [h, Val.isDoc, doc_ne]
theorem r_lk : ∀ n : Nat, LK n := by
  intro n
  induction n with
  | zero =>
    intro N hN v ps ho hp h ht
    cases v <;> first | (unfold smV at h; exact h.elim) | exact nomatch ht
  | succ n ih =>
    intro N hN v ps ho hp h ht
    obtain ⟨M1, rfl⟩ : ∃ M1, N = M1 + 1 := ⟨N - 1, by omega⟩
    rw [u__law_kept, q__law_kept]
    cases v with
    | doc fs =>
      unfold smV at h
      obtain ⟨s3, s4, s5, h1⟩ := lk_loop n M1 (ih M1 (by omega)) (by omega) ps ho hp (Val.doc fs).toD fs [] .un .un .un rfl rfl rfl (by simp; omega) fun f m => (h.2.2 f m).2
      simp only [toD_doc, List.map_nil, List.nil_append] at h1
      simp [h1, doc_ne', keepV, sz]
    | lst vs =>
      unfold smV at h
      have e1 := lcA_pure (g := kN 2) (t := qAnd (qTru (qIsi "tuple" (qVar 2))) (qTru (qOp eqD (qOp idxD (qVar 2) (qC (.int 0))) (qC (.str "doc"))))) (e := qFn 2 (callN M1 ._law_kept) (zE (qVar 2) (zE (qVar 1) (zNil)))) (vs := [2]) (τ := [.val (Val.lst vs).toD, .val (.list (ps.map pathD)), .un, .un, .un, .un]) (src := Val.toD) (as := vs) (acc := []) Val.isDoc (fun v => (keepV n v ps).toD) (fun v m => by
          refine ⟨_, rfl, rfl, docTest v _ 2 rfl, fun hd => ?_⟩
          have h1 := ih M1 (by omega) v ps ho hp (h.2 v m) (by simp [Val.isTup, hd])
          simp [h1]) (by simp; exact Nat.le_trans h.1 (sz 4))
      simp only [toD_lst, List.nil_append] at e1
      simp [e1, sz, keepV, backT_c, List.map_map]
    | _ => exact nomatch ht
def LD (n : Nat) : Prop := ∀ (N : Nat), n + 1 ≤ N → ∀ v ps, OkP ps → (∀ p ∈ ps, p ≠ []) → smV n v → callN N ._law_dropped [.val v.toD, .val (.list (ps.map pathD))] = .ok (leftV n v ps).toD [.val v.toD, .val (.list (ps.map pathD))]
theorem filterMap_eq {α β : Type} (p : α → Bool) (f : α → β) (g : α → Option β) (h : ∀ a, g a = if p a then some (f a) else none) : ∀ l : List α, l.filterMap g = (l.filter p).map f
  | [] => rfl
  | a :: l => by
    rw [List.filterMap_cons, List.filter_cons, h a, filterMap_eq p f g h l]
    cases p a <;> rfl
theorem r_ld : ∀ n : Nat, LD n := by
  intro n
  induction n with
  | zero =>
    intro N hN v ps ho hp h
    obtain ⟨M1, rfl⟩ : ∃ M1, N = M1 + 1 := ⟨N - 1, by omega⟩
    rw [u__law_dropped, q__law_dropped]
    cases v <;> first | (unfold smV at h; exact h.elim) | (cases c : ps.isEmpty <;> simp [eq_nil, c, leftV])
  | succ n ih =>
    intro N hN v ps ho hp h
    obtain ⟨M1, rfl⟩ : ∃ M1, N = M1 + 1 := ⟨N - 1, by omega⟩
    rw [u__law_dropped, q__law_dropped]
    cases c : ps.isEmpty with
    | true => cases v <;> simp [eq_nil, c, leftV]
    | false =>
    obtain ⟨M2, rfl⟩ : ∃ M2, M1 = M2 + 1 := ⟨M1 - 1, by omega⟩
    cases v with
    | doc fs =>
      unfold smV at h
      have e1 := lcA_pure (g := kTup 2 (kCons (kN 3) (kCons (kN 2) (kNil)))) (t := qTru (qOp notInD (qTup (qNil)) (qFn 2 (callN (M2 + 1) ._law_rest) (zE (qVar 1) (zE (qVar 3) (zNil)))))) (e := qTup (qCons (qVar 3) (qCons (qFn 2 (callN (M2 + 1) ._law_dropped) (zE (qVar 2) (zE (qFn 2 (callN (M2 + 1) ._law_rest) (zE (qVar 1) (zE (qVar 3) (zNil)))) (zNil)))) (qNil)))) (vs := [3, 2]) (τ := [.val (Val.doc fs).toD, .val (.list (ps.map pathD)), .un, .un]) (src := fD) (as := fs) (acc := []) (fun f => !(restsP ps f.1).any List.isEmpty) (fun f => fD (f.1, leftV n f.2 (restsP ps f.1))) (fun f m => by
          have hr := r_law_rest M2 true ps f.1 hp ho.len
          simp only [seqD, if_true] at hr
          have hi := notin_paths (ho.rests f.1)
          refine ⟨[.val (Val.doc fs).toD, .val (.list (ps.map pathD)), .val f.2.toD, .val (.str f.1)], rfl, rfl, by simp [hr, hi, sz], fun hd => ?_⟩
          have h1 := ih (M2 + 1) (by omega) f.2 (restsP ps f.1) (ho.rests _) (neP_of (by simpa using hd)) (h.2.2 f m).2
          simp [hr, h1, sz, fD]) (by simp; exact Nat.le_trans h.1 (sz 4))
      simp only [toD_doc, List.nil_append] at e1
      have e2 := filterMap_eq (fun f => !(restsP ps f.1).any List.isEmpty) (fun f => (f.1, leftV n f.2 (restsP ps f.1))) (left1 (leftV n) ps) (fun f => by unfold left1; cases (restsP ps f.1).any List.isEmpty <;> rfl) fs
      simp [eq_nil, c, doc_ne', e1, sz, leftV, backT_c, e2, List.map_map]
    | lst vs =>
      unfold smV at h
      have e1 := lcA_map (g := kN 2) (e := qIf (qAnd (qTru (qIsi "tuple" (qVar 2))) (qTru (qOp eqD (qOp idxD (qVar 2) (qC (.int 0))) (qC (.str "doc"))))) (qFn 2 (callN (M2 + 1) ._law_dropped) (zE (qVar 2) (zE (qVar 1) (zNil)))) (qVar 2)) (vs := [2]) (τ := [.val (Val.lst vs).toD, .val (.list (ps.map pathD)), .un, .un]) (src := Val.toD) (as := vs) (acc := []) (fun v => (if v.isDoc then leftV n v ps else v).toD) (fun v m => by
          refine ⟨_, rfl, rfl, ?_⟩
          have hv := h.2 v m
          rw [qIf_e, docTest v _ 2 rfl]
          cases hd : v.isDoc with
          | true =>
            have h1 := ih (M2 + 1) (by omega) v ps ho hp hv
            simp [h1]
          | false => simp) (by simp; exact Nat.le_trans h.1 (sz 4))
      simp only [toD_lst, List.nil_append] at e1
      simp [e1, sz, leftV, backT_c, List.map_map, eq_nil, c]
    | _ => simp [eq_nil, c, leftV]
end Lw
end

section
set_option maxRecDepth 100000
namespace Lw
open PySem PySem.Spec PyProof.Rows L2 PV
set_option autoImplicit false
/-- a document drawn -/
def GD (d : D) : Prop := ∃ fs : List (Str × Val), d = (Val.doc fs).toD ∧ smV 3 (.doc fs)
theorem v_document (N : Nat) (w : Val) (hw : smV 0 w) (hN : 9 ≤ N) : Drawn N ._law_document [.val w.toD] GD := by
  intro a b
  obtain ⟨M, rfl⟩ : ∃ M, N = M + 1 := ⟨N - 1, by omega⟩
  obtain ⟨a1, b1, _, e1, r, rfl, hr⟩ := d_roll (N := M) (by omega) 3 (by decide) (by decide) a b
  obtain ⟨a2, b2, _, e2, fs, rfl, hl, hnd, hnm, hg⟩ := v_fields 2 M (1 + r) (by omega) (by omega) a1 b1
  have h1 : addD (.tuple [.tuple [.str "id", w.toD]]) (.tuple (fs.map fD)) = some (.tuple (((("id" : Str), w) :: fs).map fD)) := by
    rw [add_tt _ _ (by simp; exact Nat.le_trans (by omega) (sz 10))]; rfl
  refine ⟨a2, b2, _, ?_, (Str.ofString "id", w) :: fs, rfl, ?_⟩
  · rw [u__law_document, q__law_document, toD_doc]
    have e3 : (1 : Int) + (r : Int) = ((1 + r : Nat) : Int) := by omega
    simp only [show ((2 : Nat) : Int) = 2 from rfl] at e2
    simp [e1, e3, sz, -Int.natCast_add, e2, h1, -List.map_cons]
  · unfold smV
    refine ⟨by simp; omega, ?_, ?_⟩
    · rw [List.map_cons, List.nodup_cons]
      refine ⟨fun m => ?_, hnd⟩
      obtain ⟨f, hf, e⟩ := List.mem_map.mp m
      have := hnm f hf
      rw [e] at this
      exact absurd this (show ¬ (("id" : Str) ∈ namesL) by decide +kernel)
    · intro f m
      rcases List.mem_cons.mp m with rfl | m
      · exact ⟨show nameS "id" = true by decide +kernel, smV_mono (by omega) hw⟩
      · exact ⟨List.all_eq_true.mp (show namesL.all nameS = true by decide +kernel) _ (hnm f m), hg f m⟩
end Lw
end

section
set_option maxRecDepth 100000
namespace Lw
open PySem PySem.Spec PyProof.Rows L2 PV
set_option autoImplicit false
def pathsL : List Paths := [[["a"]], [["b"], ["c"]], [["a", "b"]], [["a", "b"], ["a", "a"], ["c"]], [["b", "a"], ["d1"]], [["zz"]], [["a", "b", "c"], ["a", "c"]], [["c", "a", "b"]]]
def idP : Paths := [["id"]]
inductive Shp where
  | all
  | keep (ps : Paths)
  | drop (ps : Paths)
def Shp.toD : Shp → D
  | .all => .tuple [.str "all"]
  | .keep ps => .tuple [.str "keep", .tuple (ps.map pathD)]
  | .drop ps => .tuple [.str "drop", .tuple (ps.map pathD)]
def okPB (ps : Paths) : Bool := decide (ps.length < 8) && ps.all (fun p => decide (p.length ≤ 3) && p.all nameS && !p.isEmpty) && (restsP ps "id").isEmpty && !ps.isEmpty
def Shp.okB : Shp → Bool
  | .all => true
  | .keep ps => okPB ps
  | .drop ps => okPB ps
/-- a shape that is taken -/
def Shp.ok (s : Shp) : Prop := s.okB = true ∧ callN 58 .fits_shape [.val s.toD] = .ok (.bool true) [.val s.toD]
theorem r_someT (n : Nat) (a b : Int) (xs : List D) (h0 : xs ≠ []) (h1 : xs.length < 1000) : ∃ (a' b' : Int) (d : D), callN (n + 2) ._law_some [.io [.int a, .int b], .val (.list xs)] = .ok d [.io [.int a', .int b'], .val (.list xs)] ∧ d ∈ xs := r_some n a b true xs h0 h1
theorem fits_ok (ps : Paths) (h : ps ∈ pathsL) (k : Bool) : (if k then Shp.keep ps else Shp.drop ps).ok := by
  refine ⟨?_, ?_⟩
  · have h1 : pathsL.all okPB = true := by decide +kernel
    have := List.all_eq_true.mp h1 ps h
    cases k <;> exact this
  · simp only [pathsL, List.mem_cons, List.not_mem_nil, or_false] at h
    cases k <;> rcases h with rfl | rfl | rfl | rfl | rfl | rfl | rfl | rfl <;> kernel_rfl
theorem v_shape (N : Nat) (hN : 4 ≤ N) : Drawn N ._law_shape [] (fun d => ∃ s : Shp, d = s.toD ∧ s.ok) := by
  intro a b
  obtain ⟨M, rfl⟩ : ∃ M, N = M + 3 := ⟨N - 3, by omega⟩
  obtain ⟨a1, b1, _, e1, r, rfl, hr⟩ := d_roll (N := M + 2) (by omega) 4 (by decide) (by decide) a b
  rw [u__law_shape, q__law_shape]
  by_cases h0 : r = 0
  · subst h0
    exact ⟨a1, b1, Shp.all.toD, by simp [e1, sz, Shp.toD], .all, rfl, rfl, by kernel_rfl⟩
  obtain ⟨a2, b2, d2, e2, m2⟩ := r_someL M a1 b1 [.str "keep", .str "drop"] (by simp) (by simp)
  obtain ⟨a3, b3, d3, e3, m3⟩ := r_someL M a2 b2 (pathsL.map fun ps => .tuple (ps.map pathD)) (by simp [pathsL]) (by simp [pathsL])
  obtain ⟨ps, hps, rfl⟩ := List.mem_map.mp m3
  have e4 : addD (.list [.tuple [.tuple [.str "a"]], .tuple [.tuple [.str "b"], .tuple [.str "c"]], .tuple [.tuple [.str "a", .str "b"]], .tuple [.tuple [.str "a", .str "b"], .tuple [.str "a", .str "a"], .tuple [.str "c"]], .tuple [.tuple [.str "b", .str "a"], .tuple [.str "d1"]], .tuple [.tuple [.str "zz"]]])
    (.list [.tuple [.tuple [.str "a", .str "b", .str "c"], .tuple [.str "a", .str "c"]], .tuple [.tuple [.str "c", .str "a", .str "b"]]]) = some (.list (pathsL.map fun ps => .tuple (ps.map pathD))) := rfl
  have hr0 : ((r : Int) == 0) = false := by simp; omega
  have d2' : d2 = .str "keep" ∨ d2 = .str "drop" := by simpa using m2
  rcases d2' with rfl | rfl
  · exact ⟨a3, b3, (Shp.keep ps).toD, by simp [e1, hr0, sz, e4, e2, e3, Shp.toD], .keep ps, rfl, fits_ok ps hps true⟩
  · exact ⟨a3, b3, (Shp.drop ps).toD, by simp [e1, hr0, sz, e4, e2, e3, Shp.toD], .drop ps, rfl, fits_ok ps hps false⟩
theorem okP_L {ps : Paths} (h2 : okPB ps = true) : OkP ps ∧ (∀ p ∈ ps, p ≠ []) ∧ restsP ps "id" = [] ∧ ps.length < 8 ∧ ps ≠ [] := by
  simp only [okPB, Bool.and_eq_true, decide_eq_true_eq, List.all_eq_true] at h2
  refine ⟨⟨by omega, fun p m => ⟨(h2.1.1.2 p m).1.1, (h2.1.1.2 p m).1.2⟩⟩, fun p m e => ?_, List.isEmpty_iff.mp h2.1.2, h2.1.1.1, fun e => ?_⟩
  · have := (h2.1.1.2 p m).2
    rw [e] at this
    exact nomatch this
  · rw [e] at h2
    exact nomatch h2.2
theorem okP_id {ps : Paths} (h : OkP ps) (hl : ps.length < 8) (hp : ∀ p ∈ ps, p ≠ []) : OkP (ps ++ idP) ∧ (∀ p ∈ ps ++ idP, p ≠ []) ∧ OkP (idP ++ ps) ∧ ∀ p ∈ idP ++ ps, p ≠ [] := by
  have hi : nameS "id" = true := by decide +kernel
  have he : ∀ p ∈ ps ++ idP, p.length ≤ 3 ∧ ∀ s ∈ p, nameS s = true := fun p m => by
    rcases List.mem_append.mp m with m | m
    · exact h.each p m
    · rw [List.mem_singleton.mp (show p ∈ [[("id" : Str)]] from m)]; exact ⟨by decide, fun s m => by rw [List.mem_singleton.mp m]; exact hi⟩
  have hn : ∀ p ∈ ps ++ idP, p ≠ [] := fun p m => by
    rcases List.mem_append.mp m with m | m
    · exact hp p m
    · rw [List.mem_singleton.mp (show p ∈ [[("id" : Str)]] from m)]; simp
  exact ⟨⟨by simp [idP]; omega, he⟩, hn, ⟨by simp [idP]; omega, fun p m => he p (by simp at m ⊢; exact m.symm)⟩, fun p m => hn p (by simp at m ⊢; exact m.symm)⟩
theorem rests_swap {ps : Paths} (h : restsP ps "id" = []) (z : Str) : restsP (ps ++ idP) z = restsP (idP ++ ps) z := by
  have e : restsP (idP ++ ps) z = restsP idP z ++ restsP ps z := by simp only [restsP, List.filter_append, List.map_append]
  rw [show restsP (ps ++ idP) z = restsP ps z ++ restsP idP z from restsP_app ps _ z, e]
  by_cases hz : z = "id"
  · subst hz
    rw [h]; simp
  · have : restsP idP z = [] := by
      simp [restsP, idP]
      exact fun e => hz e.symm
    rw [this]; simp
/-- what a shape makes of a document -/
def shapeV (n : Nat) (fs : List (Str × Val)) : Shp → Val
  | .all => .doc fs
  | .keep ps => keepV n (.doc fs) (ps ++ idP)
  | .drop ps => leftV n (.doc fs) ps
theorem shape_sm {n : Nat} {fs : List (Str × Val)} (h : smV n (.doc fs)) (s : Shp) : smV n (shapeV n fs s) := by
  cases s with
  | all => exact h
  | keep ps => exact smV_keep n _ _ h
  | drop ps => exact smV_left n _ _ h
theorem r_shaped {n : Nat} (hn : n ≤ 5) (fs : List (Str × Val)) (h : smV n (.doc fs)) (s : Shp) (hs : s.ok) : callN 59 .shaped [.val (Val.doc fs).toD, .val s.toD] = .ok (shapeV n fs s).toD [.val (Val.doc fs).toD, .val s.toD] := by
  have h1 : callN 57 .fits_value [.val (Val.doc fs).toD] = .ok (.bool true) [.val (Val.doc fs).toD] := r_fits_value 53 _ (okV_mono (by omega) (okV_sm h))
  have h2 := r_is_doc 56 (.doc fs)
  have h3 : callN 58 .need_document [.val (Val.doc fs).toD] = .ok .none [.val (Val.doc fs).toD] := by
    rw [u_need_document, q_need_document]
    simp only [toD_doc] at h1 h2 ⊢
    simp [h1, h2, Val.isDoc]
  have h4 : callN 58 .shaped_by [.val (Val.doc fs).toD, .val s.toD] = .ok (shapeV n fs s).toD [.val (Val.doc fs).toD, .val s.toD] := by
    rw [u_shaped_by, q_shaped_by]
    cases s with
    | all => simp [Shp.toD, shapeV]
    | keep ps =>
      obtain ⟨o1, o2, o3, o4, o5⟩ := okP_L hs.1
      obtain ⟨p1, p2, p3, p4⟩ := okP_id o1 o4 o2
      have k := (r_kept n).1 57 (by omega) false fs (ps ++ idP) p1 p2 h
      have e1 : addD (.tuple (ps.map pathD)) (.tuple [.tuple [.str "id"]]) = some (.tuple ((ps ++ idP).map pathD)) := by
        rw [add_tt _ _ (by simp; exact Nat.le_trans (by omega) (sz 10)), List.map_append]; rfl
      have e2 : (Str.ofString "keep" == Str.ofString "all") = false := by decide +kernel
      rw [shapeV, keep_doc h]
      simp only [toD_doc, seqD, Bool.false_eq_true, if_false] at k ⊢
      simp [Shp.toD, e1, e2, k, sz, -List.map_append]
    | drop ps =>
      obtain ⟨o1, o2, o3, o4, o5⟩ := okP_L hs.1
      have hne := o5
      have k := (r_left n).1 57 (by omega) false fs ps o1 o2 h
      have e2 : (Str.ofString "drop" == Str.ofString "all") = false := by decide +kernel
      have e3 : (Str.ofString "drop" == Str.ofString "keep") = false := by decide +kernel
      rw [shapeV, left_doc h hne]
      simp only [toD_doc, seqD, Bool.false_eq_true, if_false] at k ⊢
      simp [Shp.toD, e2, e3, k, sz]
  rw [u_shaped, q_shaped]
  simp [h3, hs.2, h4, -toD_doc]
theorem keep_swap {n : Nat} {fs : List (Str × Val)} {ps : Paths} (hp : restsP ps "id" = []) : keepV n (.doc fs) (idP ++ ps) = keepV n (.doc fs) (ps ++ idP) := by
  cases n with
  | zero => rfl
  | succ n =>
  show Val.doc (fs.filterMap (keep1 (keepV n) (idP ++ ps))) = Val.doc (fs.filterMap (keep1 (keepV n) (ps ++ idP)))
  congr 2
  funext f
  unfold keep1
  rw [rests_swap hp]
theorem r_law_shaped {n : Nat} (hn : n ≤ 5) (fs : List (Str × Val)) (h : smV n (.doc fs)) (s : Shp) (hs : s.ok) : callN 59 ._law_shaped [.val (Val.doc fs).toD, .val s.toD] = .ok (shapeV n fs s).toD [.val (Val.doc fs).toD, .val s.toD] := by
  rw [u__law_shaped, q__law_shaped]
  cases s with
  | all => simp [Shp.toD, shapeV]
  | keep ps =>
    obtain ⟨o1, o2, o3, o4, o5⟩ := okP_L hs.1
    obtain ⟨p1, p2, p3, p4⟩ := okP_id o1 o4 o2
    have k := r_lk n 58 (by omega) (.doc fs) (idP ++ ps) p3 p4 h rfl
    have e1 : addD (.list [.tuple [.str "id"]]) (.list (ps.map pathD)) = some (.list ((idP ++ ps).map pathD)) := by
      rw [add_ll _ _ (by simp; exact Nat.le_trans (by omega) (sz 10))]; rfl
    have e2 : (Str.ofString "keep" == Str.ofString "all") = false := by decide +kernel
    rw [keep_swap o3] at k
    simp [Shp.toD, e1, e2, k, sz, shapeV, -toD_doc, -List.map_append, -List.cons_append, -List.map_cons]
  | drop ps =>
    obtain ⟨o1, o2, o3, o4, o5⟩ := okP_L hs.1
    have k := r_ld n 58 (by omega) (.doc fs) ps o1 o2 h
    have e2 : (Str.ofString "drop" == Str.ofString "all") = false := by decide +kernel
    have e3 : (Str.ofString "drop" == Str.ofString "keep") = false := by decide +kernel
    simp [Shp.toD, e2, e3, k, sz, shapeV, -toD_doc]
end Lw
end

section
set_option maxRecDepth 100000
set_option maxHeartbeats 0
namespace Lw
open PySem PySem.Spec PyProof.Rows L2 PV
set_option autoImplicit false
abbrev c59 := callN 59
def srcR (n : Nat) (fs : List (Str × Val)) (s : Shp) : D := .tuple [s.toD, (shapeV n fs s).toD]
theorem test_ok {n : Nat} (hn : n ≤ 5) {fs : List (Str × Val)} (h : smV n (.doc fs)) {s : Shp} (hs : s.ok) {τ : Ta} {i : Nat} (h5 : valAt τ i = some (Val.doc fs).toD) (h4 : valAt τ 4 = some s.toD) (h9 : valAt τ 9 = some (shapeV n fs s).toD) :
    (qTru (qOp neD (qCall reprD (qCons (qFn 2 (c59 .shaped) (zE (qVar i) (zE (qVar 4) (zNil)))) (qNil))) (qCall reprD (qCons (qVar 9) (qNil))))).e τ = .ok false τ ∧
    (qOr (qTru (qOp neD (qCall reprD (qCons (qFn 2 (c59 .shaped) (zE (qVar i) (zE (qVar 4) (zNil)))) (qNil))) (qCall reprD (qCons (qVar 9) (qNil))))) (qTru (qOp neD (qCall reprD (qCons (qFn 2 (c59 ._law_shaped) (zE (qVar i) (zE (qVar 4) (zNil)))) (qNil))) (qCall reprD (qCons (qVar 9) (qNil)))))).e τ = .ok false τ := by
  have h1 := r_shaped hn fs h s hs
  have h2 := r_law_shaped hn fs h s hs
  have h3 := repr_sm hn (shape_sm h s)
  constructor <;> simp [h5, h4, h9, h1, h2, h3, -toD_doc]
def innerF : List (Str × Val) := [("id", .num 1), ("a", .doc [("id", .num 5), ("b", .num 2)]), ("l", .lst [.doc [("id", .num 7), ("p", .num 3)], .num 4])]
def dealF : List (Str × Val) := [("b", .num 1), ("id", .num 4), ("l", .lst [.doc [("p", .num 2), ("q", .doc [("r", .num 3), ("s", .num 4)])], .num 5, .lst [.doc [("p", .num 1)]]])]
def wideF (c d : Int) : List (Str × Val) := [("a", .doc [("b", .lst [.doc [("c", .num c), ("d1", .num d)], .num 7, .doc [("d1", .num 3)], .lst [.doc [("c", .num 8)]]]), ("ba", .num 4)]), ("id", .num 9), ("ab", .doc [("b", .num d), ("c", .num c)])]
def bareF : List (Str × Val) := [("a", .doc [("b", .num 2)])]
def smB : Nat → Val → Bool
  | _, .nul => true
  | _, .tru _ => true
  | _, .num i => decide (-1000000000000 ≤ i ∧ i ≤ 1000000000000)
  | _, .txt s => textS s
  | 0, .lst _ => false
  | 0, .doc _ => false
  | n + 1, .lst vs => decide (vs.length ≤ 4) && vs.all (smB n)
  | n + 1, .doc fs => decide (fs.length ≤ 4) && decide (fs.map (·.1)).Nodup && fs.all fun f => nameS f.1 && smB n f.2
theorem smB_of : ∀ {n : Nat} {v : Val}, smB n v = true → smV n v
  | _, .nul, _ => by unfold smV; trivial
  | _, .tru _, _ => by unfold smV; trivial
  | _, .num _, h => by unfold smB at h; unfold smV; exact of_decide_eq_true h
  | _, .txt _, h => by unfold smB at h; unfold smV; exact h
  | 0, .lst _, h => by unfold smB at h; exact nomatch h
  | 0, .doc _, h => by unfold smB at h; exact nomatch h
  | n + 1, .lst vs, h => by
    unfold smB at h
    rw [Bool.and_eq_true, List.all_eq_true] at h
    unfold smV
    exact ⟨of_decide_eq_true h.1, fun v m => smB_of (h.2 v m)⟩
  | n + 1, .doc fs, h => by
    unfold smB at h
    rw [Bool.and_eq_true, Bool.and_eq_true, List.all_eq_true] at h
    unfold smV
    refine ⟨of_decide_eq_true h.1.1, of_decide_eq_true h.1.2, fun v m => ?_⟩
    have := h.2 v m
    rw [Bool.and_eq_true] at this
    exact ⟨this.1, smB_of this.2⟩
theorem inner_sm : smV 5 (.doc innerF) := smB_of (by decide +kernel)
theorem deal_sm : smV 5 (.doc dealF) := smB_of (by decide +kernel)
theorem bare_sm : smV 5 (.doc bareF) := smB_of (by decide +kernel)
theorem wide_sm0 : smB 5 (.doc (wideF 0 0)) = true := by decide +kernel
theorem wide_sm {c d : Int} (hc : 0 ≤ c ∧ c < 9) (hd : -10 ≤ d ∧ d < 0) : smV 5 (.doc (wideF c d)) := by
  have : ∀ (c : Nat), c < 9 → ∀ (d : Nat), d < 10 → smB 5 (.doc (wideF (c : Int) (-1 - (d : Int)))) = true := by
    decide +kernel
  obtain ⟨i, rfl⟩ := Int.eq_ofNat_of_zero_le hc.1
  obtain ⟨j, hj⟩ : ∃ j : Nat, d = -1 - (j : Int) := ⟨(-1 - d).toNat, by omega⟩
  subst hj
  exact smB_of (this i (by omega) j (by omega))
def moreS : List Shp := [.keep [["a", "b"]], .keep [["l", "p"]], .keep [["a", "id"]], .drop [["a", "id"], ["l", "id"]], .drop [["a", "b"], ["l"]]]
def rowsS : List Shp := [.all, .keep [["b"]], .keep [["none"], ["b", "x"]], .keep [["l", "p"]], .keep [["l", "q", "s"]], .drop [["b"], ["l"]], .drop [["b", "x"]], .drop [["l", "q"]], .drop [["l", "p"], ["l", "q", "r"], ["b"]]]
def someS : List Shp := [.keep [["a", "b", "c"]], .drop [["a", "b", "d1"], ["ab"]], .keep [["ab", "b"], ["a", "ba"]], .drop [["a"], ["ab", "c"]], .keep [["ab", "ba"], ["b"]]]
def twoS : List Shp := [.keep [["a", "c"]], .drop [["a", "b"]], .keep [["z"]]]
theorem all_ok : ∀ s ∈ moreS ++ rowsS ++ someS ++ twoS, s.ok := by
  have h1 : (moreS ++ rowsS ++ someS ++ twoS).all Shp.okB = true := by decide +kernel
  intro s m
  refine ⟨List.all_eq_true.mp h1 s m, ?_⟩
  simp only [moreS, rowsS, someS, twoS, List.cons_append, List.nil_append, List.mem_cons, List.not_mem_nil, or_false] at m
  rcases m with rfl | rfl | rfl | rfl | rfl | rfl | rfl | rfl | rfl | rfl | rfl | rfl | rfl | rfl | rfl | rfl | rfl | rfl | rfl | rfl | rfl | rfl <;> kernel_rfl
end Lw
end

section
set_option maxRecDepth 100000
set_option maxHeartbeats 0
namespace Lw
open PySem PySem.Spec PyProof.Rows L2 PV
set_option autoImplicit false
def sg2 : List BS := [p_law_2 c59, p_law_3 c59, p_law_4 c59, p_law_5 c59, p_law_6 c59, p_law_7 c59, p_law_8 c59, p_law_9 c59, p_law_10 c59, p_law_11 c59, p_law_12 c59, p_law_13 c59, p_law_14 c59, p_law_15 c59]
abbrev dealD : D := (Val.doc dealF).toD
abbrev innerD : D := (Val.doc innerF).toD
abbrev rowsD : D := .list (rowsS.map (srcR 5 dealF))
abbrev moreD : D := .list (moreS.map (srcR 5 innerF))
theorem seg2 (x : D) (c : List D) (s2 s3 s4 : Sl) : seqE sg2 [.val x, .own c, s2, s3, s4, .un, .un, .un, .un, .un, .un, .un, .un, .un, .un, .un, .un, .un, .un] = .nx [.val x, .own c, s2, s3, s4, .val dealD, .val rowsD, .val innerD, .val moreD, .un, .un, .un, .un, .un, .un, .un, .un, .un, .un] := by kernel_rfl
theorem go2 {τ τ' : Ta} (h : seqE sg2 τ = .nx τ') : (q_law_2 c59).e τ = (q_law_16 c59).e τ' :=
  seqE_cons h fun _ h => seqE_cons h fun _ h => seqE_cons h fun _ h => seqE_cons h fun _ h => seqE_cons h fun _ h => seqE_cons h fun _ h => seqE_cons h fun _ h => seqE_cons h fun _ h => seqE_cons h fun _ h => seqE_cons h fun _ h => seqE_cons h fun _ h => seqE_cons h fun _ h => seqE_cons h fun _ h => seqE_cons h fun _ h => seqE_nil h
theorem then_of {a b : BS} {τ τ' : Ta} (h : a.e τ = .nx τ') : (tCons a b).e τ = b.e τ' := by rw [tCons_e, h]; rfl
theorem in_all {s : Shp} (L : List Shp) (hL : ∀ s ∈ L, s ∈ moreS ++ rowsS ++ someS ++ twoS) (m : s ∈ L) : s.ok := all_ok s (hL s m)
theorem seg16 (x : D) (c : List D) (s2 s3 s4 : Sl) (v4 : slotV s4 = true) : (p_law_16 c59).e [.val x, .own c, s2, s3, s4, .val dealD, .val rowsD, .val innerD, .val moreD, .un, .un, .un, .un, .un, .un, .un, .un, .un, .un] = .nx [.val x, .own c, s2, s3, s4, .val dealD, .val rowsD, .val innerD, .val moreD, .un, .un, .un, .un, .un, .un, .un, .un, .un, .un] := by
  have e1 := lcA_pure (g := kTup 2 (kCons (kN 4) (kCons (kN 9) (kNil)))) (t := qOr (qTru (qOp neD (qCall reprD (qCons (qFn 2 (c59 .shaped) (zE (qVar 7) (zE (qVar 4) (zNil)))) (qNil))) (qCall reprD (qCons (qVar 9) (qNil))))) (qTru (qOp neD (qCall reprD (qCons (qFn 2 (c59 ._law_shaped) (zE (qVar 7) (zE (qVar 4) (zNil)))) (qNil))) (qCall reprD (qCons (qVar 9) (qNil)))))) (e := qC (.int 1)) (vs := [4, 9])
    (τ := [.val x, .own c, s2, s3, .un, .val dealD, .val rowsD, .val innerD, .val moreD, .un, .un, .un, .un, .un, .un, .un, .un, .un, .un]) (src := srcR 5 innerF) (as := moreS) (acc := []) (fun _ => false) (fun _ => .int 1) (fun s m =>
      ⟨[.val x, .own c, s2, s3, .val s.toD, .val dealD, .val rowsD, .val innerD, .val moreD, .val (shapeV 5 innerF s).toD, .un, .un, .un, .un, .un, .un, .un, .un, .un], rfl, rfl, (test_ok (Nat.le_refl _) inner_sm (all_ok s (by simp [m])) rfl rfl rfl).2, fun h => nomatch h⟩) (by decide +kernel)
  have e2 := isValb_q v4
  have e3 : moreS.filter (fun _ => false) = [] := rfl
  rw [e3, List.map_nil, List.append_nil] at e1
  rw [p_law_16]
  simp only [tIf_e, qTru_e, qOp_e, qOf_e, qLC_e, qL_e, qVar_e, valAt_s, valAt_0, ofO_some, bnd_ok, asList_b, okWb_c, okWb_n, List.getElem?_cons_succ, List.getElem?_cons_zero, e2, isValb_u, Bool.and_self, rif_true, wipeT_c, wipeT_n, List.set_cons_succ, List.set_cons_zero, e1]
  simp [backT_c, ne_nil]
theorem seg30 (x : D) (c : List D) (s2 s3 s4 s7 s8 s9 : Sl) (r : Ta) (v4 : slotV s4 = true) (v9 : slotV s9 = true) : PV.isTrue (finE [.val x] ((q_law_30 c59).e (.val x :: .own c :: s2 :: s3 :: s4 :: .val dealD :: .val rowsD :: s7 :: s8 :: s9 :: r))) = true := by
  have e1 := lcA_pure (g := kTup 2 (kCons (kN 4) (kCons (kN 9) (kNil)))) (t := qOr (qTru (qOp neD (qCall reprD (qCons (qFn 2 (c59 .shaped) (zE (qVar 5) (zE (qVar 4) (zNil)))) (qNil))) (qCall reprD (qCons (qVar 9) (qNil))))) (qTru (qOp neD (qCall reprD (qCons (qFn 2 (c59 ._law_shaped) (zE (qVar 5) (zE (qVar 4) (zNil)))) (qNil))) (qCall reprD (qCons (qVar 9) (qNil)))))) (e := qC (.int 1)) (vs := [4, 9])
    (τ := .val x :: .own c :: s2 :: s3 :: .un :: .val dealD :: .val rowsD :: s7 :: s8 :: .un :: r) (src := srcR 5 dealF) (as := rowsS) (acc := []) (fun _ => false) (fun _ => .int 1) (fun s m =>
      ⟨.val x :: .own c :: s2 :: s3 :: .val s.toD :: .val dealD :: .val rowsD :: s7 :: s8 :: .val (shapeV 5 dealF s).toD :: r, rfl, rfl, (test_ok (Nat.le_refl _) deal_sm (all_ok s (by simp [m])) rfl rfl rfl).2, fun h => nomatch h⟩) (by decide +kernel)
  have e2 := isValb_q v4
  have e4 := isValb_q v9
  have e3 : rowsS.filter (fun _ => false) = [] := rfl
  rw [e3, List.map_nil, List.append_nil] at e1
  rw [q_law_30, p_law_30]
  simp only [tRet_e, qTru_e, qOp_e, qOf_e, qLC_e, qL_e, qVar_e, valAt_s, valAt_0, ofO_some, bnd_ok, asList_b, okWb_c, okWb_n, List.getElem?_cons_succ, List.getElem?_cons_zero, e2, e4, isValb_u, Bool.and_self, rif_true, wipeT_c, wipeT_n, List.set_cons_succ, List.set_cons_zero, e1]
  simp [backT_c, eq_nil, PV.isTrue]
abbrev wideD (c d : Int) : D := (Val.doc (wideF c d)).toD
abbrev someD (c d : Int) : D := .list (someS.map (srcR 5 (wideF c d)))
abbrev bareD : D := (Val.doc bareF).toD
abbrev twoD : D := .list (twoS.map (srcR 5 bareF))
def sg18 : List BS := [p_law_18 c59, p_law_19 c59, p_law_20 c59, p_law_21 c59, p_law_22 c59, p_law_23 c59, p_law_24 c59]
def at18 (c d : Int) (i : Nat) : Sl := .val ((valAt (nxt (seqE sg18 [.un, .un, .un, .un, .un, .un, .un, .un, .un, .un, .val (.int c), .val (.int d), .un, .un, .un, .un, .un, .un, .un])) i).getD .none)
theorem seg18 (x : D) (l : List D) (s2 s3 s4 s5 s6 s7 s8 s9 : Sl) (c d : Int) : seqE sg18 [.val x, .own l, s2, s3, s4, s5, s6, s7, s8, s9, .val (.int c), .val (.int d), .un, .un, .un, .un, .un, .un, .un] = .nx [.val x, .own l, s2, s3, s4, s5, s6, s7, s8, s9, .val (.int c), .val (.int d), at18 c d 12, .val (wideD c d), at18 c d 14, at18 c d 15, .val (someD c d), .un, .un] := by kernel_rfl
theorem go18 {τ τ' : Ta} (h : seqE sg18 τ = .nx τ') : (q_law_18 c59).e τ = (q_law_25 c59).e τ' :=
  seqE_cons h fun _ h => seqE_cons h fun _ h => seqE_cons h fun _ h => seqE_cons h fun _ h => seqE_cons h fun _ h => seqE_cons h fun _ h => seqE_cons h fun _ h => seqE_nil h
theorem seg25 (x : D) (l : List D) (s2 s3 s4 s5 s6 s7 s8 s9 s10 s11 s12 s14 s15 : Sl) (r : Ta) (c d : Int) (hc : 0 ≤ c ∧ c < 9) (hd : -10 ≤ d ∧ d < 0) (v4 : slotV s4 = true) (v9 : slotV s9 = true) : (p_law_25 c59).e (.val x :: .own l :: s2 :: s3 :: s4 :: s5 :: s6 :: s7 :: s8 :: s9 :: s10 :: s11 :: s12 :: .val (wideD c d) :: s14 :: s15 :: .val (someD c d) :: r) = .nx (.val x :: .own l :: s2 :: s3 :: s4 :: s5 :: s6 :: s7 :: s8 :: s9 :: s10 :: s11 :: s12 :: .val (wideD c d) :: s14 :: s15 :: .val (someD c d) :: r) := by
  have e1 := lcA_pure (g := kTup 2 (kCons (kN 4) (kCons (kN 9) (kNil)))) (t := qOr (qTru (qOp neD (qCall reprD (qCons (qFn 2 (c59 .shaped) (zE (qVar 13) (zE (qVar 4) (zNil)))) (qNil))) (qCall reprD (qCons (qVar 9) (qNil))))) (qTru (qOp neD (qCall reprD (qCons (qFn 2 (c59 ._law_shaped) (zE (qVar 13) (zE (qVar 4) (zNil)))) (qNil))) (qCall reprD (qCons (qVar 9) (qNil)))))) (e := qC (.int 1)) (vs := [4, 9])
    (τ := .val x :: .own l :: s2 :: s3 :: .un :: s5 :: s6 :: s7 :: s8 :: .un :: s10 :: s11 :: s12 :: .val (wideD c d) :: s14 :: s15 :: .val (someD c d) :: r) (src := srcR 5 (wideF c d)) (as := someS) (acc := []) (fun _ => false) (fun _ => .int 1) (fun s m =>
      ⟨.val x :: .own l :: s2 :: s3 :: .val s.toD :: s5 :: s6 :: s7 :: s8 :: .val (shapeV 5 (wideF c d) s).toD :: s10 :: s11 :: s12 :: .val (wideD c d) :: s14 :: s15 :: .val (someD c d) :: r, rfl, rfl, (test_ok (Nat.le_refl _) (wide_sm hc hd) (all_ok s (by simp [m])) rfl rfl rfl).2, fun h => nomatch h⟩) (by decide +kernel)
  have e2 := isValb_q v4
  have e4 := isValb_q v9
  have e3 : someS.filter (fun _ => false) = [] := rfl
  rw [e3, List.map_nil, List.append_nil] at e1
  rw [p_law_25]
  simp only [tIf_e, qTru_e, qOp_e, qOf_e, qLC_e, qL_e, qVar_e, valAt_s, valAt_0, ofO_some, bnd_ok, asList_b, okWb_c, okWb_n, List.getElem?_cons_succ, List.getElem?_cons_zero, e2, e4, isValb_u, Bool.and_self, rif_true, wipeT_c, wipeT_n, List.set_cons_succ, List.set_cons_zero, e1]
  simp [backT_c, ne_nil]
def sg26 : List BS := [p_law_26 c59, p_law_27 c59, p_law_28 c59]
theorem seg26 (x : D) (l : List D) (s2 s3 s4 s5 s6 s7 s8 s9 s10 s11 s12 s13 s14 s15 s16 : Sl) : seqE sg26 [.val x, .own l, s2, s3, s4, s5, s6, s7, s8, s9, s10, s11, s12, s13, s14, s15, s16, .un, .un] = .nx [.val x, .own l, s2, s3, s4, s5, s6, s7, s8, s9, s10, s11, s12, s13, s14, s15, s16, .val bareD, .val twoD] := by kernel_rfl
theorem go26 {τ τ' : Ta} (h : seqE sg26 τ = .nx τ') : (q_law_26 c59).e τ = (q_law_29 c59).e τ' :=
  seqE_cons h fun _ h => seqE_cons h fun _ h => seqE_cons h fun _ h => seqE_nil h
theorem seg29 (x : D) (l : List D) (s2 s3 s4 s5 s6 s7 s8 s9 s10 s11 s12 s13 s14 s15 s16 : Sl) (v4 : slotV s4 = true) (v9 : slotV s9 = true) : (p_law_29 c59).e [.val x, .own l, s2, s3, s4, s5, s6, s7, s8, s9, s10, s11, s12, s13, s14, s15, s16, .val bareD, .val twoD] = .nx [.val x, .own l, s2, s3, s4, s5, s6, s7, s8, s9, s10, s11, s12, s13, s14, s15, s16, .val bareD, .val twoD] := by
  have e1 := lcA_pure (g := kTup 2 (kCons (kN 4) (kCons (kN 9) (kNil)))) (t := qTru (qOp neD (qCall reprD (qCons (qFn 2 (c59 .shaped) (zE (qVar 17) (zE (qVar 4) (zNil)))) (qNil))) (qCall reprD (qCons (qVar 9) (qNil))))) (e := qC (.int 1)) (vs := [4, 9])
    (τ := [.val x, .own l, s2, s3, .un, s5, s6, s7, s8, .un, s10, s11, s12, s13, s14, s15, s16, .val bareD, .val twoD]) (src := srcR 5 bareF) (as := twoS) (acc := []) (fun _ => false) (fun _ => .int 1) (fun s m =>
      ⟨[.val x, .own l, s2, s3, .val s.toD, s5, s6, s7, s8, .val (shapeV 5 bareF s).toD, s10, s11, s12, s13, s14, s15, s16, .val bareD, .val twoD], rfl, rfl, (test_ok (Nat.le_refl _) bare_sm (all_ok s (by simp [m])) rfl rfl rfl).1, fun h => nomatch h⟩) (by decide +kernel)
  have e2 := isValb_q v4
  have e4 := isValb_q v9
  have e3 : twoS.filter (fun _ => false) = [] := rfl
  rw [e3, List.map_nil, List.append_nil] at e1
  rw [p_law_29]
  simp only [tIf_e, qTru_e, qOp_e, qOf_e, qLC_e, qL_e, qVar_e, valAt_s, valAt_0, ofO_some, bnd_ok, asList_b, okWb_c, okWb_n, List.getElem?_cons_succ, List.getElem?_cons_zero, e2, e4, isValb_u, Bool.and_self, rif_true, wipeT_c, wipeT_n, List.set_cons_succ, List.set_cons_zero, e1]
  simp [backT_c, ne_nil]
end Lw
end

section
set_option maxRecDepth 100000
set_option maxHeartbeats 0
namespace Lw
open PySem PySem.Spec PyProof.Rows L2 PV
set_option autoImplicit false
theorem r_law (ns : List Int) (hl : ns.length ≤ 63) : callN 60 .law [.val (.list (ns.map PyData.int))] = .ok (.bool true) [.val (.list (ns.map PyData.int))] := by
  obtain ⟨a0, b0, e0⟩ := r_cup 58 ns hl
  generalize hx : PyData.list (ns.map PyData.int) = x at *
  rw [u_law]
  apply isTrue_of
  show PV.isTrue (finE [.val x] ((q_law_0 c59).e [.val x, .un, .un, .un, .un, .un, .un, .un, .un, .un, .un, .un, .un, .un, .un, .un, .un, .un, .un])) = true
  rw [q_law_0, then_of (τ' := [.val x, .own [.int a0, .int b0], .un, .un, .un, .un, .un, .un, .un, .un, .un, .un, .un, .un, .un, .un, .un, .un, .un]) (by rw [p_law_0]; simp [e0])]
  let I : Ta → Prop := fun τ => ∃ (a b : Int) (s2 s3 s4 : Sl), τ = [.val x, .own [.int a, .int b], s2, s3, s4, .un, .un, .un, .un, .un, .un, .un, .un, .un, .un, .un, .un, .un, .un] ∧ slotV s2 = true ∧ slotV s3 = true ∧ slotV s4 = true
  have W := forE_inv (g := kN 2) (b := tCons (tPar 3 4 (qFn 2 (c59 ._law_document) (zS 1 (zE (qFn 2 (c59 ._law_some) (zS 1 (zE (qLst (qCons (qC (.int 1)) (qCons (qC (.str "a")) (qCons (qC .none) (qNil))))) (zNil)))) (zNil)))) (qFn 1 (c59 ._law_shape) (zS 1 (zNil))))
  (tIf (qTru (qOp neD (qCall reprD (qCons (qFn 2 (c59 .shaped) (zE (qVar 3) (zE (qVar 4) (zNil)))) (qNil))) (qCall reprD (qCons (qFn 2 (c59 ._law_shaped) (zE (qVar 3) (zE (qVar 4) (zNil)))) (qNil))))) (tRet (qC (.bool false))) (tNil))) I (rngD 0 6) [.val x, .own [.int a0, .int b0], .un, .un, .un, .un, .un, .un, .un, .un, .un, .un, .un, .un, .un, .un, .un, .un, .un] ⟨a0, b0, .un, .un, .un, rfl, rfl, rfl, rfl⟩ (by
    rintro d _ τ ⟨a, b, s2, s3, s4, rfl, v2, v3, v4⟩
    obtain ⟨a1, b1, d1, e1, m1⟩ := r_someL 57 a b [.int 1, .str "a", .none] (by simp) (by simp)
    obtain ⟨w, rfl, hw⟩ := plainL (L := [.int 1, .str "a", .none]) (by decide +kernel) m1
    obtain ⟨a2, b2, d2, e2, fs, rfl, hfs⟩ := v_document 59 w (hw 0) (by decide) a1 b1
    obtain ⟨a3, b3, d3, e3, s, rfl, hs⟩ := v_shape 59 (by decide) a2 b2
    have h1 := r_shaped (by decide) fs hfs s hs
    have h2 := r_law_shaped (by decide) fs hfs s hs
    have h3 := repr_sm (by decide) (shape_sm hfs s)
    have o2 := okSetb_q (r := [s3, s4, .un, .un, .un, .un, .un, .un, .un, .un, .un, .un, .un, .un, .un, .un]) v2
    have o3 := okSetb_q (r := [s4, .un, .un, .un, .un, .un, .un, .un, .un, .un, .un, .un, .un, .un, .un]) v3
    have o4 := okSetb_q (r := [.un, .un, .un, .un, .un, .un, .un, .un, .un, .un, .un, .un, .un, .un]) v4
    refine ⟨[.val x, .own [.int a3, .int b3], .val d, .val (Val.doc fs).toD, .val s.toD, .un, .un, .un, .un, .un, .un, .un, .un, .un, .un, .un, .un, .un, .un], .inl ?_, a3, b3, _, _, _, rfl, rfl, rfl, rfl⟩
    simp [o2, o3, o4, sz, e1, e2, e3, h1, h2, h3, -toD_doc])
  obtain ⟨τ', h1, a, b, s2, s3, s4, rfl, v2, v3, v4⟩ := W
  have hr : rng 6 = true := by decide
  rw [q_law_1, then_of (by rw [p_law_1]; simp [hr]; exact h1), go2 (seg2 _ _ _ _ _), q_law_16, then_of (seg16 _ _ _ _ _ v4)]
  obtain ⟨a1, b1, _, e1, c, rfl, hc⟩ := d_roll (N := 59) (by decide) 9 (by decide) (by decide) a b
  obtain ⟨a2, b2, _, e2, d, rfl, hd⟩ := d_roll (N := 59) (by decide) 9 (by decide) (by decide) a1 b1
  rw [q_law_17, then_of (τ' := [.val x, .own [.int a2, .int b2], s2, s3, s4, .val dealD, .val rowsD, .val innerD, .val moreD, .un, .val (.int c), .val (.int (-1 - (d : Int))), .un, .un, .un, .un, .un, .un, .un]) (by rw [p_law_17]; simp [e1, e2])]
  rw [go18 (seg18 _ _ _ _ _ _ _ _ _ _ _ _), q_law_25, then_of (seg25 _ _ _ _ _ _ _ _ _ _ _ _ _ _ _ _ _ _ (by omega) (by omega) v4 rfl), go26 (seg26 _ _ _ _ _ _ _ _ _ _ _ _ _ _ _ _ _), q_law_29, then_of (seg29 _ _ _ _ _ _ _ _ _ _ _ _ _ _ _ _ _ v4 rfl)]
  exact seg30 _ _ _ _ _ _ _ _ _ v4 rfl
end Lw
end

section
set_option maxRecDepth 100000
set_option maxHeartbeats 0
namespace Lw
open PySem PySem.Spec PyProof.Rows L2 PV
set_option autoImplicit false
/-! ### the text -/
def topS (i : Nat) : Stmt := PySem.Challenge.pw_documenthall_k20_whole_shapes_of_documen.main.body.getD i (.Pass ⟨0, 0, 0, 0⟩)
abbrev s_is_whole : Stmt := topS 12
abbrev s_is_tuple_of : Stmt := topS 13
abbrev s_is_name : Stmt := topS 14
abbrev s_is_text_sign : Stmt := topS 15
abbrev s_fits_plain : Stmt := topS 16
abbrev s_is_knot : Stmt := topS 17
abbrev s_fits_fields : Stmt := topS 18
abbrev s_inner_of : Stmt := topS 19
abbrev s_fits_value : Stmt := topS 20
abbrev s_is_doc : Stmt := topS 21
abbrev s_need_document : Stmt := topS 22
abbrev s_are_apart : Stmt := topS 27
abbrev s_fits_shape : Stmt := topS 28
abbrev s_rests_of : Stmt := topS 29
abbrev s_kept_fields : Stmt := topS 30
abbrev s_kept_value : Stmt := topS 31
abbrev s_left_fields : Stmt := topS 32
abbrev s_left_value : Stmt := topS 33
abbrev s_shaped_by : Stmt := topS 34
abbrev s_shaped : Stmt := topS 35
abbrev s__law_cup : Stmt := topS 37
abbrev s__law_roll : Stmt := topS 38
abbrev s__law_some : Stmt := topS 39
abbrev s__law_value : Stmt := topS 40
abbrev s__law_drawn_fields : Stmt := topS 41
abbrev s__law_document : Stmt := topS 42
abbrev s__law_shape : Stmt := topS 43
abbrev s__law_rest : Stmt := topS 44
abbrev s__law_kept : Stmt := topS 45
abbrev s__law_dropped : Stmt := topS 46
abbrev s__law_shaped : Stmt := topS 47
abbrev s_law : Stmt := topS 48
theorem sc_is_whole : FnScope ["value", "low", "high"] ["value", "low", "high"] (defScope s_is_whole) := ⟨rfl, rfl, rfl, by decide +kernel, rfl, by decide +kernel, by decide +kernel⟩
theorem sc_is_tuple_of : FnScope ["value", "low", "high"] ["value", "low", "high"] (defScope s_is_tuple_of) := ⟨rfl, rfl, rfl, by decide +kernel, rfl, by decide +kernel, by decide +kernel⟩
theorem sc_is_name : FnScope ["value", "sign"] ["value"] (defScope s_is_name) := ⟨rfl, rfl, rfl, by decide +kernel, rfl, by decide +kernel, by decide +kernel⟩
theorem sc_is_text_sign : FnScope ["sign"] ["sign"] (defScope s_is_text_sign) := ⟨rfl, rfl, rfl, by decide +kernel, rfl, by decide +kernel, by decide +kernel⟩
theorem sc_fits_plain : FnScope ["value", "sign"] ["value"] (defScope s_fits_plain) := ⟨rfl, rfl, rfl, by decide +kernel, rfl, by decide +kernel, by decide +kernel⟩
theorem sc_is_knot : FnScope ["value"] ["value"] (defScope s_is_knot) := ⟨rfl, rfl, rfl, by decide +kernel, rfl, by decide +kernel, by decide +kernel⟩
theorem sc_fits_fields : FnScope ["fields", "one", "names"] ["fields"] (defScope s_fits_fields) := ⟨rfl, rfl, rfl, by decide +kernel, rfl, by decide +kernel, by decide +kernel⟩
theorem sc_inner_of : FnScope ["value", "one"] ["value"] (defScope s_inner_of) := ⟨rfl, rfl, rfl, by decide +kernel, rfl, by decide +kernel, by decide +kernel⟩
theorem sc_fits_value : FnScope ["value", "line", "one", "deep", "inner"] ["value"] (defScope s_fits_value) := ⟨rfl, rfl, rfl, by decide +kernel, rfl, by decide +kernel, by decide +kernel⟩
theorem sc_is_doc : FnScope ["value"] ["value"] (defScope s_is_doc) := ⟨rfl, rfl, rfl, by decide +kernel, rfl, by decide +kernel, by decide +kernel⟩
theorem sc_need_document : FnScope ["value"] ["value"] (defScope s_need_document) := ⟨rfl, rfl, rfl, by decide +kernel, rfl, by decide +kernel, by decide +kernel⟩
theorem sc_are_apart : FnScope ["one", "other", "mine", "yours"] ["one", "other"] (defScope s_are_apart) := ⟨rfl, rfl, rfl, by decide +kernel, rfl, by decide +kernel, by decide +kernel⟩
theorem sc_fits_shape : FnScope ["value", "path", "step", "at", "one", "other"] ["value"] (defScope s_fits_shape) := ⟨rfl, rfl, rfl, by decide +kernel, rfl, by decide +kernel, by decide +kernel⟩
theorem sc_rests_of : FnScope ["paths", "name", "path"] ["paths", "name"] (defScope s_rests_of) := ⟨rfl, rfl, rfl, by decide +kernel, rfl, by decide +kernel, by decide +kernel⟩
theorem sc_kept_fields : FnScope ["document", "paths", "found", "name", "value", "rests"] ["document", "paths"] (defScope s_kept_fields) := ⟨rfl, rfl, rfl, by decide +kernel, rfl, by decide +kernel, by decide +kernel⟩
theorem sc_kept_value : FnScope ["value", "paths", "one"] ["value", "paths"] (defScope s_kept_value) := ⟨rfl, rfl, rfl, by decide +kernel, rfl, by decide +kernel, by decide +kernel⟩
theorem sc_left_fields : FnScope ["document", "paths", "found", "name", "value", "rests"] ["document", "paths"] (defScope s_left_fields) := ⟨rfl, rfl, rfl, by decide +kernel, rfl, by decide +kernel, by decide +kernel⟩
theorem sc_left_value : FnScope ["value", "paths", "one"] ["value", "paths"] (defScope s_left_value) := ⟨rfl, rfl, rfl, by decide +kernel, rfl, by decide +kernel, by decide +kernel⟩
theorem sc_shaped_by : FnScope ["document", "shape"] ["document", "shape"] (defScope s_shaped_by) := ⟨rfl, rfl, rfl, by decide +kernel, rfl, by decide +kernel, by decide +kernel⟩
theorem sc_shaped : FnScope ["document", "shape"] ["document", "shape"] (defScope s_shaped) := ⟨rfl, rfl, rfl, by decide +kernel, rfl, by decide +kernel, by decide +kernel⟩
theorem sc__law_cup : FnScope ["script", "cell"] ["script"] (defScope s__law_cup) := ⟨rfl, rfl, rfl, by decide +kernel, rfl, by decide +kernel, by decide +kernel⟩
theorem sc__law_roll : FnScope ["cup", "many", "found", "deep"] ["cup", "many"] (defScope s__law_roll) := ⟨rfl, rfl, rfl, by decide +kernel, rfl, by decide +kernel, by decide +kernel⟩
theorem sc__law_some : FnScope ["cup", "things"] ["cup", "things"] (defScope s__law_some) := ⟨rfl, rfl, rfl, by decide +kernel, rfl, by decide +kernel, by decide +kernel⟩
theorem sc__law_value : FnScope ["cup", "deep", "way", "turn"] ["cup", "deep"] (defScope s__law_value) := ⟨rfl, rfl, rfl, by decide +kernel, rfl, by decide +kernel, by decide +kernel⟩
theorem sc__law_drawn_fields : FnScope ["cup", "deep", "many", "found", "names", "turn", "name", "one"] ["cup", "deep", "many"] (defScope s__law_drawn_fields) := ⟨rfl, rfl, rfl, by decide +kernel, rfl, by decide +kernel, by decide +kernel⟩
theorem sc__law_document : FnScope ["cup", "own"] ["cup", "own"] (defScope s__law_document) := ⟨rfl, rfl, rfl, by decide +kernel, rfl, by decide +kernel, by decide +kernel⟩
theorem sc__law_shape : FnScope ["cup", "some"] ["cup"] (defScope s__law_shape) := ⟨rfl, rfl, rfl, by decide +kernel, rfl, by decide +kernel, by decide +kernel⟩
theorem sc__law_rest : FnScope ["paths", "name", "path"] ["paths", "name"] (defScope s__law_rest) := ⟨rfl, rfl, rfl, by decide +kernel, rfl, by decide +kernel, by decide +kernel⟩
theorem sc__law_kept : FnScope ["value", "paths", "one", "found", "name", "rest"] ["value", "paths"] (defScope s__law_kept) := ⟨rfl, rfl, rfl, by decide +kernel, rfl, by decide +kernel, by decide +kernel⟩
theorem sc__law_dropped : FnScope ["value", "paths", "one", "name"] ["value", "paths"] (defScope s__law_dropped) := ⟨rfl, rfl, rfl, by decide +kernel, rfl, by decide +kernel, by decide +kernel⟩
theorem sc__law_shaped : FnScope ["document", "shape"] ["document", "shape"] (defScope s__law_shaped) := ⟨rfl, rfl, rfl, by decide +kernel, rfl, by decide +kernel, by decide +kernel⟩
theorem sc_law : FnScope ["script", "cup", "turn", "document", "shape", "deal", "rows", "inner", "more", "due", "c", "d", "middle", "wide", "kept", "left", "some", "bare", "rows_two"] ["script"] (defScope s_law) := ⟨rfl, rfl, rfl, by decide +kernel, rfl, by decide +kernel, by decide +kernel⟩
/-! ### what the module holds -/
structure M (K : Fg) (mg : Str → Option Value) where
  b_abs : mg "abs" = none
  b_all : mg "all" = none
  b_any : mg "any" = none
  b_bool : mg "bool" = none
  b_enumerate : mg "enumerate" = none
  b_int : mg "int" = none
  b_isinstance : mg "isinstance" = none
  b_len : mg "len" = none
  b_list : mg "list" = none
  b_ord : mg "ord" = none
  b_range : mg "range" = none
  b_repr : mg "repr" = none
  b_set : mg "set" = none
  b_str : mg "str" = none
  b_tuple : mg "tuple" = none
  b_zip : mg "zip" = none
  t_DEEP : Tok
  g_DEEP : mg "DEEP" = some (.int 6 t_DEEP)
  t_HIGHEST : Tok
  g_HIGHEST : mg "HIGHEST" = some (.int 1000000000000 t_HIGHEST)
  t_ID : Tok
  g_ID : mg "ID" = some (.str "id" t_ID)
  t_LONGEST : Tok
  g_LONGEST : mg "LONGEST" = some (.int 40 t_LONGEST)
  t_MOST : Tok
  g_MOST : mg "MOST" = some (.int 16 t_MOST)
  t_NAME : Tok
  g_NAME : mg "NAME" = some (.int 8 t_NAME)
  t_NAMES : Tok
  g_NAMES : mg "NAMES" = some (.int 3 t_NAMES)
  t_PATHS : Tok
  g_PATHS : mg "PATHS" = some (.int 8 t_PATHS)
  t_SIGNS : Tok
  g_SIGNS : mg "SIGNS" = some (.str "abcdefghijklmnopqrstuvwxyz0123456789" t_SIGNS)
  t_SMALL : Tok
  g_SMALL : mg "SMALL" = some (.str "abcdefghijklmnopqrstuvwxyz" t_SMALL)
  a_is_whole : Addr
  fd_is_whole : FuncData
  F_is_whole : Fun K "is_whole" "is_whole" s_is_whole a_is_whole fd_is_whole
  B_is_whole : Binds K fd_is_whole ["value", "low", "high"] []
  m_is_whole : mg "is_whole" = some (.ref a_is_whole)
  a_is_tuple_of : Addr
  fd_is_tuple_of : FuncData
  F_is_tuple_of : Fun K "is_tuple_of" "is_tuple_of" s_is_tuple_of a_is_tuple_of fd_is_tuple_of
  B_is_tuple_of : Binds K fd_is_tuple_of ["value", "low", "high"] []
  m_is_tuple_of : mg "is_tuple_of" = some (.ref a_is_tuple_of)
  a_is_name : Addr
  fd_is_name : FuncData
  F_is_name : Fun K "is_name" "is_name" s_is_name a_is_name fd_is_name
  B_is_name : Binds K fd_is_name ["value"] []
  m_is_name : mg "is_name" = some (.ref a_is_name)
  a_is_text_sign : Addr
  fd_is_text_sign : FuncData
  F_is_text_sign : Fun K "is_text_sign" "is_text_sign" s_is_text_sign a_is_text_sign fd_is_text_sign
  B_is_text_sign : Binds K fd_is_text_sign ["sign"] []
  m_is_text_sign : mg "is_text_sign" = some (.ref a_is_text_sign)
  a_fits_plain : Addr
  fd_fits_plain : FuncData
  F_fits_plain : Fun K "fits_plain" "fits_plain" s_fits_plain a_fits_plain fd_fits_plain
  B_fits_plain : Binds K fd_fits_plain ["value"] []
  m_fits_plain : mg "fits_plain" = some (.ref a_fits_plain)
  a_is_knot : Addr
  fd_is_knot : FuncData
  F_is_knot : Fun K "is_knot" "is_knot" s_is_knot a_is_knot fd_is_knot
  B_is_knot : Binds K fd_is_knot ["value"] []
  m_is_knot : mg "is_knot" = some (.ref a_is_knot)
  a_fits_fields : Addr
  fd_fits_fields : FuncData
  F_fits_fields : Fun K "fits_fields" "fits_fields" s_fits_fields a_fits_fields fd_fits_fields
  B_fits_fields : Binds K fd_fits_fields ["fields"] []
  m_fits_fields : mg "fits_fields" = some (.ref a_fits_fields)
  a_inner_of : Addr
  fd_inner_of : FuncData
  F_inner_of : Fun K "inner_of" "inner_of" s_inner_of a_inner_of fd_inner_of
  B_inner_of : Binds K fd_inner_of ["value"] []
  m_inner_of : mg "inner_of" = some (.ref a_inner_of)
  a_fits_value : Addr
  fd_fits_value : FuncData
  F_fits_value : Fun K "fits_value" "fits_value" s_fits_value a_fits_value fd_fits_value
  B_fits_value : Binds K fd_fits_value ["value"] []
  m_fits_value : mg "fits_value" = some (.ref a_fits_value)
  a_is_doc : Addr
  fd_is_doc : FuncData
  F_is_doc : Fun K "is_doc" "is_doc" s_is_doc a_is_doc fd_is_doc
  B_is_doc : Binds K fd_is_doc ["value"] []
  m_is_doc : mg "is_doc" = some (.ref a_is_doc)
  a_need_document : Addr
  fd_need_document : FuncData
  F_need_document : Fun K "need_document" "need_document" s_need_document a_need_document fd_need_document
  B_need_document : Binds K fd_need_document ["value"] []
  m_need_document : mg "need_document" = some (.ref a_need_document)
  a_are_apart : Addr
  fd_are_apart : FuncData
  F_are_apart : Fun K "are_apart" "are_apart" s_are_apart a_are_apart fd_are_apart
  B_are_apart : Binds K fd_are_apart ["one", "other"] []
  m_are_apart : mg "are_apart" = some (.ref a_are_apart)
  a_fits_shape : Addr
  fd_fits_shape : FuncData
  F_fits_shape : Fun K "fits_shape" "fits_shape" s_fits_shape a_fits_shape fd_fits_shape
  B_fits_shape : Binds K fd_fits_shape ["value"] []
  m_fits_shape : mg "fits_shape" = some (.ref a_fits_shape)
  a_rests_of : Addr
  fd_rests_of : FuncData
  F_rests_of : Fun K "rests_of" "rests_of" s_rests_of a_rests_of fd_rests_of
  B_rests_of : Binds K fd_rests_of ["paths", "name"] []
  m_rests_of : mg "rests_of" = some (.ref a_rests_of)
  a_kept_fields : Addr
  fd_kept_fields : FuncData
  F_kept_fields : Fun K "kept_fields" "kept_fields" s_kept_fields a_kept_fields fd_kept_fields
  B_kept_fields : Binds K fd_kept_fields ["document", "paths"] []
  m_kept_fields : mg "kept_fields" = some (.ref a_kept_fields)
  a_kept_value : Addr
  fd_kept_value : FuncData
  F_kept_value : Fun K "kept_value" "kept_value" s_kept_value a_kept_value fd_kept_value
  B_kept_value : Binds K fd_kept_value ["value", "paths"] []
  m_kept_value : mg "kept_value" = some (.ref a_kept_value)
  a_left_fields : Addr
  fd_left_fields : FuncData
  F_left_fields : Fun K "left_fields" "left_fields" s_left_fields a_left_fields fd_left_fields
  B_left_fields : Binds K fd_left_fields ["document", "paths"] []
  m_left_fields : mg "left_fields" = some (.ref a_left_fields)
  a_left_value : Addr
  fd_left_value : FuncData
  F_left_value : Fun K "left_value" "left_value" s_left_value a_left_value fd_left_value
  B_left_value : Binds K fd_left_value ["value", "paths"] []
  m_left_value : mg "left_value" = some (.ref a_left_value)
  a_shaped_by : Addr
  fd_shaped_by : FuncData
  F_shaped_by : Fun K "shaped_by" "shaped_by" s_shaped_by a_shaped_by fd_shaped_by
  B_shaped_by : Binds K fd_shaped_by ["document", "shape"] []
  m_shaped_by : mg "shaped_by" = some (.ref a_shaped_by)
  a_shaped : Addr
  fd_shaped : FuncData
  F_shaped : Fun K "shaped" "shaped" s_shaped a_shaped fd_shaped
  B_shaped : Binds K fd_shaped ["document", "shape"] []
  m_shaped : mg "shaped" = some (.ref a_shaped)
  a__law_cup : Addr
  fd__law_cup : FuncData
  F__law_cup : Fun K "_law_cup" "_law_cup" s__law_cup a__law_cup fd__law_cup
  B__law_cup : Binds K fd__law_cup ["script"] []
  m__law_cup : mg "_law_cup" = some (.ref a__law_cup)
  a__law_roll : Addr
  fd__law_roll : FuncData
  F__law_roll : Fun K "_law_roll" "_law_roll" s__law_roll a__law_roll fd__law_roll
  B__law_roll : Binds K fd__law_roll ["cup", "many"] []
  m__law_roll : mg "_law_roll" = some (.ref a__law_roll)
  a__law_some : Addr
  fd__law_some : FuncData
  F__law_some : Fun K "_law_some" "_law_some" s__law_some a__law_some fd__law_some
  B__law_some : Binds K fd__law_some ["cup", "things"] []
  m__law_some : mg "_law_some" = some (.ref a__law_some)
  a__law_value : Addr
  fd__law_value : FuncData
  F__law_value : Fun K "_law_value" "_law_value" s__law_value a__law_value fd__law_value
  B__law_value : Binds K fd__law_value ["cup", "deep"] []
  m__law_value : mg "_law_value" = some (.ref a__law_value)
  a__law_drawn_fields : Addr
  fd__law_drawn_fields : FuncData
  F__law_drawn_fields : Fun K "_law_drawn_fields" "_law_drawn_fields" s__law_drawn_fields a__law_drawn_fields fd__law_drawn_fields
  B__law_drawn_fields : Binds K fd__law_drawn_fields ["cup", "deep", "many"] []
  m__law_drawn_fields : mg "_law_drawn_fields" = some (.ref a__law_drawn_fields)
  a__law_document : Addr
  fd__law_document : FuncData
  F__law_document : Fun K "_law_document" "_law_document" s__law_document a__law_document fd__law_document
  B__law_document : Binds K fd__law_document ["cup", "own"] []
  m__law_document : mg "_law_document" = some (.ref a__law_document)
  a__law_shape : Addr
  fd__law_shape : FuncData
  F__law_shape : Fun K "_law_shape" "_law_shape" s__law_shape a__law_shape fd__law_shape
  B__law_shape : Binds K fd__law_shape ["cup"] []
  m__law_shape : mg "_law_shape" = some (.ref a__law_shape)
  a__law_rest : Addr
  fd__law_rest : FuncData
  F__law_rest : Fun K "_law_rest" "_law_rest" s__law_rest a__law_rest fd__law_rest
  B__law_rest : Binds K fd__law_rest ["paths", "name"] []
  m__law_rest : mg "_law_rest" = some (.ref a__law_rest)
  a__law_kept : Addr
  fd__law_kept : FuncData
  F__law_kept : Fun K "_law_kept" "_law_kept" s__law_kept a__law_kept fd__law_kept
  B__law_kept : Binds K fd__law_kept ["value", "paths"] []
  m__law_kept : mg "_law_kept" = some (.ref a__law_kept)
  a__law_dropped : Addr
  fd__law_dropped : FuncData
  F__law_dropped : Fun K "_law_dropped" "_law_dropped" s__law_dropped a__law_dropped fd__law_dropped
  B__law_dropped : Binds K fd__law_dropped ["value", "paths"] []
  m__law_dropped : mg "_law_dropped" = some (.ref a__law_dropped)
  a__law_shaped : Addr
  fd__law_shaped : FuncData
  F__law_shaped : Fun K "_law_shaped" "_law_shaped" s__law_shaped a__law_shaped fd__law_shaped
  B__law_shaped : Binds K fd__law_shaped ["document", "shape"] []
  m__law_shaped : mg "_law_shaped" = some (.ref a__law_shaped)
  a_law : Addr
  fd_law : FuncData
  F_law : Fun K "law" "law" s_law a_law fd_law
  B_law : Binds K fd_law ["script"] []
  m_law : mg "law" = some (.ref a_law)
section
variable {P : Program} {w : World} {K : Fg} {mg : Str → Option Value} {base : Heap} {cl : Str → Option Value}
theorem d_is_whole (m : M K mg) {k : Nat} (c : Nm → Ta → Res D) (cdv : Value) (A : Around) (outer : List Env) (s : Shared) (H : Hp) (E : XK) (hr : Room k (A.deeper (envOfC "is_whole" (defScope s_is_whole) s.heap.objs.size m.a_is_whole cdv))) (hg0 : A.guards = some []) :
    PSs (cxOf (L2.CX P w) P w K mg base ["value", "low", "high"] "is_whole" (defScope s_is_whole) m.a_is_whole cdv A outer s H E) (defBody s_is_whole) (liftS (lcOf K cl E) (sRet (wAndV (wIsi "int" (wVar 0)) (wAndV (wNotV (wIsi "bool" (wVar 0))) (wChain leD leD (wVar 1) (wVar 0) (wVar 2)))))) :=
  pps_one (pps_ret (ppe_and (ppe_isi rfl (by rfl) m.b_isinstance (by rfl) m.b_int boot_int (by decide) (ppe_var (i := 0))) (ppe_and (ppe_not (ppe_isi rfl (by rfl) m.b_isinstance (by rfl) m.b_bool boot_bool (by decide) (ppe_var (i := 0)))) (ppe_one (ppe_chain o_le o_le rfl (ppe_var (i := 1)) (ppe_var (i := 0)) (ppe_var (i := 2)))))))
theorem d_is_tuple_of (m : M K mg) {k : Nat} (c : Nm → Ta → Res D) (cdv : Value) (A : Around) (outer : List Env) (s : Shared) (H : Hp) (E : XK) (hr : Room k (A.deeper (envOfC "is_tuple_of" (defScope s_is_tuple_of) s.heap.objs.size m.a_is_tuple_of cdv))) (hg0 : A.guards = some []) :
    PSs (cxOf (L2.CX P w) P w K mg base ["value", "low", "high"] "is_tuple_of" (defScope s_is_tuple_of) m.a_is_tuple_of cdv A outer s H E) (defBody s_is_tuple_of) (liftS (lcOf K cl E) (sRet (wAndV (wIsi "tuple" (wVar 0)) (wChain leD leD (wVar 1) (wCall lenD (wCons (wVar 0) (wNil))) (wVar 2))))) :=
  pps_one (pps_ret (ppe_and (ppe_isi rfl (by rfl) m.b_isinstance (by rfl) m.b_tuple boot_tuple (by decide) (ppe_var (i := 0))) (ppe_one (ppe_chain o_le o_le rfl (ppe_var (i := 1)) (ppe_callB c_len rfl (by rfl) m.b_len PySem.boot_len (ppa_cons (ppe_var (i := 0)) (ppa_nil))) (ppe_var (i := 2))))))
theorem d_is_name (m : M K mg) {k : Nat} (c : Nm → Ta → Res D) (cdv : Value) (A : Around) (outer : List Env) (s : Shared) (H : Hp) (E : XK) (hr : Room k (A.deeper (envOfC "is_name" (defScope s_is_name) s.heap.objs.size m.a_is_name cdv))) (hg0 : A.guards = some []) :
    PSs (cxOf (L2.CX P w) P w K mg base ["value", "sign"] "is_name" (defScope s_is_name) m.a_is_name cdv A outer s H E) (defBody s_is_name) (liftS (lcOf K cl E) (sCons (sIf (wOr (wNot (wTru (wIsi "str" (wVar 0)))) (wOr (wNot (wTru (wChain leD leD (wC (.int 1)) (wCall lenD (wCons (wVar 0) (wNil))) (wC (.int 8))))) (wTru (wOp notInD (wOp idxD (wVar 0) (wC (.int 0))) (wC (.str "abcdefghijklmnopqrstuvwxyz")))))) (sRet (wC (.bool false))) (sNil))
  (sRet (wCall allD (wCons (wOf (wLC (iStr' (wVar 0)) (gN 1) (wYes) (wOp inD (wVar 1) (wC (.str "abcdefghijklmnopqrstuvwxyz0123456789"))) [1])) (wNil)))))) :=
  pps_cons (pps_if (ppt_w (ppw_or (ppt_not (ppt_val (ppe_isi rfl (by rfl) m.b_isinstance (by rfl) m.b_str boot_str (by decide) (ppe_var (i := 0))))) (ppw_or (ppt_not (ppt_chain o_le o_le rfl (ppe_int) (ppe_callB c_len rfl (by rfl) m.b_len PySem.boot_len (ppa_cons (ppe_var (i := 0)) (ppa_nil))) (ppe_gI (by rfl) m.g_NAME))) (ppw_or1 (ppt_cmp (o_notin (u65 hr)) rfl (ppe_idx rfl (ppe_var (i := 0)) (ppe_int)) (ppe_gS (by rfl) m.g_SMALL) rfl))))) (pps_one (pps_ret (ppe_bl))) (pps_nil))
    (pps_one (pps_ret (ppe_callB (c_all rfl) rfl (by rfl) m.b_all boot_all (ppa_cons (ppe_ofF (lcf rfl sc_is_name.nd (ppi_str (ppe_var (i := 0))) (blkOk_by (N := ["value", "sign"]) (sc := defScope s_is_name) (own := [("sign", 1)]) (by decide +kernel)) rfl (fun _ _ _ _ _ => ppg_name (i := 1) (fun _ _ => wipe_set (by decide)) sc_is_name.nd rfl (by first | exact .inl rfl | exact .inr rfl)) (fun _ _ _ _ _ => pts_yes) (fun _ _ _ _ _ => ppe_cmp (o_in (u65 hr)) rfl (ppe_var (i := 1)) (ppe_gS (by rfl) m.g_SIGNS) rfl))) (ppa_nil)))))
theorem d_is_text_sign (m : M K mg) {k : Nat} (c : Nm → Ta → Res D) (cdv : Value) (A : Around) (outer : List Env) (s : Shared) (H : Hp) (E : XK) (hr : Room k (A.deeper (envOfC "is_text_sign" (defScope s_is_text_sign) s.heap.objs.size m.a_is_text_sign cdv))) (hg0 : A.guards = some []) :
    PSs (cxOf (L2.CX P w) P w K mg base ["sign"] "is_text_sign" (defScope s_is_text_sign) m.a_is_text_sign cdv A outer s H E) (defBody s_is_text_sign) (liftS (lcOf K cl E) (sRet (wAndV (wChain leD leD (wC (.str " ")) (wVar 0) (wC (.str "~"))) (wOp notInD (wCall ordD (wCons (wVar 0) (wNil))) (wTup (wCons (wC (.int 37)) (wCons (wC (.int 39)) (wNil)))))))) :=
  pps_one (pps_ret (ppe_and (ppe_chain o_le o_le rfl (ppe_str) (ppe_var (i := 0)) (ppe_str)) (ppe_one (ppe_cmp (o_notin (u65 hr)) rfl (ppe_callB c_ord rfl (by rfl) m.b_ord boot_ord (ppa_cons (ppe_var (i := 0)) (ppa_nil))) (ppe_tup (ppa_cons (ppe_int) (ppa_cons (ppe_int) (ppa_nil)))) rfl))))
theorem d_fits_plain (m : M K mg) {k : Nat} (c : Nm → Ta → Res D) (h_is_text_sign : FnG P w K mg base k m.a_is_text_sign m.fd_is_text_sign ["sign"] (spOf K cl 1 (ctE (c .is_text_sign)))) (h_is_whole : FnG P w K mg base k m.a_is_whole m.fd_is_whole ["value", "low", "high"] (spOf K cl 3 (ctE (c .is_whole)))) (cdv : Value) (A : Around) (outer : List Env) (s : Shared) (H : Hp) (E : XK) (hr : Room k (A.deeper (envOfC "fits_plain" (defScope s_fits_plain) s.heap.objs.size m.a_fits_plain cdv))) (hg0 : A.guards = some []) :
    PSs (cxOf (L2.CX P w) P w K mg base ["value", "sign"] "fits_plain" (defScope s_fits_plain) m.a_fits_plain cdv A outer s H E) (defBody s_fits_plain) (liftS (lcOf K cl E) (sCons (sIf (wOr (wTru (wOp isD (wVar 0) (wC .none))) (wTru (wIsi "bool" (wVar 0)))) (sRet (wC (.bool true))) (sNil))
  (sCons (sIf (wTru (wIsi "str" (wVar 0))) (sRet (wAndV (wOp leD (wCall lenD (wCons (wVar 0) (wNil))) (wC (.int 40))) (wCall allD (wCons (wOf (wLC (iStr' (wVar 0)) (gN 1) (wYes) (wFn 1 (ctE (c .is_text_sign)) (arE (wVar 1) (arNil))) [1])) (wNil))))) (sNil))
  (sRet (wFn 3 (ctE (c .is_whole)) (arE (wVar 0) (arE (wUn negD (wC (.int 1000000000000))) (arE (wC (.int 1000000000000)) (arNil))))))))) :=
  pps_cons (pps_if (ppt_w (ppw_or (ppt_cmp o_is rfl (ppe_var (i := 0)) (ppe_non) rfl) (ppw_or1 (ppt_val (ppe_isi rfl (by rfl) m.b_isinstance (by rfl) m.b_bool boot_bool (by decide) (ppe_var (i := 0))))))) (pps_one (pps_ret (ppe_bl))) (pps_nil))
    (pps_cons (pps_if (ppt_val (ppe_isi rfl (by rfl) m.b_isinstance (by rfl) m.b_str boot_str (by decide) (ppe_var (i := 0)))) (pps_one (pps_ret (ppe_and (ppe_cmp o_le rfl (ppe_callB c_len rfl (by rfl) m.b_len PySem.boot_len (ppa_cons (ppe_var (i := 0)) (ppa_nil))) (ppe_gI (by rfl) m.g_LONGEST) rfl) (ppe_one (ppe_callB (c_all rfl) rfl (by rfl) m.b_all boot_all (ppa_cons (ppe_ofF (lcf rfl sc_fits_plain.nd (ppi_str (ppe_var (i := 0))) (blkOk_by (N := ["value", "sign"]) (sc := defScope s_fits_plain) (own := [("sign", 1)]) (by decide +kernel)) rfl (fun _ _ _ _ _ => ppg_name (i := 1) (fun _ _ => wipe_set (by decide)) sc_fits_plain.nd rfl (by first | exact .inl rfl | exact .inr rfl)) (fun _ _ _ _ _ => pts_yes) (fun _ _ _ _ _ => ppe_fn h_is_text_sign rfl hr hg0 (by rfl) m.m_is_text_sign m.F_is_text_sign.kp m.B_is_text_sign takes0 (ppr_e (ppe_var (i := 1)) (ppr_nil))))) (ppa_nil))))))) (pps_nil))
    (pps_one (pps_ret (ppe_fn h_is_whole rfl hr hg0 (by rfl) m.m_is_whole m.F_is_whole.kp m.B_is_whole (takes_of rfl rfl rfl rfl) (ppr_e (ppe_var (i := 0)) (ppr_e (ppe_neg (ppe_gI (by rfl) m.g_HIGHEST)) (ppr_e (ppe_gI (by rfl) m.g_HIGHEST) (ppr_nil))))))))
theorem d_is_knot (m : M K mg) {k : Nat} (c : Nm → Ta → Res D) (h_is_tuple_of : FnG P w K mg base k m.a_is_tuple_of m.fd_is_tuple_of ["value", "low", "high"] (spOf K cl 3 (ctE (c .is_tuple_of)))) (cdv : Value) (A : Around) (outer : List Env) (s : Shared) (H : Hp) (E : XK) (hr : Room k (A.deeper (envOfC "is_knot" (defScope s_is_knot) s.heap.objs.size m.a_is_knot cdv))) (hg0 : A.guards = some []) :
    PSs (cxOf (L2.CX P w) P w K mg base ["value"] "is_knot" (defScope s_is_knot) m.a_is_knot cdv A outer s H E) (defBody s_is_knot) (liftS (lcOf K cl E) (sCons (sIf (wOr (wNot (wTru (wFn 3 (ctE (c .is_tuple_of)) (arE (wVar 0) (arE (wC (.int 2)) (arE (wC (.int 2)) (arNil))))))) (wOr (wNot (wTru (wIsi "str" (wOp idxD (wVar 0) (wC (.int 0)))))) (wTru (wOp notInD (wOp idxD (wVar 0) (wC (.int 0))) (wTup (wCons (wC (.str "list")) (wCons (wC (.str "doc")) (wNil)))))))) (sRet (wC (.bool false))) (sNil))
  (sRet (wFn 3 (ctE (c .is_tuple_of)) (arE (wOp idxD (wVar 0) (wC (.int 1))) (arE (wC (.int 0)) (arE (wC (.int 16)) (arNil)))))))) :=
  pps_cons (pps_if (ppt_w (ppw_or (ppt_not (ppt_val (ppe_fn h_is_tuple_of rfl hr hg0 (by rfl) m.m_is_tuple_of m.F_is_tuple_of.kp m.B_is_tuple_of (takes_of rfl rfl rfl rfl) (ppr_e (ppe_var (i := 0)) (ppr_e (ppe_int) (ppr_e (ppe_int) (ppr_nil))))))) (ppw_or (ppt_not (ppt_val (ppe_isi rfl (by rfl) m.b_isinstance (by rfl) m.b_str boot_str (by decide) (ppe_idx rfl (ppe_var (i := 0)) (ppe_int))))) (ppw_or1 (ppt_cmp (o_notin (u65 hr)) rfl (ppe_idx rfl (ppe_var (i := 0)) (ppe_int)) (ppe_tup (ppa_cons (ppe_str) (ppa_cons (ppe_str) (ppa_nil)))) rfl))))) (pps_one (pps_ret (ppe_bl))) (pps_nil))
    (pps_one (pps_ret (ppe_fn h_is_tuple_of rfl hr hg0 (by rfl) m.m_is_tuple_of m.F_is_tuple_of.kp m.B_is_tuple_of (takes_of rfl rfl rfl rfl) (ppr_e (ppe_idx rfl (ppe_var (i := 0)) (ppe_int)) (ppr_e (ppe_int) (ppr_e (ppe_gI (by rfl) m.g_MOST) (ppr_nil)))))))
theorem d_fits_fields (m : M K mg) {k : Nat} (c : Nm → Ta → Res D) (h_is_name : FnG P w K mg base k m.a_is_name m.fd_is_name ["value"] (spOf K cl 1 (ctE (c .is_name)))) (h_is_tuple_of : FnG P w K mg base k m.a_is_tuple_of m.fd_is_tuple_of ["value", "low", "high"] (spOf K cl 3 (ctE (c .is_tuple_of)))) (cdv : Value) (A : Around) (outer : List Env) (s : Shared) (H : Hp) (E : XK) (hr : Room k (A.deeper (envOfC "fits_fields" (defScope s_fits_fields) s.heap.objs.size m.a_fits_fields cdv))) (hg0 : A.guards = some []) :
    PSs (cxOf (L2.CX P w) P w K mg base ["fields", "one", "names"] "fits_fields" (defScope s_fits_fields) m.a_fits_fields cdv A outer s H E) (defBody s_fits_fields) (liftS (lcOf K cl E) (sCons (sIf (wNot (wTru (wCall allD (wCons (wOf (wLC (iT (wVar 0)) (gN 1) (wYes) (wAndV (wFn 3 (ctE (c .is_tuple_of)) (arE (wVar 1) (arE (wC (.int 2)) (arE (wC (.int 2)) (arNil))))) (wFn 1 (ctE (c .is_name)) (arE (wOp idxD (wVar 1) (wC (.int 0))) (arNil)))) [1])) (wNil))))) (sRet (wC (.bool false))) (sNil))
  (sCons (sSetL 2 (wLC (iT (wVar 0)) (gN 1) (wYes) (wOp idxD (wVar 1) (wC (.int 0))) [1]))
  (sRet (wOp eqD (wUn lenSetD (wVar 2)) (wCall lenD (wCons (wVar 2) (wNil)))))))) :=
  pps_cons (pps_if (ppt_not (ppt_val (ppe_callB (c_all rfl) rfl (by rfl) m.b_all boot_all (ppa_cons (ppe_ofF (lcf rfl sc_fits_fields.nd (ppi_tup rfl (ppe_var (i := 0))) (blkOk_by (N := ["fields", "one", "names"]) (sc := defScope s_fits_fields) (own := [("one", 1)]) (by decide +kernel)) rfl (fun _ _ _ _ _ => ppg_name (i := 1) (fun _ _ => wipe_set (by decide)) sc_fits_fields.nd rfl (by first | exact .inl rfl | exact .inr rfl)) (fun _ _ _ _ _ => pts_yes) (fun _ _ _ _ _ => ppe_and (ppe_fn h_is_tuple_of rfl hr hg0 (by rfl) m.m_is_tuple_of m.F_is_tuple_of.kp m.B_is_tuple_of takes0 (ppr_e (ppe_var (i := 1)) (ppr_e (ppe_int) (ppr_e (ppe_int) (ppr_nil))))) (ppe_one (ppe_fn h_is_name rfl hr hg0 (by rfl) m.m_is_name m.F_is_name.kp m.B_is_name takes0 (ppr_e (ppe_idx rfl (ppe_var (i := 1)) (ppe_int)) (ppr_nil))))))) (ppa_nil))))) (pps_one (pps_ret (ppe_bl))) (pps_nil))
    (pps_cons (lcv rfl sc_fits_fields.nd (i := 2) rfl rfl (sw_true rfl rfl rfl (by decide +kernel)) (ppi_tup rfl (ppe_var (i := 0))) (blkOk_by (N := ["fields", "one", "names"]) (sc := defScope s_fits_fields) (own := [("one", 1)]) (by decide +kernel)) rfl (fun _ _ _ _ _ => ppg_name (i := 1) (fun _ _ => wipe_set (by decide)) sc_fits_fields.nd rfl (by first | exact .inl rfl | exact .inr rfl)) (fun _ _ _ _ _ => pts_yes) (fun _ _ _ _ _ => ppe_idx rfl (ppe_var (i := 1)) (ppe_int)))
    (pps_one (pps_ret (ppe_cmp (o_eq (u64 hr)) rfl (ppe_lenSet rfl rfl (by rfl) m.b_len (by rfl) m.b_set (ppe_var (i := 2))) (ppe_callB c_len rfl (by rfl) m.b_len PySem.boot_len (ppa_cons (ppe_var (i := 2)) (ppa_nil))) rfl))))
theorem d_inner_of (m : M K mg) {k : Nat} (c : Nm → Ta → Res D) (cdv : Value) (A : Around) (outer : List Env) (s : Shared) (H : Hp) (E : XK) (hr : Room k (A.deeper (envOfC "inner_of" (defScope s_inner_of) s.heap.objs.size m.a_inner_of cdv))) (hg0 : A.guards = some []) :
    PSs (cxOf (L2.CX P w) P w K mg base ["value", "one"] "inner_of" (defScope s_inner_of) m.a_inner_of cdv A outer s H E) (defBody s_inner_of) (liftS (lcOf K cl E) (sRet (wIf (wTru (wOp eqD (wOp idxD (wVar 0) (wC (.int 0))) (wC (.str "doc")))) (wOf (wLC (iT (wOp idxD (wVar 0) (wC (.int 1)))) (gN 1) (wYes) (wOp idxD (wVar 1) (wC (.int 1))) [1])) (wCall listD (wCons (wOp idxD (wVar 0) (wC (.int 1))) (wNil)))))) :=
  pps_one (pps_ret (ppe_if (ppt_cmp (o_eq (u64 hr)) rfl (ppe_idx rfl (ppe_var (i := 0)) (ppe_int)) (ppe_str) rfl) (ppe_ofF (lcf rfl sc_inner_of.nd (ppi_tup rfl (ppe_idx rfl (ppe_var (i := 0)) (ppe_int))) (blkOk_by (N := ["value", "one"]) (sc := defScope s_inner_of) (own := [("one", 1)]) (by decide +kernel)) rfl (fun _ _ _ _ _ => ppg_name (i := 1) (fun _ _ => wipe_set (by decide)) sc_inner_of.nd rfl (by first | exact .inl rfl | exact .inr rfl)) (fun _ _ _ _ _ => pts_yes) (fun _ _ _ _ _ => ppe_idx rfl (ppe_var (i := 1)) (ppe_int)))) (ppe_callTy c_list rfl (by rfl) m.b_list boot_list (ppa_cons (ppe_idx rfl (ppe_var (i := 0)) (ppe_int)) (ppa_nil)))))
theorem d_fits_value (m : M K mg) {k : Nat} (c : Nm → Ta → Res D) (h_fits_fields : FnG P w K mg base k m.a_fits_fields m.fd_fits_fields ["fields"] (spOf K cl 1 (ctE (c .fits_fields)))) (h_fits_plain : FnG P w K mg base k m.a_fits_plain m.fd_fits_plain ["value"] (spOf K cl 1 (ctE (c .fits_plain)))) (h_inner_of : FnG P w K mg base k m.a_inner_of m.fd_inner_of ["value"] (spOf K cl 1 (ctE (c .inner_of)))) (h_is_knot : FnG P w K mg base k m.a_is_knot m.fd_is_knot ["value"] (spOf K cl 1 (ctE (c .is_knot)))) (cdv : Value) (A : Around) (outer : List Env) (s : Shared) (H : Hp) (E : XK) (hr : Room k (A.deeper (envOfC "fits_value" (defScope s_fits_value) s.heap.objs.size m.a_fits_value cdv))) (hg0 : A.guards = some []) :
    PSs (cxOf (L2.CX P w) P w K mg base ["value", "line", "one", "deep", "inner"] "fits_value" (defScope s_fits_value) m.a_fits_value cdv A outer s H E) (defBody s_fits_value) (liftS (lcOf K cl E) (sCons (sSetF 1 (wLstF (wCons (wTup (wCons (wVar 0) (wCons (wC (.int 1)) (wNil)))) (wNil))))
  (sCons (sWhile (wTru (wPk neD 1 (wLst (wNil)))) (sCons (sAsg (wPop 1) (gTup' 2 (gCons' (gN 2) (gCons' (gN 3) (gNil')))))
  (sIf (wNot (wTru (wFn 1 (ctE (c .fits_plain)) (arE (wVar 2) (arNil))))) (sCons (sIf (wOr (wTru (wOp gtD (wVar 3) (wC (.int 6)))) (wOr (wNot (wTru (wFn 1 (ctE (c .is_knot)) (arE (wVar 2) (arNil))))) (wAnd (wTru (wOp eqD (wOp idxD (wVar 2) (wC (.int 0))) (wC (.str "doc")))) (wNot (wTru (wFn 1 (ctE (c .fits_fields)) (arE (wOp idxD (wVar 2) (wC (.int 1))) (arNil)))))))) (sRet (wC (.bool false))) (sNil))
  (sExtF 1 (wLC (iL (wFn 1 (ctE (c .inner_of)) (arE (wVar 2) (arNil)))) (gN 4) (wYes) (wTup (wCons (wVar 4) (wCons (wOp addD (wVar 3) (wC (.int 1))) (wNil)))) [4]))) (sNil))))
  (sRet (wC (.bool true)))))) :=
  pps_cons (pps_setF (i := 1) sc_fits_value.nd rfl (by first | exact .inl rfl | exact .inr rfl) (ppf_lst (ppa_cons (ppe_tup (ppa_cons (ppe_var (i := 0)) (ppa_cons (ppe_int) (ppa_nil)))) (ppa_nil))))
    (pps_cons (pps_while (passes_of rfl) (ppt_pkcmp (o_ne (u64 hr)) rfl (pe_pk (i := 1)) (ppe_lst (ppa_nil)) rfl) (pps_cons (pps_asg (ppe_pop rfl (pe_pk (i := 1))) (ppg_tup rfl rfl (ppgs_cons sa_ok (ppg_name (i := 2) (fun _ _ => trivial) sc_fits_value.nd rfl (by first | exact .inl rfl | exact .inr rfl)) (ppgs_cons sa_ok (ppg_name (i := 3) (fun _ _ => trivial) sc_fits_value.nd rfl (by first | exact .inl rfl | exact .inr rfl)) (ppgs_nil sa_ok)))))
    (pps_one (pps_if (ppt_not (ppt_val (ppe_fn h_fits_plain rfl hr hg0 (by rfl) m.m_fits_plain m.F_fits_plain.kp m.B_fits_plain (takes_of rfl rfl rfl rfl) (ppr_e (ppe_var (i := 2)) (ppr_nil))))) (pps_cons (pps_if (ppt_w (ppw_or (ppt_cmp o_gt rfl (ppe_var (i := 3)) (ppe_gI (by rfl) m.g_DEEP) rfl) (ppw_or (ppt_not (ppt_val (ppe_fn h_is_knot rfl hr hg0 (by rfl) m.m_is_knot m.F_is_knot.kp m.B_is_knot (takes_of rfl rfl rfl rfl) (ppr_e (ppe_var (i := 2)) (ppr_nil))))) (ppw_or1 (ppt_w (ppw_and (ppt_cmp (o_eq (u64 hr)) rfl (ppe_idx rfl (ppe_var (i := 2)) (ppe_int)) (ppe_str) rfl) (ppw_and1 (ppt_not (ppt_val (ppe_fn h_fits_fields rfl hr hg0 (by rfl) m.m_fits_fields m.F_fits_fields.kp m.B_fits_fields (takes_of rfl rfl rfl rfl) (ppr_e (ppe_idx rfl (ppe_var (i := 2)) (ppe_int)) (ppr_nil)))))))))))) (pps_one (pps_ret (ppe_bl))) (pps_nil))
    (pps_one (pps_extF (i := 1) sc_fits_value.nd rfl (by first | exact .inl rfl | exact .inr rfl) (lcf rfl sc_fits_value.nd (ppi_list rfl (ppe_fn h_inner_of rfl hr hg0 (by rfl) m.m_inner_of m.F_inner_of.kp m.B_inner_of (takes_of rfl rfl rfl rfl) (ppr_e (ppe_var (i := 2)) (ppr_nil)))) (blkOk_by (N := ["value", "line", "one", "deep", "inner"]) (sc := defScope s_fits_value) (own := [("inner", 4)]) (by decide +kernel)) rfl (fun _ _ _ _ _ => ppg_name (i := 4) (fun _ _ => wipe_set (by decide)) sc_fits_value.nd rfl (by first | exact .inl rfl | exact .inr rfl)) (fun _ _ _ _ _ => pts_yes) (fun _ _ _ _ _ => ppe_tup (ppa_cons (ppe_var (i := 4)) (ppa_cons (ppe_op o_add rfl (ppe_var (i := 3)) (ppe_int)) (ppa_nil)))))))) (pps_nil)))))
    (pps_one (pps_ret (ppe_bl))))
theorem d_is_doc (m : M K mg) {k : Nat} (c : Nm → Ta → Res D) (cdv : Value) (A : Around) (outer : List Env) (s : Shared) (H : Hp) (E : XK) (hr : Room k (A.deeper (envOfC "is_doc" (defScope s_is_doc) s.heap.objs.size m.a_is_doc cdv))) (hg0 : A.guards = some []) :
    PSs (cxOf (L2.CX P w) P w K mg base ["value"] "is_doc" (defScope s_is_doc) m.a_is_doc cdv A outer s H E) (defBody s_is_doc) (liftS (lcOf K cl E) (sRet (wAndV (wIsi "tuple" (wVar 0)) (wOp eqD (wOp idxD (wVar 0) (wC (.int 0))) (wC (.str "doc")))))) :=
  pps_one (pps_ret (ppe_and (ppe_isi rfl (by rfl) m.b_isinstance (by rfl) m.b_tuple boot_tuple (by decide) (ppe_var (i := 0))) (ppe_one (ppe_cmp (o_eq (u64 hr)) rfl (ppe_idx rfl (ppe_var (i := 0)) (ppe_int)) (ppe_str) rfl))))
theorem d_need_document (m : M K mg) {k : Nat} (c : Nm → Ta → Res D) (h_fits_value : FnG P w K mg base k m.a_fits_value m.fd_fits_value ["value"] (spOf K cl 1 (ctE (c .fits_value)))) (h_is_doc : FnG P w K mg base k m.a_is_doc m.fd_is_doc ["value"] (spOf K cl 1 (ctE (c .is_doc)))) (cdv : Value) (A : Around) (outer : List Env) (s : Shared) (H : Hp) (E : XK) (hr : Room k (A.deeper (envOfC "need_document" (defScope s_need_document) s.heap.objs.size m.a_need_document cdv))) (hg0 : A.guards = some []) :
    PSs (cxOf (L2.CX P w) P w K mg base ["value"] "need_document" (defScope s_need_document) m.a_need_document cdv A outer s H E) (defBody s_need_document) (liftS (lcOf K cl E) (sIf (wOr (wNot (wTru (wFn 1 (ctE (c .fits_value)) (arE (wVar 0) (arNil))))) (wNot (wTru (wFn 1 (ctE (c .is_doc)) (arE (wVar 0) (arNil)))))) (sNever) (sNil))) :=
  pps_one (pps_if (ppt_w (ppw_or (ppt_not (ppt_val (ppe_fn h_fits_value rfl hr hg0 (by rfl) m.m_fits_value m.F_fits_value.kp m.B_fits_value (takes_of rfl rfl rfl rfl) (ppr_e (ppe_var (i := 0)) (ppr_nil))))) (ppw_or1 (ppt_not (ppt_val (ppe_fn h_is_doc rfl hr hg0 (by rfl) m.m_is_doc m.F_is_doc.kp m.B_is_doc (takes_of rfl rfl rfl rfl) (ppr_e (ppe_var (i := 0)) (ppr_nil)))))))) (pps_one (pps_never)) (pps_nil))
theorem d_are_apart (m : M K mg) {k : Nat} (c : Nm → Ta → Res D) (cdv : Value) (A : Around) (outer : List Env) (s : Shared) (H : Hp) (E : XK) (hr : Room k (A.deeper (envOfC "are_apart" (defScope s_are_apart) s.heap.objs.size m.a_are_apart cdv))) (hg0 : A.guards = some []) :
    PSs (cxOf (L2.CX P w) P w K mg base ["one", "other", "mine", "yours"] "are_apart" (defScope s_are_apart) m.a_are_apart cdv A outer s H E) (defBody s_are_apart) (liftS (lcOf K cl E) (sRet (wCall anyD (wCons (wOf (wLC (iZip' (wVar 0) (wVar 1)) (gTup' 2 (gCons' (gN 2) (gCons' (gN 3) (gNil')))) (wYes) (wOp neD (wVar 2) (wVar 3)) [2, 3])) (wNil))))) :=
  pps_one (pps_ret (ppe_callB (c_any rfl) rfl (by rfl) m.b_any boot_any (ppa_cons (ppe_ofF (lcf rfl sc_are_apart.nd (ppi_zip rfl (by rfl) m.b_zip (ppe_var (i := 0)) (ppe_var (i := 1))) (blkOk_by (N := ["one", "other", "mine", "yours"]) (sc := defScope s_are_apart) (own := [("mine", 2), ("yours", 3)]) (by decide +kernel)) rfl (fun _ _ _ _ _ => ppg_tup rfl rfl (ppgs_cons sw_ok (ppg_name (i := 2) (fun _ _ => wipe_set (by decide)) sc_are_apart.nd rfl (by first | exact .inl rfl | exact .inr rfl)) (ppgs_cons sw_ok (ppg_name (i := 3) (fun _ _ => wipe_set (by decide)) sc_are_apart.nd rfl (by first | exact .inl rfl | exact .inr rfl)) (ppgs_nil sw_ok)))) (fun _ _ _ _ _ => pts_yes) (fun _ _ _ _ _ => ppe_cmp (o_ne (u64 hr)) rfl (ppe_var (i := 2)) (ppe_var (i := 3)) rfl))) (ppa_nil))))
theorem d_fits_shape (m : M K mg) {k : Nat} (c : Nm → Ta → Res D) (h_are_apart : FnG P w K mg base k m.a_are_apart m.fd_are_apart ["one", "other"] (spOf K cl 2 (ctE (c .are_apart)))) (h_is_name : FnG P w K mg base k m.a_is_name m.fd_is_name ["value"] (spOf K cl 1 (ctE (c .is_name)))) (h_is_tuple_of : FnG P w K mg base k m.a_is_tuple_of m.fd_is_tuple_of ["value", "low", "high"] (spOf K cl 3 (ctE (c .is_tuple_of)))) (cdv : Value) (A : Around) (outer : List Env) (s : Shared) (H : Hp) (E : XK) (hr : Room k (A.deeper (envOfC "fits_shape" (defScope s_fits_shape) s.heap.objs.size m.a_fits_shape cdv))) (hg0 : A.guards = some []) :
    PSs (cxOf (L2.CX P w) P w K mg base ["value", "path", "step", "at", "one", "other"] "fits_shape" (defScope s_fits_shape) m.a_fits_shape cdv A outer s H E) (defBody s_fits_shape) (liftS (lcOf K cl E) (sCons (sIf (wTru (wOp eqD (wVar 0) (wTup (wCons (wC (.str "all")) (wNil))))) (sRet (wC (.bool true))) (sNil))
  (sCons (sIf (wOr (wNot (wTru (wFn 3 (ctE (c .is_tuple_of)) (arE (wVar 0) (arE (wC (.int 2)) (arE (wC (.int 2)) (arNil))))))) (wOr (wNot (wTru (wIsi "str" (wOp idxD (wVar 0) (wC (.int 0)))))) (wTru (wOp notInD (wOp idxD (wVar 0) (wC (.int 0))) (wTup (wCons (wC (.str "keep")) (wCons (wC (.str "drop")) (wNil)))))))) (sRet (wC (.bool false))) (sNil))
  (sCons (sIf (wOr (wNot (wTru (wFn 3 (ctE (c .is_tuple_of)) (arE (wOp idxD (wVar 0) (wC (.int 1))) (arE (wC (.int 1)) (arE (wC (.int 8)) (arNil))))))) (wNot (wTru (wCall allD (wCons (wOf (wLC (iT (wOp idxD (wVar 0) (wC (.int 1)))) (gN 1) (wYes) (wFn 3 (ctE (c .is_tuple_of)) (arE (wVar 1) (arE (wC (.int 1)) (arE (wC (.int 3)) (arNil))))) [1])) (wNil)))))) (sRet (wC (.bool false))) (sNil))
  (sCons (sIf (wOr (wNot (wTru (wCall allD (wCons (wOf (wLC2 (iT (wOp idxD (wVar 0) (wC (.int 1)))) (gN 1) (wYes) (iT (wVar 1)) (gN 2) (wYes) (wFn 1 (ctE (c .is_name)) (arE (wVar 2) (arNil))) [1, 2] [2])) (wNil))))) (wTru (wCall anyD (wCons (wOf (wLC (iT (wOp idxD (wVar 0) (wC (.int 1)))) (gN 1) (wYes) (wOp eqD (wOp idxD (wVar 1) (wC (.int 0))) (wC (.str "id"))) [1])) (wNil))))) (sRet (wC (.bool false))) (sNil))
  (sRet (wCall allD (wCons (wOf (wLC2 (iEnT (wOp idxD (wVar 0) (wC (.int 1)))) (gTup' 2 (gCons' (gN 3) (gCons' (gN 4) (gNil')))) (wYes) (iT (wSlice (wOp idxD (wVar 0) (wC (.int 1))) (wPN) (wPS (wVar 3)))) (gN 5) (wYes) (wFn 2 (ctE (c .are_apart)) (arE (wVar 4) (arE (wVar 5) (arNil)))) [3, 4, 5] [5])) (wNil))))))))) :=
  pps_cons (pps_if (ppt_cmp (o_eq (u64 hr)) rfl (ppe_var (i := 0)) (ppe_tup (ppa_cons (ppe_str) (ppa_nil))) rfl) (pps_one (pps_ret (ppe_bl))) (pps_nil))
    (pps_cons (pps_if (ppt_w (ppw_or (ppt_not (ppt_val (ppe_fn h_is_tuple_of rfl hr hg0 (by rfl) m.m_is_tuple_of m.F_is_tuple_of.kp m.B_is_tuple_of (takes_of rfl rfl rfl rfl) (ppr_e (ppe_var (i := 0)) (ppr_e (ppe_int) (ppr_e (ppe_int) (ppr_nil))))))) (ppw_or (ppt_not (ppt_val (ppe_isi rfl (by rfl) m.b_isinstance (by rfl) m.b_str boot_str (by decide) (ppe_idx rfl (ppe_var (i := 0)) (ppe_int))))) (ppw_or1 (ppt_cmp (o_notin (u65 hr)) rfl (ppe_idx rfl (ppe_var (i := 0)) (ppe_int)) (ppe_tup (ppa_cons (ppe_str) (ppa_cons (ppe_str) (ppa_nil)))) rfl))))) (pps_one (pps_ret (ppe_bl))) (pps_nil))
    (pps_cons (pps_if (ppt_w (ppw_or (ppt_not (ppt_val (ppe_fn h_is_tuple_of rfl hr hg0 (by rfl) m.m_is_tuple_of m.F_is_tuple_of.kp m.B_is_tuple_of (takes_of rfl rfl rfl rfl) (ppr_e (ppe_idx rfl (ppe_var (i := 0)) (ppe_int)) (ppr_e (ppe_int) (ppr_e (ppe_gI (by rfl) m.g_PATHS) (ppr_nil))))))) (ppw_or1 (ppt_not (ppt_val (ppe_callB (c_all rfl) rfl (by rfl) m.b_all boot_all (ppa_cons (ppe_ofF (lcf rfl sc_fits_shape.nd (ppi_tup rfl (ppe_idx rfl (ppe_var (i := 0)) (ppe_int))) (blkOk_by (N := ["value", "path", "step", "at", "one", "other"]) (sc := defScope s_fits_shape) (own := [("path", 1)]) (by decide +kernel)) rfl (fun _ _ _ _ _ => ppg_name (i := 1) (fun _ _ => wipe_set (by decide)) sc_fits_shape.nd rfl (by first | exact .inl rfl | exact .inr rfl)) (fun _ _ _ _ _ => pts_yes) (fun _ _ _ _ _ => ppe_fn h_is_tuple_of rfl hr hg0 (by rfl) m.m_is_tuple_of m.F_is_tuple_of.kp m.B_is_tuple_of takes0 (ppr_e (ppe_var (i := 1)) (ppr_e (ppe_int) (ppr_e (ppe_gI (by rfl) m.g_NAMES) (ppr_nil))))))) (ppa_nil)))))))) (pps_one (pps_ret (ppe_bl))) (pps_nil))
    (pps_cons (pps_if (ppt_w (ppw_or (ppt_not (ppt_val (ppe_callB (c_all rfl) rfl (by rfl) m.b_all boot_all (ppa_cons (ppe_ofF (lcf2 rfl sc_fits_shape.nd ⟨ppi_tup rfl (ppe_idx rfl (ppe_var (i := 0)) (ppe_int)), blkOk_by (N := ["value", "path", "step", "at", "one", "other"]) (sc := defScope s_fits_shape) (own := [("path", 1), ("step", 2)]) (by decide +kernel), rfl, by decide, (fun _ _ _ _ _ => ppg_name (i := 1) (fun _ _ => wipe_set (by decide)) sc_fits_shape.nd rfl (by first | exact .inl rfl | exact .inr rfl)), (fun _ _ _ _ _ => pts_yes), (fun _ _ _ _ _ => ppi_tup rfl (ppe_var (i := 1))), (fun _ _ _ _ _ => ppg_name (i := 2) (fun _ _ => wipe_set (by decide)) sc_fits_shape.nd rfl (by first | exact .inl rfl | exact .inr rfl)), (fun _ _ _ _ _ => pts_yes), (fun _ _ _ _ _ => ppe_fn h_is_name rfl hr hg0 (by rfl) m.m_is_name m.F_is_name.kp m.B_is_name takes0 (ppr_e (ppe_var (i := 2)) (ppr_nil)))⟩)) (ppa_nil))))) (ppw_or1 (ppt_val (ppe_callB (c_any rfl) rfl (by rfl) m.b_any boot_any (ppa_cons (ppe_ofF (lcf rfl sc_fits_shape.nd (ppi_tup rfl (ppe_idx rfl (ppe_var (i := 0)) (ppe_int))) (blkOk_by (N := ["value", "path", "step", "at", "one", "other"]) (sc := defScope s_fits_shape) (own := [("path", 1)]) (by decide +kernel)) rfl (fun _ _ _ _ _ => ppg_name (i := 1) (fun _ _ => wipe_set (by decide)) sc_fits_shape.nd rfl (by first | exact .inl rfl | exact .inr rfl)) (fun _ _ _ _ _ => pts_yes) (fun _ _ _ _ _ => ppe_cmp (o_eq (u64 hr)) rfl (ppe_idx rfl (ppe_var (i := 1)) (ppe_int)) (ppe_gS (by rfl) m.g_ID) rfl))) (ppa_nil))))))) (pps_one (pps_ret (ppe_bl))) (pps_nil))
    (pps_one (pps_ret (ppe_callB (c_all rfl) rfl (by rfl) m.b_all boot_all (ppa_cons (ppe_ofF (lcf2 rfl sc_fits_shape.nd ⟨ppi_enumT rfl (by rfl) m.b_enumerate (ppe_idx rfl (ppe_var (i := 0)) (ppe_int)), blkOk_by (N := ["value", "path", "step", "at", "one", "other"]) (sc := defScope s_fits_shape) (own := [("at", 3), ("one", 4), ("other", 5)]) (by decide +kernel), rfl, by decide, (fun _ _ _ _ _ => ppg_tup rfl rfl (ppgs_cons sw_ok (ppg_name (i := 3) (fun _ _ => wipe_set (by decide)) sc_fits_shape.nd rfl (by first | exact .inl rfl | exact .inr rfl)) (ppgs_cons sw_ok (ppg_name (i := 4) (fun _ _ => wipe_set (by decide)) sc_fits_shape.nd rfl (by first | exact .inl rfl | exact .inr rfl)) (ppgs_nil sw_ok)))), (fun _ _ _ _ _ => pts_yes), (fun _ _ _ _ _ => ppi_tup rfl (ppe_slice rfl (ppe_idx rfl (ppe_var (i := 0)) (ppe_int)) (ppo_none) (ppo_some (ppe_var (i := 3))))), (fun _ _ _ _ _ => ppg_name (i := 5) (fun _ _ => wipe_set (by decide)) sc_fits_shape.nd rfl (by first | exact .inl rfl | exact .inr rfl)), (fun _ _ _ _ _ => pts_yes), (fun _ _ _ _ _ => ppe_fn h_are_apart rfl hr hg0 (by rfl) m.m_are_apart m.F_are_apart.kp m.B_are_apart takes0 (ppr_e (ppe_var (i := 4)) (ppr_e (ppe_var (i := 5)) (ppr_nil))))⟩)) (ppa_nil))))))))
theorem d_rests_of (m : M K mg) {k : Nat} (c : Nm → Ta → Res D) (cdv : Value) (A : Around) (outer : List Env) (s : Shared) (H : Hp) (E : XK) (hr : Room k (A.deeper (envOfC "rests_of" (defScope s_rests_of) s.heap.objs.size m.a_rests_of cdv))) (hg0 : A.guards = some []) :
    PSs (cxOf (L2.CX P w) P w K mg base ["paths", "name", "path"] "rests_of" (defScope s_rests_of) m.a_rests_of cdv A outer s H E) (defBody s_rests_of) (liftS (lcOf K cl E) (sRet (wOf (wLC (iLT (wVar 0)) (gN 2) (wTru (wOp eqD (wOp idxD (wVar 2) (wC (.int 0))) (wVar 1))) (wSlice (wVar 2) (wPS (wC (.int 1))) (wPN)) [2])))) :=
  pps_one (pps_ret (ppe_ofF (lcf rfl sc_rests_of.nd (ppi_lt rfl (ppe_var (i := 0))) (blkOk_by (N := ["paths", "name", "path"]) (sc := defScope s_rests_of) (own := [("path", 2)]) (by decide +kernel)) rfl (fun _ _ _ _ _ => ppg_name (i := 2) (fun _ _ => wipe_set (by decide)) sc_rests_of.nd rfl (by first | exact .inl rfl | exact .inr rfl)) (fun _ _ _ _ _ => ppts_one (ppt_cmp (o_eq (u64 hr)) rfl (ppe_idx rfl (ppe_var (i := 2)) (ppe_int)) (ppe_var (i := 1)) rfl)) (fun _ _ _ _ _ => ppe_slice rfl (ppe_var (i := 2)) (ppo_some (ppe_int)) (ppo_none)))))
theorem d_kept_fields (m : M K mg) {k : Nat} (c : Nm → Ta → Res D) (h_kept_value : FnG P w K mg base k m.a_kept_value m.fd_kept_value ["value", "paths"] (spOf K cl 2 (ctE (c .kept_value)))) (h_rests_of : FnG P w K mg base k m.a_rests_of m.fd_rests_of ["paths", "name"] (spOf K cl 2 (ctE (c .rests_of)))) (cdv : Value) (A : Around) (outer : List Env) (s : Shared) (H : Hp) (E : XK) (hr : Room k (A.deeper (envOfC "kept_fields" (defScope s_kept_fields) s.heap.objs.size m.a_kept_fields cdv))) (hg0 : A.guards = some []) :
    PSs (cxOf (L2.CX P w) P w K mg base ["document", "paths", "found", "name", "value", "rests"] "kept_fields" (defScope s_kept_fields) m.a_kept_fields cdv A outer s H E) (defBody s_kept_fields) (liftS (lcOf K cl E) (sCons (sSetF 2 (wLstF (wNil)))
  (sCons (sFor (iT (wOp idxD (wVar 0) (wC (.int 1)))) (gTup' 2 (gCons' (gN 3) (gCons' (gN 4) (gNil')))) (sCons (sAsg (wFn 2 (ctE (c .rests_of)) (arE (wVar 1) (arE (wVar 3) (arNil)))) (gN 5))
  (sIf (wTru (wOp inD (wTup (wNil)) (wVar 5))) (sExpr (wAppend 2 (wTup (wCons (wVar 3) (wCons (wVar 4) (wNil)))))) (sIf (wAnd (wTru (wOp neD (wVar 5) (wLst (wNil)))) (wTru (wIsi "tuple" (wVar 4)))) (sExpr (wAppend 2 (wTup (wCons (wVar 3) (wCons (wFn 2 (ctE (c .kept_value)) (arE (wVar 4) (arE (wVar 5) (arNil)))) (wNil)))))) (sNil)))))
  (sRet (wPkTup 2))))) :=
  pps_cons (pps_setF (i := 2) sc_kept_fields.nd rfl (by first | exact .inl rfl | exact .inr rfl) (ppf_lst (ppa_nil)))
    (pps_cons (pps_for (passes_of rfl) rfl (ppi_tup rfl (ppe_idx rfl (ppe_var (i := 0)) (ppe_int))) (ppg_tup rfl rfl (ppgs_cons sa_ok (ppg_name (i := 3) (fun _ _ => trivial) sc_kept_fields.nd rfl (by first | exact .inl rfl | exact .inr rfl)) (ppgs_cons sa_ok (ppg_name (i := 4) (fun _ _ => trivial) sc_kept_fields.nd rfl (by first | exact .inl rfl | exact .inr rfl)) (ppgs_nil sa_ok)))) (pps_cons (pps_set (i := 5) sc_kept_fields.nd rfl (by first | exact .inl rfl | exact .inr rfl) (ppe_fn h_rests_of rfl hr hg0 (by rfl) m.m_rests_of m.F_rests_of.kp m.B_rests_of (takes_of rfl rfl rfl rfl) (ppr_e (ppe_var (i := 1)) (ppr_e (ppe_var (i := 3)) (ppr_nil)))))
    (pps_one (pps_if (ppt_cmp (o_in (u65 hr)) rfl (ppe_tup (ppa_nil)) (ppe_var (i := 5)) rfl) (pps_one (pps_expr (ppe_append rfl (pe_pk (i := 2)) (ppe_tup (ppa_cons (ppe_var (i := 3)) (ppa_cons (ppe_var (i := 4)) (ppa_nil))))))) (pps_one (pps_if (ppt_w (ppw_and (ppt_cmp (o_ne (u64 hr)) rfl (ppe_var (i := 5)) (ppe_lst (ppa_nil)) rfl) (ppw_and1 (ppt_val (ppe_isi rfl (by rfl) m.b_isinstance (by rfl) m.b_tuple boot_tuple (by decide) (ppe_var (i := 4))))))) (pps_one (pps_expr (ppe_append rfl (pe_pk (i := 2)) (ppe_tup (ppa_cons (ppe_var (i := 3)) (ppa_cons (ppe_fn h_kept_value rfl hr hg0 (by rfl) m.m_kept_value m.F_kept_value.kp m.B_kept_value (takes_of rfl rfl rfl rfl) (ppr_e (ppe_var (i := 4)) (ppr_e (ppe_var (i := 5)) (ppr_nil)))) (ppa_nil))))))) (pps_nil)))))))
    (pps_one (pps_ret (ppe_pktup rfl (by rfl) m.b_tuple (pe_pk (i := 2))))))
theorem d_kept_value (m : M K mg) {k : Nat} (c : Nm → Ta → Res D) (h_is_doc : FnG P w K mg base k m.a_is_doc m.fd_is_doc ["value"] (spOf K cl 1 (ctE (c .is_doc)))) (h_kept_fields : FnG P w K mg base k m.a_kept_fields m.fd_kept_fields ["document", "paths"] (spOf K cl 2 (ctE (c .kept_fields)))) (cdv : Value) (A : Around) (outer : List Env) (s : Shared) (H : Hp) (E : XK) (hr : Room k (A.deeper (envOfC "kept_value" (defScope s_kept_value) s.heap.objs.size m.a_kept_value cdv))) (hg0 : A.guards = some []) :
    PSs (cxOf (L2.CX P w) P w K mg base ["value", "paths", "one"] "kept_value" (defScope s_kept_value) m.a_kept_value cdv A outer s H E) (defBody s_kept_value) (liftS (lcOf K cl E) (sCons (sIf (wTru (wFn 1 (ctE (c .is_doc)) (arE (wVar 0) (arNil)))) (sRet (wTup (wCons (wC (.str "doc")) (wCons (wFn 2 (ctE (c .kept_fields)) (arE (wVar 0) (arE (wVar 1) (arNil)))) (wNil))))) (sNil))
  (sRet (wTup (wCons (wC (.str "list")) (wCons (wCall tupleD (wCons (wOf (wLC (iT (wOp idxD (wVar 0) (wC (.int 1)))) (gN 2) (wTru (wFn 1 (ctE (c .is_doc)) (arE (wVar 2) (arNil)))) (wTup (wCons (wC (.str "doc")) (wCons (wFn 2 (ctE (c .kept_fields)) (arE (wVar 2) (arE (wVar 1) (arNil)))) (wNil)))) [2])) (wNil))) (wNil))))))) :=
  pps_cons (pps_if (ppt_val (ppe_fn h_is_doc rfl hr hg0 (by rfl) m.m_is_doc m.F_is_doc.kp m.B_is_doc (takes_of rfl rfl rfl rfl) (ppr_e (ppe_var (i := 0)) (ppr_nil)))) (pps_one (pps_ret (ppe_tup (ppa_cons (ppe_str) (ppa_cons (ppe_fn h_kept_fields rfl hr hg0 (by rfl) m.m_kept_fields m.F_kept_fields.kp m.B_kept_fields (takes_of rfl rfl rfl rfl) (ppr_e (ppe_var (i := 0)) (ppr_e (ppe_var (i := 1)) (ppr_nil)))) (ppa_nil)))))) (pps_nil))
    (pps_one (pps_ret (ppe_tup (ppa_cons (ppe_str) (ppa_cons (ppe_callTy c_tuple rfl (by rfl) m.b_tuple boot_tuple (ppa_cons (ppe_ofF (lcf rfl sc_kept_value.nd (ppi_tup rfl (ppe_idx rfl (ppe_var (i := 0)) (ppe_int))) (blkOk_by (N := ["value", "paths", "one"]) (sc := defScope s_kept_value) (own := [("one", 2)]) (by decide +kernel)) rfl (fun _ _ _ _ _ => ppg_name (i := 2) (fun _ _ => wipe_set (by decide)) sc_kept_value.nd rfl (by first | exact .inl rfl | exact .inr rfl)) (fun _ _ _ _ _ => ppts_one (ppt_val (ppe_fn h_is_doc rfl hr hg0 (by rfl) m.m_is_doc m.F_is_doc.kp m.B_is_doc takes0 (ppr_e (ppe_var (i := 2)) (ppr_nil))))) (fun _ _ _ _ _ => ppe_tup (ppa_cons (ppe_str) (ppa_cons (ppe_fn h_kept_fields rfl hr hg0 (by rfl) m.m_kept_fields m.F_kept_fields.kp m.B_kept_fields takes0 (ppr_e (ppe_var (i := 2)) (ppr_e (ppe_var (i := 1)) (ppr_nil)))) (ppa_nil)))))) (ppa_nil))) (ppa_nil))))))
theorem d_left_fields (m : M K mg) {k : Nat} (c : Nm → Ta → Res D) (h_left_value : FnG P w K mg base k m.a_left_value m.fd_left_value ["value", "paths"] (spOf K cl 2 (ctE (c .left_value)))) (h_rests_of : FnG P w K mg base k m.a_rests_of m.fd_rests_of ["paths", "name"] (spOf K cl 2 (ctE (c .rests_of)))) (cdv : Value) (A : Around) (outer : List Env) (s : Shared) (H : Hp) (E : XK) (hr : Room k (A.deeper (envOfC "left_fields" (defScope s_left_fields) s.heap.objs.size m.a_left_fields cdv))) (hg0 : A.guards = some []) :
    PSs (cxOf (L2.CX P w) P w K mg base ["document", "paths", "found", "name", "value", "rests"] "left_fields" (defScope s_left_fields) m.a_left_fields cdv A outer s H E) (defBody s_left_fields) (liftS (lcOf K cl E) (sCons (sSetF 2 (wLstF (wNil)))
  (sCons (sFor (iT (wOp idxD (wVar 0) (wC (.int 1)))) (gTup' 2 (gCons' (gN 3) (gCons' (gN 4) (gNil')))) (sCons (sAsg (wFn 2 (ctE (c .rests_of)) (arE (wVar 1) (arE (wVar 3) (arNil)))) (gN 5))
  (sIf (wTru (wOp notInD (wTup (wNil)) (wVar 5))) (sExpr (wAppend 2 (wTup (wCons (wVar 3) (wCons (wFn 2 (ctE (c .left_value)) (arE (wVar 4) (arE (wVar 5) (arNil)))) (wNil)))))) (sNil))))
  (sRet (wPkTup 2))))) :=
  pps_cons (pps_setF (i := 2) sc_left_fields.nd rfl (by first | exact .inl rfl | exact .inr rfl) (ppf_lst (ppa_nil)))
    (pps_cons (pps_for (passes_of rfl) rfl (ppi_tup rfl (ppe_idx rfl (ppe_var (i := 0)) (ppe_int))) (ppg_tup rfl rfl (ppgs_cons sa_ok (ppg_name (i := 3) (fun _ _ => trivial) sc_left_fields.nd rfl (by first | exact .inl rfl | exact .inr rfl)) (ppgs_cons sa_ok (ppg_name (i := 4) (fun _ _ => trivial) sc_left_fields.nd rfl (by first | exact .inl rfl | exact .inr rfl)) (ppgs_nil sa_ok)))) (pps_cons (pps_set (i := 5) sc_left_fields.nd rfl (by first | exact .inl rfl | exact .inr rfl) (ppe_fn h_rests_of rfl hr hg0 (by rfl) m.m_rests_of m.F_rests_of.kp m.B_rests_of (takes_of rfl rfl rfl rfl) (ppr_e (ppe_var (i := 1)) (ppr_e (ppe_var (i := 3)) (ppr_nil)))))
    (pps_one (pps_if (ppt_cmp (o_notin (u65 hr)) rfl (ppe_tup (ppa_nil)) (ppe_var (i := 5)) rfl) (pps_one (pps_expr (ppe_append rfl (pe_pk (i := 2)) (ppe_tup (ppa_cons (ppe_var (i := 3)) (ppa_cons (ppe_fn h_left_value rfl hr hg0 (by rfl) m.m_left_value m.F_left_value.kp m.B_left_value (takes_of rfl rfl rfl rfl) (ppr_e (ppe_var (i := 4)) (ppr_e (ppe_var (i := 5)) (ppr_nil)))) (ppa_nil))))))) (pps_nil)))))
    (pps_one (pps_ret (ppe_pktup rfl (by rfl) m.b_tuple (pe_pk (i := 2))))))
theorem d_left_value (m : M K mg) {k : Nat} (c : Nm → Ta → Res D) (h_is_doc : FnG P w K mg base k m.a_is_doc m.fd_is_doc ["value"] (spOf K cl 1 (ctE (c .is_doc)))) (h_left_fields : FnG P w K mg base k m.a_left_fields m.fd_left_fields ["document", "paths"] (spOf K cl 2 (ctE (c .left_fields)))) (cdv : Value) (A : Around) (outer : List Env) (s : Shared) (H : Hp) (E : XK) (hr : Room k (A.deeper (envOfC "left_value" (defScope s_left_value) s.heap.objs.size m.a_left_value cdv))) (hg0 : A.guards = some []) :
    PSs (cxOf (L2.CX P w) P w K mg base ["value", "paths", "one"] "left_value" (defScope s_left_value) m.a_left_value cdv A outer s H E) (defBody s_left_value) (liftS (lcOf K cl E) (sCons (sIf (wOr (wTru (wOp eqD (wVar 1) (wLst (wNil)))) (wNot (wTru (wIsi "tuple" (wVar 0))))) (sRet (wVar 0)) (sNil))
  (sCons (sIf (wTru (wFn 1 (ctE (c .is_doc)) (arE (wVar 0) (arNil)))) (sRet (wTup (wCons (wC (.str "doc")) (wCons (wFn 2 (ctE (c .left_fields)) (arE (wVar 0) (arE (wVar 1) (arNil)))) (wNil))))) (sNil))
  (sRet (wTup (wCons (wC (.str "list")) (wCons (wCall tupleD (wCons (wOf (wLC (iT (wOp idxD (wVar 0) (wC (.int 1)))) (gN 2) (wYes) (wIf (wTru (wFn 1 (ctE (c .is_doc)) (arE (wVar 2) (arNil)))) (wTup (wCons (wC (.str "doc")) (wCons (wFn 2 (ctE (c .left_fields)) (arE (wVar 2) (arE (wVar 1) (arNil)))) (wNil)))) (wVar 2)) [2])) (wNil))) (wNil)))))))) :=
  pps_cons (pps_if (ppt_w (ppw_or (ppt_cmp (o_eq (u64 hr)) rfl (ppe_var (i := 1)) (ppe_lst (ppa_nil)) rfl) (ppw_or1 (ppt_not (ppt_val (ppe_isi rfl (by rfl) m.b_isinstance (by rfl) m.b_tuple boot_tuple (by decide) (ppe_var (i := 0)))))))) (pps_one (pps_ret (ppe_var (i := 0)))) (pps_nil))
    (pps_cons (pps_if (ppt_val (ppe_fn h_is_doc rfl hr hg0 (by rfl) m.m_is_doc m.F_is_doc.kp m.B_is_doc (takes_of rfl rfl rfl rfl) (ppr_e (ppe_var (i := 0)) (ppr_nil)))) (pps_one (pps_ret (ppe_tup (ppa_cons (ppe_str) (ppa_cons (ppe_fn h_left_fields rfl hr hg0 (by rfl) m.m_left_fields m.F_left_fields.kp m.B_left_fields (takes_of rfl rfl rfl rfl) (ppr_e (ppe_var (i := 0)) (ppr_e (ppe_var (i := 1)) (ppr_nil)))) (ppa_nil)))))) (pps_nil))
    (pps_one (pps_ret (ppe_tup (ppa_cons (ppe_str) (ppa_cons (ppe_callTy c_tuple rfl (by rfl) m.b_tuple boot_tuple (ppa_cons (ppe_ofF (lcf rfl sc_left_value.nd (ppi_tup rfl (ppe_idx rfl (ppe_var (i := 0)) (ppe_int))) (blkOk_by (N := ["value", "paths", "one"]) (sc := defScope s_left_value) (own := [("one", 2)]) (by decide +kernel)) rfl (fun _ _ _ _ _ => ppg_name (i := 2) (fun _ _ => wipe_set (by decide)) sc_left_value.nd rfl (by first | exact .inl rfl | exact .inr rfl)) (fun _ _ _ _ _ => pts_yes) (fun _ _ _ _ _ => ppe_if (ppt_val (ppe_fn h_is_doc rfl hr hg0 (by rfl) m.m_is_doc m.F_is_doc.kp m.B_is_doc takes0 (ppr_e (ppe_var (i := 2)) (ppr_nil)))) (ppe_tup (ppa_cons (ppe_str) (ppa_cons (ppe_fn h_left_fields rfl hr hg0 (by rfl) m.m_left_fields m.F_left_fields.kp m.B_left_fields takes0 (ppr_e (ppe_var (i := 2)) (ppr_e (ppe_var (i := 1)) (ppr_nil)))) (ppa_nil)))) (ppe_var (i := 2))))) (ppa_nil))) (ppa_nil)))))))
theorem d_shaped_by (m : M K mg) {k : Nat} (c : Nm → Ta → Res D) (h_kept_fields : FnG P w K mg base k m.a_kept_fields m.fd_kept_fields ["document", "paths"] (spOf K cl 2 (ctE (c .kept_fields)))) (h_left_fields : FnG P w K mg base k m.a_left_fields m.fd_left_fields ["document", "paths"] (spOf K cl 2 (ctE (c .left_fields)))) (cdv : Value) (A : Around) (outer : List Env) (s : Shared) (H : Hp) (E : XK) (hr : Room k (A.deeper (envOfC "shaped_by" (defScope s_shaped_by) s.heap.objs.size m.a_shaped_by cdv))) (hg0 : A.guards = some []) :
    PSs (cxOf (L2.CX P w) P w K mg base ["document", "shape"] "shaped_by" (defScope s_shaped_by) m.a_shaped_by cdv A outer s H E) (defBody s_shaped_by) (liftS (lcOf K cl E) (sCons (sIf (wTru (wOp eqD (wOp idxD (wVar 1) (wC (.int 0))) (wC (.str "all")))) (sRet (wVar 0)) (sNil))
  (sCons (sIf (wTru (wOp eqD (wOp idxD (wVar 1) (wC (.int 0))) (wC (.str "keep")))) (sRet (wTup (wCons (wC (.str "doc")) (wCons (wFn 2 (ctE (c .kept_fields)) (arE (wVar 0) (arE (wOp addD (wOp idxD (wVar 1) (wC (.int 1))) (wTup (wCons (wTup (wCons (wC (.str "id")) (wNil))) (wNil)))) (arNil)))) (wNil))))) (sNil))
  (sRet (wTup (wCons (wC (.str "doc")) (wCons (wFn 2 (ctE (c .left_fields)) (arE (wVar 0) (arE (wOp idxD (wVar 1) (wC (.int 1))) (arNil)))) (wNil)))))))) :=
  pps_cons (pps_if (ppt_cmp (o_eq (u64 hr)) rfl (ppe_idx rfl (ppe_var (i := 1)) (ppe_int)) (ppe_str) rfl) (pps_one (pps_ret (ppe_var (i := 0)))) (pps_nil))
    (pps_cons (pps_if (ppt_cmp (o_eq (u64 hr)) rfl (ppe_idx rfl (ppe_var (i := 1)) (ppe_int)) (ppe_str) rfl) (pps_one (pps_ret (ppe_tup (ppa_cons (ppe_str) (ppa_cons (ppe_fn h_kept_fields rfl hr hg0 (by rfl) m.m_kept_fields m.F_kept_fields.kp m.B_kept_fields (takes_of rfl rfl rfl rfl) (ppr_e (ppe_var (i := 0)) (ppr_e (ppe_op o_add rfl (ppe_idx rfl (ppe_var (i := 1)) (ppe_int)) (ppe_tup (ppa_cons (ppe_tup (ppa_cons (ppe_gS (by rfl) m.g_ID) (ppa_nil))) (ppa_nil)))) (ppr_nil)))) (ppa_nil)))))) (pps_nil))
    (pps_one (pps_ret (ppe_tup (ppa_cons (ppe_str) (ppa_cons (ppe_fn h_left_fields rfl hr hg0 (by rfl) m.m_left_fields m.F_left_fields.kp m.B_left_fields (takes_of rfl rfl rfl rfl) (ppr_e (ppe_var (i := 0)) (ppr_e (ppe_idx rfl (ppe_var (i := 1)) (ppe_int)) (ppr_nil)))) (ppa_nil)))))))
theorem d_shaped (m : M K mg) {k : Nat} (c : Nm → Ta → Res D) (h_fits_shape : FnG P w K mg base k m.a_fits_shape m.fd_fits_shape ["value"] (spOf K cl 1 (ctE (c .fits_shape)))) (h_need_document : FnG P w K mg base k m.a_need_document m.fd_need_document ["value"] (spOf K cl 1 (ctE (c .need_document)))) (h_shaped_by : FnG P w K mg base k m.a_shaped_by m.fd_shaped_by ["document", "shape"] (spOf K cl 2 (ctE (c .shaped_by)))) (cdv : Value) (A : Around) (outer : List Env) (s : Shared) (H : Hp) (E : XK) (hr : Room k (A.deeper (envOfC "shaped" (defScope s_shaped) s.heap.objs.size m.a_shaped cdv))) (hg0 : A.guards = some []) :
    PSs (cxOf (L2.CX P w) P w K mg base ["document", "shape"] "shaped" (defScope s_shaped) m.a_shaped cdv A outer s H E) (defBody s_shaped) (liftS (lcOf K cl E) (sCons (sExpr (wFn 1 (ctE (c .need_document)) (arE (wVar 0) (arNil))))
  (sCons (sIf (wNot (wTru (wFn 1 (ctE (c .fits_shape)) (arE (wVar 1) (arNil))))) (sNever) (sNil))
  (sRet (wFn 2 (ctE (c .shaped_by)) (arE (wVar 0) (arE (wVar 1) (arNil)))))))) :=
  pps_cons (pps_expr (ppe_fn h_need_document rfl hr hg0 (by rfl) m.m_need_document m.F_need_document.kp m.B_need_document (takes_of rfl rfl rfl rfl) (ppr_e (ppe_var (i := 0)) (ppr_nil))))
    (pps_cons (pps_if (ppt_not (ppt_val (ppe_fn h_fits_shape rfl hr hg0 (by rfl) m.m_fits_shape m.F_fits_shape.kp m.B_fits_shape (takes_of rfl rfl rfl rfl) (ppr_e (ppe_var (i := 1)) (ppr_nil))))) (pps_one (pps_never)) (pps_nil))
    (pps_one (pps_ret (ppe_fn h_shaped_by rfl hr hg0 (by rfl) m.m_shaped_by m.F_shaped_by.kp m.B_shaped_by (takes_of rfl rfl rfl rfl) (ppr_e (ppe_var (i := 0)) (ppr_e (ppe_var (i := 1)) (ppr_nil)))))))
theorem d__law_cup (m : M K mg) {k : Nat} (c : Nm → Ta → Res D) (cdv : Value) (A : Around) (outer : List Env) (s : Shared) (H : Hp) (E : XK) (hr : Room k (A.deeper (envOfC "_law_cup" (defScope s__law_cup) s.heap.objs.size m.a__law_cup cdv))) (hg0 : A.guards = some []) :
    PSs (cxOf (L2.CX P w) P w K mg base ["script", "cell"] "_law_cup" (defScope s__law_cup) m.a__law_cup cdv A outer s H E) (defBody s__law_cup) (liftS (lcOf K cl E) (sCons (sAsg (wCall absD (wCons (wOp idxD (wOp addD (wCall listD (wCons (wVar 0) (wNil))) (wLst (wCons (wC (.int 0)) (wNil)))) (wC (.int 0))) (wNil))) (gN 1))
  (sRetF (wLstF (wCons (wIf (wTru (wOp geD (wVar 1) (wOp powD (wC (.int 10)) (wC (.int 18))))) (wOp fdivD (wVar 1) (wC (.int 89))) (wC (.int 0))) (wCons (wOp addD (wOp modD (wCall intD (wCons (wOp addD (wOp mulD (wVar 1) (wC (.int 311))) (wC (.int 3109))) (wNil))) (wC (.int 2077503101))) (wC (.int 191))) (wNil))))))) :=
  pps_cons (pps_set (i := 1) sc__law_cup.nd rfl (by first | exact .inl rfl | exact .inr rfl) (ppe_callB c_abs rfl (by rfl) m.b_abs boot_abs (ppa_cons (ppe_idx rfl (ppe_op o_add rfl (ppe_callTy c_list rfl (by rfl) m.b_list boot_list (ppa_cons (ppe_var (i := 0)) (ppa_nil))) (ppe_lst (ppa_cons (ppe_int) (ppa_nil)))) (ppe_int)) (ppa_nil))))
    (pps_one (pps_retF (ppf_lst (ppa_cons (ppe_if (ppt_cmp o_ge rfl (ppe_var (i := 1)) (ppe_op o_pow rfl (ppe_int) (ppe_int)) rfl) (ppe_op o_fdiv rfl (ppe_var (i := 1)) (ppe_int)) (ppe_int)) (ppa_cons (ppe_op o_add rfl (ppe_op o_mod rfl (ppe_callTy c_int rfl (by rfl) m.b_int boot_int (ppa_cons (ppe_op o_add rfl (ppe_op o_mul rfl (ppe_var (i := 1)) (ppe_int)) (ppe_int)) (ppa_nil))) (ppe_int)) (ppe_int)) (ppa_nil))))))
theorem d__law_roll (m : M K mg) {k : Nat} (c : Nm → Ta → Res D) (cdv : Value) (A : Around) (outer : List Env) (s : Shared) (H : Hp) (E : XK) (hr : Room k (A.deeper (envOfC "_law_roll" (defScope s__law_roll) s.heap.objs.size m.a__law_roll cdv))) (hg0 : A.guards = some []) :
    PSs (cxOf (L2.CX P w) P w K mg base ["cup", "many", "found", "deep"] "_law_roll" (defScope s__law_roll) m.a__law_roll cdv A outer s H E) (defBody s__law_roll) (liftS (lcOf K cl E) (sCons (sIf (wTru (wOp gtD (wPkIx 0 (wC (.int 0))) (wC (.int 0)))) (sCons (sAsg (wOp modD (wCall intD (wCons (wPkIx 0 (wC (.int 0))) (wNil))) (wVar 1)) (gN 2))
  (sCons (sPut 0 (wOp fdivD (wPkIx 0 (wC (.int 0))) (wVar 1)) (wC (.int 0)))
  (sRet (wVar 2)))) (sNil))
  (sCons (sPut 0 (wOp modD (wCall intD (wCons (wOp addD (wOp mulD (wPkIx 0 (wC (.int 1))) (wC (.int 31091))) (wC (.int 8053))) (wNil))) (wC (.int 2147483423))) (wC (.int 1)))
  (sCons (sAsg (wOp modD (wCall intD (wCons (wOp mulD (wPkIx 0 (wC (.int 1))) (wOp addD (wPkIx 0 (wC (.int 1))) (wC (.int 257)))) (wNil))) (wC (.int 2147483587))) (gN 3))
  (sRet (wOp modD (wCall intD (wCons (wOp fdivD (wVar 3) (wC (.int 853))) (wNil))) (wVar 1))))))) :=
  pps_cons (pps_if (ppt_cmp o_gt rfl (ppe_pkidx rfl (pe_pk (i := 0)) (ppe_int)) (ppe_int) rfl) (pps_cons (pps_set (i := 2) sc__law_roll.nd rfl (by first | exact .inl rfl | exact .inr rfl) (ppe_op o_mod rfl (ppe_callTy c_int rfl (by rfl) m.b_int boot_int (ppa_cons (ppe_pkidx rfl (pe_pk (i := 0)) (ppe_int)) (ppa_nil))) (ppe_var (i := 1))))
    (pps_cons (pps_put (i := 0) (ppe_op o_fdiv rfl (ppe_pkidx rfl (pe_pk (i := 0)) (ppe_int)) (ppe_var (i := 1))) (pe_pk) (ppe_int))
    (pps_one (pps_ret (ppe_var (i := 2)))))) (pps_nil))
    (pps_cons (pps_put (i := 0) (ppe_op o_mod rfl (ppe_callTy c_int rfl (by rfl) m.b_int boot_int (ppa_cons (ppe_op o_add rfl (ppe_op o_mul rfl (ppe_pkidx rfl (pe_pk (i := 0)) (ppe_int)) (ppe_int)) (ppe_int)) (ppa_nil))) (ppe_int)) (pe_pk) (ppe_int))
    (pps_cons (pps_set (i := 3) sc__law_roll.nd rfl (by first | exact .inl rfl | exact .inr rfl) (ppe_op o_mod rfl (ppe_callTy c_int rfl (by rfl) m.b_int boot_int (ppa_cons (ppe_op o_mul rfl (ppe_pkidx rfl (pe_pk (i := 0)) (ppe_int)) (ppe_op o_add rfl (ppe_pkidx rfl (pe_pk (i := 0)) (ppe_int)) (ppe_int))) (ppa_nil))) (ppe_int)))
    (pps_one (pps_ret (ppe_op o_mod rfl (ppe_callTy c_int rfl (by rfl) m.b_int boot_int (ppa_cons (ppe_op o_fdiv rfl (ppe_var (i := 3)) (ppe_int)) (ppa_nil))) (ppe_var (i := 1)))))))
theorem d__law_some (m : M K mg) {k : Nat} (c : Nm → Ta → Res D) (h__law_roll : FnG P w K mg base k m.a__law_roll m.fd__law_roll ["cup", "many"] (spOf K cl 2 (ctE (c ._law_roll)))) (cdv : Value) (A : Around) (outer : List Env) (s : Shared) (H : Hp) (E : XK) (hr : Room k (A.deeper (envOfC "_law_some" (defScope s__law_some) s.heap.objs.size m.a__law_some cdv))) (hg0 : A.guards = some []) :
    PSs (cxOf (L2.CX P w) P w K mg base ["cup", "things"] "_law_some" (defScope s__law_some) m.a__law_some cdv A outer s H E) (defBody s__law_some) (liftS (lcOf K cl E) (sRet (wOp idxD (wVar 1) (wFn 2 (ctE (c ._law_roll)) (arS 0 (arE (wCall lenD (wCons (wVar 1) (wNil))) (arNil))))))) :=
  pps_one (pps_ret (ppe_idx rfl (ppe_var (i := 1)) (ppe_fn h__law_roll rfl hr hg0 (by rfl) m.m__law_roll m.F__law_roll.kp m.B__law_roll (takes_of rfl rfl rfl rfl) (ppr_s (pe_pk (i := 0)) (ppr_e (ppe_callB c_len rfl (by rfl) m.b_len PySem.boot_len (ppa_cons (ppe_var (i := 1)) (ppa_nil))) (ppr_nil))))))
theorem d__law_value (m : M K mg) {k : Nat} (c : Nm → Ta → Res D) (h__law_drawn_fields : FnG P w K mg base k m.a__law_drawn_fields m.fd__law_drawn_fields ["cup", "deep", "many"] (spOf K cl 3 (ctE (c ._law_drawn_fields)))) (h__law_roll : FnG P w K mg base k m.a__law_roll m.fd__law_roll ["cup", "many"] (spOf K cl 2 (ctE (c ._law_roll)))) (h__law_some : FnG P w K mg base k m.a__law_some m.fd__law_some ["cup", "things"] (spOf K cl 2 (ctE (c ._law_some)))) (h__law_value : FnG P w K mg base k m.a__law_value m.fd__law_value ["cup", "deep"] (spOf K cl 2 (ctE (c ._law_value)))) (cdv : Value) (A : Around) (outer : List Env) (s : Shared) (H : Hp) (E : XK) (hr : Room k (A.deeper (envOfC "_law_value" (defScope s__law_value) s.heap.objs.size m.a__law_value cdv))) (hg0 : A.guards = some []) :
    PSs (cxOf (L2.CX P w) P w K mg base ["cup", "deep", "way", "turn"] "_law_value" (defScope s__law_value) m.a__law_value cdv A outer s H E) (defBody s__law_value) (liftS (lcOf K cl E) (sCons (sAsg (wFn 2 (ctE (c ._law_roll)) (arS 0 (arE (wIf (wTru (wOp gtD (wVar 1) (wC (.int 0)))) (wC (.int 12)) (wC (.int 7))) (arNil)))) (gN 2))
  (sCons (sIf (wTru (wOp ltD (wVar 2) (wC (.int 4)))) (sRet (wFn 2 (ctE (c ._law_some)) (arS 0 (arE (wLst (wCons (wC (.int 0)) (wCons (wC (.int 1)) (wCons (wC (.int 2)) (wCons (wC (.int 3)) (wCons (wC (.int 5)) (wCons (wC (.int 7)) (wCons (wUn negD (wC (.int 1))) (wCons (wC (.int 10)) (wCons (wOp powD (wC (.int 10)) (wC (.int 12))) (wNil))))))))))) (arNil))))) (sNil))
  (sCons (sIf (wTru (wOp ltD (wVar 2) (wC (.int 7)))) (sRet (wIf (wTru (wOp eqD (wVar 2) (wC (.int 4)))) (wFn 2 (ctE (c ._law_some)) (arS 0 (arE (wLst (wCons (wC .none) (wCons (wC (.bool true)) (wCons (wC (.bool false)) (wNil))))) (arNil)))) (wFn 2 (ctE (c ._law_some)) (arS 0 (arE (wLst (wCons (wC (.str "")) (wCons (wC (.str "a")) (wCons (wC (.str "b")) (wCons (wC (.str "ab")) (wCons (wC (.str "B 7")) (wCons (wC (.str "~")) (wNil)))))))) (arNil)))))) (sNil))
  (sCons (sIf (wTru (wOp ltD (wVar 2) (wC (.int 10)))) (sRet (wTup (wCons (wC (.str "list")) (wCons (wCall tupleD (wCons (wOf (wLC (iRange (wFn 2 (ctE (c ._law_roll)) (arS 0 (arE (wC (.int 4)) (arNil))))) (gN 3) (wYes) (wFn 2 (ctE (c ._law_value)) (arS 0 (arE (wOp subD (wVar 1) (wC (.int 1))) (arNil)))) [3])) (wNil))) (wNil))))) (sNil))
  (sRet (wTup (wCons (wC (.str "doc")) (wCons (wFn 3 (ctE (c ._law_drawn_fields)) (arS 0 (arE (wOp subD (wVar 1) (wC (.int 1))) (arE (wFn 2 (ctE (c ._law_roll)) (arS 0 (arE (wC (.int 3)) (arNil)))) (arNil))))) (wNil)))))))))) :=
  pps_cons (pps_set (i := 2) sc__law_value.nd rfl (by first | exact .inl rfl | exact .inr rfl) (ppe_fn h__law_roll rfl hr hg0 (by rfl) m.m__law_roll m.F__law_roll.kp m.B__law_roll (takes_of rfl rfl rfl rfl) (ppr_s (pe_pk (i := 0)) (ppr_e (ppe_if (ppt_cmp o_gt rfl (ppe_var (i := 1)) (ppe_int) rfl) (ppe_int) (ppe_int)) (ppr_nil)))))
    (pps_cons (pps_if (ppt_cmp o_lt rfl (ppe_var (i := 2)) (ppe_int) rfl) (pps_one (pps_ret (ppe_fn h__law_some rfl hr hg0 (by rfl) m.m__law_some m.F__law_some.kp m.B__law_some (takes_of rfl rfl rfl rfl) (ppr_s (pe_pk (i := 0)) (ppr_e (ppe_lst (ppa_cons (ppe_int) (ppa_cons (ppe_int) (ppa_cons (ppe_int) (ppa_cons (ppe_int) (ppa_cons (ppe_int) (ppa_cons (ppe_int) (ppa_cons (ppe_neg (ppe_int)) (ppa_cons (ppe_int) (ppa_cons (ppe_op o_pow rfl (ppe_int) (ppe_int)) (ppa_nil))))))))))) (ppr_nil)))))) (pps_nil))
    (pps_cons (pps_if (ppt_cmp o_lt rfl (ppe_var (i := 2)) (ppe_int) rfl) (pps_one (pps_ret (ppe_if (ppt_cmp (o_eq (u64 hr)) rfl (ppe_var (i := 2)) (ppe_int) rfl) (ppe_fn h__law_some rfl hr hg0 (by rfl) m.m__law_some m.F__law_some.kp m.B__law_some (takes_of rfl rfl rfl rfl) (ppr_s (pe_pk (i := 0)) (ppr_e (ppe_lst (ppa_cons (ppe_non) (ppa_cons (ppe_bl) (ppa_cons (ppe_bl) (ppa_nil))))) (ppr_nil)))) (ppe_fn h__law_some rfl hr hg0 (by rfl) m.m__law_some m.F__law_some.kp m.B__law_some (takes_of rfl rfl rfl rfl) (ppr_s (pe_pk (i := 0)) (ppr_e (ppe_lst (ppa_cons (ppe_str) (ppa_cons (ppe_str) (ppa_cons (ppe_str) (ppa_cons (ppe_str) (ppa_cons (ppe_str) (ppa_cons (ppe_str) (ppa_nil)))))))) (ppr_nil))))))) (pps_nil))
    (pps_cons (pps_if (ppt_cmp o_lt rfl (ppe_var (i := 2)) (ppe_int) rfl) (pps_one (pps_ret (ppe_tup (ppa_cons (ppe_str) (ppa_cons (ppe_callTy c_tuple rfl (by rfl) m.b_tuple boot_tuple (ppa_cons (ppe_ofF (lcf rfl sc__law_value.nd (ppi_range1 (by rfl) m.b_range (ppe_fn h__law_roll rfl hr hg0 (by rfl) m.m__law_roll m.F__law_roll.kp m.B__law_roll (takes_of rfl rfl rfl rfl) (ppr_s (pe_pk (i := 0)) (ppr_e (ppe_int) (ppr_nil))))) (blkOk_by (N := ["cup", "deep", "way", "turn"]) (sc := defScope s__law_value) (own := [("turn", 3)]) (by decide +kernel)) rfl (fun _ _ _ _ _ => ppg_name (i := 3) (fun _ _ => wipe_set (by decide)) sc__law_value.nd rfl (by first | exact .inl rfl | exact .inr rfl)) (fun _ _ _ _ _ => pts_yes) (fun _ _ _ _ _ => ppe_fn h__law_value rfl hr hg0 (by rfl) m.m__law_value m.F__law_value.kp m.B__law_value takes0 (ppr_s (pe_pk (i := 0)) (ppr_e (ppe_op o_sub rfl (ppe_var (i := 1)) (ppe_int)) (ppr_nil)))))) (ppa_nil))) (ppa_nil)))))) (pps_nil))
    (pps_one (pps_ret (ppe_tup (ppa_cons (ppe_str) (ppa_cons (ppe_fn h__law_drawn_fields rfl hr hg0 (by rfl) m.m__law_drawn_fields m.F__law_drawn_fields.kp m.B__law_drawn_fields (takes_of rfl rfl rfl rfl) (ppr_s (pe_pk (i := 0)) (ppr_e (ppe_op o_sub rfl (ppe_var (i := 1)) (ppe_int)) (ppr_e (ppe_fn h__law_roll rfl hr hg0 (by rfl) m.m__law_roll m.F__law_roll.kp m.B__law_roll (takes_of rfl rfl rfl rfl) (ppr_s (pe_pk (i := 0)) (ppr_e (ppe_int) (ppr_nil)))) (ppr_nil))))) (ppa_nil)))))))))
theorem d__law_drawn_fields (m : M K mg) {k : Nat} (c : Nm → Ta → Res D) (h__law_some : FnG P w K mg base k m.a__law_some m.fd__law_some ["cup", "things"] (spOf K cl 2 (ctE (c ._law_some)))) (h__law_value : FnG P w K mg base k m.a__law_value m.fd__law_value ["cup", "deep"] (spOf K cl 2 (ctE (c ._law_value)))) (cdv : Value) (A : Around) (outer : List Env) (s : Shared) (H : Hp) (E : XK) (hr : Room k (A.deeper (envOfC "_law_drawn_fields" (defScope s__law_drawn_fields) s.heap.objs.size m.a__law_drawn_fields cdv))) (hg0 : A.guards = some []) :
    PSs (cxOf (L2.CX P w) P w K mg base ["cup", "deep", "many", "found", "names", "turn", "name", "one"] "_law_drawn_fields" (defScope s__law_drawn_fields) m.a__law_drawn_fields cdv A outer s H E) (defBody s__law_drawn_fields) (liftS (lcOf K cl E) (sCons (sPar 3 4 (wTup (wNil)) (wLst (wCons (wC (.str "a")) (wCons (wC (.str "b")) (wCons (wC (.str "c")) (wCons (wC (.str "d1")) (wNil)))))))
  (sCons (sFor (iRange (wVar 2)) (gN 5) (sCons (sAsg (wFn 2 (ctE (c ._law_some)) (arS 0 (arE (wVar 4) (arNil)))) (gN 6))
  (sCons (sSetL 4 (wLC (iL (wVar 4)) (gN 7) (wTru (wOp neD (wVar 7) (wVar 6))) (wVar 7) [7]))
  (sAsg (wOp addD (wVar 3) (wTup (wCons (wTup (wCons (wVar 6) (wCons (wFn 2 (ctE (c ._law_value)) (arS 0 (arE (wVar 1) (arNil)))) (wNil)))) (wNil)))) (gN 3)))))
  (sRet (wVar 3))))) :=
  pps_cons (pps_par (i := 3) (j := 4) rfl sc__law_drawn_fields.nd rfl rfl (by decide) rfl rfl (ppe_tup (ppa_nil)) (ppe_lst (ppa_cons (ppe_str) (ppa_cons (ppe_str) (ppa_cons (ppe_str) (ppa_cons (ppe_str) (ppa_nil)))))) (by rfl))
    (pps_cons (pps_for (passes_of rfl) rfl (ppi_range1 (by rfl) m.b_range (ppe_var (i := 2))) (ppg_name (i := 5) (fun _ _ => trivial) sc__law_drawn_fields.nd rfl (by first | exact .inl rfl | exact .inr rfl)) (pps_cons (pps_set (i := 6) sc__law_drawn_fields.nd rfl (by first | exact .inl rfl | exact .inr rfl) (ppe_fn h__law_some rfl hr hg0 (by rfl) m.m__law_some m.F__law_some.kp m.B__law_some (takes_of rfl rfl rfl rfl) (ppr_s (pe_pk (i := 0)) (ppr_e (ppe_var (i := 4)) (ppr_nil)))))
    (pps_cons (lcv rfl sc__law_drawn_fields.nd (i := 4) rfl rfl (sw_true rfl rfl rfl (by decide +kernel)) (ppi_list rfl (ppe_var (i := 4))) (blkOk_by (N := ["cup", "deep", "many", "found", "names", "turn", "name", "one"]) (sc := defScope s__law_drawn_fields) (own := [("one", 7)]) (by decide +kernel)) rfl (fun _ _ _ _ _ => ppg_name (i := 7) (fun _ _ => wipe_set (by decide)) sc__law_drawn_fields.nd rfl (by first | exact .inl rfl | exact .inr rfl)) (fun _ _ _ _ _ => ppts_one (ppt_cmp (o_ne (u64 hr)) rfl (ppe_var (i := 7)) (ppe_var (i := 6)) rfl)) (fun _ _ _ _ _ => ppe_var (i := 7)))
    (pps_one (pps_set (i := 3) sc__law_drawn_fields.nd rfl (by first | exact .inl rfl | exact .inr rfl) (ppe_op o_add rfl (ppe_var (i := 3)) (ppe_tup (ppa_cons (ppe_tup (ppa_cons (ppe_var (i := 6)) (ppa_cons (ppe_fn h__law_value rfl hr hg0 (by rfl) m.m__law_value m.F__law_value.kp m.B__law_value (takes_of rfl rfl rfl rfl) (ppr_s (pe_pk (i := 0)) (ppr_e (ppe_var (i := 1)) (ppr_nil)))) (ppa_nil)))) (ppa_nil)))))))))
    (pps_one (pps_ret (ppe_var (i := 3)))))
theorem d__law_document (m : M K mg) {k : Nat} (c : Nm → Ta → Res D) (h__law_drawn_fields : FnG P w K mg base k m.a__law_drawn_fields m.fd__law_drawn_fields ["cup", "deep", "many"] (spOf K cl 3 (ctE (c ._law_drawn_fields)))) (h__law_roll : FnG P w K mg base k m.a__law_roll m.fd__law_roll ["cup", "many"] (spOf K cl 2 (ctE (c ._law_roll)))) (cdv : Value) (A : Around) (outer : List Env) (s : Shared) (H : Hp) (E : XK) (hr : Room k (A.deeper (envOfC "_law_document" (defScope s__law_document) s.heap.objs.size m.a__law_document cdv))) (hg0 : A.guards = some []) :
    PSs (cxOf (L2.CX P w) P w K mg base ["cup", "own"] "_law_document" (defScope s__law_document) m.a__law_document cdv A outer s H E) (defBody s__law_document) (liftS (lcOf K cl E) (sRet (wTup (wCons (wC (.str "doc")) (wCons (wOp addD (wTup (wCons (wTup (wCons (wC (.str "id")) (wCons (wVar 1) (wNil)))) (wNil))) (wFn 3 (ctE (c ._law_drawn_fields)) (arS 0 (arE (wC (.int 2)) (arE (wOp addD (wC (.int 1)) (wFn 2 (ctE (c ._law_roll)) (arS 0 (arE (wC (.int 3)) (arNil))))) (arNil)))))) (wNil)))))) :=
  pps_one (pps_ret (ppe_tup (ppa_cons (ppe_str) (ppa_cons (ppe_op o_add rfl (ppe_tup (ppa_cons (ppe_tup (ppa_cons (ppe_str) (ppa_cons (ppe_var (i := 1)) (ppa_nil)))) (ppa_nil))) (ppe_fn h__law_drawn_fields rfl hr hg0 (by rfl) m.m__law_drawn_fields m.F__law_drawn_fields.kp m.B__law_drawn_fields (takes_of rfl rfl rfl rfl) (ppr_s (pe_pk (i := 0)) (ppr_e (ppe_int) (ppr_e (ppe_op o_add rfl (ppe_int) (ppe_fn h__law_roll rfl hr hg0 (by rfl) m.m__law_roll m.F__law_roll.kp m.B__law_roll (takes_of rfl rfl rfl rfl) (ppr_s (pe_pk (i := 0)) (ppr_e (ppe_int) (ppr_nil))))) (ppr_nil)))))) (ppa_nil)))))
theorem d__law_shape (m : M K mg) {k : Nat} (c : Nm → Ta → Res D) (h__law_roll : FnG P w K mg base k m.a__law_roll m.fd__law_roll ["cup", "many"] (spOf K cl 2 (ctE (c ._law_roll)))) (h__law_some : FnG P w K mg base k m.a__law_some m.fd__law_some ["cup", "things"] (spOf K cl 2 (ctE (c ._law_some)))) (cdv : Value) (A : Around) (outer : List Env) (s : Shared) (H : Hp) (E : XK) (hr : Room k (A.deeper (envOfC "_law_shape" (defScope s__law_shape) s.heap.objs.size m.a__law_shape cdv))) (hg0 : A.guards = some []) :
    PSs (cxOf (L2.CX P w) P w K mg base ["cup", "some"] "_law_shape" (defScope s__law_shape) m.a__law_shape cdv A outer s H E) (defBody s__law_shape) (liftS (lcOf K cl E) (sCons (sIf (wTru (wOp eqD (wFn 2 (ctE (c ._law_roll)) (arS 0 (arE (wC (.int 4)) (arNil)))) (wC (.int 0)))) (sRet (wTup (wCons (wC (.str "all")) (wNil)))) (sNil))
  (sCons (sAsg (wLst (wCons (wTup (wCons (wTup (wCons (wC (.str "a")) (wNil))) (wNil))) (wCons (wTup (wCons (wTup (wCons (wC (.str "b")) (wNil))) (wCons (wTup (wCons (wC (.str "c")) (wNil))) (wNil)))) (wCons (wTup (wCons (wTup (wCons (wC (.str "a")) (wCons (wC (.str "b")) (wNil)))) (wNil))) (wCons (wTup (wCons (wTup (wCons (wC (.str "a")) (wCons (wC (.str "b")) (wNil)))) (wCons (wTup (wCons (wC (.str "a")) (wCons (wC (.str "a")) (wNil)))) (wCons (wTup (wCons (wC (.str "c")) (wNil))) (wNil))))) (wCons (wTup (wCons (wTup (wCons (wC (.str "b")) (wCons (wC (.str "a")) (wNil)))) (wCons (wTup (wCons (wC (.str "d1")) (wNil))) (wNil)))) (wCons (wTup (wCons (wTup (wCons (wC (.str "zz")) (wNil))) (wNil))) (wNil)))))))) (gN 1))
  (sCons (sAsg (wOp addD (wVar 1) (wLst (wCons (wTup (wCons (wTup (wCons (wC (.str "a")) (wCons (wC (.str "b")) (wCons (wC (.str "c")) (wNil))))) (wCons (wTup (wCons (wC (.str "a")) (wCons (wC (.str "c")) (wNil)))) (wNil)))) (wCons (wTup (wCons (wTup (wCons (wC (.str "c")) (wCons (wC (.str "a")) (wCons (wC (.str "b")) (wNil))))) (wNil))) (wNil))))) (gN 1))
  (sRet (wTup (wCons (wFn 2 (ctE (c ._law_some)) (arS 0 (arE (wLst (wCons (wC (.str "keep")) (wCons (wC (.str "drop")) (wNil)))) (arNil)))) (wCons (wFn 2 (ctE (c ._law_some)) (arS 0 (arE (wVar 1) (arNil)))) (wNil))))))))) :=
  pps_cons (pps_if (ppt_cmp (o_eq (u64 hr)) rfl (ppe_fn h__law_roll rfl hr hg0 (by rfl) m.m__law_roll m.F__law_roll.kp m.B__law_roll (takes_of rfl rfl rfl rfl) (ppr_s (pe_pk (i := 0)) (ppr_e (ppe_int) (ppr_nil)))) (ppe_int) rfl) (pps_one (pps_ret (ppe_tup (ppa_cons (ppe_str) (ppa_nil))))) (pps_nil))
    (pps_cons (pps_set (i := 1) sc__law_shape.nd rfl (by first | exact .inl rfl | exact .inr rfl) (ppe_lst (ppa_cons (ppe_tup (ppa_cons (ppe_tup (ppa_cons (ppe_str) (ppa_nil))) (ppa_nil))) (ppa_cons (ppe_tup (ppa_cons (ppe_tup (ppa_cons (ppe_str) (ppa_nil))) (ppa_cons (ppe_tup (ppa_cons (ppe_str) (ppa_nil))) (ppa_nil)))) (ppa_cons (ppe_tup (ppa_cons (ppe_tup (ppa_cons (ppe_str) (ppa_cons (ppe_str) (ppa_nil)))) (ppa_nil))) (ppa_cons (ppe_tup (ppa_cons (ppe_tup (ppa_cons (ppe_str) (ppa_cons (ppe_str) (ppa_nil)))) (ppa_cons (ppe_tup (ppa_cons (ppe_str) (ppa_cons (ppe_str) (ppa_nil)))) (ppa_cons (ppe_tup (ppa_cons (ppe_str) (ppa_nil))) (ppa_nil))))) (ppa_cons (ppe_tup (ppa_cons (ppe_tup (ppa_cons (ppe_str) (ppa_cons (ppe_str) (ppa_nil)))) (ppa_cons (ppe_tup (ppa_cons (ppe_str) (ppa_nil))) (ppa_nil)))) (ppa_cons (ppe_tup (ppa_cons (ppe_tup (ppa_cons (ppe_str) (ppa_nil))) (ppa_nil))) (ppa_nil)))))))))
    (pps_cons (pps_set (i := 1) sc__law_shape.nd rfl (by first | exact .inl rfl | exact .inr rfl) (ppe_op o_add rfl (ppe_var (i := 1)) (ppe_lst (ppa_cons (ppe_tup (ppa_cons (ppe_tup (ppa_cons (ppe_str) (ppa_cons (ppe_str) (ppa_cons (ppe_str) (ppa_nil))))) (ppa_cons (ppe_tup (ppa_cons (ppe_str) (ppa_cons (ppe_str) (ppa_nil)))) (ppa_nil)))) (ppa_cons (ppe_tup (ppa_cons (ppe_tup (ppa_cons (ppe_str) (ppa_cons (ppe_str) (ppa_cons (ppe_str) (ppa_nil))))) (ppa_nil))) (ppa_nil))))))
    (pps_one (pps_ret (ppe_tup (ppa_cons (ppe_fn h__law_some rfl hr hg0 (by rfl) m.m__law_some m.F__law_some.kp m.B__law_some (takes_of rfl rfl rfl rfl) (ppr_s (pe_pk (i := 0)) (ppr_e (ppe_lst (ppa_cons (ppe_str) (ppa_cons (ppe_str) (ppa_nil)))) (ppr_nil)))) (ppa_cons (ppe_fn h__law_some rfl hr hg0 (by rfl) m.m__law_some m.F__law_some.kp m.B__law_some (takes_of rfl rfl rfl rfl) (ppr_s (pe_pk (i := 0)) (ppr_e (ppe_var (i := 1)) (ppr_nil)))) (ppa_nil))))))))
theorem d__law_rest (m : M K mg) {k : Nat} (c : Nm → Ta → Res D) (cdv : Value) (A : Around) (outer : List Env) (s : Shared) (H : Hp) (E : XK) (hr : Room k (A.deeper (envOfC "_law_rest" (defScope s__law_rest) s.heap.objs.size m.a__law_rest cdv))) (hg0 : A.guards = some []) :
    PSs (cxOf (L2.CX P w) P w K mg base ["paths", "name", "path"] "_law_rest" (defScope s__law_rest) m.a__law_rest cdv A outer s H E) (defBody s__law_rest) (liftS (lcOf K cl E) (sRet (wOf (wLC (iLT (wVar 0)) (gN 2) (wTru (wOp eqD (wOp idxD (wVar 2) (wC (.int 0))) (wVar 1))) (wSlice (wVar 2) (wPS (wC (.int 1))) (wPN)) [2])))) :=
  pps_one (pps_ret (ppe_ofF (lcf rfl sc__law_rest.nd (ppi_lt rfl (ppe_var (i := 0))) (blkOk_by (N := ["paths", "name", "path"]) (sc := defScope s__law_rest) (own := [("path", 2)]) (by decide +kernel)) rfl (fun _ _ _ _ _ => ppg_name (i := 2) (fun _ _ => wipe_set (by decide)) sc__law_rest.nd rfl (by first | exact .inl rfl | exact .inr rfl)) (fun _ _ _ _ _ => ppts_one (ppt_cmp (o_eq (u64 hr)) rfl (ppe_idx rfl (ppe_var (i := 2)) (ppe_int)) (ppe_var (i := 1)) rfl)) (fun _ _ _ _ _ => ppe_slice rfl (ppe_var (i := 2)) (ppo_some (ppe_int)) (ppo_none)))))
theorem d__law_kept (m : M K mg) {k : Nat} (c : Nm → Ta → Res D) (h__law_kept : FnG P w K mg base k m.a__law_kept m.fd__law_kept ["value", "paths"] (spOf K cl 2 (ctE (c ._law_kept)))) (h__law_rest : FnG P w K mg base k m.a__law_rest m.fd__law_rest ["paths", "name"] (spOf K cl 2 (ctE (c ._law_rest)))) (cdv : Value) (A : Around) (outer : List Env) (s : Shared) (H : Hp) (E : XK) (hr : Room k (A.deeper (envOfC "_law_kept" (defScope s__law_kept) s.heap.objs.size m.a__law_kept cdv))) (hg0 : A.guards = some []) :
    PSs (cxOf (L2.CX P w) P w K mg base ["value", "paths", "one", "found", "name", "rest"] "_law_kept" (defScope s__law_kept) m.a__law_kept cdv A outer s H E) (defBody s__law_kept) (liftS (lcOf K cl E) (sCons (sIf (wTru (wOp eqD (wOp idxD (wVar 0) (wC (.int 0))) (wC (.str "list")))) (sRet (wTup (wCons (wC (.str "list")) (wCons (wCall tupleD (wCons (wOf (wLC (iT (wOp idxD (wVar 0) (wC (.int 1)))) (gN 2) (wAnd (wTru (wIsi "tuple" (wVar 2))) (wTru (wOp eqD (wOp idxD (wVar 2) (wC (.int 0))) (wC (.str "doc"))))) (wFn 2 (ctE (c ._law_kept)) (arE (wVar 2) (arE (wVar 1) (arNil)))) [2])) (wNil))) (wNil))))) (sNil))
  (sCons (sSetF 3 (wLstF (wNil)))
  (sCons (sFor (iT (wOp idxD (wVar 0) (wC (.int 1)))) (gTup' 2 (gCons' (gN 4) (gCons' (gN 2) (gNil')))) (sCons (sAsg (wFn 2 (ctE (c ._law_rest)) (arE (wVar 1) (arE (wVar 4) (arNil)))) (gN 5))
  (sIf (wTru (wOp inD (wTup (wNil)) (wVar 5))) (sExpr (wAppend 3 (wTup (wCons (wVar 4) (wCons (wVar 2) (wNil)))))) (sIf (wAnd (wTru (wOp neD (wVar 5) (wLst (wNil)))) (wTru (wIsi "tuple" (wVar 2)))) (sExpr (wAppend 3 (wTup (wCons (wVar 4) (wCons (wFn 2 (ctE (c ._law_kept)) (arE (wVar 2) (arE (wVar 5) (arNil)))) (wNil)))))) (sNil)))))
  (sRet (wTup (wCons (wC (.str "doc")) (wCons (wPkTup 3) (wNil))))))))) :=
  pps_cons (pps_if (ppt_cmp (o_eq (u64 hr)) rfl (ppe_idx rfl (ppe_var (i := 0)) (ppe_int)) (ppe_str) rfl) (pps_one (pps_ret (ppe_tup (ppa_cons (ppe_str) (ppa_cons (ppe_callTy c_tuple rfl (by rfl) m.b_tuple boot_tuple (ppa_cons (ppe_ofF (lcf rfl sc__law_kept.nd (ppi_tup rfl (ppe_idx rfl (ppe_var (i := 0)) (ppe_int))) (blkOk_by (N := ["value", "paths", "one", "found", "name", "rest"]) (sc := defScope s__law_kept) (own := [("one", 2)]) (by decide +kernel)) rfl (fun _ _ _ _ _ => ppg_name (i := 2) (fun _ _ => wipe_set (by decide)) sc__law_kept.nd rfl (by first | exact .inl rfl | exact .inr rfl)) (fun _ _ _ _ _ => ppts_one (ppt_w (ppw_and (ppt_val (ppe_isi rfl (by rfl) m.b_isinstance (by rfl) m.b_tuple boot_tuple (by decide) (ppe_var (i := 2)))) (ppw_and1 (ppt_cmp (o_eq (u64 hr)) rfl (ppe_idx rfl (ppe_var (i := 2)) (ppe_int)) (ppe_str) rfl))))) (fun _ _ _ _ _ => ppe_fn h__law_kept rfl hr hg0 (by rfl) m.m__law_kept m.F__law_kept.kp m.B__law_kept takes0 (ppr_e (ppe_var (i := 2)) (ppr_e (ppe_var (i := 1)) (ppr_nil)))))) (ppa_nil))) (ppa_nil)))))) (pps_nil))
    (pps_cons (pps_setF (i := 3) sc__law_kept.nd rfl (by first | exact .inl rfl | exact .inr rfl) (ppf_lst (ppa_nil)))
    (pps_cons (pps_for (passes_of rfl) rfl (ppi_tup rfl (ppe_idx rfl (ppe_var (i := 0)) (ppe_int))) (ppg_tup rfl rfl (ppgs_cons sa_ok (ppg_name (i := 4) (fun _ _ => trivial) sc__law_kept.nd rfl (by first | exact .inl rfl | exact .inr rfl)) (ppgs_cons sa_ok (ppg_name (i := 2) (fun _ _ => trivial) sc__law_kept.nd rfl (by first | exact .inl rfl | exact .inr rfl)) (ppgs_nil sa_ok)))) (pps_cons (pps_set (i := 5) sc__law_kept.nd rfl (by first | exact .inl rfl | exact .inr rfl) (ppe_fn h__law_rest rfl hr hg0 (by rfl) m.m__law_rest m.F__law_rest.kp m.B__law_rest (takes_of rfl rfl rfl rfl) (ppr_e (ppe_var (i := 1)) (ppr_e (ppe_var (i := 4)) (ppr_nil)))))
    (pps_one (pps_if (ppt_cmp (o_in (u65 hr)) rfl (ppe_tup (ppa_nil)) (ppe_var (i := 5)) rfl) (pps_one (pps_expr (ppe_append rfl (pe_pk (i := 3)) (ppe_tup (ppa_cons (ppe_var (i := 4)) (ppa_cons (ppe_var (i := 2)) (ppa_nil))))))) (pps_one (pps_if (ppt_w (ppw_and (ppt_cmp (o_ne (u64 hr)) rfl (ppe_var (i := 5)) (ppe_lst (ppa_nil)) rfl) (ppw_and1 (ppt_val (ppe_isi rfl (by rfl) m.b_isinstance (by rfl) m.b_tuple boot_tuple (by decide) (ppe_var (i := 2))))))) (pps_one (pps_expr (ppe_append rfl (pe_pk (i := 3)) (ppe_tup (ppa_cons (ppe_var (i := 4)) (ppa_cons (ppe_fn h__law_kept rfl hr hg0 (by rfl) m.m__law_kept m.F__law_kept.kp m.B__law_kept (takes_of rfl rfl rfl rfl) (ppr_e (ppe_var (i := 2)) (ppr_e (ppe_var (i := 5)) (ppr_nil)))) (ppa_nil))))))) (pps_nil)))))))
    (pps_one (pps_ret (ppe_tup (ppa_cons (ppe_str) (ppa_cons (ppe_pktup rfl (by rfl) m.b_tuple (pe_pk (i := 3))) (ppa_nil))))))))
theorem d__law_dropped (m : M K mg) {k : Nat} (c : Nm → Ta → Res D) (h__law_dropped : FnG P w K mg base k m.a__law_dropped m.fd__law_dropped ["value", "paths"] (spOf K cl 2 (ctE (c ._law_dropped)))) (h__law_rest : FnG P w K mg base k m.a__law_rest m.fd__law_rest ["paths", "name"] (spOf K cl 2 (ctE (c ._law_rest)))) (cdv : Value) (A : Around) (outer : List Env) (s : Shared) (H : Hp) (E : XK) (hr : Room k (A.deeper (envOfC "_law_dropped" (defScope s__law_dropped) s.heap.objs.size m.a__law_dropped cdv))) (hg0 : A.guards = some []) :
    PSs (cxOf (L2.CX P w) P w K mg base ["value", "paths", "one", "name"] "_law_dropped" (defScope s__law_dropped) m.a__law_dropped cdv A outer s H E) (defBody s__law_dropped) (liftS (lcOf K cl E) (sCons (sIf (wOr (wTru (wOp eqD (wVar 1) (wLst (wNil)))) (wNot (wTru (wIsi "tuple" (wVar 0))))) (sRet (wVar 0)) (sNil))
  (sCons (sIf (wTru (wOp eqD (wOp idxD (wVar 0) (wC (.int 0))) (wC (.str "list")))) (sRet (wTup (wCons (wC (.str "list")) (wCons (wCall tupleD (wCons (wOf (wLC (iT (wOp idxD (wVar 0) (wC (.int 1)))) (gN 2) (wYes) (wIf (wAnd (wTru (wIsi "tuple" (wVar 2))) (wTru (wOp eqD (wOp idxD (wVar 2) (wC (.int 0))) (wC (.str "doc"))))) (wFn 2 (ctE (c ._law_dropped)) (arE (wVar 2) (arE (wVar 1) (arNil)))) (wVar 2)) [2])) (wNil))) (wNil))))) (sNil))
  (sRet (wTup (wCons (wC (.str "doc")) (wCons (wCall tupleD (wCons (wOf (wLC (iT (wOp idxD (wVar 0) (wC (.int 1)))) (gTup' 2 (gCons' (gN 3) (gCons' (gN 2) (gNil')))) (wTru (wOp notInD (wTup (wNil)) (wFn 2 (ctE (c ._law_rest)) (arE (wVar 1) (arE (wVar 3) (arNil)))))) (wTup (wCons (wVar 3) (wCons (wFn 2 (ctE (c ._law_dropped)) (arE (wVar 2) (arE (wFn 2 (ctE (c ._law_rest)) (arE (wVar 1) (arE (wVar 3) (arNil)))) (arNil)))) (wNil)))) [3, 2])) (wNil))) (wNil)))))))) :=
  pps_cons (pps_if (ppt_w (ppw_or (ppt_cmp (o_eq (u64 hr)) rfl (ppe_var (i := 1)) (ppe_lst (ppa_nil)) rfl) (ppw_or1 (ppt_not (ppt_val (ppe_isi rfl (by rfl) m.b_isinstance (by rfl) m.b_tuple boot_tuple (by decide) (ppe_var (i := 0)))))))) (pps_one (pps_ret (ppe_var (i := 0)))) (pps_nil))
    (pps_cons (pps_if (ppt_cmp (o_eq (u64 hr)) rfl (ppe_idx rfl (ppe_var (i := 0)) (ppe_int)) (ppe_str) rfl) (pps_one (pps_ret (ppe_tup (ppa_cons (ppe_str) (ppa_cons (ppe_callTy c_tuple rfl (by rfl) m.b_tuple boot_tuple (ppa_cons (ppe_ofF (lcf rfl sc__law_dropped.nd (ppi_tup rfl (ppe_idx rfl (ppe_var (i := 0)) (ppe_int))) (blkOk_by (N := ["value", "paths", "one", "name"]) (sc := defScope s__law_dropped) (own := [("one", 2)]) (by decide +kernel)) rfl (fun _ _ _ _ _ => ppg_name (i := 2) (fun _ _ => wipe_set (by decide)) sc__law_dropped.nd rfl (by first | exact .inl rfl | exact .inr rfl)) (fun _ _ _ _ _ => pts_yes) (fun _ _ _ _ _ => ppe_if (ppt_w (ppw_and (ppt_val (ppe_isi rfl (by rfl) m.b_isinstance (by rfl) m.b_tuple boot_tuple (by decide) (ppe_var (i := 2)))) (ppw_and1 (ppt_cmp (o_eq (u64 hr)) rfl (ppe_idx rfl (ppe_var (i := 2)) (ppe_int)) (ppe_str) rfl)))) (ppe_fn h__law_dropped rfl hr hg0 (by rfl) m.m__law_dropped m.F__law_dropped.kp m.B__law_dropped takes0 (ppr_e (ppe_var (i := 2)) (ppr_e (ppe_var (i := 1)) (ppr_nil)))) (ppe_var (i := 2))))) (ppa_nil))) (ppa_nil)))))) (pps_nil))
    (pps_one (pps_ret (ppe_tup (ppa_cons (ppe_str) (ppa_cons (ppe_callTy c_tuple rfl (by rfl) m.b_tuple boot_tuple (ppa_cons (ppe_ofF (lcf rfl sc__law_dropped.nd (ppi_tup rfl (ppe_idx rfl (ppe_var (i := 0)) (ppe_int))) (blkOk_by (N := ["value", "paths", "one", "name"]) (sc := defScope s__law_dropped) (own := [("name", 3), ("one", 2)]) (by decide +kernel)) rfl (fun _ _ _ _ _ => ppg_tup rfl rfl (ppgs_cons sw_ok (ppg_name (i := 3) (fun _ _ => wipe_set (by decide)) sc__law_dropped.nd rfl (by first | exact .inl rfl | exact .inr rfl)) (ppgs_cons sw_ok (ppg_name (i := 2) (fun _ _ => wipe_set (by decide)) sc__law_dropped.nd rfl (by first | exact .inl rfl | exact .inr rfl)) (ppgs_nil sw_ok)))) (fun _ _ _ _ _ => ppts_one (ppt_cmp (o_notin (u65 hr)) rfl (ppe_tup (ppa_nil)) (ppe_fn h__law_rest rfl hr hg0 (by rfl) m.m__law_rest m.F__law_rest.kp m.B__law_rest takes0 (ppr_e (ppe_var (i := 1)) (ppr_e (ppe_var (i := 3)) (ppr_nil)))) rfl)) (fun _ _ _ _ _ => ppe_tup (ppa_cons (ppe_var (i := 3)) (ppa_cons (ppe_fn h__law_dropped rfl hr hg0 (by rfl) m.m__law_dropped m.F__law_dropped.kp m.B__law_dropped takes0 (ppr_e (ppe_var (i := 2)) (ppr_e (ppe_fn h__law_rest rfl hr hg0 (by rfl) m.m__law_rest m.F__law_rest.kp m.B__law_rest takes0 (ppr_e (ppe_var (i := 1)) (ppr_e (ppe_var (i := 3)) (ppr_nil)))) (ppr_nil)))) (ppa_nil)))))) (ppa_nil))) (ppa_nil)))))))
theorem d__law_shaped (m : M K mg) {k : Nat} (c : Nm → Ta → Res D) (h__law_dropped : FnG P w K mg base k m.a__law_dropped m.fd__law_dropped ["value", "paths"] (spOf K cl 2 (ctE (c ._law_dropped)))) (h__law_kept : FnG P w K mg base k m.a__law_kept m.fd__law_kept ["value", "paths"] (spOf K cl 2 (ctE (c ._law_kept)))) (cdv : Value) (A : Around) (outer : List Env) (s : Shared) (H : Hp) (E : XK) (hr : Room k (A.deeper (envOfC "_law_shaped" (defScope s__law_shaped) s.heap.objs.size m.a__law_shaped cdv))) (hg0 : A.guards = some []) :
    PSs (cxOf (L2.CX P w) P w K mg base ["document", "shape"] "_law_shaped" (defScope s__law_shaped) m.a__law_shaped cdv A outer s H E) (defBody s__law_shaped) (liftS (lcOf K cl E) (sCons (sIf (wTru (wOp eqD (wOp idxD (wVar 1) (wC (.int 0))) (wC (.str "all")))) (sRet (wVar 0)) (sNil))
  (sRet (wIf (wTru (wOp eqD (wOp idxD (wVar 1) (wC (.int 0))) (wC (.str "keep")))) (wFn 2 (ctE (c ._law_kept)) (arE (wVar 0) (arE (wOp addD (wLst (wCons (wTup (wCons (wC (.str "id")) (wNil))) (wNil))) (wCall listD (wCons (wOp idxD (wVar 1) (wC (.int 1))) (wNil)))) (arNil)))) (wFn 2 (ctE (c ._law_dropped)) (arE (wVar 0) (arE (wCall listD (wCons (wOp idxD (wVar 1) (wC (.int 1))) (wNil))) (arNil)))))))) :=
  pps_cons (pps_if (ppt_cmp (o_eq (u64 hr)) rfl (ppe_idx rfl (ppe_var (i := 1)) (ppe_int)) (ppe_str) rfl) (pps_one (pps_ret (ppe_var (i := 0)))) (pps_nil))
    (pps_one (pps_ret (ppe_if (ppt_cmp (o_eq (u64 hr)) rfl (ppe_idx rfl (ppe_var (i := 1)) (ppe_int)) (ppe_str) rfl) (ppe_fn h__law_kept rfl hr hg0 (by rfl) m.m__law_kept m.F__law_kept.kp m.B__law_kept (takes_of rfl rfl rfl rfl) (ppr_e (ppe_var (i := 0)) (ppr_e (ppe_op o_add rfl (ppe_lst (ppa_cons (ppe_tup (ppa_cons (ppe_str) (ppa_nil))) (ppa_nil))) (ppe_callTy c_list rfl (by rfl) m.b_list boot_list (ppa_cons (ppe_idx rfl (ppe_var (i := 1)) (ppe_int)) (ppa_nil)))) (ppr_nil)))) (ppe_fn h__law_dropped rfl hr hg0 (by rfl) m.m__law_dropped m.F__law_dropped.kp m.B__law_dropped (takes_of rfl rfl rfl rfl) (ppr_e (ppe_var (i := 0)) (ppr_e (ppe_callTy c_list rfl (by rfl) m.b_list boot_list (ppa_cons (ppe_idx rfl (ppe_var (i := 1)) (ppe_int)) (ppa_nil))) (ppr_nil)))))))
theorem d_law (m : M K mg) {k : Nat} (c : Nm → Ta → Res D) (h__law_cup : FnG P w K mg base k m.a__law_cup m.fd__law_cup ["script"] (spOfF K cl 1 (ctF (c ._law_cup)))) (h__law_document : FnG P w K mg base k m.a__law_document m.fd__law_document ["cup", "own"] (spOf K cl 2 (ctE (c ._law_document)))) (h__law_roll : FnG P w K mg base k m.a__law_roll m.fd__law_roll ["cup", "many"] (spOf K cl 2 (ctE (c ._law_roll)))) (h__law_shape : FnG P w K mg base k m.a__law_shape m.fd__law_shape ["cup"] (spOf K cl 1 (ctE (c ._law_shape)))) (h__law_shaped : FnG P w K mg base k m.a__law_shaped m.fd__law_shaped ["document", "shape"] (spOf K cl 2 (ctE (c ._law_shaped)))) (h__law_some : FnG P w K mg base k m.a__law_some m.fd__law_some ["cup", "things"] (spOf K cl 2 (ctE (c ._law_some)))) (h_shaped : FnG P w K mg base k m.a_shaped m.fd_shaped ["document", "shape"] (spOf K cl 2 (ctE (c .shaped)))) (cdv : Value) (A : Around) (outer : List Env) (s : Shared) (H : Hp) (E : XK) (hr : Room k (A.deeper (envOfC "law" (defScope s_law) s.heap.objs.size m.a_law cdv))) (hg0 : A.guards = some []) :
    PSs (cxOf (L2.CX P w) P w K mg base ["script", "cup", "turn", "document", "shape", "deal", "rows", "inner", "more", "due", "c", "d", "middle", "wide", "kept", "left", "some", "bare", "rows_two"] "law" (defScope s_law) m.a_law cdv A outer s H E) (defBody s_law) (liftS (lcOf K cl E) (sCons (sSetF 1 (wFnF 1 (ctF (c ._law_cup)) (arE (wVar 0) (arNil))))
  (sCons (sFor (iRange (wC (.int 6))) (gN 2) (sCons (sPar 3 4 (wFn 2 (ctE (c ._law_document)) (arS 1 (arE (wFn 2 (ctE (c ._law_some)) (arS 1 (arE (wLst (wCons (wC (.int 1)) (wCons (wC (.str "a")) (wCons (wC .none) (wNil))))) (arNil)))) (arNil)))) (wFn 1 (ctE (c ._law_shape)) (arS 1 (arNil))))
  (sIf (wTru (wOp neD (wCall reprD (wCons (wFn 2 (ctE (c .shaped)) (arE (wVar 3) (arE (wVar 4) (arNil)))) (wNil))) (wCall reprD (wCons (wFn 2 (ctE (c ._law_shaped)) (arE (wVar 3) (arE (wVar 4) (arNil)))) (wNil))))) (sRet (wC (.bool false))) (sNil))))
  (sCons (sAsg (wTup (wCons (wC (.str "doc")) (wCons (wTup (wCons (wTup (wCons (wC (.str "b")) (wCons (wC (.int 1)) (wNil)))) (wCons (wTup (wCons (wC (.str "id")) (wCons (wC (.int 4)) (wNil)))) (wCons (wTup (wCons (wC (.str "l")) (wCons (wTup (wCons (wC (.str "list")) (wCons (wTup (wCons (wTup (wCons (wC (.str "doc")) (wCons (wTup (wCons (wTup (wCons (wC (.str "p")) (wCons (wC (.int 2)) (wNil)))) (wCons (wTup (wCons (wC (.str "q")) (wCons (wTup (wCons (wC (.str "doc")) (wCons (wTup (wCons (wTup (wCons (wC (.str "r")) (wCons (wC (.int 3)) (wNil)))) (wCons (wTup (wCons (wC (.str "s")) (wCons (wC (.int 4)) (wNil)))) (wNil)))) (wNil)))) (wNil)))) (wNil)))) (wNil)))) (wCons (wC (.int 5)) (wCons (wTup (wCons (wC (.str "list")) (wCons (wTup (wCons (wTup (wCons (wC (.str "doc")) (wCons (wTup (wCons (wTup (wCons (wC (.str "p")) (wCons (wC (.int 1)) (wNil)))) (wNil))) (wNil)))) (wNil))) (wNil)))) (wNil))))) (wNil)))) (wNil)))) (wNil))))) (wNil)))) (gN 5))
  (sCons (sAsg (wLst (wCons (wTup (wCons (wTup (wCons (wC (.str "all")) (wNil))) (wCons (wVar 5) (wNil)))) (wCons (wTup (wCons (wTup (wCons (wC (.str "keep")) (wCons (wTup (wCons (wTup (wCons (wC (.str "b")) (wNil))) (wNil))) (wNil)))) (wCons (wTup (wCons (wC (.str "doc")) (wCons (wTup (wCons (wTup (wCons (wC (.str "b")) (wCons (wC (.int 1)) (wNil)))) (wCons (wTup (wCons (wC (.str "id")) (wCons (wC (.int 4)) (wNil)))) (wNil)))) (wNil)))) (wNil)))) (wNil)))) (gN 6))
  (sCons (sAsg (wOp addD (wVar 6) (wLst (wCons (wTup (wCons (wTup (wCons (wC (.str "keep")) (wCons (wTup (wCons (wTup (wCons (wC (.str "none")) (wNil))) (wCons (wTup (wCons (wC (.str "b")) (wCons (wC (.str "x")) (wNil)))) (wNil)))) (wNil)))) (wCons (wTup (wCons (wC (.str "doc")) (wCons (wTup (wCons (wTup (wCons (wC (.str "id")) (wCons (wC (.int 4)) (wNil)))) (wNil))) (wNil)))) (wNil)))) (wNil)))) (gN 6))
  (sCons (sAsg (wOp addD (wVar 6) (wLst (wCons (wTup (wCons (wTup (wCons (wC (.str "keep")) (wCons (wTup (wCons (wTup (wCons (wC (.str "l")) (wCons (wC (.str "p")) (wNil)))) (wNil))) (wNil)))) (wCons (wTup (wCons (wC (.str "doc")) (wCons (wTup (wCons (wTup (wCons (wC (.str "id")) (wCons (wC (.int 4)) (wNil)))) (wCons (wTup (wCons (wC (.str "l")) (wCons (wTup (wCons (wC (.str "list")) (wCons (wTup (wCons (wTup (wCons (wC (.str "doc")) (wCons (wTup (wCons (wTup (wCons (wC (.str "p")) (wCons (wC (.int 2)) (wNil)))) (wNil))) (wNil)))) (wNil))) (wNil)))) (wNil)))) (wNil)))) (wNil)))) (wNil)))) (wNil)))) (gN 6))
  (sCons (sAsg (wOp addD (wVar 6) (wLst (wCons (wTup (wCons (wTup (wCons (wC (.str "keep")) (wCons (wTup (wCons (wTup (wCons (wC (.str "l")) (wCons (wC (.str "q")) (wCons (wC (.str "s")) (wNil))))) (wNil))) (wNil)))) (wCons (wTup (wCons (wC (.str "doc")) (wCons (wTup (wCons (wTup (wCons (wC (.str "id")) (wCons (wC (.int 4)) (wNil)))) (wCons (wTup (wCons (wC (.str "l")) (wCons (wTup (wCons (wC (.str "list")) (wCons (wTup (wCons (wTup (wCons (wC (.str "doc")) (wCons (wTup (wCons (wTup (wCons (wC (.str "q")) (wCons (wTup (wCons (wC (.str "doc")) (wCons (wTup (wCons (wTup (wCons (wC (.str "s")) (wCons (wC (.int 4)) (wNil)))) (wNil))) (wNil)))) (wNil)))) (wNil))) (wNil)))) (wNil))) (wNil)))) (wNil)))) (wNil)))) (wNil)))) (wNil)))) (wNil)))) (gN 6))
  (sCons (sAsg (wOp addD (wVar 6) (wLst (wCons (wTup (wCons (wTup (wCons (wC (.str "drop")) (wCons (wTup (wCons (wTup (wCons (wC (.str "b")) (wNil))) (wCons (wTup (wCons (wC (.str "l")) (wNil))) (wNil)))) (wNil)))) (wCons (wTup (wCons (wC (.str "doc")) (wCons (wTup (wCons (wTup (wCons (wC (.str "id")) (wCons (wC (.int 4)) (wNil)))) (wNil))) (wNil)))) (wNil)))) (wCons (wTup (wCons (wTup (wCons (wC (.str "drop")) (wCons (wTup (wCons (wTup (wCons (wC (.str "b")) (wCons (wC (.str "x")) (wNil)))) (wNil))) (wNil)))) (wCons (wVar 5) (wNil)))) (wNil))))) (gN 6))
  (sCons (sAsg (wOp addD (wVar 6) (wLst (wCons (wTup (wCons (wTup (wCons (wC (.str "drop")) (wCons (wTup (wCons (wTup (wCons (wC (.str "l")) (wCons (wC (.str "q")) (wNil)))) (wNil))) (wNil)))) (wCons (wTup (wCons (wC (.str "doc")) (wCons (wTup (wCons (wTup (wCons (wC (.str "b")) (wCons (wC (.int 1)) (wNil)))) (wCons (wTup (wCons (wC (.str "id")) (wCons (wC (.int 4)) (wNil)))) (wCons (wTup (wCons (wC (.str "l")) (wCons (wTup (wCons (wC (.str "list")) (wCons (wTup (wCons (wTup (wCons (wC (.str "doc")) (wCons (wTup (wCons (wTup (wCons (wC (.str "p")) (wCons (wC (.int 2)) (wNil)))) (wNil))) (wNil)))) (wCons (wC (.int 5)) (wCons (wTup (wCons (wC (.str "list")) (wCons (wTup (wCons (wTup (wCons (wC (.str "doc")) (wCons (wTup (wCons (wTup (wCons (wC (.str "p")) (wCons (wC (.int 1)) (wNil)))) (wNil))) (wNil)))) (wNil))) (wNil)))) (wNil))))) (wNil)))) (wNil)))) (wNil))))) (wNil)))) (wNil)))) (wNil)))) (gN 6))
  (sCons (sAsg (wOp addD (wVar 6) (wLst (wCons (wTup (wCons (wTup (wCons (wC (.str "drop")) (wCons (wTup (wCons (wTup (wCons (wC (.str "l")) (wCons (wC (.str "p")) (wNil)))) (wCons (wTup (wCons (wC (.str "l")) (wCons (wC (.str "q")) (wCons (wC (.str "r")) (wNil))))) (wCons (wTup (wCons (wC (.str "b")) (wNil))) (wNil))))) (wNil)))) (wCons (wTup (wCons (wC (.str "doc")) (wCons (wTup (wCons (wTup (wCons (wC (.str "id")) (wCons (wC (.int 4)) (wNil)))) (wCons (wTup (wCons (wC (.str "l")) (wCons (wTup (wCons (wC (.str "list")) (wCons (wTup (wCons (wTup (wCons (wC (.str "doc")) (wCons (wTup (wCons (wTup (wCons (wC (.str "q")) (wCons (wTup (wCons (wC (.str "doc")) (wCons (wTup (wCons (wTup (wCons (wC (.str "s")) (wCons (wC (.int 4)) (wNil)))) (wNil))) (wNil)))) (wNil)))) (wNil))) (wNil)))) (wCons (wC (.int 5)) (wCons (wTup (wCons (wC (.str "list")) (wCons (wTup (wCons (wTup (wCons (wC (.str "doc")) (wCons (wTup (wCons (wTup (wCons (wC (.str "p")) (wCons (wC (.int 1)) (wNil)))) (wNil))) (wNil)))) (wNil))) (wNil)))) (wNil))))) (wNil)))) (wNil)))) (wNil)))) (wNil)))) (wNil)))) (wNil)))) (gN 6))
  (sCons (sAsg (wTup (wCons (wC (.str "doc")) (wCons (wTup (wCons (wTup (wCons (wC (.str "id")) (wCons (wC (.int 1)) (wNil)))) (wCons (wTup (wCons (wC (.str "a")) (wCons (wTup (wCons (wC (.str "doc")) (wCons (wTup (wCons (wTup (wCons (wC (.str "id")) (wCons (wC (.int 5)) (wNil)))) (wCons (wTup (wCons (wC (.str "b")) (wCons (wC (.int 2)) (wNil)))) (wNil)))) (wNil)))) (wNil)))) (wCons (wTup (wCons (wC (.str "l")) (wCons (wTup (wCons (wC (.str "list")) (wCons (wTup (wCons (wTup (wCons (wC (.str "doc")) (wCons (wTup (wCons (wTup (wCons (wC (.str "id")) (wCons (wC (.int 7)) (wNil)))) (wCons (wTup (wCons (wC (.str "p")) (wCons (wC (.int 3)) (wNil)))) (wNil)))) (wNil)))) (wCons (wC (.int 4)) (wNil)))) (wNil)))) (wNil)))) (wNil))))) (wNil)))) (gN 7))
  (sCons (sAsg (wLst (wCons (wTup (wCons (wTup (wCons (wC (.str "keep")) (wCons (wTup (wCons (wTup (wCons (wC (.str "a")) (wCons (wC (.str "b")) (wNil)))) (wNil))) (wNil)))) (wCons (wTup (wCons (wC (.str "doc")) (wCons (wTup (wCons (wTup (wCons (wC (.str "id")) (wCons (wC (.int 1)) (wNil)))) (wCons (wTup (wCons (wC (.str "a")) (wCons (wTup (wCons (wC (.str "doc")) (wCons (wTup (wCons (wTup (wCons (wC (.str "b")) (wCons (wC (.int 2)) (wNil)))) (wNil))) (wNil)))) (wNil)))) (wNil)))) (wNil)))) (wNil)))) (wNil))) (gN 8))
  (sCons (sAsg (wOp addD (wVar 8) (wLst (wCons (wTup (wCons (wTup (wCons (wC (.str "keep")) (wCons (wTup (wCons (wTup (wCons (wC (.str "l")) (wCons (wC (.str "p")) (wNil)))) (wNil))) (wNil)))) (wCons (wTup (wCons (wC (.str "doc")) (wCons (wTup (wCons (wTup (wCons (wC (.str "id")) (wCons (wC (.int 1)) (wNil)))) (wCons (wTup (wCons (wC (.str "l")) (wCons (wTup (wCons (wC (.str "list")) (wCons (wTup (wCons (wTup (wCons (wC (.str "doc")) (wCons (wTup (wCons (wTup (wCons (wC (.str "p")) (wCons (wC (.int 3)) (wNil)))) (wNil))) (wNil)))) (wNil))) (wNil)))) (wNil)))) (wNil)))) (wNil)))) (wNil)))) (wNil)))) (gN 8))
  (sCons (sAsg (wOp addD (wVar 8) (wLst (wCons (wTup (wCons (wTup (wCons (wC (.str "keep")) (wCons (wTup (wCons (wTup (wCons (wC (.str "a")) (wCons (wC (.str "id")) (wNil)))) (wNil))) (wNil)))) (wCons (wTup (wCons (wC (.str "doc")) (wCons (wTup (wCons (wTup (wCons (wC (.str "id")) (wCons (wC (.int 1)) (wNil)))) (wCons (wTup (wCons (wC (.str "a")) (wCons (wTup (wCons (wC (.str "doc")) (wCons (wTup (wCons (wTup (wCons (wC (.str "id")) (wCons (wC (.int 5)) (wNil)))) (wNil))) (wNil)))) (wNil)))) (wNil)))) (wNil)))) (wNil)))) (wNil)))) (gN 8))
  (sCons (sAsg (wOp addD (wVar 8) (wLst (wCons (wTup (wCons (wTup (wCons (wC (.str "drop")) (wCons (wTup (wCons (wTup (wCons (wC (.str "a")) (wCons (wC (.str "id")) (wNil)))) (wCons (wTup (wCons (wC (.str "l")) (wCons (wC (.str "id")) (wNil)))) (wNil)))) (wNil)))) (wCons (wTup (wCons (wC (.str "doc")) (wCons (wTup (wCons (wTup (wCons (wC (.str "id")) (wCons (wC (.int 1)) (wNil)))) (wCons (wTup (wCons (wC (.str "a")) (wCons (wTup (wCons (wC (.str "doc")) (wCons (wTup (wCons (wTup (wCons (wC (.str "b")) (wCons (wC (.int 2)) (wNil)))) (wNil))) (wNil)))) (wNil)))) (wCons (wTup (wCons (wC (.str "l")) (wCons (wTup (wCons (wC (.str "list")) (wCons (wTup (wCons (wTup (wCons (wC (.str "doc")) (wCons (wTup (wCons (wTup (wCons (wC (.str "p")) (wCons (wC (.int 3)) (wNil)))) (wNil))) (wNil)))) (wCons (wC (.int 4)) (wNil)))) (wNil)))) (wNil)))) (wNil))))) (wNil)))) (wNil)))) (wNil)))) (gN 8))
  (sCons (sAsg (wOp addD (wVar 8) (wLst (wCons (wTup (wCons (wTup (wCons (wC (.str "drop")) (wCons (wTup (wCons (wTup (wCons (wC (.str "a")) (wCons (wC (.str "b")) (wNil)))) (wCons (wTup (wCons (wC (.str "l")) (wNil))) (wNil)))) (wNil)))) (wCons (wTup (wCons (wC (.str "doc")) (wCons (wTup (wCons (wTup (wCons (wC (.str "id")) (wCons (wC (.int 1)) (wNil)))) (wCons (wTup (wCons (wC (.str "a")) (wCons (wTup (wCons (wC (.str "doc")) (wCons (wTup (wCons (wTup (wCons (wC (.str "id")) (wCons (wC (.int 5)) (wNil)))) (wNil))) (wNil)))) (wNil)))) (wNil)))) (wNil)))) (wNil)))) (wNil)))) (gN 8))
  (sCons (sIf (wTru (wOp neD (wOf (wLC (iL (wVar 8)) (gTup' 2 (gCons' (gN 4) (gCons' (gN 9) (gNil')))) (wOr (wTru (wOp neD (wCall reprD (wCons (wFn 2 (ctE (c .shaped)) (arE (wVar 7) (arE (wVar 4) (arNil)))) (wNil))) (wCall reprD (wCons (wVar 9) (wNil))))) (wTru (wOp neD (wCall reprD (wCons (wFn 2 (ctE (c ._law_shaped)) (arE (wVar 7) (arE (wVar 4) (arNil)))) (wNil))) (wCall reprD (wCons (wVar 9) (wNil)))))) (wC (.int 1)) [4, 9])) (wLst (wNil)))) (sRet (wC (.bool false))) (sNil))
  (sCons (sPar 10 11 (wFn 2 (ctE (c ._law_roll)) (arS 1 (arE (wC (.int 9)) (arNil)))) (wOp subD (wUn negD (wC (.int 1))) (wFn 2 (ctE (c ._law_roll)) (arS 1 (arE (wC (.int 9)) (arNil))))))
  (sCons (sAsg (wTup (wCons (wC (.str "list")) (wCons (wTup (wCons (wTup (wCons (wC (.str "doc")) (wCons (wTup (wCons (wTup (wCons (wC (.str "c")) (wCons (wVar 10) (wNil)))) (wCons (wTup (wCons (wC (.str "d1")) (wCons (wVar 11) (wNil)))) (wNil)))) (wNil)))) (wCons (wC (.int 7)) (wCons (wTup (wCons (wC (.str "doc")) (wCons (wTup (wCons (wTup (wCons (wC (.str "d1")) (wCons (wC (.int 3)) (wNil)))) (wNil))) (wNil)))) (wCons (wTup (wCons (wC (.str "list")) (wCons (wTup (wCons (wTup (wCons (wC (.str "doc")) (wCons (wTup (wCons (wTup (wCons (wC (.str "c")) (wCons (wC (.int 8)) (wNil)))) (wNil))) (wNil)))) (wNil))) (wNil)))) (wNil)))))) (wNil)))) (gN 12))
  (sCons (sAsg (wTup (wCons (wC (.str "doc")) (wCons (wTup (wCons (wTup (wCons (wC (.str "a")) (wCons (wTup (wCons (wC (.str "doc")) (wCons (wTup (wCons (wTup (wCons (wC (.str "b")) (wCons (wVar 12) (wNil)))) (wCons (wTup (wCons (wC (.str "ba")) (wCons (wC (.int 4)) (wNil)))) (wNil)))) (wNil)))) (wNil)))) (wCons (wTup (wCons (wC (.str "id")) (wCons (wC (.int 9)) (wNil)))) (wCons (wTup (wCons (wC (.str "ab")) (wCons (wTup (wCons (wC (.str "doc")) (wCons (wTup (wCons (wTup (wCons (wC (.str "b")) (wCons (wVar 11) (wNil)))) (wCons (wTup (wCons (wC (.str "c")) (wCons (wVar 10) (wNil)))) (wNil)))) (wNil)))) (wNil)))) (wNil))))) (wNil)))) (gN 13))
  (sCons (sPar 14 15 (wTup (wCons (wC (.str "list")) (wCons (wTup (wCons (wTup (wCons (wC (.str "doc")) (wCons (wTup (wCons (wTup (wCons (wC (.str "c")) (wCons (wVar 10) (wNil)))) (wNil))) (wNil)))) (wCons (wTup (wCons (wC (.str "doc")) (wCons (wTup (wNil)) (wNil)))) (wNil)))) (wNil)))) (wTup (wCons (wC (.str "list")) (wCons (wTup (wCons (wTup (wCons (wC (.str "doc")) (wCons (wTup (wCons (wTup (wCons (wC (.str "c")) (wCons (wVar 10) (wNil)))) (wNil))) (wNil)))) (wCons (wC (.int 7)) (wCons (wTup (wCons (wC (.str "doc")) (wCons (wTup (wNil)) (wNil)))) (wCons (wOp idxD (wOp idxD (wVar 12) (wC (.int 1))) (wC (.int 3))) (wNil)))))) (wNil)))))
  (sCons (sAsg (wLst (wCons (wTup (wCons (wTup (wCons (wC (.str "keep")) (wCons (wTup (wCons (wTup (wCons (wC (.str "a")) (wCons (wC (.str "b")) (wCons (wC (.str "c")) (wNil))))) (wNil))) (wNil)))) (wCons (wTup (wCons (wC (.str "doc")) (wCons (wTup (wCons (wTup (wCons (wC (.str "a")) (wCons (wTup (wCons (wC (.str "doc")) (wCons (wTup (wCons (wTup (wCons (wC (.str "b")) (wCons (wVar 14) (wNil)))) (wNil))) (wNil)))) (wNil)))) (wCons (wTup (wCons (wC (.str "id")) (wCons (wC (.int 9)) (wNil)))) (wNil)))) (wNil)))) (wNil)))) (wNil))) (gN 16))
  (sCons (sAsg (wOp addD (wVar 16) (wLst (wCons (wTup (wCons (wTup (wCons (wC (.str "drop")) (wCons (wTup (wCons (wTup (wCons (wC (.str "a")) (wCons (wC (.str "b")) (wCons (wC (.str "d1")) (wNil))))) (wCons (wTup (wCons (wC (.str "ab")) (wNil))) (wNil)))) (wNil)))) (wCons (wTup (wCons (wC (.str "doc")) (wCons (wTup (wCons (wTup (wCons (wC (.str "a")) (wCons (wTup (wCons (wC (.str "doc")) (wCons (wTup (wCons (wTup (wCons (wC (.str "b")) (wCons (wVar 15) (wNil)))) (wCons (wTup (wCons (wC (.str "ba")) (wCons (wC (.int 4)) (wNil)))) (wNil)))) (wNil)))) (wNil)))) (wCons (wTup (wCons (wC (.str "id")) (wCons (wC (.int 9)) (wNil)))) (wNil)))) (wNil)))) (wNil)))) (wNil)))) (gN 16))
  (sCons (sAsg (wOp addD (wVar 16) (wLst (wCons (wTup (wCons (wTup (wCons (wC (.str "keep")) (wCons (wTup (wCons (wTup (wCons (wC (.str "ab")) (wCons (wC (.str "b")) (wNil)))) (wCons (wTup (wCons (wC (.str "a")) (wCons (wC (.str "ba")) (wNil)))) (wNil)))) (wNil)))) (wCons (wTup (wCons (wC (.str "doc")) (wCons (wTup (wCons (wTup (wCons (wC (.str "a")) (wCons (wTup (wCons (wC (.str "doc")) (wCons (wTup (wCons (wTup (wCons (wC (.str "ba")) (wCons (wC (.int 4)) (wNil)))) (wNil))) (wNil)))) (wNil)))) (wCons (wTup (wCons (wC (.str "id")) (wCons (wC (.int 9)) (wNil)))) (wCons (wTup (wCons (wC (.str "ab")) (wCons (wTup (wCons (wC (.str "doc")) (wCons (wTup (wCons (wTup (wCons (wC (.str "b")) (wCons (wVar 11) (wNil)))) (wNil))) (wNil)))) (wNil)))) (wNil))))) (wNil)))) (wNil)))) (wNil)))) (gN 16))
  (sCons (sAsg (wOp addD (wVar 16) (wLst (wCons (wTup (wCons (wTup (wCons (wC (.str "drop")) (wCons (wTup (wCons (wTup (wCons (wC (.str "a")) (wNil))) (wCons (wTup (wCons (wC (.str "ab")) (wCons (wC (.str "c")) (wNil)))) (wNil)))) (wNil)))) (wCons (wTup (wCons (wC (.str "doc")) (wCons (wTup (wCons (wTup (wCons (wC (.str "id")) (wCons (wC (.int 9)) (wNil)))) (wCons (wTup (wCons (wC (.str "ab")) (wCons (wTup (wCons (wC (.str "doc")) (wCons (wTup (wCons (wTup (wCons (wC (.str "b")) (wCons (wVar 11) (wNil)))) (wNil))) (wNil)))) (wNil)))) (wNil)))) (wNil)))) (wNil)))) (wCons (wTup (wCons (wTup (wCons (wC (.str "keep")) (wCons (wTup (wCons (wTup (wCons (wC (.str "ab")) (wCons (wC (.str "ba")) (wNil)))) (wCons (wTup (wCons (wC (.str "b")) (wNil))) (wNil)))) (wNil)))) (wCons (wTup (wCons (wC (.str "doc")) (wCons (wTup (wCons (wTup (wCons (wC (.str "id")) (wCons (wC (.int 9)) (wNil)))) (wCons (wTup (wCons (wC (.str "ab")) (wCons (wTup (wCons (wC (.str "doc")) (wCons (wTup (wNil)) (wNil)))) (wNil)))) (wNil)))) (wNil)))) (wNil)))) (wNil))))) (gN 16))
  (sCons (sIf (wTru (wOp neD (wOf (wLC (iL (wVar 16)) (gTup' 2 (gCons' (gN 4) (gCons' (gN 9) (gNil')))) (wOr (wTru (wOp neD (wCall reprD (wCons (wFn 2 (ctE (c .shaped)) (arE (wVar 13) (arE (wVar 4) (arNil)))) (wNil))) (wCall reprD (wCons (wVar 9) (wNil))))) (wTru (wOp neD (wCall reprD (wCons (wFn 2 (ctE (c ._law_shaped)) (arE (wVar 13) (arE (wVar 4) (arNil)))) (wNil))) (wCall reprD (wCons (wVar 9) (wNil)))))) (wC (.int 1)) [4, 9])) (wLst (wNil)))) (sRet (wC (.bool false))) (sNil))
  (sCons (sAsg (wTup (wCons (wC (.str "doc")) (wCons (wTup (wCons (wTup (wCons (wC (.str "a")) (wCons (wTup (wCons (wC (.str "doc")) (wCons (wTup (wCons (wTup (wCons (wC (.str "b")) (wCons (wC (.int 2)) (wNil)))) (wNil))) (wNil)))) (wNil)))) (wNil))) (wNil)))) (gN 17))
  (sCons (sAsg (wLst (wCons (wTup (wCons (wTup (wCons (wC (.str "keep")) (wCons (wTup (wCons (wTup (wCons (wC (.str "a")) (wCons (wC (.str "c")) (wNil)))) (wNil))) (wNil)))) (wCons (wTup (wCons (wC (.str "doc")) (wCons (wTup (wCons (wTup (wCons (wC (.str "a")) (wCons (wTup (wCons (wC (.str "doc")) (wCons (wTup (wNil)) (wNil)))) (wNil)))) (wNil))) (wNil)))) (wNil)))) (wCons (wTup (wCons (wTup (wCons (wC (.str "drop")) (wCons (wTup (wCons (wTup (wCons (wC (.str "a")) (wCons (wC (.str "b")) (wNil)))) (wNil))) (wNil)))) (wCons (wTup (wCons (wC (.str "doc")) (wCons (wTup (wCons (wTup (wCons (wC (.str "a")) (wCons (wTup (wCons (wC (.str "doc")) (wCons (wTup (wNil)) (wNil)))) (wNil)))) (wNil))) (wNil)))) (wNil)))) (wNil)))) (gN 18))
  (sCons (sAsg (wOp addD (wVar 18) (wLst (wCons (wTup (wCons (wTup (wCons (wC (.str "keep")) (wCons (wTup (wCons (wTup (wCons (wC (.str "z")) (wNil))) (wNil))) (wNil)))) (wCons (wTup (wCons (wC (.str "doc")) (wCons (wTup (wNil)) (wNil)))) (wNil)))) (wNil)))) (gN 18))
  (sCons (sIf (wTru (wOp neD (wOf (wLC (iL (wVar 18)) (gTup' 2 (gCons' (gN 4) (gCons' (gN 9) (gNil')))) (wTru (wOp neD (wCall reprD (wCons (wFn 2 (ctE (c .shaped)) (arE (wVar 17) (arE (wVar 4) (arNil)))) (wNil))) (wCall reprD (wCons (wVar 9) (wNil))))) (wC (.int 1)) [4, 9])) (wLst (wNil)))) (sRet (wC (.bool false))) (sNil))
  (sRet (wOp eqD (wOf (wLC (iL (wVar 6)) (gTup' 2 (gCons' (gN 4) (gCons' (gN 9) (gNil')))) (wOr (wTru (wOp neD (wCall reprD (wCons (wFn 2 (ctE (c .shaped)) (arE (wVar 5) (arE (wVar 4) (arNil)))) (wNil))) (wCall reprD (wCons (wVar 9) (wNil))))) (wTru (wOp neD (wCall reprD (wCons (wFn 2 (ctE (c ._law_shaped)) (arE (wVar 5) (arE (wVar 4) (arNil)))) (wNil))) (wCall reprD (wCons (wVar 9) (wNil)))))) (wC (.int 1)) [4, 9])) (wLst (wNil))))))))))))))))))))))))))))))))))) :=
  pps_cons (pps_setF (i := 1) sc_law.nd rfl (by first | exact .inl rfl | exact .inr rfl) (ppf_fn h__law_cup rfl hr hg0 (by rfl) m.m__law_cup m.F__law_cup.kp m.B__law_cup (takes_of rfl rfl rfl rfl) (ppr_e (ppe_var (i := 0)) (ppr_nil))))
    (pps_cons (pps_for (passes_of rfl) rfl (ppi_range1 (by rfl) m.b_range (ppe_int)) (ppg_name (i := 2) (fun _ _ => trivial) sc_law.nd rfl (by first | exact .inl rfl | exact .inr rfl)) (pps_cons (pps_par (i := 3) (j := 4) rfl sc_law.nd rfl rfl (by decide) rfl rfl (ppe_fn h__law_document rfl hr hg0 (by rfl) m.m__law_document m.F__law_document.kp m.B__law_document (takes_of rfl rfl rfl rfl) (ppr_s (pe_pk (i := 1)) (ppr_e (ppe_fn h__law_some rfl hr hg0 (by rfl) m.m__law_some m.F__law_some.kp m.B__law_some (takes_of rfl rfl rfl rfl) (ppr_s (pe_pk (i := 1)) (ppr_e (ppe_lst (ppa_cons (ppe_int) (ppa_cons (ppe_str) (ppa_cons (ppe_non) (ppa_nil))))) (ppr_nil)))) (ppr_nil)))) (ppe_fn h__law_shape rfl hr hg0 (by rfl) m.m__law_shape m.F__law_shape.kp m.B__law_shape (takes_of rfl rfl rfl rfl) (ppr_s (pe_pk (i := 1)) (ppr_nil))) (by rfl))
    (pps_one (pps_if (ppt_cmp (o_ne (u64 hr)) rfl (ppe_callB (c_repr hg0 (u102 hr)) rfl (by rfl) m.b_repr boot_repr (ppa_cons (ppe_fn h_shaped rfl hr hg0 (by rfl) m.m_shaped m.F_shaped.kp m.B_shaped (takes_of rfl rfl rfl rfl) (ppr_e (ppe_var (i := 3)) (ppr_e (ppe_var (i := 4)) (ppr_nil)))) (ppa_nil))) (ppe_callB (c_repr hg0 (u102 hr)) rfl (by rfl) m.b_repr boot_repr (ppa_cons (ppe_fn h__law_shaped rfl hr hg0 (by rfl) m.m__law_shaped m.F__law_shaped.kp m.B__law_shaped (takes_of rfl rfl rfl rfl) (ppr_e (ppe_var (i := 3)) (ppr_e (ppe_var (i := 4)) (ppr_nil)))) (ppa_nil))) rfl) (pps_one (pps_ret (ppe_bl))) (pps_nil)))))
    (pps_cons (pps_set (i := 5) sc_law.nd rfl (by first | exact .inl rfl | exact .inr rfl) (ppe_tup (ppa_cons (ppe_str) (ppa_cons (ppe_tup (ppa_cons (ppe_tup (ppa_cons (ppe_str) (ppa_cons (ppe_int) (ppa_nil)))) (ppa_cons (ppe_tup (ppa_cons (ppe_str) (ppa_cons (ppe_int) (ppa_nil)))) (ppa_cons (ppe_tup (ppa_cons (ppe_str) (ppa_cons (ppe_tup (ppa_cons (ppe_str) (ppa_cons (ppe_tup (ppa_cons (ppe_tup (ppa_cons (ppe_str) (ppa_cons (ppe_tup (ppa_cons (ppe_tup (ppa_cons (ppe_str) (ppa_cons (ppe_int) (ppa_nil)))) (ppa_cons (ppe_tup (ppa_cons (ppe_str) (ppa_cons (ppe_tup (ppa_cons (ppe_str) (ppa_cons (ppe_tup (ppa_cons (ppe_tup (ppa_cons (ppe_str) (ppa_cons (ppe_int) (ppa_nil)))) (ppa_cons (ppe_tup (ppa_cons (ppe_str) (ppa_cons (ppe_int) (ppa_nil)))) (ppa_nil)))) (ppa_nil)))) (ppa_nil)))) (ppa_nil)))) (ppa_nil)))) (ppa_cons (ppe_int) (ppa_cons (ppe_tup (ppa_cons (ppe_str) (ppa_cons (ppe_tup (ppa_cons (ppe_tup (ppa_cons (ppe_str) (ppa_cons (ppe_tup (ppa_cons (ppe_tup (ppa_cons (ppe_str) (ppa_cons (ppe_int) (ppa_nil)))) (ppa_nil))) (ppa_nil)))) (ppa_nil))) (ppa_nil)))) (ppa_nil))))) (ppa_nil)))) (ppa_nil)))) (ppa_nil))))) (ppa_nil)))))
    (pps_cons (pps_set (i := 6) sc_law.nd rfl (by first | exact .inl rfl | exact .inr rfl) (ppe_lst (ppa_cons (ppe_tup (ppa_cons (ppe_tup (ppa_cons (ppe_str) (ppa_nil))) (ppa_cons (ppe_var (i := 5)) (ppa_nil)))) (ppa_cons (ppe_tup (ppa_cons (ppe_tup (ppa_cons (ppe_str) (ppa_cons (ppe_tup (ppa_cons (ppe_tup (ppa_cons (ppe_str) (ppa_nil))) (ppa_nil))) (ppa_nil)))) (ppa_cons (ppe_tup (ppa_cons (ppe_str) (ppa_cons (ppe_tup (ppa_cons (ppe_tup (ppa_cons (ppe_str) (ppa_cons (ppe_int) (ppa_nil)))) (ppa_cons (ppe_tup (ppa_cons (ppe_str) (ppa_cons (ppe_int) (ppa_nil)))) (ppa_nil)))) (ppa_nil)))) (ppa_nil)))) (ppa_nil)))))
    (pps_cons (pps_set (i := 6) sc_law.nd rfl (by first | exact .inl rfl | exact .inr rfl) (ppe_op o_add rfl (ppe_var (i := 6)) (ppe_lst (ppa_cons (ppe_tup (ppa_cons (ppe_tup (ppa_cons (ppe_str) (ppa_cons (ppe_tup (ppa_cons (ppe_tup (ppa_cons (ppe_str) (ppa_nil))) (ppa_cons (ppe_tup (ppa_cons (ppe_str) (ppa_cons (ppe_str) (ppa_nil)))) (ppa_nil)))) (ppa_nil)))) (ppa_cons (ppe_tup (ppa_cons (ppe_str) (ppa_cons (ppe_tup (ppa_cons (ppe_tup (ppa_cons (ppe_str) (ppa_cons (ppe_int) (ppa_nil)))) (ppa_nil))) (ppa_nil)))) (ppa_nil)))) (ppa_nil)))))
    (pps_cons (pps_set (i := 6) sc_law.nd rfl (by first | exact .inl rfl | exact .inr rfl) (ppe_op o_add rfl (ppe_var (i := 6)) (ppe_lst (ppa_cons (ppe_tup (ppa_cons (ppe_tup (ppa_cons (ppe_str) (ppa_cons (ppe_tup (ppa_cons (ppe_tup (ppa_cons (ppe_str) (ppa_cons (ppe_str) (ppa_nil)))) (ppa_nil))) (ppa_nil)))) (ppa_cons (ppe_tup (ppa_cons (ppe_str) (ppa_cons (ppe_tup (ppa_cons (ppe_tup (ppa_cons (ppe_str) (ppa_cons (ppe_int) (ppa_nil)))) (ppa_cons (ppe_tup (ppa_cons (ppe_str) (ppa_cons (ppe_tup (ppa_cons (ppe_str) (ppa_cons (ppe_tup (ppa_cons (ppe_tup (ppa_cons (ppe_str) (ppa_cons (ppe_tup (ppa_cons (ppe_tup (ppa_cons (ppe_str) (ppa_cons (ppe_int) (ppa_nil)))) (ppa_nil))) (ppa_nil)))) (ppa_nil))) (ppa_nil)))) (ppa_nil)))) (ppa_nil)))) (ppa_nil)))) (ppa_nil)))) (ppa_nil)))))
    (pps_cons (pps_set (i := 6) sc_law.nd rfl (by first | exact .inl rfl | exact .inr rfl) (ppe_op o_add rfl (ppe_var (i := 6)) (ppe_lst (ppa_cons (ppe_tup (ppa_cons (ppe_tup (ppa_cons (ppe_str) (ppa_cons (ppe_tup (ppa_cons (ppe_tup (ppa_cons (ppe_str) (ppa_cons (ppe_str) (ppa_cons (ppe_str) (ppa_nil))))) (ppa_nil))) (ppa_nil)))) (ppa_cons (ppe_tup (ppa_cons (ppe_str) (ppa_cons (ppe_tup (ppa_cons (ppe_tup (ppa_cons (ppe_str) (ppa_cons (ppe_int) (ppa_nil)))) (ppa_cons (ppe_tup (ppa_cons (ppe_str) (ppa_cons (ppe_tup (ppa_cons (ppe_str) (ppa_cons (ppe_tup (ppa_cons (ppe_tup (ppa_cons (ppe_str) (ppa_cons (ppe_tup (ppa_cons (ppe_tup (ppa_cons (ppe_str) (ppa_cons (ppe_tup (ppa_cons (ppe_str) (ppa_cons (ppe_tup (ppa_cons (ppe_tup (ppa_cons (ppe_str) (ppa_cons (ppe_int) (ppa_nil)))) (ppa_nil))) (ppa_nil)))) (ppa_nil)))) (ppa_nil))) (ppa_nil)))) (ppa_nil))) (ppa_nil)))) (ppa_nil)))) (ppa_nil)))) (ppa_nil)))) (ppa_nil)))) (ppa_nil)))))
    (pps_cons (pps_set (i := 6) sc_law.nd rfl (by first | exact .inl rfl | exact .inr rfl) (ppe_op o_add rfl (ppe_var (i := 6)) (ppe_lst (ppa_cons (ppe_tup (ppa_cons (ppe_tup (ppa_cons (ppe_str) (ppa_cons (ppe_tup (ppa_cons (ppe_tup (ppa_cons (ppe_str) (ppa_nil))) (ppa_cons (ppe_tup (ppa_cons (ppe_str) (ppa_nil))) (ppa_nil)))) (ppa_nil)))) (ppa_cons (ppe_tup (ppa_cons (ppe_str) (ppa_cons (ppe_tup (ppa_cons (ppe_tup (ppa_cons (ppe_str) (ppa_cons (ppe_int) (ppa_nil)))) (ppa_nil))) (ppa_nil)))) (ppa_nil)))) (ppa_cons (ppe_tup (ppa_cons (ppe_tup (ppa_cons (ppe_str) (ppa_cons (ppe_tup (ppa_cons (ppe_tup (ppa_cons (ppe_str) (ppa_cons (ppe_str) (ppa_nil)))) (ppa_nil))) (ppa_nil)))) (ppa_cons (ppe_var (i := 5)) (ppa_nil)))) (ppa_nil))))))
    (pps_cons (pps_set (i := 6) sc_law.nd rfl (by first | exact .inl rfl | exact .inr rfl) (ppe_op o_add rfl (ppe_var (i := 6)) (ppe_lst (ppa_cons (ppe_tup (ppa_cons (ppe_tup (ppa_cons (ppe_str) (ppa_cons (ppe_tup (ppa_cons (ppe_tup (ppa_cons (ppe_str) (ppa_cons (ppe_str) (ppa_nil)))) (ppa_nil))) (ppa_nil)))) (ppa_cons (ppe_tup (ppa_cons (ppe_str) (ppa_cons (ppe_tup (ppa_cons (ppe_tup (ppa_cons (ppe_str) (ppa_cons (ppe_int) (ppa_nil)))) (ppa_cons (ppe_tup (ppa_cons (ppe_str) (ppa_cons (ppe_int) (ppa_nil)))) (ppa_cons (ppe_tup (ppa_cons (ppe_str) (ppa_cons (ppe_tup (ppa_cons (ppe_str) (ppa_cons (ppe_tup (ppa_cons (ppe_tup (ppa_cons (ppe_str) (ppa_cons (ppe_tup (ppa_cons (ppe_tup (ppa_cons (ppe_str) (ppa_cons (ppe_int) (ppa_nil)))) (ppa_nil))) (ppa_nil)))) (ppa_cons (ppe_int) (ppa_cons (ppe_tup (ppa_cons (ppe_str) (ppa_cons (ppe_tup (ppa_cons (ppe_tup (ppa_cons (ppe_str) (ppa_cons (ppe_tup (ppa_cons (ppe_tup (ppa_cons (ppe_str) (ppa_cons (ppe_int) (ppa_nil)))) (ppa_nil))) (ppa_nil)))) (ppa_nil))) (ppa_nil)))) (ppa_nil))))) (ppa_nil)))) (ppa_nil)))) (ppa_nil))))) (ppa_nil)))) (ppa_nil)))) (ppa_nil)))))
    (pps_cons (pps_set (i := 6) sc_law.nd rfl (by first | exact .inl rfl | exact .inr rfl) (ppe_op o_add rfl (ppe_var (i := 6)) (ppe_lst (ppa_cons (ppe_tup (ppa_cons (ppe_tup (ppa_cons (ppe_str) (ppa_cons (ppe_tup (ppa_cons (ppe_tup (ppa_cons (ppe_str) (ppa_cons (ppe_str) (ppa_nil)))) (ppa_cons (ppe_tup (ppa_cons (ppe_str) (ppa_cons (ppe_str) (ppa_cons (ppe_str) (ppa_nil))))) (ppa_cons (ppe_tup (ppa_cons (ppe_str) (ppa_nil))) (ppa_nil))))) (ppa_nil)))) (ppa_cons (ppe_tup (ppa_cons (ppe_str) (ppa_cons (ppe_tup (ppa_cons (ppe_tup (ppa_cons (ppe_str) (ppa_cons (ppe_int) (ppa_nil)))) (ppa_cons (ppe_tup (ppa_cons (ppe_str) (ppa_cons (ppe_tup (ppa_cons (ppe_str) (ppa_cons (ppe_tup (ppa_cons (ppe_tup (ppa_cons (ppe_str) (ppa_cons (ppe_tup (ppa_cons (ppe_tup (ppa_cons (ppe_str) (ppa_cons (ppe_tup (ppa_cons (ppe_str) (ppa_cons (ppe_tup (ppa_cons (ppe_tup (ppa_cons (ppe_str) (ppa_cons (ppe_int) (ppa_nil)))) (ppa_nil))) (ppa_nil)))) (ppa_nil)))) (ppa_nil))) (ppa_nil)))) (ppa_cons (ppe_int) (ppa_cons (ppe_tup (ppa_cons (ppe_str) (ppa_cons (ppe_tup (ppa_cons (ppe_tup (ppa_cons (ppe_str) (ppa_cons (ppe_tup (ppa_cons (ppe_tup (ppa_cons (ppe_str) (ppa_cons (ppe_int) (ppa_nil)))) (ppa_nil))) (ppa_nil)))) (ppa_nil))) (ppa_nil)))) (ppa_nil))))) (ppa_nil)))) (ppa_nil)))) (ppa_nil)))) (ppa_nil)))) (ppa_nil)))) (ppa_nil)))))
    (pps_cons (pps_set (i := 7) sc_law.nd rfl (by first | exact .inl rfl | exact .inr rfl) (ppe_tup (ppa_cons (ppe_str) (ppa_cons (ppe_tup (ppa_cons (ppe_tup (ppa_cons (ppe_str) (ppa_cons (ppe_int) (ppa_nil)))) (ppa_cons (ppe_tup (ppa_cons (ppe_str) (ppa_cons (ppe_tup (ppa_cons (ppe_str) (ppa_cons (ppe_tup (ppa_cons (ppe_tup (ppa_cons (ppe_str) (ppa_cons (ppe_int) (ppa_nil)))) (ppa_cons (ppe_tup (ppa_cons (ppe_str) (ppa_cons (ppe_int) (ppa_nil)))) (ppa_nil)))) (ppa_nil)))) (ppa_nil)))) (ppa_cons (ppe_tup (ppa_cons (ppe_str) (ppa_cons (ppe_tup (ppa_cons (ppe_str) (ppa_cons (ppe_tup (ppa_cons (ppe_tup (ppa_cons (ppe_str) (ppa_cons (ppe_tup (ppa_cons (ppe_tup (ppa_cons (ppe_str) (ppa_cons (ppe_int) (ppa_nil)))) (ppa_cons (ppe_tup (ppa_cons (ppe_str) (ppa_cons (ppe_int) (ppa_nil)))) (ppa_nil)))) (ppa_nil)))) (ppa_cons (ppe_int) (ppa_nil)))) (ppa_nil)))) (ppa_nil)))) (ppa_nil))))) (ppa_nil)))))
    (pps_cons (pps_set (i := 8) sc_law.nd rfl (by first | exact .inl rfl | exact .inr rfl) (ppe_lst (ppa_cons (ppe_tup (ppa_cons (ppe_tup (ppa_cons (ppe_str) (ppa_cons (ppe_tup (ppa_cons (ppe_tup (ppa_cons (ppe_str) (ppa_cons (ppe_str) (ppa_nil)))) (ppa_nil))) (ppa_nil)))) (ppa_cons (ppe_tup (ppa_cons (ppe_str) (ppa_cons (ppe_tup (ppa_cons (ppe_tup (ppa_cons (ppe_str) (ppa_cons (ppe_int) (ppa_nil)))) (ppa_cons (ppe_tup (ppa_cons (ppe_str) (ppa_cons (ppe_tup (ppa_cons (ppe_str) (ppa_cons (ppe_tup (ppa_cons (ppe_tup (ppa_cons (ppe_str) (ppa_cons (ppe_int) (ppa_nil)))) (ppa_nil))) (ppa_nil)))) (ppa_nil)))) (ppa_nil)))) (ppa_nil)))) (ppa_nil)))) (ppa_nil))))
    (pps_cons (pps_set (i := 8) sc_law.nd rfl (by first | exact .inl rfl | exact .inr rfl) (ppe_op o_add rfl (ppe_var (i := 8)) (ppe_lst (ppa_cons (ppe_tup (ppa_cons (ppe_tup (ppa_cons (ppe_str) (ppa_cons (ppe_tup (ppa_cons (ppe_tup (ppa_cons (ppe_str) (ppa_cons (ppe_str) (ppa_nil)))) (ppa_nil))) (ppa_nil)))) (ppa_cons (ppe_tup (ppa_cons (ppe_str) (ppa_cons (ppe_tup (ppa_cons (ppe_tup (ppa_cons (ppe_str) (ppa_cons (ppe_int) (ppa_nil)))) (ppa_cons (ppe_tup (ppa_cons (ppe_str) (ppa_cons (ppe_tup (ppa_cons (ppe_str) (ppa_cons (ppe_tup (ppa_cons (ppe_tup (ppa_cons (ppe_str) (ppa_cons (ppe_tup (ppa_cons (ppe_tup (ppa_cons (ppe_str) (ppa_cons (ppe_int) (ppa_nil)))) (ppa_nil))) (ppa_nil)))) (ppa_nil))) (ppa_nil)))) (ppa_nil)))) (ppa_nil)))) (ppa_nil)))) (ppa_nil)))) (ppa_nil)))))
    (pps_cons (pps_set (i := 8) sc_law.nd rfl (by first | exact .inl rfl | exact .inr rfl) (ppe_op o_add rfl (ppe_var (i := 8)) (ppe_lst (ppa_cons (ppe_tup (ppa_cons (ppe_tup (ppa_cons (ppe_str) (ppa_cons (ppe_tup (ppa_cons (ppe_tup (ppa_cons (ppe_str) (ppa_cons (ppe_str) (ppa_nil)))) (ppa_nil))) (ppa_nil)))) (ppa_cons (ppe_tup (ppa_cons (ppe_str) (ppa_cons (ppe_tup (ppa_cons (ppe_tup (ppa_cons (ppe_str) (ppa_cons (ppe_int) (ppa_nil)))) (ppa_cons (ppe_tup (ppa_cons (ppe_str) (ppa_cons (ppe_tup (ppa_cons (ppe_str) (ppa_cons (ppe_tup (ppa_cons (ppe_tup (ppa_cons (ppe_str) (ppa_cons (ppe_int) (ppa_nil)))) (ppa_nil))) (ppa_nil)))) (ppa_nil)))) (ppa_nil)))) (ppa_nil)))) (ppa_nil)))) (ppa_nil)))))
    (pps_cons (pps_set (i := 8) sc_law.nd rfl (by first | exact .inl rfl | exact .inr rfl) (ppe_op o_add rfl (ppe_var (i := 8)) (ppe_lst (ppa_cons (ppe_tup (ppa_cons (ppe_tup (ppa_cons (ppe_str) (ppa_cons (ppe_tup (ppa_cons (ppe_tup (ppa_cons (ppe_str) (ppa_cons (ppe_str) (ppa_nil)))) (ppa_cons (ppe_tup (ppa_cons (ppe_str) (ppa_cons (ppe_str) (ppa_nil)))) (ppa_nil)))) (ppa_nil)))) (ppa_cons (ppe_tup (ppa_cons (ppe_str) (ppa_cons (ppe_tup (ppa_cons (ppe_tup (ppa_cons (ppe_str) (ppa_cons (ppe_int) (ppa_nil)))) (ppa_cons (ppe_tup (ppa_cons (ppe_str) (ppa_cons (ppe_tup (ppa_cons (ppe_str) (ppa_cons (ppe_tup (ppa_cons (ppe_tup (ppa_cons (ppe_str) (ppa_cons (ppe_int) (ppa_nil)))) (ppa_nil))) (ppa_nil)))) (ppa_nil)))) (ppa_cons (ppe_tup (ppa_cons (ppe_str) (ppa_cons (ppe_tup (ppa_cons (ppe_str) (ppa_cons (ppe_tup (ppa_cons (ppe_tup (ppa_cons (ppe_str) (ppa_cons (ppe_tup (ppa_cons (ppe_tup (ppa_cons (ppe_str) (ppa_cons (ppe_int) (ppa_nil)))) (ppa_nil))) (ppa_nil)))) (ppa_cons (ppe_int) (ppa_nil)))) (ppa_nil)))) (ppa_nil)))) (ppa_nil))))) (ppa_nil)))) (ppa_nil)))) (ppa_nil)))))
    (pps_cons (pps_set (i := 8) sc_law.nd rfl (by first | exact .inl rfl | exact .inr rfl) (ppe_op o_add rfl (ppe_var (i := 8)) (ppe_lst (ppa_cons (ppe_tup (ppa_cons (ppe_tup (ppa_cons (ppe_str) (ppa_cons (ppe_tup (ppa_cons (ppe_tup (ppa_cons (ppe_str) (ppa_cons (ppe_str) (ppa_nil)))) (ppa_cons (ppe_tup (ppa_cons (ppe_str) (ppa_nil))) (ppa_nil)))) (ppa_nil)))) (ppa_cons (ppe_tup (ppa_cons (ppe_str) (ppa_cons (ppe_tup (ppa_cons (ppe_tup (ppa_cons (ppe_str) (ppa_cons (ppe_int) (ppa_nil)))) (ppa_cons (ppe_tup (ppa_cons (ppe_str) (ppa_cons (ppe_tup (ppa_cons (ppe_str) (ppa_cons (ppe_tup (ppa_cons (ppe_tup (ppa_cons (ppe_str) (ppa_cons (ppe_int) (ppa_nil)))) (ppa_nil))) (ppa_nil)))) (ppa_nil)))) (ppa_nil)))) (ppa_nil)))) (ppa_nil)))) (ppa_nil)))))
    (pps_cons (pps_if (ppt_cmp (o_ne (u64 hr)) rfl (ppe_ofF (lcf rfl sc_law.nd (ppi_list rfl (ppe_var (i := 8))) (blkOk_by (N := ["script", "cup", "turn", "document", "shape", "deal", "rows", "inner", "more", "due", "c", "d", "middle", "wide", "kept", "left", "some", "bare", "rows_two"]) (sc := defScope s_law) (own := [("shape", 4), ("due", 9)]) (by decide +kernel)) rfl (fun _ _ _ _ _ => ppg_tup rfl rfl (ppgs_cons sw_ok (ppg_name (i := 4) (fun _ _ => wipe_set (by decide)) sc_law.nd rfl (by first | exact .inl rfl | exact .inr rfl)) (ppgs_cons sw_ok (ppg_name (i := 9) (fun _ _ => wipe_set (by decide)) sc_law.nd rfl (by first | exact .inl rfl | exact .inr rfl)) (ppgs_nil sw_ok)))) (fun _ _ _ _ _ => ppts_one (ppt_w (ppw_or (ppt_cmp (o_ne (u64 hr)) rfl (ppe_callB (c_repr hg0 (u102 hr)) rfl (by rfl) m.b_repr boot_repr (ppa_cons (ppe_fn h_shaped rfl hr hg0 (by rfl) m.m_shaped m.F_shaped.kp m.B_shaped takes0 (ppr_e (ppe_var (i := 7)) (ppr_e (ppe_var (i := 4)) (ppr_nil)))) (ppa_nil))) (ppe_callB (c_repr hg0 (u102 hr)) rfl (by rfl) m.b_repr boot_repr (ppa_cons (ppe_var (i := 9)) (ppa_nil))) rfl) (ppw_or1 (ppt_cmp (o_ne (u64 hr)) rfl (ppe_callB (c_repr hg0 (u102 hr)) rfl (by rfl) m.b_repr boot_repr (ppa_cons (ppe_fn h__law_shaped rfl hr hg0 (by rfl) m.m__law_shaped m.F__law_shaped.kp m.B__law_shaped takes0 (ppr_e (ppe_var (i := 7)) (ppr_e (ppe_var (i := 4)) (ppr_nil)))) (ppa_nil))) (ppe_callB (c_repr hg0 (u102 hr)) rfl (by rfl) m.b_repr boot_repr (ppa_cons (ppe_var (i := 9)) (ppa_nil))) rfl))))) (fun _ _ _ _ _ => ppe_int))) (ppe_lst (ppa_nil)) rfl) (pps_one (pps_ret (ppe_bl))) (pps_nil))
    (pps_cons (pps_par (i := 10) (j := 11) rfl sc_law.nd rfl rfl (by decide) rfl rfl (ppe_fn h__law_roll rfl hr hg0 (by rfl) m.m__law_roll m.F__law_roll.kp m.B__law_roll (takes_of rfl rfl rfl rfl) (ppr_s (pe_pk (i := 1)) (ppr_e (ppe_int) (ppr_nil)))) (ppe_op o_sub rfl (ppe_neg (ppe_int)) (ppe_fn h__law_roll rfl hr hg0 (by rfl) m.m__law_roll m.F__law_roll.kp m.B__law_roll (takes_of rfl rfl rfl rfl) (ppr_s (pe_pk (i := 1)) (ppr_e (ppe_int) (ppr_nil))))) (by rfl))
    (pps_cons (pps_set (i := 12) sc_law.nd rfl (by first | exact .inl rfl | exact .inr rfl) (ppe_tup (ppa_cons (ppe_str) (ppa_cons (ppe_tup (ppa_cons (ppe_tup (ppa_cons (ppe_str) (ppa_cons (ppe_tup (ppa_cons (ppe_tup (ppa_cons (ppe_str) (ppa_cons (ppe_var (i := 10)) (ppa_nil)))) (ppa_cons (ppe_tup (ppa_cons (ppe_str) (ppa_cons (ppe_var (i := 11)) (ppa_nil)))) (ppa_nil)))) (ppa_nil)))) (ppa_cons (ppe_int) (ppa_cons (ppe_tup (ppa_cons (ppe_str) (ppa_cons (ppe_tup (ppa_cons (ppe_tup (ppa_cons (ppe_str) (ppa_cons (ppe_int) (ppa_nil)))) (ppa_nil))) (ppa_nil)))) (ppa_cons (ppe_tup (ppa_cons (ppe_str) (ppa_cons (ppe_tup (ppa_cons (ppe_tup (ppa_cons (ppe_str) (ppa_cons (ppe_tup (ppa_cons (ppe_tup (ppa_cons (ppe_str) (ppa_cons (ppe_int) (ppa_nil)))) (ppa_nil))) (ppa_nil)))) (ppa_nil))) (ppa_nil)))) (ppa_nil)))))) (ppa_nil)))))
    (pps_cons (pps_set (i := 13) sc_law.nd rfl (by first | exact .inl rfl | exact .inr rfl) (ppe_tup (ppa_cons (ppe_str) (ppa_cons (ppe_tup (ppa_cons (ppe_tup (ppa_cons (ppe_str) (ppa_cons (ppe_tup (ppa_cons (ppe_str) (ppa_cons (ppe_tup (ppa_cons (ppe_tup (ppa_cons (ppe_str) (ppa_cons (ppe_var (i := 12)) (ppa_nil)))) (ppa_cons (ppe_tup (ppa_cons (ppe_str) (ppa_cons (ppe_int) (ppa_nil)))) (ppa_nil)))) (ppa_nil)))) (ppa_nil)))) (ppa_cons (ppe_tup (ppa_cons (ppe_str) (ppa_cons (ppe_int) (ppa_nil)))) (ppa_cons (ppe_tup (ppa_cons (ppe_str) (ppa_cons (ppe_tup (ppa_cons (ppe_str) (ppa_cons (ppe_tup (ppa_cons (ppe_tup (ppa_cons (ppe_str) (ppa_cons (ppe_var (i := 11)) (ppa_nil)))) (ppa_cons (ppe_tup (ppa_cons (ppe_str) (ppa_cons (ppe_var (i := 10)) (ppa_nil)))) (ppa_nil)))) (ppa_nil)))) (ppa_nil)))) (ppa_nil))))) (ppa_nil)))))
    (pps_cons (pps_par (i := 14) (j := 15) rfl sc_law.nd rfl rfl (by decide) rfl rfl (ppe_tup (ppa_cons (ppe_str) (ppa_cons (ppe_tup (ppa_cons (ppe_tup (ppa_cons (ppe_str) (ppa_cons (ppe_tup (ppa_cons (ppe_tup (ppa_cons (ppe_str) (ppa_cons (ppe_var (i := 10)) (ppa_nil)))) (ppa_nil))) (ppa_nil)))) (ppa_cons (ppe_tup (ppa_cons (ppe_str) (ppa_cons (ppe_tup (ppa_nil)) (ppa_nil)))) (ppa_nil)))) (ppa_nil)))) (ppe_tup (ppa_cons (ppe_str) (ppa_cons (ppe_tup (ppa_cons (ppe_tup (ppa_cons (ppe_str) (ppa_cons (ppe_tup (ppa_cons (ppe_tup (ppa_cons (ppe_str) (ppa_cons (ppe_var (i := 10)) (ppa_nil)))) (ppa_nil))) (ppa_nil)))) (ppa_cons (ppe_int) (ppa_cons (ppe_tup (ppa_cons (ppe_str) (ppa_cons (ppe_tup (ppa_nil)) (ppa_nil)))) (ppa_cons (ppe_idx rfl (ppe_idx rfl (ppe_var (i := 12)) (ppe_int)) (ppe_int)) (ppa_nil)))))) (ppa_nil)))) (by rfl))
    (pps_cons (pps_set (i := 16) sc_law.nd rfl (by first | exact .inl rfl | exact .inr rfl) (ppe_lst (ppa_cons (ppe_tup (ppa_cons (ppe_tup (ppa_cons (ppe_str) (ppa_cons (ppe_tup (ppa_cons (ppe_tup (ppa_cons (ppe_str) (ppa_cons (ppe_str) (ppa_cons (ppe_str) (ppa_nil))))) (ppa_nil))) (ppa_nil)))) (ppa_cons (ppe_tup (ppa_cons (ppe_str) (ppa_cons (ppe_tup (ppa_cons (ppe_tup (ppa_cons (ppe_str) (ppa_cons (ppe_tup (ppa_cons (ppe_str) (ppa_cons (ppe_tup (ppa_cons (ppe_tup (ppa_cons (ppe_str) (ppa_cons (ppe_var (i := 14)) (ppa_nil)))) (ppa_nil))) (ppa_nil)))) (ppa_nil)))) (ppa_cons (ppe_tup (ppa_cons (ppe_str) (ppa_cons (ppe_int) (ppa_nil)))) (ppa_nil)))) (ppa_nil)))) (ppa_nil)))) (ppa_nil))))
    (pps_cons (pps_set (i := 16) sc_law.nd rfl (by first | exact .inl rfl | exact .inr rfl) (ppe_op o_add rfl (ppe_var (i := 16)) (ppe_lst (ppa_cons (ppe_tup (ppa_cons (ppe_tup (ppa_cons (ppe_str) (ppa_cons (ppe_tup (ppa_cons (ppe_tup (ppa_cons (ppe_str) (ppa_cons (ppe_str) (ppa_cons (ppe_str) (ppa_nil))))) (ppa_cons (ppe_tup (ppa_cons (ppe_str) (ppa_nil))) (ppa_nil)))) (ppa_nil)))) (ppa_cons (ppe_tup (ppa_cons (ppe_str) (ppa_cons (ppe_tup (ppa_cons (ppe_tup (ppa_cons (ppe_str) (ppa_cons (ppe_tup (ppa_cons (ppe_str) (ppa_cons (ppe_tup (ppa_cons (ppe_tup (ppa_cons (ppe_str) (ppa_cons (ppe_var (i := 15)) (ppa_nil)))) (ppa_cons (ppe_tup (ppa_cons (ppe_str) (ppa_cons (ppe_int) (ppa_nil)))) (ppa_nil)))) (ppa_nil)))) (ppa_nil)))) (ppa_cons (ppe_tup (ppa_cons (ppe_str) (ppa_cons (ppe_int) (ppa_nil)))) (ppa_nil)))) (ppa_nil)))) (ppa_nil)))) (ppa_nil)))))
    (pps_cons (pps_set (i := 16) sc_law.nd rfl (by first | exact .inl rfl | exact .inr rfl) (ppe_op o_add rfl (ppe_var (i := 16)) (ppe_lst (ppa_cons (ppe_tup (ppa_cons (ppe_tup (ppa_cons (ppe_str) (ppa_cons (ppe_tup (ppa_cons (ppe_tup (ppa_cons (ppe_str) (ppa_cons (ppe_str) (ppa_nil)))) (ppa_cons (ppe_tup (ppa_cons (ppe_str) (ppa_cons (ppe_str) (ppa_nil)))) (ppa_nil)))) (ppa_nil)))) (ppa_cons (ppe_tup (ppa_cons (ppe_str) (ppa_cons (ppe_tup (ppa_cons (ppe_tup (ppa_cons (ppe_str) (ppa_cons (ppe_tup (ppa_cons (ppe_str) (ppa_cons (ppe_tup (ppa_cons (ppe_tup (ppa_cons (ppe_str) (ppa_cons (ppe_int) (ppa_nil)))) (ppa_nil))) (ppa_nil)))) (ppa_nil)))) (ppa_cons (ppe_tup (ppa_cons (ppe_str) (ppa_cons (ppe_int) (ppa_nil)))) (ppa_cons (ppe_tup (ppa_cons (ppe_str) (ppa_cons (ppe_tup (ppa_cons (ppe_str) (ppa_cons (ppe_tup (ppa_cons (ppe_tup (ppa_cons (ppe_str) (ppa_cons (ppe_var (i := 11)) (ppa_nil)))) (ppa_nil))) (ppa_nil)))) (ppa_nil)))) (ppa_nil))))) (ppa_nil)))) (ppa_nil)))) (ppa_nil)))))
    (pps_cons (pps_set (i := 16) sc_law.nd rfl (by first | exact .inl rfl | exact .inr rfl) (ppe_op o_add rfl (ppe_var (i := 16)) (ppe_lst (ppa_cons (ppe_tup (ppa_cons (ppe_tup (ppa_cons (ppe_str) (ppa_cons (ppe_tup (ppa_cons (ppe_tup (ppa_cons (ppe_str) (ppa_nil))) (ppa_cons (ppe_tup (ppa_cons (ppe_str) (ppa_cons (ppe_str) (ppa_nil)))) (ppa_nil)))) (ppa_nil)))) (ppa_cons (ppe_tup (ppa_cons (ppe_str) (ppa_cons (ppe_tup (ppa_cons (ppe_tup (ppa_cons (ppe_str) (ppa_cons (ppe_int) (ppa_nil)))) (ppa_cons (ppe_tup (ppa_cons (ppe_str) (ppa_cons (ppe_tup (ppa_cons (ppe_str) (ppa_cons (ppe_tup (ppa_cons (ppe_tup (ppa_cons (ppe_str) (ppa_cons (ppe_var (i := 11)) (ppa_nil)))) (ppa_nil))) (ppa_nil)))) (ppa_nil)))) (ppa_nil)))) (ppa_nil)))) (ppa_nil)))) (ppa_cons (ppe_tup (ppa_cons (ppe_tup (ppa_cons (ppe_str) (ppa_cons (ppe_tup (ppa_cons (ppe_tup (ppa_cons (ppe_str) (ppa_cons (ppe_str) (ppa_nil)))) (ppa_cons (ppe_tup (ppa_cons (ppe_str) (ppa_nil))) (ppa_nil)))) (ppa_nil)))) (ppa_cons (ppe_tup (ppa_cons (ppe_str) (ppa_cons (ppe_tup (ppa_cons (ppe_tup (ppa_cons (ppe_str) (ppa_cons (ppe_int) (ppa_nil)))) (ppa_cons (ppe_tup (ppa_cons (ppe_str) (ppa_cons (ppe_tup (ppa_cons (ppe_str) (ppa_cons (ppe_tup (ppa_nil)) (ppa_nil)))) (ppa_nil)))) (ppa_nil)))) (ppa_nil)))) (ppa_nil)))) (ppa_nil))))))
    (pps_cons (pps_if (ppt_cmp (o_ne (u64 hr)) rfl (ppe_ofF (lcf rfl sc_law.nd (ppi_list rfl (ppe_var (i := 16))) (blkOk_by (N := ["script", "cup", "turn", "document", "shape", "deal", "rows", "inner", "more", "due", "c", "d", "middle", "wide", "kept", "left", "some", "bare", "rows_two"]) (sc := defScope s_law) (own := [("shape", 4), ("due", 9)]) (by decide +kernel)) rfl (fun _ _ _ _ _ => ppg_tup rfl rfl (ppgs_cons sw_ok (ppg_name (i := 4) (fun _ _ => wipe_set (by decide)) sc_law.nd rfl (by first | exact .inl rfl | exact .inr rfl)) (ppgs_cons sw_ok (ppg_name (i := 9) (fun _ _ => wipe_set (by decide)) sc_law.nd rfl (by first | exact .inl rfl | exact .inr rfl)) (ppgs_nil sw_ok)))) (fun _ _ _ _ _ => ppts_one (ppt_w (ppw_or (ppt_cmp (o_ne (u64 hr)) rfl (ppe_callB (c_repr hg0 (u102 hr)) rfl (by rfl) m.b_repr boot_repr (ppa_cons (ppe_fn h_shaped rfl hr hg0 (by rfl) m.m_shaped m.F_shaped.kp m.B_shaped takes0 (ppr_e (ppe_var (i := 13)) (ppr_e (ppe_var (i := 4)) (ppr_nil)))) (ppa_nil))) (ppe_callB (c_repr hg0 (u102 hr)) rfl (by rfl) m.b_repr boot_repr (ppa_cons (ppe_var (i := 9)) (ppa_nil))) rfl) (ppw_or1 (ppt_cmp (o_ne (u64 hr)) rfl (ppe_callB (c_repr hg0 (u102 hr)) rfl (by rfl) m.b_repr boot_repr (ppa_cons (ppe_fn h__law_shaped rfl hr hg0 (by rfl) m.m__law_shaped m.F__law_shaped.kp m.B__law_shaped takes0 (ppr_e (ppe_var (i := 13)) (ppr_e (ppe_var (i := 4)) (ppr_nil)))) (ppa_nil))) (ppe_callB (c_repr hg0 (u102 hr)) rfl (by rfl) m.b_repr boot_repr (ppa_cons (ppe_var (i := 9)) (ppa_nil))) rfl))))) (fun _ _ _ _ _ => ppe_int))) (ppe_lst (ppa_nil)) rfl) (pps_one (pps_ret (ppe_bl))) (pps_nil))
    (pps_cons (pps_set (i := 17) sc_law.nd rfl (by first | exact .inl rfl | exact .inr rfl) (ppe_tup (ppa_cons (ppe_str) (ppa_cons (ppe_tup (ppa_cons (ppe_tup (ppa_cons (ppe_str) (ppa_cons (ppe_tup (ppa_cons (ppe_str) (ppa_cons (ppe_tup (ppa_cons (ppe_tup (ppa_cons (ppe_str) (ppa_cons (ppe_int) (ppa_nil)))) (ppa_nil))) (ppa_nil)))) (ppa_nil)))) (ppa_nil))) (ppa_nil)))))
    (pps_cons (pps_set (i := 18) sc_law.nd rfl (by first | exact .inl rfl | exact .inr rfl) (ppe_lst (ppa_cons (ppe_tup (ppa_cons (ppe_tup (ppa_cons (ppe_str) (ppa_cons (ppe_tup (ppa_cons (ppe_tup (ppa_cons (ppe_str) (ppa_cons (ppe_str) (ppa_nil)))) (ppa_nil))) (ppa_nil)))) (ppa_cons (ppe_tup (ppa_cons (ppe_str) (ppa_cons (ppe_tup (ppa_cons (ppe_tup (ppa_cons (ppe_str) (ppa_cons (ppe_tup (ppa_cons (ppe_str) (ppa_cons (ppe_tup (ppa_nil)) (ppa_nil)))) (ppa_nil)))) (ppa_nil))) (ppa_nil)))) (ppa_nil)))) (ppa_cons (ppe_tup (ppa_cons (ppe_tup (ppa_cons (ppe_str) (ppa_cons (ppe_tup (ppa_cons (ppe_tup (ppa_cons (ppe_str) (ppa_cons (ppe_str) (ppa_nil)))) (ppa_nil))) (ppa_nil)))) (ppa_cons (ppe_tup (ppa_cons (ppe_str) (ppa_cons (ppe_tup (ppa_cons (ppe_tup (ppa_cons (ppe_str) (ppa_cons (ppe_tup (ppa_cons (ppe_str) (ppa_cons (ppe_tup (ppa_nil)) (ppa_nil)))) (ppa_nil)))) (ppa_nil))) (ppa_nil)))) (ppa_nil)))) (ppa_nil)))))
    (pps_cons (pps_set (i := 18) sc_law.nd rfl (by first | exact .inl rfl | exact .inr rfl) (ppe_op o_add rfl (ppe_var (i := 18)) (ppe_lst (ppa_cons (ppe_tup (ppa_cons (ppe_tup (ppa_cons (ppe_str) (ppa_cons (ppe_tup (ppa_cons (ppe_tup (ppa_cons (ppe_str) (ppa_nil))) (ppa_nil))) (ppa_nil)))) (ppa_cons (ppe_tup (ppa_cons (ppe_str) (ppa_cons (ppe_tup (ppa_nil)) (ppa_nil)))) (ppa_nil)))) (ppa_nil)))))
    (pps_cons (pps_if (ppt_cmp (o_ne (u64 hr)) rfl (ppe_ofF (lcf rfl sc_law.nd (ppi_list rfl (ppe_var (i := 18))) (blkOk_by (N := ["script", "cup", "turn", "document", "shape", "deal", "rows", "inner", "more", "due", "c", "d", "middle", "wide", "kept", "left", "some", "bare", "rows_two"]) (sc := defScope s_law) (own := [("shape", 4), ("due", 9)]) (by decide +kernel)) rfl (fun _ _ _ _ _ => ppg_tup rfl rfl (ppgs_cons sw_ok (ppg_name (i := 4) (fun _ _ => wipe_set (by decide)) sc_law.nd rfl (by first | exact .inl rfl | exact .inr rfl)) (ppgs_cons sw_ok (ppg_name (i := 9) (fun _ _ => wipe_set (by decide)) sc_law.nd rfl (by first | exact .inl rfl | exact .inr rfl)) (ppgs_nil sw_ok)))) (fun _ _ _ _ _ => ppts_one (ppt_cmp (o_ne (u64 hr)) rfl (ppe_callB (c_repr hg0 (u102 hr)) rfl (by rfl) m.b_repr boot_repr (ppa_cons (ppe_fn h_shaped rfl hr hg0 (by rfl) m.m_shaped m.F_shaped.kp m.B_shaped takes0 (ppr_e (ppe_var (i := 17)) (ppr_e (ppe_var (i := 4)) (ppr_nil)))) (ppa_nil))) (ppe_callB (c_repr hg0 (u102 hr)) rfl (by rfl) m.b_repr boot_repr (ppa_cons (ppe_var (i := 9)) (ppa_nil))) rfl)) (fun _ _ _ _ _ => ppe_int))) (ppe_lst (ppa_nil)) rfl) (pps_one (pps_ret (ppe_bl))) (pps_nil))
    (pps_one (pps_ret (ppe_cmp (o_eq (u64 hr)) rfl (ppe_ofF (lcf rfl sc_law.nd (ppi_list rfl (ppe_var (i := 6))) (blkOk_by (N := ["script", "cup", "turn", "document", "shape", "deal", "rows", "inner", "more", "due", "c", "d", "middle", "wide", "kept", "left", "some", "bare", "rows_two"]) (sc := defScope s_law) (own := [("shape", 4), ("due", 9)]) (by decide +kernel)) rfl (fun _ _ _ _ _ => ppg_tup rfl rfl (ppgs_cons sw_ok (ppg_name (i := 4) (fun _ _ => wipe_set (by decide)) sc_law.nd rfl (by first | exact .inl rfl | exact .inr rfl)) (ppgs_cons sw_ok (ppg_name (i := 9) (fun _ _ => wipe_set (by decide)) sc_law.nd rfl (by first | exact .inl rfl | exact .inr rfl)) (ppgs_nil sw_ok)))) (fun _ _ _ _ _ => ppts_one (ppt_w (ppw_or (ppt_cmp (o_ne (u64 hr)) rfl (ppe_callB (c_repr hg0 (u102 hr)) rfl (by rfl) m.b_repr boot_repr (ppa_cons (ppe_fn h_shaped rfl hr hg0 (by rfl) m.m_shaped m.F_shaped.kp m.B_shaped takes0 (ppr_e (ppe_var (i := 5)) (ppr_e (ppe_var (i := 4)) (ppr_nil)))) (ppa_nil))) (ppe_callB (c_repr hg0 (u102 hr)) rfl (by rfl) m.b_repr boot_repr (ppa_cons (ppe_var (i := 9)) (ppa_nil))) rfl) (ppw_or1 (ppt_cmp (o_ne (u64 hr)) rfl (ppe_callB (c_repr hg0 (u102 hr)) rfl (by rfl) m.b_repr boot_repr (ppa_cons (ppe_fn h__law_shaped rfl hr hg0 (by rfl) m.m__law_shaped m.F__law_shaped.kp m.B__law_shaped takes0 (ppr_e (ppe_var (i := 5)) (ppr_e (ppe_var (i := 4)) (ppr_nil)))) (ppa_nil))) (ppe_callB (c_repr hg0 (u102 hr)) rfl (by rfl) m.b_repr boot_repr (ppa_cons (ppe_var (i := 9)) (ppa_nil))) rfl))))) (fun _ _ _ _ _ => ppe_int))) (ppe_lst (ppa_nil)) rfl))))))))))))))))))))))))))))))))
structure AF (P : Program) (w : World) (base : Heap) (cl : Str → Option Value) (m : M K mg) (n : Nat) : Prop where
  g_is_whole : FnG P w K mg base n m.a_is_whole m.fd_is_whole ["value", "low", "high"] (spOf K cl 3 (ctE (callN n .is_whole)))
  g_is_tuple_of : FnG P w K mg base n m.a_is_tuple_of m.fd_is_tuple_of ["value", "low", "high"] (spOf K cl 3 (ctE (callN n .is_tuple_of)))
  g_is_name : FnG P w K mg base n m.a_is_name m.fd_is_name ["value"] (spOf K cl 1 (ctE (callN n .is_name)))
  g_is_text_sign : FnG P w K mg base n m.a_is_text_sign m.fd_is_text_sign ["sign"] (spOf K cl 1 (ctE (callN n .is_text_sign)))
  g_fits_plain : FnG P w K mg base n m.a_fits_plain m.fd_fits_plain ["value"] (spOf K cl 1 (ctE (callN n .fits_plain)))
  g_is_knot : FnG P w K mg base n m.a_is_knot m.fd_is_knot ["value"] (spOf K cl 1 (ctE (callN n .is_knot)))
  g_fits_fields : FnG P w K mg base n m.a_fits_fields m.fd_fits_fields ["fields"] (spOf K cl 1 (ctE (callN n .fits_fields)))
  g_inner_of : FnG P w K mg base n m.a_inner_of m.fd_inner_of ["value"] (spOf K cl 1 (ctE (callN n .inner_of)))
  g_fits_value : FnG P w K mg base n m.a_fits_value m.fd_fits_value ["value"] (spOf K cl 1 (ctE (callN n .fits_value)))
  g_is_doc : FnG P w K mg base n m.a_is_doc m.fd_is_doc ["value"] (spOf K cl 1 (ctE (callN n .is_doc)))
  g_need_document : FnG P w K mg base n m.a_need_document m.fd_need_document ["value"] (spOf K cl 1 (ctE (callN n .need_document)))
  g_are_apart : FnG P w K mg base n m.a_are_apart m.fd_are_apart ["one", "other"] (spOf K cl 2 (ctE (callN n .are_apart)))
  g_fits_shape : FnG P w K mg base n m.a_fits_shape m.fd_fits_shape ["value"] (spOf K cl 1 (ctE (callN n .fits_shape)))
  g_rests_of : FnG P w K mg base n m.a_rests_of m.fd_rests_of ["paths", "name"] (spOf K cl 2 (ctE (callN n .rests_of)))
  g_kept_fields : FnG P w K mg base n m.a_kept_fields m.fd_kept_fields ["document", "paths"] (spOf K cl 2 (ctE (callN n .kept_fields)))
  g_kept_value : FnG P w K mg base n m.a_kept_value m.fd_kept_value ["value", "paths"] (spOf K cl 2 (ctE (callN n .kept_value)))
  g_left_fields : FnG P w K mg base n m.a_left_fields m.fd_left_fields ["document", "paths"] (spOf K cl 2 (ctE (callN n .left_fields)))
  g_left_value : FnG P w K mg base n m.a_left_value m.fd_left_value ["value", "paths"] (spOf K cl 2 (ctE (callN n .left_value)))
  g_shaped_by : FnG P w K mg base n m.a_shaped_by m.fd_shaped_by ["document", "shape"] (spOf K cl 2 (ctE (callN n .shaped_by)))
  g_shaped : FnG P w K mg base n m.a_shaped m.fd_shaped ["document", "shape"] (spOf K cl 2 (ctE (callN n .shaped)))
  g__law_cup : FnG P w K mg base n m.a__law_cup m.fd__law_cup ["script"] (spOfF K cl 1 (ctF (callN n ._law_cup)))
  g__law_roll : FnG P w K mg base n m.a__law_roll m.fd__law_roll ["cup", "many"] (spOf K cl 2 (ctE (callN n ._law_roll)))
  g__law_some : FnG P w K mg base n m.a__law_some m.fd__law_some ["cup", "things"] (spOf K cl 2 (ctE (callN n ._law_some)))
  g__law_value : FnG P w K mg base n m.a__law_value m.fd__law_value ["cup", "deep"] (spOf K cl 2 (ctE (callN n ._law_value)))
  g__law_drawn_fields : FnG P w K mg base n m.a__law_drawn_fields m.fd__law_drawn_fields ["cup", "deep", "many"] (spOf K cl 3 (ctE (callN n ._law_drawn_fields)))
  g__law_document : FnG P w K mg base n m.a__law_document m.fd__law_document ["cup", "own"] (spOf K cl 2 (ctE (callN n ._law_document)))
  g__law_shape : FnG P w K mg base n m.a__law_shape m.fd__law_shape ["cup"] (spOf K cl 1 (ctE (callN n ._law_shape)))
  g__law_rest : FnG P w K mg base n m.a__law_rest m.fd__law_rest ["paths", "name"] (spOf K cl 2 (ctE (callN n ._law_rest)))
  g__law_kept : FnG P w K mg base n m.a__law_kept m.fd__law_kept ["value", "paths"] (spOf K cl 2 (ctE (callN n ._law_kept)))
  g__law_dropped : FnG P w K mg base n m.a__law_dropped m.fd__law_dropped ["value", "paths"] (spOf K cl 2 (ctE (callN n ._law_dropped)))
  g__law_shaped : FnG P w K mg base n m.a__law_shaped m.fd__law_shaped ["document", "shape"] (spOf K cl 2 (ctE (callN n ._law_shaped)))
  g_law : FnG P w K mg base n m.a_law m.fd_law ["script"] (spOf K cl 1 (ctE (callN n .law)))
theorem af0 (m : M K mg) : AF P w base cl m 0 where
  g_is_whole := fng_bad fun _ => rfl
  g_is_tuple_of := fng_bad fun _ => rfl
  g_is_name := fng_bad fun _ => rfl
  g_is_text_sign := fng_bad fun _ => rfl
  g_fits_plain := fng_bad fun _ => rfl
  g_is_knot := fng_bad fun _ => rfl
  g_fits_fields := fng_bad fun _ => rfl
  g_inner_of := fng_bad fun _ => rfl
  g_fits_value := fng_bad fun _ => rfl
  g_is_doc := fng_bad fun _ => rfl
  g_need_document := fng_bad fun _ => rfl
  g_are_apart := fng_bad fun _ => rfl
  g_fits_shape := fng_bad fun _ => rfl
  g_rests_of := fng_bad fun _ => rfl
  g_kept_fields := fng_bad fun _ => rfl
  g_kept_value := fng_bad fun _ => rfl
  g_left_fields := fng_bad fun _ => rfl
  g_left_value := fng_bad fun _ => rfl
  g_shaped_by := fng_bad fun _ => rfl
  g_shaped := fng_bad fun _ => rfl
  g__law_cup := fng_badF fun _ => rfl
  g__law_roll := fng_bad fun _ => rfl
  g__law_some := fng_bad fun _ => rfl
  g__law_value := fng_bad fun _ => rfl
  g__law_drawn_fields := fng_bad fun _ => rfl
  g__law_document := fng_bad fun _ => rfl
  g__law_shape := fng_bad fun _ => rfl
  g__law_rest := fng_bad fun _ => rfl
  g__law_kept := fng_bad fun _ => rfl
  g__law_dropped := fng_bad fun _ => rfl
  g__law_shaped := fng_bad fun _ => rfl
  g_law := fng_bad fun _ => rfl
theorem f_is_whole (m : M K mg) {n : Nat} (a : AF P w base cl m n) : FnG P w K mg base (n + 1) m.a_is_whole m.fd_is_whole ["value", "low", "high"] (spOf K cl 3 (ctE (callN (n + 1) .is_whole))) :=
  gn_def m.F_is_whole sc_is_whole (fun cdv A outer s H E hr hg0 => d_is_whole m (callN n) cdv A outer s H E hr hg0) fun τ X Q h1 h2 h3 => runE_vc (b := q_is_whole (callN n)) (l := 0) (fun τ => rfl) τ X Q h1 h2 h3
theorem f_is_tuple_of (m : M K mg) {n : Nat} (a : AF P w base cl m n) : FnG P w K mg base (n + 1) m.a_is_tuple_of m.fd_is_tuple_of ["value", "low", "high"] (spOf K cl 3 (ctE (callN (n + 1) .is_tuple_of))) :=
  gn_def m.F_is_tuple_of sc_is_tuple_of (fun cdv A outer s H E hr hg0 => d_is_tuple_of m (callN n) cdv A outer s H E hr hg0) fun τ X Q h1 h2 h3 => runE_vc (b := q_is_tuple_of (callN n)) (l := 0) (fun τ => rfl) τ X Q h1 h2 h3
theorem f_is_name (m : M K mg) {n : Nat} (a : AF P w base cl m n) : FnG P w K mg base (n + 1) m.a_is_name m.fd_is_name ["value"] (spOf K cl 1 (ctE (callN (n + 1) .is_name))) :=
  gn_def m.F_is_name sc_is_name (fun cdv A outer s H E hr hg0 => d_is_name m (callN n) cdv A outer s H E hr hg0) fun τ X Q h1 h2 h3 => runE_vc (b := q_is_name (callN n)) (l := 1) (fun τ => rfl) τ X Q h1 h2 h3
theorem f_is_text_sign (m : M K mg) {n : Nat} (a : AF P w base cl m n) : FnG P w K mg base (n + 1) m.a_is_text_sign m.fd_is_text_sign ["sign"] (spOf K cl 1 (ctE (callN (n + 1) .is_text_sign))) :=
  gn_def m.F_is_text_sign sc_is_text_sign (fun cdv A outer s H E hr hg0 => d_is_text_sign m (callN n) cdv A outer s H E hr hg0) fun τ X Q h1 h2 h3 => runE_vc (b := q_is_text_sign (callN n)) (l := 0) (fun τ => rfl) τ X Q h1 h2 h3
theorem f_fits_plain (m : M K mg) {n : Nat} (a : AF P w base cl m n) : FnG P w K mg base (n + 1) m.a_fits_plain m.fd_fits_plain ["value"] (spOf K cl 1 (ctE (callN (n + 1) .fits_plain))) :=
  gn_def m.F_fits_plain sc_fits_plain (fun cdv A outer s H E hr hg0 => d_fits_plain m (callN n) a.g_is_text_sign a.g_is_whole cdv A outer s H E hr hg0) fun τ X Q h1 h2 h3 => runE_vc (b := q_fits_plain (callN n)) (l := 1) (fun τ => rfl) τ X Q h1 h2 h3
theorem f_is_knot (m : M K mg) {n : Nat} (a : AF P w base cl m n) : FnG P w K mg base (n + 1) m.a_is_knot m.fd_is_knot ["value"] (spOf K cl 1 (ctE (callN (n + 1) .is_knot))) :=
  gn_def m.F_is_knot sc_is_knot (fun cdv A outer s H E hr hg0 => d_is_knot m (callN n) a.g_is_tuple_of cdv A outer s H E hr hg0) fun τ X Q h1 h2 h3 => runE_vc (b := q_is_knot (callN n)) (l := 0) (fun τ => rfl) τ X Q h1 h2 h3
theorem f_fits_fields (m : M K mg) {n : Nat} (a : AF P w base cl m n) : FnG P w K mg base (n + 1) m.a_fits_fields m.fd_fits_fields ["fields"] (spOf K cl 1 (ctE (callN (n + 1) .fits_fields))) :=
  gn_def m.F_fits_fields sc_fits_fields (fun cdv A outer s H E hr hg0 => d_fits_fields m (callN n) a.g_is_name a.g_is_tuple_of cdv A outer s H E hr hg0) fun τ X Q h1 h2 h3 => runE_vc (b := q_fits_fields (callN n)) (l := 2) (fun τ => rfl) τ X Q h1 h2 h3
theorem f_inner_of (m : M K mg) {n : Nat} (a : AF P w base cl m n) : FnG P w K mg base (n + 1) m.a_inner_of m.fd_inner_of ["value"] (spOf K cl 1 (ctE (callN (n + 1) .inner_of))) :=
  gn_def m.F_inner_of sc_inner_of (fun cdv A outer s H E hr hg0 => d_inner_of m (callN n) cdv A outer s H E hr hg0) fun τ X Q h1 h2 h3 => runE_vc (b := q_inner_of (callN n)) (l := 1) (fun τ => rfl) τ X Q h1 h2 h3
theorem f_fits_value (m : M K mg) {n : Nat} (a : AF P w base cl m n) : FnG P w K mg base (n + 1) m.a_fits_value m.fd_fits_value ["value"] (spOf K cl 1 (ctE (callN (n + 1) .fits_value))) :=
  gn_def m.F_fits_value sc_fits_value (fun cdv A outer s H E hr hg0 => d_fits_value m (callN n) a.g_fits_fields a.g_fits_plain a.g_inner_of a.g_is_knot cdv A outer s H E hr hg0) fun τ X Q h1 h2 h3 => runE_vc (b := q_fits_value (callN n)) (l := 4) (fun τ => rfl) τ X Q h1 h2 h3
theorem f_is_doc (m : M K mg) {n : Nat} (a : AF P w base cl m n) : FnG P w K mg base (n + 1) m.a_is_doc m.fd_is_doc ["value"] (spOf K cl 1 (ctE (callN (n + 1) .is_doc))) :=
  gn_def m.F_is_doc sc_is_doc (fun cdv A outer s H E hr hg0 => d_is_doc m (callN n) cdv A outer s H E hr hg0) fun τ X Q h1 h2 h3 => runE_vc (b := q_is_doc (callN n)) (l := 0) (fun τ => rfl) τ X Q h1 h2 h3
theorem f_need_document (m : M K mg) {n : Nat} (a : AF P w base cl m n) : FnG P w K mg base (n + 1) m.a_need_document m.fd_need_document ["value"] (spOf K cl 1 (ctE (callN (n + 1) .need_document))) :=
  gn_def m.F_need_document sc_need_document (fun cdv A outer s H E hr hg0 => d_need_document m (callN n) a.g_fits_value a.g_is_doc cdv A outer s H E hr hg0) fun τ X Q h1 h2 h3 => runE_vc (b := q_need_document (callN n)) (l := 0) (fun τ => rfl) τ X Q h1 h2 h3
theorem f_are_apart (m : M K mg) {n : Nat} (a : AF P w base cl m n) : FnG P w K mg base (n + 1) m.a_are_apart m.fd_are_apart ["one", "other"] (spOf K cl 2 (ctE (callN (n + 1) .are_apart))) :=
  gn_def m.F_are_apart sc_are_apart (fun cdv A outer s H E hr hg0 => d_are_apart m (callN n) cdv A outer s H E hr hg0) fun τ X Q h1 h2 h3 => runE_vc (b := q_are_apart (callN n)) (l := 2) (fun τ => rfl) τ X Q h1 h2 h3
theorem f_fits_shape (m : M K mg) {n : Nat} (a : AF P w base cl m n) : FnG P w K mg base (n + 1) m.a_fits_shape m.fd_fits_shape ["value"] (spOf K cl 1 (ctE (callN (n + 1) .fits_shape))) :=
  gn_def m.F_fits_shape sc_fits_shape (fun cdv A outer s H E hr hg0 => d_fits_shape m (callN n) a.g_are_apart a.g_is_name a.g_is_tuple_of cdv A outer s H E hr hg0) fun τ X Q h1 h2 h3 => runE_vc (b := q_fits_shape (callN n)) (l := 5) (fun τ => rfl) τ X Q h1 h2 h3
theorem f_rests_of (m : M K mg) {n : Nat} (a : AF P w base cl m n) : FnG P w K mg base (n + 1) m.a_rests_of m.fd_rests_of ["paths", "name"] (spOf K cl 2 (ctE (callN (n + 1) .rests_of))) :=
  gn_def m.F_rests_of sc_rests_of (fun cdv A outer s H E hr hg0 => d_rests_of m (callN n) cdv A outer s H E hr hg0) fun τ X Q h1 h2 h3 => runE_vc (b := q_rests_of (callN n)) (l := 1) (fun τ => rfl) τ X Q h1 h2 h3
theorem f_kept_fields (m : M K mg) {n : Nat} (a : AF P w base cl m n) : FnG P w K mg base (n + 1) m.a_kept_fields m.fd_kept_fields ["document", "paths"] (spOf K cl 2 (ctE (callN (n + 1) .kept_fields))) :=
  gn_def m.F_kept_fields sc_kept_fields (fun cdv A outer s H E hr hg0 => d_kept_fields m (callN n) a.g_kept_value a.g_rests_of cdv A outer s H E hr hg0) fun τ X Q h1 h2 h3 => runE_vc (b := q_kept_fields (callN n)) (l := 4) (fun τ => rfl) τ X Q h1 h2 h3
theorem f_kept_value (m : M K mg) {n : Nat} (a : AF P w base cl m n) : FnG P w K mg base (n + 1) m.a_kept_value m.fd_kept_value ["value", "paths"] (spOf K cl 2 (ctE (callN (n + 1) .kept_value))) :=
  gn_def m.F_kept_value sc_kept_value (fun cdv A outer s H E hr hg0 => d_kept_value m (callN n) a.g_is_doc a.g_kept_fields cdv A outer s H E hr hg0) fun τ X Q h1 h2 h3 => runE_vc (b := q_kept_value (callN n)) (l := 1) (fun τ => rfl) τ X Q h1 h2 h3
theorem f_left_fields (m : M K mg) {n : Nat} (a : AF P w base cl m n) : FnG P w K mg base (n + 1) m.a_left_fields m.fd_left_fields ["document", "paths"] (spOf K cl 2 (ctE (callN (n + 1) .left_fields))) :=
  gn_def m.F_left_fields sc_left_fields (fun cdv A outer s H E hr hg0 => d_left_fields m (callN n) a.g_left_value a.g_rests_of cdv A outer s H E hr hg0) fun τ X Q h1 h2 h3 => runE_vc (b := q_left_fields (callN n)) (l := 4) (fun τ => rfl) τ X Q h1 h2 h3
theorem f_left_value (m : M K mg) {n : Nat} (a : AF P w base cl m n) : FnG P w K mg base (n + 1) m.a_left_value m.fd_left_value ["value", "paths"] (spOf K cl 2 (ctE (callN (n + 1) .left_value))) :=
  gn_def m.F_left_value sc_left_value (fun cdv A outer s H E hr hg0 => d_left_value m (callN n) a.g_is_doc a.g_left_fields cdv A outer s H E hr hg0) fun τ X Q h1 h2 h3 => runE_vc (b := q_left_value (callN n)) (l := 1) (fun τ => rfl) τ X Q h1 h2 h3
theorem f_shaped_by (m : M K mg) {n : Nat} (a : AF P w base cl m n) : FnG P w K mg base (n + 1) m.a_shaped_by m.fd_shaped_by ["document", "shape"] (spOf K cl 2 (ctE (callN (n + 1) .shaped_by))) :=
  gn_def m.F_shaped_by sc_shaped_by (fun cdv A outer s H E hr hg0 => d_shaped_by m (callN n) a.g_kept_fields a.g_left_fields cdv A outer s H E hr hg0) fun τ X Q h1 h2 h3 => runE_vc (b := q_shaped_by (callN n)) (l := 0) (fun τ => rfl) τ X Q h1 h2 h3
theorem f_shaped (m : M K mg) {n : Nat} (a : AF P w base cl m n) : FnG P w K mg base (n + 1) m.a_shaped m.fd_shaped ["document", "shape"] (spOf K cl 2 (ctE (callN (n + 1) .shaped))) :=
  gn_def m.F_shaped sc_shaped (fun cdv A outer s H E hr hg0 => d_shaped m (callN n) a.g_fits_shape a.g_need_document a.g_shaped_by cdv A outer s H E hr hg0) fun τ X Q h1 h2 h3 => runE_vc (b := q_shaped (callN n)) (l := 0) (fun τ => rfl) τ X Q h1 h2 h3
theorem f__law_cup (m : M K mg) {n : Nat} (a : AF P w base cl m n) : FnG P w K mg base (n + 1) m.a__law_cup m.fd__law_cup ["script"] (spOfF K cl 1 (ctF (callN (n + 1) ._law_cup))) :=
  gn_defF m.F__law_cup sc__law_cup (fun cdv A outer s H E hr hg0 => d__law_cup m (callN n) cdv A outer s H E hr hg0) fun τ X Q h1 h2 h3 => runF_vc (b := q__law_cup (callN n)) (l := 1) (fun τ => rfl) τ X Q h1 h2 h3
theorem f__law_roll (m : M K mg) {n : Nat} (a : AF P w base cl m n) : FnG P w K mg base (n + 1) m.a__law_roll m.fd__law_roll ["cup", "many"] (spOf K cl 2 (ctE (callN (n + 1) ._law_roll))) :=
  gn_def m.F__law_roll sc__law_roll (fun cdv A outer s H E hr hg0 => d__law_roll m (callN n) cdv A outer s H E hr hg0) fun τ X Q h1 h2 h3 => runE_vc (b := q__law_roll (callN n)) (l := 2) (fun τ => rfl) τ X Q h1 h2 h3
theorem f__law_some (m : M K mg) {n : Nat} (a : AF P w base cl m n) : FnG P w K mg base (n + 1) m.a__law_some m.fd__law_some ["cup", "things"] (spOf K cl 2 (ctE (callN (n + 1) ._law_some))) :=
  gn_def m.F__law_some sc__law_some (fun cdv A outer s H E hr hg0 => d__law_some m (callN n) a.g__law_roll cdv A outer s H E hr hg0) fun τ X Q h1 h2 h3 => runE_vc (b := q__law_some (callN n)) (l := 0) (fun τ => rfl) τ X Q h1 h2 h3
theorem f__law_value (m : M K mg) {n : Nat} (a : AF P w base cl m n) : FnG P w K mg base (n + 1) m.a__law_value m.fd__law_value ["cup", "deep"] (spOf K cl 2 (ctE (callN (n + 1) ._law_value))) :=
  gn_def m.F__law_value sc__law_value (fun cdv A outer s H E hr hg0 => d__law_value m (callN n) a.g__law_drawn_fields a.g__law_roll a.g__law_some a.g__law_value cdv A outer s H E hr hg0) fun τ X Q h1 h2 h3 => runE_vc (b := q__law_value (callN n)) (l := 2) (fun τ => rfl) τ X Q h1 h2 h3
theorem f__law_drawn_fields (m : M K mg) {n : Nat} (a : AF P w base cl m n) : FnG P w K mg base (n + 1) m.a__law_drawn_fields m.fd__law_drawn_fields ["cup", "deep", "many"] (spOf K cl 3 (ctE (callN (n + 1) ._law_drawn_fields))) :=
  gn_def m.F__law_drawn_fields sc__law_drawn_fields (fun cdv A outer s H E hr hg0 => d__law_drawn_fields m (callN n) a.g__law_some a.g__law_value cdv A outer s H E hr hg0) fun τ X Q h1 h2 h3 => runE_vc (b := q__law_drawn_fields (callN n)) (l := 5) (fun τ => rfl) τ X Q h1 h2 h3
theorem f__law_document (m : M K mg) {n : Nat} (a : AF P w base cl m n) : FnG P w K mg base (n + 1) m.a__law_document m.fd__law_document ["cup", "own"] (spOf K cl 2 (ctE (callN (n + 1) ._law_document))) :=
  gn_def m.F__law_document sc__law_document (fun cdv A outer s H E hr hg0 => d__law_document m (callN n) a.g__law_drawn_fields a.g__law_roll cdv A outer s H E hr hg0) fun τ X Q h1 h2 h3 => runE_vc (b := q__law_document (callN n)) (l := 0) (fun τ => rfl) τ X Q h1 h2 h3
theorem f__law_shape (m : M K mg) {n : Nat} (a : AF P w base cl m n) : FnG P w K mg base (n + 1) m.a__law_shape m.fd__law_shape ["cup"] (spOf K cl 1 (ctE (callN (n + 1) ._law_shape))) :=
  gn_def m.F__law_shape sc__law_shape (fun cdv A outer s H E hr hg0 => d__law_shape m (callN n) a.g__law_roll a.g__law_some cdv A outer s H E hr hg0) fun τ X Q h1 h2 h3 => runE_vc (b := q__law_shape (callN n)) (l := 1) (fun τ => rfl) τ X Q h1 h2 h3
theorem f__law_rest (m : M K mg) {n : Nat} (a : AF P w base cl m n) : FnG P w K mg base (n + 1) m.a__law_rest m.fd__law_rest ["paths", "name"] (spOf K cl 2 (ctE (callN (n + 1) ._law_rest))) :=
  gn_def m.F__law_rest sc__law_rest (fun cdv A outer s H E hr hg0 => d__law_rest m (callN n) cdv A outer s H E hr hg0) fun τ X Q h1 h2 h3 => runE_vc (b := q__law_rest (callN n)) (l := 1) (fun τ => rfl) τ X Q h1 h2 h3
theorem f__law_kept (m : M K mg) {n : Nat} (a : AF P w base cl m n) : FnG P w K mg base (n + 1) m.a__law_kept m.fd__law_kept ["value", "paths"] (spOf K cl 2 (ctE (callN (n + 1) ._law_kept))) :=
  gn_def m.F__law_kept sc__law_kept (fun cdv A outer s H E hr hg0 => d__law_kept m (callN n) a.g__law_kept a.g__law_rest cdv A outer s H E hr hg0) fun τ X Q h1 h2 h3 => runE_vc (b := q__law_kept (callN n)) (l := 4) (fun τ => rfl) τ X Q h1 h2 h3
theorem f__law_dropped (m : M K mg) {n : Nat} (a : AF P w base cl m n) : FnG P w K mg base (n + 1) m.a__law_dropped m.fd__law_dropped ["value", "paths"] (spOf K cl 2 (ctE (callN (n + 1) ._law_dropped))) :=
  gn_def m.F__law_dropped sc__law_dropped (fun cdv A outer s H E hr hg0 => d__law_dropped m (callN n) a.g__law_dropped a.g__law_rest cdv A outer s H E hr hg0) fun τ X Q h1 h2 h3 => runE_vc (b := q__law_dropped (callN n)) (l := 2) (fun τ => rfl) τ X Q h1 h2 h3
theorem f__law_shaped (m : M K mg) {n : Nat} (a : AF P w base cl m n) : FnG P w K mg base (n + 1) m.a__law_shaped m.fd__law_shaped ["document", "shape"] (spOf K cl 2 (ctE (callN (n + 1) ._law_shaped))) :=
  gn_def m.F__law_shaped sc__law_shaped (fun cdv A outer s H E hr hg0 => d__law_shaped m (callN n) a.g__law_dropped a.g__law_kept cdv A outer s H E hr hg0) fun τ X Q h1 h2 h3 => runE_vc (b := q__law_shaped (callN n)) (l := 0) (fun τ => rfl) τ X Q h1 h2 h3
theorem f_law (m : M K mg) {n : Nat} (a : AF P w base cl m n) : FnG P w K mg base (n + 1) m.a_law m.fd_law ["script"] (spOf K cl 1 (ctE (callN (n + 1) .law))) :=
  gn_def m.F_law sc_law (fun cdv A outer s H E hr hg0 => d_law m (callN n) a.g__law_cup a.g__law_document a.g__law_roll a.g__law_shape a.g__law_shaped a.g__law_some a.g_shaped cdv A outer s H E hr hg0) fun τ X Q h1 h2 h3 => runE_vc (b := q_law (callN n)) (l := 18) (fun τ => rfl) τ X Q h1 h2 h3
theorem af (m : M K mg) : ∀ n, AF P w base cl m n
  | 0 => af0 m
  | n + 1 => { g_is_whole := f_is_whole m (af m n), g_is_tuple_of := f_is_tuple_of m (af m n), g_is_name := f_is_name m (af m n), g_is_text_sign := f_is_text_sign m (af m n), g_fits_plain := f_fits_plain m (af m n), g_is_knot := f_is_knot m (af m n), g_fits_fields := f_fits_fields m (af m n), g_inner_of := f_inner_of m (af m n), g_fits_value := f_fits_value m (af m n), g_is_doc := f_is_doc m (af m n), g_need_document := f_need_document m (af m n), g_are_apart := f_are_apart m (af m n), g_fits_shape := f_fits_shape m (af m n), g_rests_of := f_rests_of m (af m n), g_kept_fields := f_kept_fields m (af m n), g_kept_value := f_kept_value m (af m n), g_left_fields := f_left_fields m (af m n), g_left_value := f_left_value m (af m n), g_shaped_by := f_shaped_by m (af m n), g_shaped := f_shaped m (af m n), g__law_cup := f__law_cup m (af m n), g__law_roll := f__law_roll m (af m n), g__law_some := f__law_some m (af m n), g__law_value := f__law_value m (af m n), g__law_drawn_fields := f__law_drawn_fields m (af m n), g__law_document := f__law_document m (af m n), g__law_shape := f__law_shape m (af m n), g__law_rest := f__law_rest m (af m n), g__law_kept := f__law_kept m (af m n), g__law_dropped := f__law_dropped m (af m n), g__law_shaped := f__law_shaped m (af m n), g_law := f_law m (af m n) }
end
end Lw
end

section
set_option maxRecDepth 100000
set_option maxHeartbeats 0
namespace Lw
open PySem PySem.Spec PyProof.Rows L2 PV
set_option autoImplicit false
theorem fin {P : Program} {w : World} {K : Fg} {h : Heap} {mg : Str → Option Value} (X : K.In h) (G : h.Ns mainGlobals mg) {fa : Addr} (hfa : mg "law" = some (.ref fa))
    (z1 : PySem.W.nsIn K mainGlobals "abs" = some none)
    (z2 : PySem.W.nsIn K mainGlobals "all" = some none)
    (z3 : PySem.W.nsIn K mainGlobals "any" = some none)
    (z4 : PySem.W.nsIn K mainGlobals "bool" = some none)
    (z5 : PySem.W.nsIn K mainGlobals "enumerate" = some none)
    (z6 : PySem.W.nsIn K mainGlobals "int" = some none)
    (z7 : PySem.W.nsIn K mainGlobals "isinstance" = some none)
    (z8 : PySem.W.nsIn K mainGlobals "len" = some none)
    (z9 : PySem.W.nsIn K mainGlobals "list" = some none)
    (z10 : PySem.W.nsIn K mainGlobals "ord" = some none)
    (z11 : PySem.W.nsIn K mainGlobals "range" = some none)
    (z12 : PySem.W.nsIn K mainGlobals "repr" = some none)
    (z13 : PySem.W.nsIn K mainGlobals "set" = some none)
    (z14 : PySem.W.nsIn K mainGlobals "str" = some none)
    (z15 : PySem.W.nsIn K mainGlobals "tuple" = some none)
    (z16 : PySem.W.nsIn K mainGlobals "zip" = some none)
    {t17 : Tok} (z17 : PySem.W.nsIn K mainGlobals "DEEP" = some (some (.int 6 t17)))
    {t18 : Tok} (z18 : PySem.W.nsIn K mainGlobals "HIGHEST" = some (some (.int 1000000000000 t18)))
    {t19 : Tok} (z19 : PySem.W.nsIn K mainGlobals "ID" = some (some (.str "id" t19)))
    {t20 : Tok} (z20 : PySem.W.nsIn K mainGlobals "LONGEST" = some (some (.int 40 t20)))
    {t21 : Tok} (z21 : PySem.W.nsIn K mainGlobals "MOST" = some (some (.int 16 t21)))
    {t22 : Tok} (z22 : PySem.W.nsIn K mainGlobals "NAME" = some (some (.int 8 t22)))
    {t23 : Tok} (z23 : PySem.W.nsIn K mainGlobals "NAMES" = some (some (.int 3 t23)))
    {t24 : Tok} (z24 : PySem.W.nsIn K mainGlobals "PATHS" = some (some (.int 8 t24)))
    {t25 : Tok} (z25 : PySem.W.nsIn K mainGlobals "SIGNS" = some (some (.str "abcdefghijklmnopqrstuvwxyz0123456789" t25)))
    {t26 : Tok} (z26 : PySem.W.nsIn K mainGlobals "SMALL" = some (some (.str "abcdefghijklmnopqrstuvwxyz" t26)))
    (z27 : DefH K "is_whole" s_is_whole ["value", "low", "high"])
    (z28 : DefH K "is_tuple_of" s_is_tuple_of ["value", "low", "high"])
    (z29 : DefH K "is_name" s_is_name ["value"])
    (z30 : DefH K "is_text_sign" s_is_text_sign ["sign"])
    (z31 : DefH K "fits_plain" s_fits_plain ["value"])
    (z32 : DefH K "is_knot" s_is_knot ["value"])
    (z33 : DefH K "fits_fields" s_fits_fields ["fields"])
    (z34 : DefH K "inner_of" s_inner_of ["value"])
    (z35 : DefH K "fits_value" s_fits_value ["value"])
    (z36 : DefH K "is_doc" s_is_doc ["value"])
    (z37 : DefH K "need_document" s_need_document ["value"])
    (z38 : DefH K "are_apart" s_are_apart ["one", "other"])
    (z39 : DefH K "fits_shape" s_fits_shape ["value"])
    (z40 : DefH K "rests_of" s_rests_of ["paths", "name"])
    (z41 : DefH K "kept_fields" s_kept_fields ["document", "paths"])
    (z42 : DefH K "kept_value" s_kept_value ["value", "paths"])
    (z43 : DefH K "left_fields" s_left_fields ["document", "paths"])
    (z44 : DefH K "left_value" s_left_value ["value", "paths"])
    (z45 : DefH K "shaped_by" s_shaped_by ["document", "shape"])
    (z46 : DefH K "shaped" s_shaped ["document", "shape"])
    (z47 : DefH K "_law_cup" s__law_cup ["script"])
    (z48 : DefH K "_law_roll" s__law_roll ["cup", "many"])
    (z49 : DefH K "_law_some" s__law_some ["cup", "things"])
    (z50 : DefH K "_law_value" s__law_value ["cup", "deep"])
    (z51 : DefH K "_law_drawn_fields" s__law_drawn_fields ["cup", "deep", "many"])
    (z52 : DefH K "_law_document" s__law_document ["cup", "own"])
    (z53 : DefH K "_law_shape" s__law_shape ["cup"])
    (z54 : DefH K "_law_rest" s__law_rest ["paths", "name"])
    (z55 : DefH K "_law_kept" s__law_kept ["value", "paths"])
    (z56 : DefH K "_law_dropped" s__law_dropped ["value", "paths"])
    (z57 : DefH K "_law_shaped" s__law_shaped ["document", "shape"])
    (z58 : LawH K s_law) :
    ∃ (fd : FuncData) (cl : Str → Option Value), (∀ (s : Shared) (u : Value), BindsTo s fd ⟨[u], []⟩ [("script", u)]) ∧ ∀ base : Heap, K.In base → base.Ns mainGlobals mg → FnG P w K mg base 60 fa fd ["script"] (spOf K cl 1 (lawCt 63)) := by
  obtain ⟨y27, f27, x27, w27, v27⟩ := z27
  obtain ⟨y28, f28, x28, w28, v28⟩ := z28
  obtain ⟨y29, f29, x29, w29, v29⟩ := z29
  obtain ⟨y30, f30, x30, w30, v30⟩ := z30
  obtain ⟨y31, f31, x31, w31, v31⟩ := z31
  obtain ⟨y32, f32, x32, w32, v32⟩ := z32
  obtain ⟨y33, f33, x33, w33, v33⟩ := z33
  obtain ⟨y34, f34, x34, w34, v34⟩ := z34
  obtain ⟨y35, f35, x35, w35, v35⟩ := z35
  obtain ⟨y36, f36, x36, w36, v36⟩ := z36
  obtain ⟨y37, f37, x37, w37, v37⟩ := z37
  obtain ⟨y38, f38, x38, w38, v38⟩ := z38
  obtain ⟨y39, f39, x39, w39, v39⟩ := z39
  obtain ⟨y40, f40, x40, w40, v40⟩ := z40
  obtain ⟨y41, f41, x41, w41, v41⟩ := z41
  obtain ⟨y42, f42, x42, w42, v42⟩ := z42
  obtain ⟨y43, f43, x43, w43, v43⟩ := z43
  obtain ⟨y44, f44, x44, w44, v44⟩ := z44
  obtain ⟨y45, f45, x45, w45, v45⟩ := z45
  obtain ⟨y46, f46, x46, w46, v46⟩ := z46
  obtain ⟨y47, f47, x47, w47, v47⟩ := z47
  obtain ⟨y48, f48, x48, w48, v48⟩ := z48
  obtain ⟨y49, f49, x49, w49, v49⟩ := z49
  obtain ⟨y50, f50, x50, w50, v50⟩ := z50
  obtain ⟨y51, f51, x51, w51, v51⟩ := z51
  obtain ⟨y52, f52, x52, w52, v52⟩ := z52
  obtain ⟨y53, f53, x53, w53, v53⟩ := z53
  obtain ⟨y54, f54, x54, w54, v54⟩ := z54
  obtain ⟨y55, f55, x55, w55, v55⟩ := z55
  obtain ⟨y56, f56, x56, w56, v56⟩ := z56
  obtain ⟨y57, f57, x57, w57, v57⟩ := z57
  obtain ⟨y58, f58, x58, w58, v58, lawB⟩ := z58
  let m : M K mg := {
    b_abs := PySem.W.mg_none_of X G z1
    b_all := PySem.W.mg_none_of X G z2
    b_any := PySem.W.mg_none_of X G z3
    b_bool := PySem.W.mg_none_of X G z4
    b_enumerate := PySem.W.mg_none_of X G z5
    b_int := PySem.W.mg_none_of X G z6
    b_isinstance := PySem.W.mg_none_of X G z7
    b_len := PySem.W.mg_none_of X G z8
    b_list := PySem.W.mg_none_of X G z9
    b_ord := PySem.W.mg_none_of X G z10
    b_range := PySem.W.mg_none_of X G z11
    b_repr := PySem.W.mg_none_of X G z12
    b_set := PySem.W.mg_none_of X G z13
    b_str := PySem.W.mg_none_of X G z14
    b_tuple := PySem.W.mg_none_of X G z15
    b_zip := PySem.W.mg_none_of X G z16
    t_DEEP := t17
    g_DEEP := PySem.W.mg_of X G z17
    t_HIGHEST := t18
    g_HIGHEST := PySem.W.mg_of X G z18
    t_ID := t19
    g_ID := PySem.W.mg_of X G z19
    t_LONGEST := t20
    g_LONGEST := PySem.W.mg_of X G z20
    t_MOST := t21
    g_MOST := PySem.W.mg_of X G z21
    t_NAME := t22
    g_NAME := PySem.W.mg_of X G z22
    t_NAMES := t23
    g_NAMES := PySem.W.mg_of X G z23
    t_PATHS := t24
    g_PATHS := PySem.W.mg_of X G z24
    t_SIGNS := t25
    g_SIGNS := PySem.W.mg_of X G z25
    t_SMALL := t26
    g_SMALL := PySem.W.mg_of X G z26
    a_is_whole := y27
    fd_is_whole := f27
    F_is_whole := x27
    B_is_whole := w27
    m_is_whole := PySem.W.mg_of X G v27
    a_is_tuple_of := y28
    fd_is_tuple_of := f28
    F_is_tuple_of := x28
    B_is_tuple_of := w28
    m_is_tuple_of := PySem.W.mg_of X G v28
    a_is_name := y29
    fd_is_name := f29
    F_is_name := x29
    B_is_name := w29
    m_is_name := PySem.W.mg_of X G v29
    a_is_text_sign := y30
    fd_is_text_sign := f30
    F_is_text_sign := x30
    B_is_text_sign := w30
    m_is_text_sign := PySem.W.mg_of X G v30
    a_fits_plain := y31
    fd_fits_plain := f31
    F_fits_plain := x31
    B_fits_plain := w31
    m_fits_plain := PySem.W.mg_of X G v31
    a_is_knot := y32
    fd_is_knot := f32
    F_is_knot := x32
    B_is_knot := w32
    m_is_knot := PySem.W.mg_of X G v32
    a_fits_fields := y33
    fd_fits_fields := f33
    F_fits_fields := x33
    B_fits_fields := w33
    m_fits_fields := PySem.W.mg_of X G v33
    a_inner_of := y34
    fd_inner_of := f34
    F_inner_of := x34
    B_inner_of := w34
    m_inner_of := PySem.W.mg_of X G v34
    a_fits_value := y35
    fd_fits_value := f35
    F_fits_value := x35
    B_fits_value := w35
    m_fits_value := PySem.W.mg_of X G v35
    a_is_doc := y36
    fd_is_doc := f36
    F_is_doc := x36
    B_is_doc := w36
    m_is_doc := PySem.W.mg_of X G v36
    a_need_document := y37
    fd_need_document := f37
    F_need_document := x37
    B_need_document := w37
    m_need_document := PySem.W.mg_of X G v37
    a_are_apart := y38
    fd_are_apart := f38
    F_are_apart := x38
    B_are_apart := w38
    m_are_apart := PySem.W.mg_of X G v38
    a_fits_shape := y39
    fd_fits_shape := f39
    F_fits_shape := x39
    B_fits_shape := w39
    m_fits_shape := PySem.W.mg_of X G v39
    a_rests_of := y40
    fd_rests_of := f40
    F_rests_of := x40
    B_rests_of := w40
    m_rests_of := PySem.W.mg_of X G v40
    a_kept_fields := y41
    fd_kept_fields := f41
    F_kept_fields := x41
    B_kept_fields := w41
    m_kept_fields := PySem.W.mg_of X G v41
    a_kept_value := y42
    fd_kept_value := f42
    F_kept_value := x42
    B_kept_value := w42
    m_kept_value := PySem.W.mg_of X G v42
    a_left_fields := y43
    fd_left_fields := f43
    F_left_fields := x43
    B_left_fields := w43
    m_left_fields := PySem.W.mg_of X G v43
    a_left_value := y44
    fd_left_value := f44
    F_left_value := x44
    B_left_value := w44
    m_left_value := PySem.W.mg_of X G v44
    a_shaped_by := y45
    fd_shaped_by := f45
    F_shaped_by := x45
    B_shaped_by := w45
    m_shaped_by := PySem.W.mg_of X G v45
    a_shaped := y46
    fd_shaped := f46
    F_shaped := x46
    B_shaped := w46
    m_shaped := PySem.W.mg_of X G v46
    a__law_cup := y47
    fd__law_cup := f47
    F__law_cup := x47
    B__law_cup := w47
    m__law_cup := PySem.W.mg_of X G v47
    a__law_roll := y48
    fd__law_roll := f48
    F__law_roll := x48
    B__law_roll := w48
    m__law_roll := PySem.W.mg_of X G v48
    a__law_some := y49
    fd__law_some := f49
    F__law_some := x49
    B__law_some := w49
    m__law_some := PySem.W.mg_of X G v49
    a__law_value := y50
    fd__law_value := f50
    F__law_value := x50
    B__law_value := w50
    m__law_value := PySem.W.mg_of X G v50
    a__law_drawn_fields := y51
    fd__law_drawn_fields := f51
    F__law_drawn_fields := x51
    B__law_drawn_fields := w51
    m__law_drawn_fields := PySem.W.mg_of X G v51
    a__law_document := y52
    fd__law_document := f52
    F__law_document := x52
    B__law_document := w52
    m__law_document := PySem.W.mg_of X G v52
    a__law_shape := y53
    fd__law_shape := f53
    F__law_shape := x53
    B__law_shape := w53
    m__law_shape := PySem.W.mg_of X G v53
    a__law_rest := y54
    fd__law_rest := f54
    F__law_rest := x54
    B__law_rest := w54
    m__law_rest := PySem.W.mg_of X G v54
    a__law_kept := y55
    fd__law_kept := f55
    F__law_kept := x55
    B__law_kept := w55
    m__law_kept := PySem.W.mg_of X G v55
    a__law_dropped := y56
    fd__law_dropped := f56
    F__law_dropped := x56
    B__law_dropped := w56
    m__law_dropped := PySem.W.mg_of X G v56
    a__law_shaped := y57
    fd__law_shaped := f57
    F__law_shaped := x57
    B__law_shaped := w57
    m__law_shaped := PySem.W.mg_of X G v57
    a_law := y58
    fd_law := f58
    F_law := x58
    B_law := w58
    m_law := PySem.W.mg_of X G v58 }
  have e := m.m_law.symm.trans hfa
  injection e with e
  injection e with e
  subst e
  exact ⟨m.fd_law, fun _ => none, lawB, fun base _ _ => law_of (af m 60).g_law r_law⟩
end Lw
end

section
set_option maxRecDepth 100000
open PySem PySem.W PyProof.Rows
set_option maxHeartbeats 0 in
theorem PySem.Challenge.cw_documenthall_k20_whole_shapes_of_documen_holds : PySem.Challenge.rw_documenthall_k20_whole_shapes_of_documen.Holds := by
  w_on; o_law; k_head; (case hw => w_witness2)
  k_fill
  refine PV.walk_G (l := PySem.Challenge.rw_documenthall_k20_whole_shapes_of_documen) (n := 63) (k := 60) (x := "script") rfl (by decide) rfl ⟨rfl, by decide, by decide⟩ (fun w h Y => PySem.W.kIn_of Y) ?F
  case F =>
    intro w mg fa h KX G hmg
    refine ⟨?nl, ?_⟩
    case nl => first | exact rfl | kernel_rfl
    refine' Lw.fin KX G hmg ?z1 ?z2 ?z3 ?z4 ?z5 ?z6 ?z7 ?z8 ?z9 ?z10 ?z11 ?z12 ?z13 ?z14 ?z15 ?z16 ?z17 ?z18 ?z19 ?z20 ?z21 ?z22 ?z23 ?z24 ?z25 ?z26 (PV.defH_mk ?g27 ?l27 ?c27 ?k27 fun _ _ _ _ _ _ us hl => match us, hl with | [_, _, _], _ => rfl) (PV.defH_mk ?g28 ?l28 ?c28 ?k28 fun _ _ _ _ _ _ us hl => match us, hl with | [_, _, _], _ => rfl) (PV.defH_mk ?g29 ?l29 ?c29 ?k29 fun _ _ _ _ _ _ us hl => match us, hl with | [_], _ => rfl) (PV.defH_mk ?g30 ?l30 ?c30 ?k30 fun _ _ _ _ _ _ us hl => match us, hl with | [_], _ => rfl) (PV.defH_mk ?g31 ?l31 ?c31 ?k31 fun _ _ _ _ _ _ us hl => match us, hl with | [_], _ => rfl) (PV.defH_mk ?g32 ?l32 ?c32 ?k32 fun _ _ _ _ _ _ us hl => match us, hl with | [_], _ => rfl) (PV.defH_mk ?g33 ?l33 ?c33 ?k33 fun _ _ _ _ _ _ us hl => match us, hl with | [_], _ => rfl) (PV.defH_mk ?g34 ?l34 ?c34 ?k34 fun _ _ _ _ _ _ us hl => match us, hl with | [_], _ => rfl) (PV.defH_mk ?g35 ?l35 ?c35 ?k35 fun _ _ _ _ _ _ us hl => match us, hl with | [_], _ => rfl) (PV.defH_mk ?g36 ?l36 ?c36 ?k36 fun _ _ _ _ _ _ us hl => match us, hl with | [_], _ => rfl) (PV.defH_mk ?g37 ?l37 ?c37 ?k37 fun _ _ _ _ _ _ us hl => match us, hl with | [_], _ => rfl) (PV.defH_mk ?g38 ?l38 ?c38 ?k38 fun _ _ _ _ _ _ us hl => match us, hl with | [_, _], _ => rfl) (PV.defH_mk ?g39 ?l39 ?c39 ?k39 fun _ _ _ _ _ _ us hl => match us, hl with | [_], _ => rfl) (PV.defH_mk ?g40 ?l40 ?c40 ?k40 fun _ _ _ _ _ _ us hl => match us, hl with | [_, _], _ => rfl) (PV.defH_mk ?g41 ?l41 ?c41 ?k41 fun _ _ _ _ _ _ us hl => match us, hl with | [_, _], _ => rfl) (PV.defH_mk ?g42 ?l42 ?c42 ?k42 fun _ _ _ _ _ _ us hl => match us, hl with | [_, _], _ => rfl) (PV.defH_mk ?g43 ?l43 ?c43 ?k43 fun _ _ _ _ _ _ us hl => match us, hl with | [_, _], _ => rfl) (PV.defH_mk ?g44 ?l44 ?c44 ?k44 fun _ _ _ _ _ _ us hl => match us, hl with | [_, _], _ => rfl) (PV.defH_mk ?g45 ?l45 ?c45 ?k45 fun _ _ _ _ _ _ us hl => match us, hl with | [_, _], _ => rfl) (PV.defH_mk ?g46 ?l46 ?c46 ?k46 fun _ _ _ _ _ _ us hl => match us, hl with | [_, _], _ => rfl) (PV.defH_mk ?g47 ?l47 ?c47 ?k47 fun _ _ _ _ _ _ us hl => match us, hl with | [_], _ => rfl) (PV.defH_mk ?g48 ?l48 ?c48 ?k48 fun _ _ _ _ _ _ us hl => match us, hl with | [_, _], _ => rfl) (PV.defH_mk ?g49 ?l49 ?c49 ?k49 fun _ _ _ _ _ _ us hl => match us, hl with | [_, _], _ => rfl) (PV.defH_mk ?g50 ?l50 ?c50 ?k50 fun _ _ _ _ _ _ us hl => match us, hl with | [_, _], _ => rfl) (PV.defH_mk ?g51 ?l51 ?c51 ?k51 fun _ _ _ _ _ _ us hl => match us, hl with | [_, _, _], _ => rfl) (PV.defH_mk ?g52 ?l52 ?c52 ?k52 fun _ _ _ _ _ _ us hl => match us, hl with | [_, _], _ => rfl) (PV.defH_mk ?g53 ?l53 ?c53 ?k53 fun _ _ _ _ _ _ us hl => match us, hl with | [_], _ => rfl) (PV.defH_mk ?g54 ?l54 ?c54 ?k54 fun _ _ _ _ _ _ us hl => match us, hl with | [_, _], _ => rfl) (PV.defH_mk ?g55 ?l55 ?c55 ?k55 fun _ _ _ _ _ _ us hl => match us, hl with | [_, _], _ => rfl) (PV.defH_mk ?g56 ?l56 ?c56 ?k56 fun _ _ _ _ _ _ us hl => match us, hl with | [_, _], _ => rfl) (PV.defH_mk ?g57 ?l57 ?c57 ?k57 fun _ _ _ _ _ _ us hl => match us, hl with | [_, _], _ => rfl) (PV.lawH_mk ?g58 ?l58 ?c58 ?k58 fun _ _ _ _ _ _ us hl => match us, hl with | [_], _ => rfl)
    (case z1 => k_is); (case z2 => k_is); (case z3 => k_is); (case z4 => k_is); (case z5 => k_is); (case z6 => k_is); (case z7 => k_is); (case z8 => k_is); (case z9 => k_is); (case z10 => k_is); (case z11 => k_is); (case z12 => k_is); (case z13 => k_is); (case z14 => k_is); (case z15 => k_is); (case z16 => k_is); (case z17 => k_is); (case z18 => k_is); (case z19 => k_is); (case z20 => k_is); (case z21 => k_is); (case z22 => k_is); (case z23 => k_is); (case z24 => k_is); (case z25 => k_is); (case z26 => k_is); (case g27 => k_is); (case l27 => k_is); (case c27 => k_is); (case k27 => k_is); (case g28 => k_is); (case l28 => k_is); (case c28 => k_is); (case k28 => k_is); (case g29 => k_is); (case l29 => k_is); (case c29 => k_is); (case k29 => k_is); (case g30 => k_is); (case l30 => k_is); (case c30 => k_is); (case k30 => k_is); (case g31 => k_is); (case l31 => k_is); (case c31 => k_is); (case k31 => k_is); (case g32 => k_is); (case l32 => k_is); (case c32 => k_is); (case k32 => k_is); (case g33 => k_is); (case l33 => k_is); (case c33 => k_is); (case k33 => k_is); (case g34 => k_is); (case l34 => k_is); (case c34 => k_is); (case k34 => k_is); (case g35 => k_is); (case l35 => k_is); (case c35 => k_is); (case k35 => k_is); (case g36 => k_is); (case l36 => k_is); (case c36 => k_is); (case k36 => k_is); (case g37 => k_is); (case l37 => k_is); (case c37 => k_is); (case k37 => k_is); (case g38 => k_is); (case l38 => k_is); (case c38 => k_is); (case k38 => k_is); (case g39 => k_is); (case l39 => k_is); (case c39 => k_is); (case k39 => k_is); (case g40 => k_is); (case l40 => k_is); (case c40 => k_is); (case k40 => k_is); (case g41 => k_is); (case l41 => k_is); (case c41 => k_is); (case k41 => k_is); (case g42 => k_is); (case l42 => k_is); (case c42 => k_is); (case k42 => k_is); (case g43 => k_is); (case l43 => k_is); (case c43 => k_is); (case k43 => k_is); (case g44 => k_is); (case l44 => k_is); (case c44 => k_is); (case k44 => k_is); (case g45 => k_is); (case l45 => k_is); (case c45 => k_is); (case k45 => k_is); (case g46 => k_is); (case l46 => k_is); (case c46 => k_is); (case k46 => k_is); (case g47 => k_is); (case l47 => k_is); (case c47 => k_is); (case k47 => k_is); (case g48 => k_is); (case l48 => k_is); (case c48 => k_is); (case k48 => k_is); (case g49 => k_is); (case l49 => k_is); (case c49 => k_is); (case k49 => k_is); (case g50 => k_is); (case l50 => k_is); (case c50 => k_is); (case k50 => k_is); (case g51 => k_is); (case l51 => k_is); (case c51 => k_is); (case k51 => k_is); (case g52 => k_is); (case l52 => k_is); (case c52 => k_is); (case k52 => k_is); (case g53 => k_is); (case l53 => k_is); (case c53 => k_is); (case k53 => k_is); (case g54 => k_is); (case l54 => k_is); (case c54 => k_is); (case k54 => k_is); (case g55 => k_is); (case l55 => k_is); (case c55 => k_is); (case k55 => k_is); (case g56 => k_is); (case l56 => k_is); (case c56 => k_is); (case k56 => k_is); (case g57 => k_is); (case l57 => k_is); (case c57 => k_is); (case k57 => k_is); (case g58 => k_is); (case l58 => k_is); (case c58 => k_is); (case k58 => k_is)
end
