import PyProof.Rows.All
import Wide.All
import OpenK.AllK
import Wide.FinOn
import HandS.ForMost
import HandS.Exc
import HandS.ExcOwn
import HandS.TryMany
import HandS.WordsExc
import HandS.Defaults
import HandS.Property
import HandS.Deep
import HandS.TupAny
import HandS.NoneIn
import HandS.Flow
import HandS.Style
import HandS.Walk
import HandS.MakeKwOnly
import HandS.SetFor
import HandS.More
import HandS.IsInst
import HandS.Strs
import HandS.Conv
import HandS.SortInts
import HandS.TupLen
import HandS.WordsDict
import HandS.Text
import HandS.RaiseMore
import PyProof.StrOps2
import HandS.Head0
import HandS.Head1
import HandS.Head2
import HandS.HeadEnd
import HandS.HeadHook1
import HandS.HeadHook2
import HandS.HeadHook3
import HandS.HeadHook4
import KE.GoesEnum
import HandS.Star
import KE.KUnpackStar
import HandS.DictComp
import HandS.Small
import HandS.ExcIs
import HandS.ExcField
import HandS.TryElse
import HandS.ExcInit
import KE.KExcSuper
import HandS.ExcSuper
import HandS.HotCalls
import HandS.Iter
import HandS.Codes
import PySem.Challenge.RW_whoevermay_k61_words_of_goals
set_option Elab.async false
set_option linter.all false
set_option maxRecDepth 100000
set_option synthInstance.maxSize 2000
set_option maxHeartbeats 4000000
namespace PD
open PySem L2

/-- imm: never changes; bor: borrowed, read only; own: ours, may change; frz: the script -/
inductive Fl where
  | imm | bor | own | frz
  deriving DecidableEq

inductive D where
  | non | bl (b : Bool) | int (i : Int) | str (s : Str)
  | tup (xs : List D)
  | ktup (xs : List D)   -- a tuple of the module's text
  | lst (f : Fl) (xs : List D)
  | dk (f : Fl) (ks : List Key) (vs : List D)
  | dt (f : Fl) (ks : List (List Key)) (vs : List D)
  | obj (f : Fl) (c : Nat) (ns : List Nat) (vs : List D)

mutual
/-- all marks imm -/
def D.imm : D → Bool
  | .tup xs => immL xs
  | .ktup xs => immL xs
  | .lst f xs => decide (f = .imm) && immL xs
  | .dk f _ vs => decide (f = .imm) && immL vs
  | .dt f _ vs => decide (f = .imm) && immL vs
  | .obj f _ _ vs => decide (f = .imm) && immL vs
  | _ => true
def immL : List D → Bool
  | [] => true
  | d :: ds => d.imm && immL ds
end
mutual
/-- no mark own -/
def D.noOwn : D → Bool
  | .tup xs => noOwnL xs
  | .ktup xs => noOwnL xs
  | .lst f xs => decide (f ≠ .own) && noOwnL xs
  | .dk f _ vs => decide (f ≠ .own) && noOwnL vs
  | .dt f _ vs => decide (f ≠ .own) && noOwnL vs
  | .obj f _ _ vs => decide (f ≠ .own) && noOwnL vs
  | _ => true
def noOwnL : List D → Bool
  | [] => true
  | d :: ds => d.noOwn && noOwnL ds
end
/-- own becomes imm -/
def Fl.fr : Fl → Fl
  | .own => .imm
  | f => f
/-- own becomes bor -/
def Fl.dm : Fl → Fl
  | .own => .bor
  | f => f
mutual
def D.fr : D → D
  | .tup xs => .tup (frL xs)
  | .ktup xs => .ktup (frL xs)
  | .lst f xs => .lst f.fr (frL xs)
  | .dk f ks vs => .dk f.fr ks (frL vs)
  | .dt f ks vs => .dt f.fr ks (frL vs)
  | .obj f c ns vs => .obj f.fr c ns (frL vs)
  | d => d
def frL : List D → List D
  | [] => []
  | d :: ds => d.fr :: frL ds
end
mutual
def D.dm : D → D
  | .tup xs => .tup (dmL xs)
  | .ktup xs => .ktup (dmL xs)
  | .lst f xs => .lst f.dm (dmL xs)
  | .dk f ks vs => .dk f.dm ks (dmL vs)
  | .dt f ks vs => .dt f.dm ks (dmL vs)
  | .obj f c ns vs => .obj f.dm c ns (dmL vs)
  | d => d
def dmL : List D → List D
  | [] => []
  | d :: ds => d.dm :: dmL ds
end
theorem immL_eq : ∀ xs : List D, immL xs = xs.all D.imm
  | [] => rfl
  | d :: ds => by simp only [immL, List.all_cons, immL_eq ds]
theorem noOwnL_eq : ∀ xs : List D, noOwnL xs = xs.all D.noOwn
  | [] => rfl
  | d :: ds => by simp only [noOwnL, List.all_cons, noOwnL_eq ds]
theorem frL_eq : ∀ xs : List D, frL xs = xs.map D.fr
  | [] => rfl
  | d :: ds => by simp only [frL, List.map_cons, frL_eq ds]
theorem dmL_eq : ∀ xs : List D, dmL xs = xs.map D.dm
  | [] => rfl
  | d :: ds => by simp only [dmL, List.map_cons, dmL_eq ds]


theorem Fl.fr_fr (f : Fl) : f.fr.fr = f.fr := by cases f <;> rfl
mutual
theorem fr_fr : ∀ d : D, d.fr.fr = d.fr
  | .non => rfl
  | .bl _ => rfl
  | .int _ => rfl
  | .str _ => rfl
  | .tup xs => by simp only [D.fr, frL_frL xs]
  | .ktup xs => by simp only [D.fr, frL_frL xs]
  | .lst f xs => by simp only [D.fr, frL_frL xs, Fl.fr_fr]
  | .dk f ks xs => by simp only [D.fr, frL_frL xs, Fl.fr_fr]
  | .dt f ks xs => by simp only [D.fr, frL_frL xs, Fl.fr_fr]
  | .obj f c ns xs => by simp only [D.fr, frL_frL xs, Fl.fr_fr]
theorem frL_frL : ∀ xs : List D, frL (frL xs) = frL xs
  | [] => rfl
  | d :: ds => by simp only [frL, fr_fr d, frL_frL ds]
end

/-- an exception of the program: its class, its fields -/
structure Exc where
  c : Nat
  ns : List Nat
  vs : List D
inductive Res (α : Type) where
  | ok (a : α)
  | ex (e : Exc)
  | bad
@[reducible] def Res.bind {α β : Type} (r : Res α) (f : α → Res β) : Res β := match r with
  | .ok a => f a
  | .ex e => .ex e
  | .bad => .bad
instance : Monad Res where
  pure := .ok
  bind := Res.bind
@[simp] theorem res_bind_ok {α β : Type} (a : α) (f : α → Res β) : (Res.ok a >>= f) = f a := rfl
@[simp] theorem res_bind_ex {α β : Type} (e : Exc) (f : α → Res β) : (Res.ex e >>= f) = .ex e := rfl
@[simp] theorem res_bind_bad {α β : Type} (f : α → Res β) : (Res.bad >>= f) = .bad := rfl
@[simp] theorem res_pure {α : Type} (a : α) : (pure a : Res α) = .ok a := rfl
abbrev Env := List (Option D)
inductive Out where
  | nx (E : Env)
  | rt (d : D) (E : Env)
  | bk (E : Env)
  | ct (E : Env)
  | ex (e : Exc) (E : Env)
  | bad
/-- what an expression that may change something gives -/
inductive MRes where
  | ok (d : D) (E : Env)
  | ex (e : Exc) (E : Env)
  | bad
end PD
namespace PD
open PySem L2

abbrev AS := Addr → Prop
/-- the classes' places, the attributes' names by number -/
structure Tb where
  cl : Nat → Addr
  nm : Nat → Str
  inj : ∀ i j, nm i = nm j → i = j
abbrev none_ : AS := fun _ => False
def KL (K : PySem.W.Frag) (a : Addr) (xs : List V) : Prop := ∃ (o : Obj) (its : Array Value) (n : Nat), K.lookup a = some o ∧ o.cls = .type "list" ∧ o.dict = none ∧ o.data = .seq its n ∧ its.size ≤ sizeLine ∧ Vals xs its.toList
def KT (K : PySem.W.Frag) (a : Addr) (xs : List V) : Prop := ∃ (o : Obj) (its : Array Value) (n : Nat), K.lookup a = some o ∧ o.cls = .type "tuple" ∧ o.data = .seq its n ∧ its.size ≤ sizeLine ∧ Vals xs its.toList
def Cell (H : Hp) (I M F : AS) (f : Fl) (p : Addr) (o : HO) : Prop := match f with
  | .imm => H p = some o ∧ ¬ I p
  | .bor => H p = some o ∧ ¬ M p
  | .own => H p = some o ∧ F p
  | .frz => Rd H p o ∧ ¬ I p
/-- what is left for the parts -/
def sub (F : AS) (f : Fl) (p : Addr) : AS := match f with
  | .own => fun a => F a ∧ a ≠ p
  | _ => none_
section
variable (K : PySem.W.Frag) (cl : Tb) (H : Hp) (I M : AS)
mutual
def Rep : D → V → AS → Prop
  | .non, v, _ => v = .non
  | .bl b, v, _ => v = .bl b
  | .int i, v, _ => v = .int i
  | .str s, v, _ => v = .str s
  | .tup xs, v, _ => ∃ p vs, v = .ref p ∧ (H p = some (.tup vs) ∧ ¬ I p) ∧ RepL xs vs none_
  | .ktup xs, v, _ => ∃ p vs, v = .ref p ∧ KT K p vs ∧ RepL xs vs none_
  | .lst f xs, v, F => ∃ p vs, v = .ref p ∧ (Cell H I M F f p (.lst vs) ∨ (f = .frz ∧ KL K p vs)) ∧ RepL xs vs (sub F f p)
  | .dk f ks xs, v, F => ∃ p vs, v = .ref p ∧ ks.length = xs.length ∧ Cell H I M F f p (.dK (ks.zip vs)) ∧ RepL xs vs (sub F f p)
  | .dt f ks xs, v, F => ∃ p vs, v = .ref p ∧ ks.length = xs.length ∧ Cell H I M F f p (.dT (ks.zip vs)) ∧ RepL xs vs (sub F f p)
  | .obj f c ns xs, v, F => ∃ p dx vs, v = .ref p ∧ ns.length = xs.length ∧ Cell H I M F f p (.ins (cl.cl c) dx ((ns.map cl.nm).zip vs)) ∧ RepL xs vs (sub F f p)
def RepL : List D → List V → AS → Prop
  | [], vs, _ => vs = []
  | d :: ds, vs, F => ∃ v ws F1 F2, vs = v :: ws ∧ Rep d v F1 ∧ RepL ds ws F2 ∧ (∀ a, F1 a → F a) ∧ (∀ a, F2 a → F a) ∧ (∀ a, F1 a → ¬ F2 a)
end
end
section
variable {K : PySem.W.Frag} {cl : Tb} {H H' : Hp} {I I' M M' F F' : AS}
theorem cell_mono {f : Fl} {p : Addr} {o : HO} (h1 : ∀ a o, H a = some o → ¬ I a → H' a = some o ∧ ¬ I' a) (h2 : ∀ a o, H a = some o → ¬ M a → H' a = some o ∧ ¬ M' a) (h3 : ∀ a o, H a = some o → F a → H' a = some o) (hF : ∀ a, F a → F' a)
    (c : Cell H I M F f p o) : Cell H' I' M' F' f p o := by
  cases f with
  | imm => exact ⟨(h1 _ _ c.1 c.2).1, (h1 _ _ c.1 c.2).2⟩
  | bor => exact ⟨(h2 _ _ c.1 c.2).1, (h2 _ _ c.1 c.2).2⟩
  | own => exact ⟨h3 _ _ c.1 c.2, hF _ c.2⟩
  | frz =>
    obtain ⟨r, n⟩ := c
    rcases r with r | ⟨ob, r⟩
    · exact ⟨.inl (h1 _ _ r n).1, (h1 _ _ r n).2⟩
    · exact ⟨.inr ⟨ob, (h1 _ _ r n).1⟩, (h1 _ _ r n).2⟩
theorem sub_mono {f : Fl} {p : Addr} (hF : ∀ a, F a → F' a) : ∀ a, sub F f p a → sub F' f p a := by
  intro a h
  cases f with
  | own => exact ⟨hF _ h.1, h.2⟩
  | _ => exact h
theorem sub_le {f : Fl} {p : Addr} : ∀ a, sub F f p a → F a := by
  intro a h
  cases f with
  | own => exact h.1
  | _ => exact h.elim

mutual
theorem Rep.mono (h1 : ∀ a o, H a = some o → ¬ I a → H' a = some o ∧ ¬ I' a) (h2 : ∀ a o, H a = some o → ¬ M a → H' a = some o ∧ ¬ M' a) : ∀ (d : D) (v : V) (F F' : AS), (∀ a o, H a = some o → F a → H' a = some o) → (∀ a, F a → F' a) → Rep K cl H I M d v F → Rep K cl H' I' M' d v F'
  | .non, _, _, _, _, _, h => h
  | .bl _, _, _, _, _, _, h => h
  | .int _, _, _, _, _, _, h => h
  | .str _, _, _, _, _, _, h => h
  | .tup xs, v, F, F', h3, hF, h => by
    obtain ⟨p, vs, e, c, r⟩ := h
    exact ⟨p, vs, e, h1 _ _ c.1 c.2, RepL.mono h1 h2 xs vs none_ none_ (fun _ _ _ z => z.elim) (fun _ z => z) r⟩
  | .ktup xs, v, F, F', h3, hF, h => by
    obtain ⟨p, vs, e, c, r⟩ := h
    exact ⟨p, vs, e, c, RepL.mono h1 h2 xs vs none_ none_ (fun _ _ _ z => z.elim) (fun _ z => z) r⟩
  | .lst f xs, v, F, F', h3, hF, h => by
    obtain ⟨p, vs, e, c, r⟩ := h
    refine ⟨p, vs, e, ?_, RepL.mono h1 h2 xs vs _ _ (fun a o q z => h3 a o q (sub_le a z)) (sub_mono hF) r⟩
    rcases c with c | c
    · exact .inl (cell_mono h1 h2 h3 hF c)
    · exact .inr c
  | .dk f ks xs, v, F, F', h3, hF, h => by
    obtain ⟨p, vs, e, l, c, r⟩ := h
    exact ⟨p, vs, e, l, cell_mono h1 h2 h3 hF c, RepL.mono h1 h2 xs vs _ _ (fun a o q z => h3 a o q (sub_le a z)) (sub_mono hF) r⟩
  | .dt f ks xs, v, F, F', h3, hF, h => by
    obtain ⟨p, vs, e, l, c, r⟩ := h
    exact ⟨p, vs, e, l, cell_mono h1 h2 h3 hF c, RepL.mono h1 h2 xs vs _ _ (fun a o q z => h3 a o q (sub_le a z)) (sub_mono hF) r⟩
  | .obj f c ns xs, v, F, F', h3, hF, h => by
    obtain ⟨p, dx, vs, e, l, c, r⟩ := h
    exact ⟨p, dx, vs, e, l, cell_mono h1 h2 h3 hF c, RepL.mono h1 h2 xs vs _ _ (fun a o q z => h3 a o q (sub_le a z)) (sub_mono hF) r⟩
theorem RepL.mono (h1 : ∀ a o, H a = some o → ¬ I a → H' a = some o ∧ ¬ I' a) (h2 : ∀ a o, H a = some o → ¬ M a → H' a = some o ∧ ¬ M' a) : ∀ (xs : List D) (vs : List V) (F F' : AS), (∀ a o, H a = some o → F a → H' a = some o) → (∀ a, F a → F' a) → RepL K cl H I M xs vs F → RepL K cl H' I' M' xs vs F'
  | [], _, _, _, _, _, h => h
  | d :: ds, vs, F, F', h3, hF, h => by
    obtain ⟨v, ws, F1, F2, e, r1, r2, a1, a2, a3⟩ := h
    exact ⟨v, ws, F1, F2, e, Rep.mono h1 h2 d v F1 F1 (fun a o q z => h3 a o q (a1 a z)) (fun _ z => z) r1, RepL.mono h1 h2 ds ws F2 F2 (fun a o q z => h3 a o q (a2 a z)) (fun _ z => z) r2, fun a z => hF a (a1 a z), fun a z => hF a (a2 a z), a3⟩
end
theorem cell_noOwn {f : Fl} {p : Addr} {o : HO} (h : f ≠ .own) (c : Cell H I M F f p o) : Cell H I M F' f p o := by
  cases f with
  | own => exact absurd rfl h
  | _ => exact c
mutual
theorem Rep.noOwn : ∀ (d : D) (v : V) (F F' : AS), d.noOwn = true → Rep K cl H I M d v F → Rep K cl H I M d v F'
  | .non, _, _, _, _, h => h
  | .bl _, _, _, _, _, h => h
  | .int _, _, _, _, _, h => h
  | .str _, _, _, _, _, h => h
  | .tup xs, v, F, F', _, h => h
  | .ktup xs, v, F, F', _, h => h
  | .lst f xs, v, F, F', n, h => by
    simp only [D.noOwn, Bool.and_eq_true, decide_eq_true_eq] at n
    obtain ⟨p, vs, e, c, r⟩ := h
    refine ⟨p, vs, e, ?_, RepL.noOwn xs vs _ _ n.2 r⟩
    rcases c with c | c
    · exact .inl (cell_noOwn n.1 c)
    · exact .inr c
  | .dk f ks xs, v, F, F', n, h => by
    simp only [D.noOwn, Bool.and_eq_true, decide_eq_true_eq] at n
    obtain ⟨p, vs, e, l, c, r⟩ := h
    exact ⟨p, vs, e, l, cell_noOwn n.1 c, RepL.noOwn xs vs _ _ n.2 r⟩
  | .dt f ks xs, v, F, F', n, h => by
    simp only [D.noOwn, Bool.and_eq_true, decide_eq_true_eq] at n
    obtain ⟨p, vs, e, l, c, r⟩ := h
    exact ⟨p, vs, e, l, cell_noOwn n.1 c, RepL.noOwn xs vs _ _ n.2 r⟩
  | .obj f c ns xs, v, F, F', n, h => by
    simp only [D.noOwn, Bool.and_eq_true, decide_eq_true_eq] at n
    obtain ⟨p, dx, vs, e, l, c, r⟩ := h
    exact ⟨p, dx, vs, e, l, cell_noOwn n.1 c, RepL.noOwn xs vs _ _ n.2 r⟩
theorem RepL.noOwn : ∀ (xs : List D) (vs : List V) (F F' : AS), noOwnL xs = true → RepL K cl H I M xs vs F → RepL K cl H I M xs vs F'
  | [], _, _, _, _, h => h
  | d :: ds, vs, F, F', n, h => by
    simp only [noOwnL, Bool.and_eq_true] at n
    obtain ⟨v, ws, F1, F2, e, r1, r2, a1, a2, a3⟩ := h
    exact ⟨v, ws, none_, none_, e, Rep.noOwn d v F1 none_ n.1 r1, RepL.noOwn ds ws F2 none_ n.2 r2, fun _ z => z.elim, fun _ z => z.elim, fun _ z => z.elim⟩
end
/-- imm: nothing borrowed either -/
theorem cell_imm {f : Fl} {p : Addr} {o : HO} (h : f = .imm) (c : Cell H I M F f p o) : Cell H I M' F' f p o := by
  subst h
  exact c
mutual
theorem Rep.imm : ∀ (d : D) (v : V) (F F' : AS), d.imm = true → Rep K cl H I M d v F → Rep K cl H I M' d v F'
  | .non, _, _, _, _, h => h
  | .bl _, _, _, _, _, h => h
  | .int _, _, _, _, _, h => h
  | .str _, _, _, _, _, h => h
  | .tup xs, v, F, F', n, h => by
    simp only [D.imm] at n
    obtain ⟨p, vs, e, c, r⟩ := h
    exact ⟨p, vs, e, c, RepL.imm xs vs _ _ n r⟩
  | .ktup xs, v, F, F', n, h => by
    simp only [D.imm] at n
    obtain ⟨p, vs, e, c, r⟩ := h
    exact ⟨p, vs, e, c, RepL.imm xs vs _ _ n r⟩
  | .lst f xs, v, F, F', n, h => by
    simp only [D.imm, Bool.and_eq_true, decide_eq_true_eq] at n
    obtain ⟨p, vs, e, c, r⟩ := h
    refine ⟨p, vs, e, ?_, RepL.imm xs vs _ _ n.2 r⟩
    rcases c with c | c
    · exact .inl (cell_imm n.1 c)
    · exact .inr c
  | .dk f ks xs, v, F, F', n, h => by
    simp only [D.imm, Bool.and_eq_true, decide_eq_true_eq] at n
    obtain ⟨p, vs, e, l, c, r⟩ := h
    exact ⟨p, vs, e, l, cell_imm n.1 c, RepL.imm xs vs _ _ n.2 r⟩
  | .dt f ks xs, v, F, F', n, h => by
    simp only [D.imm, Bool.and_eq_true, decide_eq_true_eq] at n
    obtain ⟨p, vs, e, l, c, r⟩ := h
    exact ⟨p, vs, e, l, cell_imm n.1 c, RepL.imm xs vs _ _ n.2 r⟩
  | .obj f c ns xs, v, F, F', n, h => by
    simp only [D.imm, Bool.and_eq_true, decide_eq_true_eq] at n
    obtain ⟨p, dx, vs, e, l, c, r⟩ := h
    exact ⟨p, dx, vs, e, l, cell_imm n.1 c, RepL.imm xs vs _ _ n.2 r⟩
theorem RepL.imm : ∀ (xs : List D) (vs : List V) (F F' : AS), immL xs = true → RepL K cl H I M xs vs F → RepL K cl H I M' xs vs F'
  | [], _, _, _, _, h => h
  | d :: ds, vs, F, F', n, h => by
    simp only [immL, Bool.and_eq_true] at n
    obtain ⟨v, ws, F1, F2, e, r1, r2, a1, a2, a3⟩ := h
    exact ⟨v, ws, none_, none_, e, Rep.imm d v F1 none_ n.1 r1, RepL.imm ds ws F2 none_ n.2 r2, fun _ z => z.elim, fun _ z => z.elim, fun _ z => z.elim⟩
end
/-- own becomes imm -/
theorem cell_fr {f : Fl} {p : Addr} {o : HO} (h1 : ∀ a, I' a → I a) (h3 : ∀ a, F a → ¬ I' a) (c : Cell H I M F f p o) : Cell H I' M none_ f.fr p o := by
  cases f with
  | imm => exact ⟨c.1, fun z => c.2 (h1 _ z)⟩
  | bor => exact c
  | own => exact ⟨c.1, h3 _ c.2⟩
  | frz => exact ⟨c.1, fun z => c.2 (h1 _ z)⟩
theorem sub_fr {f : Fl} {p : Addr} : sub none_ f.fr p = none_ := by cases f <;> rfl
mutual
theorem Rep.fr (h1 : ∀ a, I' a → I a) : ∀ (d : D) (v : V) (F : AS), (∀ a, F a → ¬ I' a) → Rep K cl H I M d v F → Rep K cl H I' M d.fr v none_
  | .non, _, _, _, h => h
  | .bl _, _, _, _, h => h
  | .int _, _, _, _, h => h
  | .str _, _, _, _, h => h
  | .tup xs, v, F, h3, h => by
    obtain ⟨p, vs, e, c, r⟩ := h
    exact ⟨p, vs, e, ⟨c.1, fun z => c.2 (h1 _ z)⟩, RepL.fr h1 xs vs _ (fun _ z => z.elim) r⟩
  | .ktup xs, v, F, h3, h => by
    obtain ⟨p, vs, e, c, r⟩ := h
    exact ⟨p, vs, e, c, RepL.fr h1 xs vs _ (fun _ z => z.elim) r⟩
  | .lst f xs, v, F, h3, h => by
    obtain ⟨p, vs, e, c, r⟩ := h
    refine ⟨p, vs, e, ?_, by rw [sub_fr]; exact RepL.fr h1 xs vs _ (fun a z => h3 a (sub_le a z)) r⟩
    rcases c with c | ⟨c1, c2⟩
    · exact .inl (cell_fr h1 h3 c)
    · exact .inr ⟨by rw [c1]; rfl, c2⟩
  | .dk f ks xs, v, F, h3, h => by
    obtain ⟨p, vs, e, l, c, r⟩ := h
    exact ⟨p, vs, e, by rw [frL_eq, List.length_map]; exact l, cell_fr h1 h3 c, by rw [sub_fr]; exact RepL.fr h1 xs vs _ (fun a z => h3 a (sub_le a z)) r⟩
  | .dt f ks xs, v, F, h3, h => by
    obtain ⟨p, vs, e, l, c, r⟩ := h
    exact ⟨p, vs, e, by rw [frL_eq, List.length_map]; exact l, cell_fr h1 h3 c, by rw [sub_fr]; exact RepL.fr h1 xs vs _ (fun a z => h3 a (sub_le a z)) r⟩
  | .obj f c ns xs, v, F, h3, h => by
    obtain ⟨p, dx, vs, e, l, c, r⟩ := h
    exact ⟨p, dx, vs, e, by rw [frL_eq, List.length_map]; exact l, cell_fr h1 h3 c, by rw [sub_fr]; exact RepL.fr h1 xs vs _ (fun a z => h3 a (sub_le a z)) r⟩
theorem RepL.fr (h1 : ∀ a, I' a → I a) : ∀ (xs : List D) (vs : List V) (F : AS), (∀ a, F a → ¬ I' a) → RepL K cl H I M xs vs F → RepL K cl H I' M (frL xs) vs none_
  | [], _, _, _, h => h
  | d :: ds, vs, F, h3, h => by
    obtain ⟨v, ws, F1, F2, e, r1, r2, a1, a2, a3⟩ := h
    exact ⟨v, ws, none_, none_, e, Rep.fr h1 d v F1 (fun a z => h3 a (a1 a z)) r1, RepL.fr h1 ds ws F2 (fun a z => h3 a (a2 a z)) r2, fun _ z => z.elim, fun _ z => z.elim, fun _ z => z.elim⟩
end
/-- own becomes bor -/
theorem cell_dm {f : Fl} {p : Addr} {o : HO} (h1 : ∀ a, I' a → I a) (h2 : ∀ a, M' a → M a) (h3 : ∀ a, F a → ¬ M' a) (c : Cell H I M F f p o) : Cell H I' M' none_ f.dm p o := by
  cases f with
  | imm => exact ⟨c.1, fun z => c.2 (h1 _ z)⟩
  | bor => exact ⟨c.1, fun z => c.2 (h2 _ z)⟩
  | own => exact ⟨c.1, h3 _ c.2⟩
  | frz => exact ⟨c.1, fun z => c.2 (h1 _ z)⟩
theorem sub_dm {f : Fl} {p : Addr} : sub none_ f.dm p = none_ := by cases f <;> rfl
mutual
theorem Rep.dm (h1 : ∀ a, I' a → I a) (h2 : ∀ a, M' a → M a) : ∀ (d : D) (v : V) (F : AS), (∀ a, F a → ¬ M' a) → Rep K cl H I M d v F → Rep K cl H I' M' d.dm v none_
  | .non, _, _, _, h => h
  | .bl _, _, _, _, h => h
  | .int _, _, _, _, h => h
  | .str _, _, _, _, h => h
  | .tup xs, v, F, h3, h => by
    obtain ⟨p, vs, e, c, r⟩ := h
    exact ⟨p, vs, e, ⟨c.1, fun z => c.2 (h1 _ z)⟩, RepL.dm h1 h2 xs vs _ (fun _ z => z.elim) r⟩
  | .ktup xs, v, F, h3, h => by
    obtain ⟨p, vs, e, c, r⟩ := h
    exact ⟨p, vs, e, c, RepL.dm h1 h2 xs vs _ (fun _ z => z.elim) r⟩
  | .lst f xs, v, F, h3, h => by
    obtain ⟨p, vs, e, c, r⟩ := h
    refine ⟨p, vs, e, ?_, by rw [sub_dm]; exact RepL.dm h1 h2 xs vs _ (fun a z => h3 a (sub_le a z)) r⟩
    rcases c with c | ⟨c1, c2⟩
    · exact .inl (cell_dm h1 h2 h3 c)
    · exact .inr ⟨by rw [c1]; rfl, c2⟩
  | .dk f ks xs, v, F, h3, h => by
    obtain ⟨p, vs, e, l, c, r⟩ := h
    exact ⟨p, vs, e, by rw [dmL_eq, List.length_map]; exact l, cell_dm h1 h2 h3 c, by rw [sub_dm]; exact RepL.dm h1 h2 xs vs _ (fun a z => h3 a (sub_le a z)) r⟩
  | .dt f ks xs, v, F, h3, h => by
    obtain ⟨p, vs, e, l, c, r⟩ := h
    exact ⟨p, vs, e, by rw [dmL_eq, List.length_map]; exact l, cell_dm h1 h2 h3 c, by rw [sub_dm]; exact RepL.dm h1 h2 xs vs _ (fun a z => h3 a (sub_le a z)) r⟩
  | .obj f c ns xs, v, F, h3, h => by
    obtain ⟨p, dx, vs, e, l, c, r⟩ := h
    exact ⟨p, dx, vs, e, by rw [dmL_eq, List.length_map]; exact l, cell_dm h1 h2 h3 c, by rw [sub_dm]; exact RepL.dm h1 h2 xs vs _ (fun a z => h3 a (sub_le a z)) r⟩
theorem RepL.dm (h1 : ∀ a, I' a → I a) (h2 : ∀ a, M' a → M a) : ∀ (xs : List D) (vs : List V) (F : AS), (∀ a, F a → ¬ M' a) → RepL K cl H I M xs vs F → RepL K cl H I' M' (dmL xs) vs none_
  | [], _, _, _, h => h
  | d :: ds, vs, F, h3, h => by
    obtain ⟨v, ws, F1, F2, e, r1, r2, a1, a2, a3⟩ := h
    exact ⟨v, ws, none_, none_, e, Rep.dm h1 h2 d v F1 (fun a z => h3 a (a1 a z)) r1, RepL.dm h1 h2 ds ws F2 (fun a z => h3 a (a2 a z)) r2, fun _ z => z.elim, fun _ z => z.elim, fun _ z => z.elim⟩
end
theorem RepL.length : ∀ {xs : List D} {vs : List V} {F : AS}, RepL K cl H I M xs vs F → vs.length = xs.length
  | [], _, _, h => by rw [show _ = [] from h]; rfl
  | d :: ds, vs, F, h => by
    obtain ⟨v, ws, F1, F2, e, r1, r2, _⟩ := h
    rw [e, List.length_cons, List.length_cons, RepL.length r2]
theorem RepL.get : ∀ {xs : List D} {vs : List V} {F : AS} {i : Nat} {d : D}, RepL K cl H I M xs vs F → xs[i]? = some d → ∃ v F', vs[i]? = some v ∧ (∀ a, F' a → F a) ∧ Rep K cl H I M d v F'
  | [], _, _, i, _, _, e => by simp at e
  | d :: ds, vs, F, 0, d', h, e => by
    obtain ⟨v, ws, F1, F2, q, r1, r2, a1, a2, a3⟩ := h
    simp at e
    subst e q
    exact ⟨v, F1, rfl, a1, r1⟩
  | d :: ds, vs, F, i + 1, d', h, e => by
    obtain ⟨v, ws, F1, F2, q, r1, r2, a1, a2, a3⟩ := h
    obtain ⟨w, F', g, b, r⟩ := RepL.get (i := i) r2 (by simpa using e)
    subst q
    exact ⟨w, F', by simpa using g, fun a z => a2 a (b a z), r⟩
/-- no footprint: any parts of parts -/
theorem RepL.none_cons {d : D} {ds : List D} {v : V} {vs : List V} (r1 : Rep K cl H I M d v none_) (r2 : RepL K cl H I M ds vs none_) : RepL K cl H I M (d :: ds) (v :: vs) none_ :=
  ⟨v, vs, none_, none_, rfl, r1, r2, fun _ z => z, fun _ z => z, fun _ z => z.elim⟩
theorem RepL.uncons {d : D} {ds : List D} {vs : List V} (h : RepL K cl H I M (d :: ds) vs none_) : ∃ v ws, vs = v :: ws ∧ Rep K cl H I M d v none_ ∧ RepL K cl H I M ds ws none_ := by
  obtain ⟨v, ws, F1, F2, e, r1, r2, a1, a2, a3⟩ := h
  have e1 : F1 = none_ := funext fun a => propext ⟨a1 a, fun z => z.elim⟩
  have e2 : F2 = none_ := funext fun a => propext ⟨a2 a, fun z => z.elim⟩
  subst e1 e2
  exact ⟨v, ws, e, r1, r2⟩
theorem RepL.append : ∀ {xs ys : List D} {vs ws : List V}, RepL K cl H I M xs vs none_ → RepL K cl H I M ys ws none_ → RepL K cl H I M (xs ++ ys) (vs ++ ws) none_
  | [], _, _, _, h, g => by rw [show _ = [] from h]; exact g
  | d :: ds, ys, vs, ws, h, g => by
    obtain ⟨v, us, e, r1, r2⟩ := h.uncons
    subst e
    exact RepL.none_cons r1 (RepL.append r2 g)
theorem RepL.take : ∀ {xs : List D} {vs : List V} (n : Nat), RepL K cl H I M xs vs none_ → RepL K cl H I M (xs.take n) (vs.take n) none_
  | [], vs, n, h => by rw [show vs = [] from h]; simp [RepL]
  | d :: ds, vs, 0, h => by simp [RepL]
  | d :: ds, vs, n + 1, h => by
    obtain ⟨v, us, e, r1, r2⟩ := h.uncons
    subst e
    exact RepL.none_cons r1 (RepL.take n r2)
theorem RepL.drop : ∀ {xs : List D} {vs : List V} (n : Nat), RepL K cl H I M xs vs none_ → RepL K cl H I M (xs.drop n) (vs.drop n) none_
  | [], vs, n, h => by rw [show vs = [] from h]; simp [RepL]
  | d :: ds, vs, 0, h => h
  | d :: ds, vs, n + 1, h => by
    obtain ⟨v, us, e, r1, r2⟩ := h.uncons
    subst e
    exact RepL.drop n r2
theorem RepL.get0 {xs : List D} {vs : List V} {i : Nat} {d : D} (h : RepL K cl H I M xs vs none_) (e : xs[i]? = some d) : ∃ v, vs[i]? = some v ∧ Rep K cl H I M d v none_ := by
  obtain ⟨v, F', g, b, r⟩ := h.get e
  have e1 : F' = none_ := funext fun a => propext ⟨b a, fun z => z.elim⟩
  subst e1
  exact ⟨v, g, r⟩
theorem RepL.weaken {xs : List D} {vs : List V} {F F' : AS} (h : ∀ a, F a → F' a) (r : RepL K cl H I M xs vs F) : RepL K cl H I M xs vs F' := RepL.mono (fun _ _ q n => ⟨q, n⟩) (fun _ _ q n => ⟨q, n⟩) xs vs F F' (fun _ _ q _ => q) h r
theorem Rep.weaken {d : D} {v : V} {F F' : AS} (h : ∀ a, F a → F' a) (r : Rep K cl H I M d v F) : Rep K cl H I M d v F' := Rep.mono (fun _ _ q n => ⟨q, n⟩) (fun _ _ q n => ⟨q, n⟩) d v F F' (fun _ _ q _ => q) h r
end

def Step (H : Hp) (W : AS) (H' : Hp) (W' : AS) : Prop := (∀ a o, H a = some o → ¬ W a → H' a = some o) ∧ (∀ a, H a ≠ none → H' a ≠ none) ∧ (∀ a, W' a → W a ∨ H a = none)
theorem Step.refl (H : Hp) (W : AS) : Step H W H W := ⟨fun _ _ h _ => h, fun _ h => h, fun _ h => .inl h⟩
theorem Step.trans {H H1 H2 : Hp} {W W1 W2 : AS} (s : Step H W H1 W1) (t : Step H1 W1 H2 W2) : Step H W H2 W2 := by
  refine ⟨fun a o h n => t.1 a o (s.1 a o h n) fun z => ?_, fun a h => t.2.1 a (s.2.1 a h), fun a z => ?_⟩
  · rcases s.2.2 a z with q | q
    · exact n q
    · rw [h] at q; cases q
  · rcases t.2.2 a z with q | q
    · exact s.2.2 a q
    · by_cases e : H a = none
      · exact .inr e
      · exact absurd q (s.2.1 a e)
theorem ne_of_some {H : Hp} {a : Addr} {o : HO} (h : H a = some o) : H a ≠ none := by rw [h]; exact fun z => nomatch z
theorem Step.same {H H' : Hp} {W : AS} (h : Same H H') : Step H W H' W := ⟨fun a o q _ => h a o q, fun a q => by
  cases e : H a with
  | none => exact absurd e q
  | some o => exact ne_of_some (h a o e), fun _ z => .inl z⟩
theorem Same.some_ {H H' : Hp} (h : Same H H') {a : Addr} (q : H a ≠ none) : H' a ≠ none := by
  cases e : H a with
  | none => exact absurd e q
  | some o => exact ne_of_some (h a o e)
theorem Same.new {H : Hp} {p : Addr} {o : HO} (h : H p = none) : Same H (upd H p o) := fun a u e => by
  rw [upd_ne (ne_of_none e h)]
  exact e
/-- where a def's code stands: its classes, what is borrowed, what is known besides, what is wished of an exception -/
structure Cc where
  cl : Tb
  B : AS
  Z : AS → Hp → Prop
  zs : ∀ H W H' W', Step H W H' W' → Z W H → Z W' H'
  Wx : WX
  p0 : Nat → Option V
  S : AS
/-- what may change some day -/
abbrev Cc.I (c : Cc) (W : AS) : AS := fun a => W a ∨ c.B a
/-- what nothing borrowed stands in: what is ours, what is set aside -/
abbrev Cc.M (c : Cc) (W : AS) : AS := fun a => W a ∨ c.S a
structure Sat (K : PySem.W.Frag) (c : Cc) (E : Env) (σ : St) (H : Hp) (W : AS) : Prop where
  wb : ∀ a, W a → ¬ c.B a
  ws : ∀ a, W a → ¬ c.S a
  sb : ∀ a, c.S a → c.B a
  wh : ∀ a, W a → H a ≠ none
  bh : ∀ a, c.B a → H a ≠ none
  z : c.Z W H
  p0 : ∀ i v, c.p0 i = some v → σ[i]? = some (some v)
  len : E.length = σ.length
  at_ : ∃ fp : Nat → AS, (∀ i a, fp i a → W a) ∧ (∀ i j a, i ≠ j → fp i a → ¬ fp j a) ∧ ∀ i d, E[i]? = some (some d) → ∃ v, σ[i]? = some (some v) ∧ Rep K c.cl H (c.I W) (c.M W) d v (fp i)
/-- so much more that is not ours -/
abbrev Cc.addB (c : Cc) (F : AS) : Cc := { c with B := fun a => c.B a ∨ F a }
/-- set aside: not ours, and nothing borrowed stands in it -/
abbrev Cc.aside (c : Cc) (F : AS) : Cc := { c with B := fun a => c.B a ∨ F a, S := fun a => c.S a ∨ F a }
section
variable {K : PySem.W.Frag} {cl : Tb} {c : Cc} {H H' : Hp} {B W : AS} {E : Env} {σ : St}
theorem Rep.same {I M F : AS} {d : D} {v : V} (h : Same H H') (r : Rep K cl H I M d v F) : Rep K cl H' I M d v F :=
  Rep.mono (fun a o q n => ⟨h a o q, n⟩) (fun a o q n => ⟨h a o q, n⟩) d v F F (fun a o q _ => h a o q) (fun _ z => z) r
theorem RepL.same {I M F : AS} {ds : List D} {vs : List V} (h : Same H H') (r : RepL K cl H I M ds vs F) : RepL K cl H' I M ds vs F :=
  RepL.mono (fun a o q n => ⟨h a o q, n⟩) (fun a o q n => ⟨h a o q, n⟩) ds vs F F (fun a o q _ => h a o q) (fun _ z => z) r
theorem Sat.same (s : Sat K c E σ H W) (h : Same H H') : Sat K c E σ H' W := by
  obtain ⟨w1, ws, sb, w2, w3, wz, wp, w4, fp, f1, f2, f3⟩ := s
  refine ⟨w1, ws, sb, fun a z => Same.some_ h (w2 a z), fun a z => Same.some_ h (w3 a z), c.zs _ _ _ _ (Step.same h) wz, wp, w4, fp, f1, f2, fun i d e => ?_⟩
  obtain ⟨v, q, r⟩ := f3 i d e
  exact ⟨v, q, r.same h⟩
theorem Sat.get {i : Nat} {d : D} (s : Sat K c E σ H W) (e : E[i]? = some (some d)) : ∃ v F, σ[i]? = some (some v) ∧ (∀ a, F a → W a) ∧ Rep K c.cl H (c.I W) (c.M W) d v F := by
  obtain ⟨w1, ws, sb, w2, w3, wz, wp, w4, fp, f1, f2, f3⟩ := s
  obtain ⟨v, q, r⟩ := f3 i d e
  exact ⟨v, fp i, q, f1 i, r⟩
theorem Sat.fresh (s : Sat K c E σ H W) {p : Addr} (h : H p = none) : ¬ c.I W p := fun z => by
  rcases z with z | z
  · exact s.wh p z h
  · exact s.bh p z h
end
end PD
namespace PD
open PySem L2

/-- how an exception lies: its class, its own dict -/
def ERep (K : PySem.W.Frag) (cl : Tb) (H : Hp) (I : AS) (e : Exc) (u : Value) (d : Option Addr) : Prop :=
  u = .ref (cl.cl e.c) ∧ ((e.ns = [] ∧ e.vs = [] ∧ d = none) ∨ ∃ dd vs, d = some dd ∧ H dd = some (.xd ((e.ns.map cl.nm).zip vs)) ∧ ¬ I dd ∧ e.ns.length = e.vs.length ∧ RepL K cl H I (fun _ => True) e.vs vs none_)
/-- what is wanted of a result -/
def resV (K : PySem.W.Frag) (c : Cc) (W : AS) (σ : St) (H : Hp) (r : Res D) (Q : VK) : Prop := match r with
  | .ok d => ∀ v H', Same H H' → (∃ F, (∀ a, F a → W a) ∧ Rep K c.cl H' (c.I W) (c.M W) d v F) → Q v H'
  | .ex e => ∀ u dd H', Same H H' → ERep K c.cl H' (c.I W) e u dd → c.Wx u dd σ H'
  | .bad => False
def resN (K : PySem.W.Frag) (c : Cc) (W : AS) (σ : St) (H : Hp) (r : Res D) (Q : VK) : Prop := match r with
  | .ok d => ∀ v H' F, Same H H' → (∀ a, F a → H a = none ∧ H' a ≠ none) → Rep K c.cl H' (fun a => c.I W a ∨ F a) (fun _ => True) d v F → Q v H'
  | .ex e => ∀ u dd H', Same H H' → ERep K c.cl H' (c.I W) e u dd → c.Wx u dd σ H'
  | .bad => False
def resT (K : PySem.W.Frag) (c : Cc) (W : AS) (σ : St) (H : Hp) (r : Res Bool) (Q : Bool → Hp → Prop) : Prop := match r with
  | .ok b => ∀ H', Same H H' → Q b H'
  | .ex e => ∀ u dd H', Same H H' → ERep K c.cl H' (c.I W) e u dd → c.Wx u dd σ H'
  | .bad => False
/-- arguments: no own marks, borrowed ones are of any cell -/
def resA (K : PySem.W.Frag) (c : Cc) (W : AS) (σ : St) (H : Hp) (r : Res (List D)) (Q : List V → Hp → Prop) : Prop := match r with
  | .ok ds => ∀ vs H', Same H H' → RepL K c.cl H' (c.I W) c.S ds vs none_ → Q vs H'
  | .ex e => ∀ u dd H', Same H H' → ERep K c.cl H' (c.I W) e u dd → c.Wx u dd σ H'
  | .bad => False
def tV (K : PySem.W.Frag) (c : Cc) (g : Env → Res D) : TE := fun σ H Q => ∃ E W, Sat K c E σ H W ∧ resV K c W σ H (g E) Q
def tN (K : PySem.W.Frag) (c : Cc) (g : Env → Res D) : TE := fun σ H Q => ∃ E W, Sat K c E σ H W ∧ resN K c W σ H (g E) Q
def tT (K : PySem.W.Frag) (c : Cc) (g : Env → Res Bool) : TT := fun σ H Q => ∃ E W, Sat K c E σ H W ∧ resT K c W σ H (g E) Q
def tA (K : PySem.W.Frag) (c : Cc) (g : Env → Res (List D)) : TA := fun σ H Q => ∃ E W, Sat K c E σ H W ∧ resA K c W σ H (g E) Q
structure JV (X : Cx) (c : Cc) (e : Expr) (g : Env → Res D) : Prop where pe : PE X e (tV X.K c g)
structure JN (X : Cx) (c : Cc) (e : Expr) (g : Env → Res D) : Prop where pe : PE X e (tN X.K c g)
structure JT (X : Cx) (c : Cc) (e : Expr) (g : Env → Res Bool) : Prop where pt : PT X e (tT X.K c g)
/-- and, or -/
structure JW (X : Cx) (c : Cc) (e : Expr) (g : Env → Res Bool) : Prop where pw : PW X e (tT X.K c g)
structure JA (X : Cx) (c : Cc) (es : List Expr) (g : Env → Res (List D)) : Prop where pa : PA X es (tA X.K c g)

theorem PE.weak {X : Cx} {e : Expr} {t t' : TE} (h : PE X e t) (w : ∀ σ H Q, t' σ H Q → t σ H Q) : PE X e t' := ⟨fun pins s σ H Q I q => h.run pins s σ H Q I (w _ _ _ q)⟩
theorem PT.weak {X : Cx} {e : Expr} {t t' : TT} (h : PT X e t) (w : ∀ σ H Q, t' σ H Q → t σ H Q) : PT X e t' := ⟨fun pins s σ H Q I q => h.run pins s σ H Q I (w _ _ _ q)⟩
theorem PW.weak {X : Cx} {e : Expr} {t t' : TT} (h : PW X e t) (w : ∀ σ H Q, t' σ H Q → t σ H Q) : PW X e t' := ⟨fun wh pins s σ H Q I q => h.run wh pins s σ H Q I (w _ _ _ q)⟩
theorem PA.weak {X : Cx} {es : List Expr} {t t' : TA} (h : PA X es t) (w : ∀ σ H Q, t' σ H Q → t σ H Q) : PA X es t' := ⟨fun pos pins s σ H Q I q => h.run pos pins s σ H Q I (w _ _ _ q)⟩
theorem PC.weak {X : Cx} {op : CmpOp} {a b : Expr} {t t' : TE} (h : PC X op a b t) (w : ∀ σ H Q, t' σ H Q → t σ H Q) : PC X op a b t' := ⟨fun pins s σ H Q I q => h.run pins s σ H Q I (w _ _ _ q)⟩
theorem PS.weak {X : Cx} {st : Stmt} {t t' : TS} (h : PS X st t) (w : ∀ D σ H, t' D σ H → t D σ H) : PS X st t' := ⟨fun pins s σ H D I q => h.run pins s σ H D I (w _ _ _ q)⟩
theorem PSs.weak {X : Cx} {st : List Stmt} {t t' : TS} (h : PSs X st t) (w : ∀ D σ H, t' D σ H → t D σ H) : PSs X st t' := ⟨fun pins s σ H D I q => h.run pins s σ H D I (w _ _ _ q)⟩

section
variable {K : PySem.W.Frag} {c : Cc} {W : AS} {σ : St} {H H' : Hp}
theorem same_refl {H : Hp} : Same H H := fun _ _ h => h
theorem ERep.same {cl : Tb} {I : AS} {e : Exc} {u : Value} {d : Option Addr} (h : Same H H') (r : ERep K cl H I e u d) : ERep K cl H' I e u d := by
  obtain ⟨r1, r2⟩ := r
  refine ⟨r1, ?_⟩
  rcases r2 with r2 | ⟨dd, vs, e1, e2, e3, e4, e5⟩
  · exact .inl r2
  · exact .inr ⟨dd, vs, e1, h _ _ e2, e3, e4, e5.same h⟩
/-- one thing behind another -/
theorem resV_back {r : Res D} {Q : VK} (h : Same H H') (q : resV K c W σ H r Q) : resV K c W σ H' r Q := by
  cases r with
  | ok d => exact fun v H2 s r => q v H2 (h.trans s) r
  | ex e => exact fun u dd H2 s r => q u dd H2 (h.trans s) r
  | bad => exact q
theorem resN_back {r : Res D} {Q : VK} (h : Same H H') (q : resN K c W σ H r Q) : resN K c W σ H' r Q := by
  cases r with
  | ok d => exact fun v H2 F s f r => q v H2 F (h.trans s) (fun a z => ⟨h.free (f a z).1, (f a z).2⟩) r
  | ex e => exact fun u dd H2 s r => q u dd H2 (h.trans s) r
  | bad => exact q
theorem resT_back {r : Res Bool} {Q : Bool → Hp → Prop} (h : Same H H') (q : resT K c W σ H r Q) : resT K c W σ H' r Q := by
  cases r with
  | ok d => exact fun H2 s => q H2 (h.trans s)
  | ex e => exact fun u dd H2 s r => q u dd H2 (h.trans s) r
  | bad => exact q
/-- an expression ahead, its view used -/
theorem tV_use {E : Env} {g : Env → Res D} {Q : VK} (s : Sat K c E σ H W) (hx : ∀ e, g E = .ex e → ∀ u dd H', Same H H' → ERep K c.cl H' (c.I W) e u dd → c.Wx u dd σ H') (hb : g E ≠ .bad)
    (h : ∀ d, g E = .ok d → ∀ v H' F, Same H H' → Sat K c E σ H' W → (∀ a, F a → W a) → Rep K c.cl H' (c.I W) (c.M W) d v F → Q v H') : tV K c g σ H Q := by
  refine ⟨E, W, s, ?_⟩
  cases e : g E with
  | ok d => exact fun v H' sm ⟨F, f, r⟩ => h d e v H' F sm (s.same sm) f r
  | ex x => exact hx x e
  | bad => exact hb e
theorem tN_use {E : Env} {g : Env → Res D} {Q : VK} (s : Sat K c E σ H W) (hx : ∀ e, g E = .ex e → ∀ u dd H', Same H H' → ERep K c.cl H' (c.I W) e u dd → c.Wx u dd σ H') (hb : g E ≠ .bad)
    (h : ∀ d, g E = .ok d → ∀ v H' F, Same H H' → Sat K c E σ H' W → (∀ a, F a → H a = none ∧ H' a ≠ none) → Rep K c.cl H' (fun a => c.I W a ∨ F a) (fun _ => True) d v F → Q v H') : tN K c g σ H Q := by
  refine ⟨E, W, s, ?_⟩
  cases e : g E with
  | ok d => exact fun v H' F sm f r => h d e v H' F sm (s.same sm) f r
  | ex x => exact hx x e
  | bad => exact hb e
end

def gVar (i : Nat) : Env → Res D := fun E => match E[i]? with
  | some (some d) => .ok d
  | _ => .bad
def gC (d : D) : Env → Res D := fun _ => .ok d
section
variable {X : Cx} {c : Cc} {pos : Pos}
theorem jv_var {i : Nat} {x : Str} (h : PE X (.Name x pos) (tVar i)) : JV X c (.Name x pos) (gVar i) := ⟨PE.weak h fun σ H Q ⟨E, W, s, q⟩ => by
  unfold gVar at q
  split at q
  · rename_i d e
    obtain ⟨v, F, e2, f, r⟩ := s.get e
    exact ⟨v, e2, q v H same_refl ⟨F, f, r⟩⟩
  · exact q.elim⟩
theorem jn_int {i j pos} : JN X c (.Constant (.int i) j pos) (gC (.int i)) := ⟨PE.weak pe_int fun σ H Q ⟨E, W, s, q⟩ => q _ H none_ same_refl (fun _ z => z.elim) rfl⟩
theorem jn_bl {b j pos} : JN X c (.Constant (.bool b) j pos) (gC (.bl b)) := ⟨PE.weak pe_bl fun σ H Q ⟨E, W, s, q⟩ => q _ H none_ same_refl (fun _ z => z.elim) rfl⟩
theorem jn_non {j pos} : JN X c (.Constant .none j pos) (gC .non) := ⟨PE.weak pe_non fun σ H Q ⟨E, W, s, q⟩ => q _ H none_ same_refl (fun _ z => z.elim) rfl⟩
theorem jn_str {x j pos} : JN X c (.Constant (.str x) j pos) (gC (.str x)) := ⟨PE.weak pe_str fun σ H Q ⟨E, W, s, q⟩ => q _ H none_ same_refl (fun _ z => z.elim) rfl⟩
/-- a module's number, text -/
theorem jn_gint {x : Str} {i : Int} (hg : Gl X x) (hm : ∃ t, X.mg x = some (.int i t)) (hd : (x == ("__debug__" : Str)) = false := by decide) : JN X c (.Name x pos) (gC (.int i)) := by
  obtain ⟨t, hm⟩ := hm
  exact ⟨PE.weak (pe_glob hg hm (v := .int i) ⟨t, rfl⟩ hd) fun σ H Q ⟨E, W, s, q⟩ => q _ H none_ same_refl (fun _ z => z.elim) rfl⟩
theorem jn_gstr {x z : Str} (hg : Gl X x) (hm : ∃ t, X.mg x = some (.str z t)) (hd : (x == ("__debug__" : Str)) = false := by decide) : JN X c (.Name x pos) (gC (.str z)) := by
  obtain ⟨t, hm⟩ := hm
  exact ⟨PE.weak (pe_glob hg hm (v := .str z) ⟨t, rfl⟩ hd) fun σ H Q ⟨E, W, s, q⟩ => q _ H none_ same_refl (fun _ z => z.elim) rfl⟩
def gDm (g : Env → Res D) : Env → Res D := fun E => g E >>= fun d => .ok d.dm
def chk (d : D) : Res D := if d.imm then .ok d else .bad
def gChk (g : Env → Res D) : Env → Res D := fun E => g E >>= chk
def gFr (g : Env → Res D) : Env → Res D := fun E => g E >>= fun d => .ok d.fr
variable {e : Expr} {g : Env → Res D}
/-- a new value looked at -/
theorem jv_of_jn (h : JN X c e g) : JV X c e (gDm g) := ⟨PE.weak h.pe fun σ H Q ⟨E, W, s, q⟩ => by
  refine ⟨E, W, s, ?_⟩
  unfold gDm at q
  cases e1 : g E with
  | ok d =>
    rw [e1] at q
    exact fun v H' F sm f r => q v H' sm ⟨none_, fun _ z => z.elim, Rep.dm (fun a z => .inl z) (fun _ _ => trivial) d v F (fun a z w => s.fresh (f a z).1 (w.elim .inl fun y => .inr (s.sb a y))) r⟩
  | ex x =>
    rw [e1] at q
    exact q
  | bad =>
    rw [e1] at q
    exact q⟩
/-- a view that holds nothing that changes -/
theorem jn_of_jv (h : JV X c e g) : JN X c e (gChk g) := ⟨PE.weak h.pe fun σ H Q ⟨E, W, s, q⟩ => by
  refine ⟨E, W, s, ?_⟩
  unfold gChk at q
  cases e1 : g E with
  | ok d =>
    rw [e1] at q
    show ∀ v H', Same H H' → (∃ F, (∀ a, F a → W a) ∧ Rep X.K c.cl H' (c.I W) (c.M W) d v F) → Q v H'
    rintro v H' sm ⟨F, f, r⟩
    simp only [res_bind_ok, chk] at q
    split at q
    · rename_i hi
      refine q v H' none_ sm (fun _ z => z.elim) ?_
      have r2 : Rep X.K c.cl H' (c.I W) (fun _ => True) d v none_ := Rep.imm d v F none_ hi r
      have e2 : (fun a => c.I W a ∨ none_ a) = c.I W := funext fun a => propext ⟨fun z => z.elim id fun y => y.elim, .inl⟩
      rw [e2]
      exact r2
    · exact q.elim
  | ex x =>
    rw [e1] at q
    exact q
  | bad =>
    rw [e1] at q
    exact q⟩
/-- a new value that will not change any more -/
theorem jn_fr (h : JN X c e g) : JN X c e (gFr g) := ⟨PE.weak h.pe fun σ H Q ⟨E, W, s, q⟩ => by
  refine ⟨E, W, s, ?_⟩
  unfold gFr at q
  cases e1 : g E with
  | ok d =>
    rw [e1] at q
    refine fun v H' F sm f r => q v H' none_ sm (fun _ z => z.elim) ?_
    have e2 : (fun a => c.I W a ∨ none_ a) = c.I W := funext fun a => propext ⟨fun z => z.elim id fun y => y.elim, .inl⟩
    rw [e2]
    exact Rep.fr (fun a z => .inl z) d v F (fun a z w => s.fresh (f a z).1 w) r
  | ex x =>
    rw [e1] at q
    exact q
  | bad =>
    rw [e1] at q
    exact q⟩

def gBin (f : D → D → Res D) (ga gb : Env → Res D) : Env → Res D := fun E => ga E >>= fun a => gb E >>= fun b => f a b
def gUn (f : D → Res D) (ga : Env → Res D) : Env → Res D := fun E => ga E >>= f
/-- a two-place operation on values does f -/
def Op2 (K : PySem.W.Frag) (r : R2) (f : D → D → Res D) : Prop := ∀ (cl : Tb) (I M : AS) (H : Hp) (da db d : D) (x y : V) (Fa Fb : AS) (Q : VK), (∀ a, I a → H a ≠ none) → (∀ a, M a → I a) → Rep K cl H I M da x Fa → Rep K cl H I M db y Fb → f da db = .ok d →
  (∀ v H' F, Same H H' → (∀ a, F a → H a = none ∧ H' a ≠ none) → Rep K cl H' (fun a => I a ∨ F a) (fun _ => True) d v F → Q v H') → r x y H Q
/-- f raises nothing -/
def NoX {α β : Type} (f : α → β → Res D) : Prop := ∀ a b e, f a b ≠ .ex e
theorem Sat.mi {K : PySem.W.Frag} {E : Env} {σ : St} {H : Hp} {W : AS} (s : Sat K c E σ H W) : ∀ a, c.M W a → c.I W a := fun a z => z.imp id (s.sb a)
theorem Sat.ih {K : PySem.W.Frag} {E : Env} {σ : St} {H : Hp} {W : AS} (s : Sat K c E σ H W) : ∀ a, c.I W a → H a ≠ none := fun a z => z.elim (s.wh a) (s.bh a)
theorem opsem {a b : Expr} {ga gb : Env → Res D} {r : R2} {f : D → D → Res D} (ha : JV X c a ga) (hb : JV X c b gb) (ho : Op2 X.K r f) (nx : NoX f) {σ : St} {H : Hp} {Q : VK} (h : tN X.K c (gBin f ga gb) σ H Q) : tOp r (tV X.K c ga) (tV X.K c gb) σ H Q := by
  obtain ⟨E, W, s, q⟩ := h
  unfold gBin at q
  refine tV_use s (fun e e1 => by rw [e1] at q; exact q) (fun e1 => by rw [e1] at q; exact q) fun da e1 x H1 Fa sm1 s1 fa ra => ?_
  rw [e1] at q
  simp only [res_bind_ok] at q
  refine tV_use s1 (fun e e2 => by rw [e2] at q; exact fun u dd H' sm => q u dd H' (sm1.trans sm)) (fun e2 => by rw [e2] at q; exact q) fun db e2 y H2 Fb sm2 s2 fb rb => ?_
  rw [e2] at q
  simp only [res_bind_ok] at q
  cases e3 : f da db with
  | ok d =>
    rw [e3] at q
    refine ho c.cl (c.I W) (c.M W) H2 da db d x y Fa Fb Q s2.ih s2.mi (ra.same sm2) rb e3 fun v H' F sm f r => ?_
    exact q v H' F ((sm1.trans sm2).trans sm) (fun a z => ⟨(sm1.trans sm2).free (f a z).1, (f a z).2⟩) r
  | ex e => exact absurd e3 (nx da db e)
  | bad =>
    rw [e3] at q
    exact q.elim
theorem jn_op {a b : Expr} {ga gb : Env → Res D} {op : Operator} {r : R2} {f : D → D → Res D} (ho : OpR X (binaryOp op) r) (hf : Op2 X.K r f) (nx : NoX f) (ha : JV X c a ga) (hb : JV X c b gb) : JN X c (.BinOp a op b pos) (gBin f ga gb) :=
  ⟨PE.weak (pe_op ho ha.pe hb.pe) fun _ _ _ h => opsem ha hb hf nx h⟩
theorem jn_cmp {a b : Expr} {ga gb : Env → Res D} {op : CmpOp} {r : R2} {f : D → D → Res D} (ho : OpR X (compareOp op) r) (hf : Op2 X.K r f) (nx : NoX f) (ha : JV X c a ga) (hb : JV X c b gb) (hm : behindInMarks op b = false := by first | exact nomark _ | rfl) :
    JN X c (.Compare a [op] [b] pos) (gBin f ga gb) := ⟨PE.weak (pe_cmpR ho ha.pe hb.pe hm) fun _ _ _ h => opsem ha hb hf nx h⟩
end

section
variable {K : PySem.W.Frag} {cl : Tb} {H : Hp} {I M F : AS} {p : Addr} {xs : List D} {vs : List V}
theorem i_none : (fun a => I a ∨ none_ a) = I := funext fun a => propext ⟨fun z => z.elim id fun y => y.elim, .inl⟩
theorem repL_new {o : HO} (hp : H p = none) (r : RepL K cl H I M xs vs F) (hi : immL xs = true) : RepL K cl (upd H p o) (fun a => I a ∨ a = p) (fun _ => True) xs vs none_ := by
  have r1 : RepL K cl H I (fun _ => True) xs vs none_ := RepL.imm xs vs F none_ hi r
  refine RepL.mono (fun a ob q n => ?_) (fun a ob q n => absurd trivial n) xs vs _ _ (fun _ _ _ z => z.elim) (fun _ z => z) r1
  have hne : a ≠ p := ne_of_none q hp
  exact ⟨by rw [upd_ne hne]; exact q, fun z => z.elim n hne⟩
theorem rep_lst (hp : H p = none) (r : RepL K cl H I M xs vs F) (hi : immL xs = true) : Rep K cl (upd H p (.lst vs)) (fun a => I a ∨ a = p) (fun _ => True) (.lst .own xs) (.ref p) (fun a => a = p) := by
  refine ⟨p, vs, rfl, .inl ⟨upd_same, rfl⟩, ?_⟩
  exact RepL.weaken (fun _ z => z.elim) (repL_new hp r hi)
theorem rep_tup (hI : ∀ a, I a → H a ≠ none) (hp : H p = none) (r : RepL K cl H I M xs vs F) (hi : immL xs = true) : Rep K cl (upd H p (.tup vs)) (fun a => I a ∨ none_ a) (fun _ => True) (.tup xs) (.ref p) none_ := by
  rw [i_none]
  refine ⟨p, vs, rfl, ⟨upd_same, fun z => hI p z hp⟩, ?_⟩
  exact RepL.mono (fun a o q n => ⟨q, fun z => n (.inl z)⟩) (fun a ob q n => absurd trivial n) xs vs _ _ (fun _ _ _ z => z.elim) (fun _ z => z) (repL_new hp r hi)
theorem new_own {o : HO} (hp : H p = none) : ∀ a, (fun a => a = p) a → H a = none ∧ upd H p o a ≠ none := fun a z => by
  have e : a = p := z
  subst e
  exact ⟨hp, by rw [upd_same]; exact fun z => nomatch z⟩
/-- what a list's node says -/
theorem cell_some {f : Fl} {o : HO} (c : Cell H I M F f p o) (h : f ≠ .frz) : H p = some o := by
  cases f with
  | imm => exact c.1
  | bor => exact c.1
  | own => exact c.1
  | frz => exact absurd rfl h
theorem cell_sql {f : Fl} (c : Cell H I M F f p (.lst vs) ∨ (f = .frz ∧ KL K p vs)) : SqL K H p vs := by
  rcases c with c | ⟨_, c⟩
  · cases f with
    | imm => exact .inl (.inl c.1)
    | bor => exact .inl (.inl c.1)
    | own => exact .inl (.inl c.1)
    | frz => exact .inl c.1
  · exact .inr c
end
end PD
namespace PD
open PySem L2

mutual
def D.py : D → Option PyData
  | .non => some .none
  | .bl b => some (.bool b)
  | .int i => some (.int i)
  | .str s => some (.str s)
  | .tup xs => (pyL xs).map .tuple
  | .ktup xs => (pyL xs).map .tuple
  | .lst _ xs => (pyL xs).map .list
  | _ => none
def pyL : List D → Option (List PyData)
  | [] => some []
  | d :: ds => match d.py, pyL ds with
    | some p, some ps => some (p :: ps)
    | _, _ => none
end
section
variable {K : PySem.W.Frag} {cl : Tb} {H : Hp} {I M : AS}
mutual
theorem rep_dp : ∀ (d : D) (v : V) (F : AS) (p : PyData), Rep K cl H I M d v F → d.py = some p → Dp K H v p
  | .non, v, F, p, r, e => by
    simp only [D.py, Option.some.injEq] at e
    subst e
    rw [show v = .non from r]
    exact .non
  | .bl b, v, F, p, r, e => by
    simp only [D.py, Option.some.injEq] at e
    subst e
    rw [show v = .bl b from r]
    exact .bl b
  | .int i, v, F, p, r, e => by
    simp only [D.py, Option.some.injEq] at e
    subst e
    rw [show v = .int i from r]
    exact .int i
  | .str s, v, F, p, r, e => by
    simp only [D.py, Option.some.injEq] at e
    subst e
    rw [show v = .str s from r]
    exact .str s
  | .tup xs, v, F, p, r, e => by
    simp only [D.py, Option.map_eq_some_iff] at e
    obtain ⟨ps, e1, rfl⟩ := e
    obtain ⟨a, vs, rfl, c, q⟩ := r
    exact .tup (.inl (.inl c.1)) (rep_dpL xs vs _ ps q e1)
  | .ktup xs, v, F, p, r, e => by
    simp only [D.py, Option.map_eq_some_iff] at e
    obtain ⟨ps, e1, rfl⟩ := e
    obtain ⟨a, vs, rfl, c, q⟩ := r
    exact .tup (.inr c) (rep_dpL xs vs _ ps q e1)
  | .lst f xs, v, F, p, r, e => by
    simp only [D.py, Option.map_eq_some_iff] at e
    obtain ⟨ps, e1, rfl⟩ := e
    obtain ⟨a, vs, rfl, c, q⟩ := r
    exact .lst (cell_sql c) (rep_dpL xs vs _ ps q e1)
  | .dk f ks xs, v, F, p, r, e => by simp [D.py] at e
  | .dt f ks xs, v, F, p, r, e => by simp [D.py] at e
  | .obj f c ns xs, v, F, p, r, e => by simp [D.py] at e
theorem rep_dpL : ∀ (xs : List D) (vs : List V) (F : AS) (ps : List PyData), RepL K cl H I M xs vs F → pyL xs = some ps → DpAll K H vs ps
  | [], vs, F, ps, r, e => by
    simp only [pyL, Option.some.injEq] at e
    subst e
    rw [show vs = [] from r]
    exact .nil
  | d :: ds, vs, F, ps, r, e => by
    obtain ⟨v, ws, F1, F2, rfl, r1, r2, _⟩ := r
    simp only [pyL] at e
    split at e
    · rename_i p ps' e1 e2
      cases e
      exact .cons (rep_dp d v F1 p r1 e1) (rep_dpL ds ws F2 ps' r2 e2)
    · cases e
end
end
def shp (p : PyData) : Bool := SeqAt.shaped p
def eqD (a b : D) : Res D := match a.py, b.py with
  | some p, some q => if shp p && shp q then .ok (.bl (PyData.eqv p q)) else .bad
  | _, _ => .bad
def neD (a b : D) : Res D := match a.py, b.py with
  | some p, some q => if shp p && shp q then .ok (.bl (!PyData.eqv p q)) else .bad
  | _, _ => .bad
theorem nx_eq : NoX eqD := fun a b e h => by
  unfold eqD at h
  split at h
  · split at h <;> cases h
  · cases h
theorem nx_ne : NoX neD := fun a b e h => by
  unfold neD at h
  split at h
  · split at h <;> cases h
  · cases h
section
variable {K : PySem.W.Frag}
/-- a scalar result -/
theorem scal_ok {cl : Tb} {I : AS} {H : Hp} {d : D} {v : V} {Q : VK} (h : ∀ v H' F, Same H H' → (∀ a, F a → H a = none ∧ H' a ≠ none) → Rep K cl H' (fun a => I a ∨ F a) (fun _ => True) d v F → Q v H')
    (r : Rep K cl H (fun a => I a ∨ none_ a) (fun _ => True) d v none_) : Q v H := h v H none_ same_refl (fun _ z => z.elim) r
theorem op2_eq : Op2 K (rEqD K) eqD := fun cl I M H da db d x y Fa Fb Q hi hm ra rb e q => by
  unfold eqD at e
  split at e
  · rename_i p p' e1 e2
    split at e
    · rename_i h
      cases e
      rw [Bool.and_eq_true] at h
      exact ⟨p, p', rep_dp da x Fa p ra e1, rep_dp db y Fb p' rb e2, h.1, h.2, scal_ok q rfl⟩
    · cases e
  · cases e
theorem op2_ne : Op2 K (rNeD K) neD := fun cl I M H da db d x y Fa Fb Q hi hm ra rb e q => by
  unfold neD at e
  split at e
  · rename_i p p' e1 e2
    split at e
    · rename_i h
      cases e
      rw [Bool.and_eq_true] at h
      exact ⟨p, p', rep_dp da x Fa p ra e1, rep_dp db y Fb p' rb e2, h.1, h.2, scal_ok q rfl⟩
    · cases e
  · cases e
/-- a flat value -/
def flatD : D → Option V
  | .non => some .non
  | .bl b => some (.bl b)
  | .int i => some (.int i)
  | .str s => some (.str s)
  | _ => none
def flatL : List D → Option (List V)
  | [] => some []
  | d :: ds => match flatD d, flatL ds with
    | some v, some vs => some (v :: vs)
    | _, _ => none
theorem flat_rep {cl : Tb} {H : Hp} {I M F : AS} {d : D} {v w : V} (h : flatD d = some w) (r : Rep K cl H I M d v F) : v = w ∧ flatV v = true := by
  cases d with
  | non => cases h; rw [show v = .non from r]; exact ⟨rfl, rfl⟩
  | bl b => cases h; rw [show v = .bl b from r]; exact ⟨rfl, rfl⟩
  | int b => cases h; rw [show v = .int b from r]; exact ⟨rfl, rfl⟩
  | str b => cases h; rw [show v = .str b from r]; exact ⟨rfl, rfl⟩
  | _ => cases h
theorem flat_repL {cl : Tb} {H : Hp} {I M : AS} : ∀ {xs : List D} {vs ws : List V} {F : AS}, flatL xs = some ws → RepL K cl H I M xs vs F → vs = ws ∧ vs.all flatV = true
  | [], vs, ws, F, h, r => by
    cases h
    rw [show vs = [] from r]
    exact ⟨rfl, rfl⟩
  | d :: ds, vs, ws, F, h, r => by
    obtain ⟨v, us, F1, F2, rfl, r1, r2, _⟩ := r
    simp only [flatL] at h
    split at h
    · rename_i w ws' e1 e2
      cases h
      obtain ⟨a1, a2⟩ := flat_rep e1 r1
      obtain ⟨b1, b2⟩ := flat_repL e2 r2
      subst a1 b1
      exact ⟨rfl, by rw [List.all_cons, a2, b2]; rfl⟩
    · cases h
/-- d in s: a list of data, a tuple of flat things, a text, a dict -/
def strIn (a b : Str) : Bool := match a.cps.toList with
  | [c] => decide (c ∈ b.cps.toList)
  | _ => !(Builtin.Str.occurrences b a 0 b.length 1).isEmpty
def keyD : D → Option Key
  | .int i => some (.inl i)
  | .str s => some (.inr s)
  | _ => none
def keyL : List D → Option (List Key)
  | [] => some []
  | d :: ds => match keyD d, keyL ds with
    | some k, some ks => some (k :: ks)
    | _, _ => none
/-- where a key stands -/
def kIx {κ : Type} [DecidableEq κ] (ks : List κ) (k : κ) : Option Nat := ks.findIdx? fun z => decide (z = k)
def inB (a b : D) : Res Bool := match b with
  | .lst _ ds => match a.py, pyL ds with
    | some p, some ps => if shp p && shp (.list ps) then .ok (ps.any fun z => PyData.eqv z p) else .bad
    | _, _ => .bad
  | .tup ds => match flatD a, flatL ds with
    | some v, some vs => .ok (inV v vs)
    | _, _ => .bad
  | .ktup ds => match flatD a, flatL ds with
    | some v, some vs => .ok (inV v vs)
    | _, _ => .bad
  | .str t => match a with
    | .str s => .ok (strIn s t)
    | _ => .bad
  | .dk f ks _ => match keyD a with
    | some k => if f = .frz then .bad else .ok (kIx ks k).isSome
    | none => match a with
      | .non => if f = .frz then .bad else .ok false
      | _ => .bad
  | .dt f ks _ => match a with
    | .tup ds => match keyL ds with
      | some k => if f = .frz then .bad else .ok (kIx ks k).isSome
      | none => .bad
    | _ => .bad
  | _ => .bad
def inD (a b : D) : Res D := inB a b >>= fun k => .ok (.bl k)
def ninD (a b : D) : Res D := inB a b >>= fun k => .ok (.bl (!k))
theorem inB_nx (a b : D) (e : Exc) : inB a b ≠ .ex e := fun h => by
  unfold inB at h
  repeat' split at h
  all_goals cases h
theorem nx_in : NoX inD := fun a b e h => by
  unfold inD at h
  cases q : inB a b with
  | ok k => rw [q] at h; cases h
  | ex x => exact inB_nx a b x q
  | bad => rw [q] at h; cases h
theorem nx_nin : NoX ninD := fun a b e h => by
  unfold ninD at h
  cases q : inB a b with
  | ok k => rw [q] at h; cases h
  | ex x => exact inB_nx a b x q
  | bad => rw [q] at h; cases h
/-- what in asks of values -/
def rInA (K : PySem.W.Frag) (g : Bool → Bool) : R2 := fun x y H Q =>
  (∃ d ds, Dp K H x d ∧ Dp K H y (.list ds) ∧ SeqAt.shaped d = true ∧ SeqAt.shaped (.list ds) = true ∧ Q (.bl (g (ds.any fun z => PyData.eqv z d))) H) ∨
  (∃ p xs, y = .ref p ∧ (SqL K H p xs ∨ SqT K H p xs) ∧ flatV x = true ∧ xs.all flatV = true ∧ Q (.bl (g (inV x xs))) H) ∨
  (∃ s t, x = .str s ∧ y = .str t ∧ Q (.bl (g (strIn s t))) H) ∨
  (∃ a o, y = .ref a ∧ DGet H a x o ∧ Q (.bl (g o.isSome)) H) ∨
  (∃ a kvs, y = .ref a ∧ x = .non ∧ Rd H a (.dK kvs) ∧ Q (.bl (g false)) H)
theorem strIn_eq {s t : Str} : strIn s t = !(Builtin.Str.occurrences t s 0 t.length 1).isEmpty := by
  unfold strIn
  split
  · rename_i c h
    have e : s = ⟨#[c]⟩ := by
      obtain ⟨a⟩ := s
      have : a = #[c] := by simpa using congrArg List.toArray h
      rw [this]
    subst e
    exact (PySem.StrLaws.found_one t c).symm
  · rfl
theorem op_inA {X : Cx} (hu : X.A.units + 65 < cLine) : OpR X (compareOp .In) (rInA X.K id) := by
  refine OpR.or (op_inD hu) (OpR.or op_in_seq (OpR.or ?_ (OpR.or ?_ ?_)))
  · intro pins s σ H x y v u Q I rx ry ⟨a, b, e1, e2, q⟩
    exact op_in_str pins s σ H x y v u Q I rx ry ⟨a, b, e1, e2, by rw [← strIn_eq]; exact q⟩
  · intro pins s σ H x y v u Q I rx ry ⟨a, o, e, g, q⟩
    subst e
    obtain rfl : u = Value.ref a := ry
    exact d_in (by omega) I g rx fun s3 I3 => ⟨.bl _, H, I3, rfl, q⟩
  · intro pins s σ H x y v u Q I rx ry ⟨a, kvs, e, en, g, q⟩
    subst e en
    obtain rfl : u = Value.ref a := ry
    obtain rfl : v = Value.none := rx
    exact d_inNone I g fun s3 I3 => ⟨.bl _, H, I3, rfl, q⟩
theorem op_ninA {X : Cx} (hu : X.A.units + 65 < cLine) : OpR X (compareOp .NotIn) (rInA X.K not) := by
  refine OpR.or (op_notInD hu) (OpR.or op_notIn_seq (OpR.or ?_ (OpR.or ?_ ?_)))
  · intro pins s σ H x y v u Q I rx ry ⟨a, b, e1, e2, q⟩
    exact op_notin_str pins s σ H x y v u Q I rx ry ⟨a, b, e1, e2, by rw [← strIn_eq]; exact q⟩
  · intro pins s σ H x y v u Q I rx ry ⟨a, o, e, g, q⟩
    subst e
    obtain rfl : u = Value.ref a := ry
    exact d_notIn (by omega) I g rx fun s3 I3 => ⟨.bl _, H, I3, rfl, q⟩
  · intro pins s σ H x y v u Q I rx ry ⟨a, kvs, e, en, g, q⟩
    subst e en
    obtain rfl : u = Value.ref a := ry
    obtain rfl : v = Value.none := rx
    exact d_notInNone I g fun s3 I3 => ⟨.bl _, H, I3, rfl, q⟩
theorem valV_zip {κ : Type} [DecidableEq κ] : ∀ {ks : List κ} {vs : List V} {k : κ}, ks.length = vs.length → valV (ks.zip vs) k = (kIx ks k).bind fun i => vs[i]?
  | [], vs, k, _ => by simp [kIx, valV]
  | a :: ks, [], k, h => by simp at h
  | a :: ks, v :: vs, k, h => by
    unfold kIx
    rw [List.zip_cons_cons, List.findIdx?_cons]
    by_cases e : a = k
    · rw [valV_pos e]; simp [e]
    · rw [valV_neg e, valV_zip (by simpa using h)]
      simp only [e, decide_false, Bool.false_eq_true, if_false, kIx]
      cases ks.findIdx? (fun z => decide (z = k)) with
      | none => rfl
      | some i => simp
theorem kIx_lt {κ : Type} [DecidableEq κ] {ks : List κ} {k : κ} {i : Nat} (h : kIx ks k = some i) : i < ks.length := (List.findIdx?_eq_some_iff_getElem.mp h).1
theorem keyD_rep {cl : Tb} {H : Hp} {I M F : AS} {d : D} {v : V} {k : Key} (h : keyD d = some k) (r : Rep K cl H I M d v F) : v = kV k := by
  cases d with
  | int i => cases h; exact r
  | str i => cases h; exact r
  | _ => cases h
theorem keyL_rep {cl : Tb} {H : Hp} {I M : AS} : ∀ {ds : List D} {vs : List V} {ks : List Key} {F : AS}, keyL ds = some ks → RepL K cl H I M ds vs F → vs = ks.map kV
  | [], vs, ks, F, h, r => by
    cases h
    exact r
  | d :: ds, vs, ks, F, h, r => by
    obtain ⟨v, us, F1, F2, rfl, r1, r2, _⟩ := r
    simp only [keyL] at h
    split at h
    · rename_i k ks' e1 e2
      cases h
      rw [keyD_rep e1 r1, keyL_rep e2 r2, List.map_cons]
    · cases h
/-- a dict's look -/
theorem dget_k {cl : Tb} {H : Hp} {I M F : AS} {f : Fl} {p : Addr} {ks : List Key} {vs : List V} {k : Key} (hf : f ≠ .frz) (c : Cell H I M F f p (.dK (ks.zip vs))) (hl : ks.length = vs.length) : DGet H p (kV k) ((kIx ks k).bind fun i => vs[i]?) := by
  rw [← valV_zip hl]
  exact DGet.k (cell_some c hf)
theorem dget_t {cl : Tb} {H : Hp} {I M F : AS} {f : Fl} {p b : Addr} {ks : List (List Key)} {vs : List V} {k : List Key} (hf : f ≠ .frz) (c : Cell H I M F f p (.dT (ks.zip vs))) (hl : ks.length = vs.length) (hb : H b = some (.tup (k.map kV))) :
    DGet H p (.ref b) ((kIx ks k).bind fun i => vs[i]?) := by
  rw [← valV_zip hl]
  exact DGet.t (cell_some c hf) hb
theorem kIx_some {κ : Type} [DecidableEq κ] {ks : List κ} {vs : List V} {k : κ} (hl : ks.length = vs.length) : ((kIx ks k).bind fun i => vs[i]?).isSome = (kIx ks k).isSome := by
  cases e : kIx ks k with
  | none => rfl
  | some i =>
    have := kIx_lt e
    simp [List.getElem?_eq_getElem (show i < vs.length by omega)]
theorem inA_of {cl : Tb} {I M : AS} {H : Hp} {da db : D} {k : Bool} {x y : V} {Fa Fb : AS} {Q : VK} {g : Bool → Bool} (ra : Rep K cl H I M da x Fa) (rb : Rep K cl H I M db y Fb) (e : inB da db = .ok k) (q : Q (.bl (g k)) H) : rInA K g x y H Q := by
  cases db with
  | lst f ds =>
    simp only [inB] at e
    split at e
    · rename_i p ps e1 e2
      split at e
      · rename_i h
        cases e
        rw [Bool.and_eq_true] at h
        refine .inl ⟨p, ps, rep_dp da x Fa p ra e1, rep_dp (.lst f ds) y Fb (.list ps) rb (by simp [D.py, e2]), h.1, h.2, q⟩
      · cases e
    · cases e
  | tup ds =>
    simp only [inB] at e
    split at e
    · rename_i v vs e1 e2
      cases e
      obtain ⟨p, ws, rfl, c, r⟩ := rb
      obtain ⟨a1, a2⟩ := flat_rep e1 ra
      obtain ⟨b1, b2⟩ := flat_repL e2 r
      subst a1 b1
      exact .inr (.inl ⟨p, ws, rfl, .inr (.inl (.inl c.1)), a2, b2, q⟩)
    · cases e
  | ktup ds =>
    simp only [inB] at e
    split at e
    · rename_i v vs e1 e2
      cases e
      obtain ⟨p, ws, rfl, c, r⟩ := rb
      obtain ⟨a1, a2⟩ := flat_rep e1 ra
      obtain ⟨b1, b2⟩ := flat_repL e2 r
      subst a1 b1
      exact .inr (.inl ⟨p, ws, rfl, .inr (.inr c), a2, b2, q⟩)
    · cases e
  | str t =>
    cases da with
    | str s =>
      cases e
      exact .inr (.inr (.inl ⟨s, t, ra, rb, q⟩))
    | _ => cases e
  | dk f ks vs =>
    simp only [inB] at e
    split at e
    · rename_i k1 e1
      split at e
      · cases e
      · rename_i hf
        cases e
        obtain ⟨p, ws, rfl, hl, c, r⟩ := rb
        have hl2 : ks.length = ws.length := by rw [hl, r.length]
        refine .inr (.inr (.inr (.inl ⟨p, _, rfl, by rw [keyD_rep e1 ra]; exact dget_k (cl := cl) hf c hl2, ?_⟩)))
        rw [kIx_some hl2]
        exact q
    · split at e
      · split at e
        · cases e
        · rename_i hf
          cases e
          obtain ⟨p, ws, rfl, hl, c, r⟩ := rb
          exact .inr (.inr (.inr (.inr ⟨p, _, rfl, ra, .inl (cell_some c hf), q⟩)))
      · cases e
  | dt f ks vs =>
    simp only [inB] at e
    cases da with
    | tup ds =>
      simp only at e
      split at e
      · rename_i k1 e1
        split at e
        · cases e
        · rename_i hf
          cases e
          obtain ⟨p, ws, rfl, hl, c, r⟩ := rb
          obtain ⟨b, us, rfl, cb, rb2⟩ := ra
          have hl2 : ks.length = ws.length := by rw [hl, r.length]
          refine .inr (.inr (.inr (.inl ⟨p, _, rfl, dget_t (cl := cl) hf c hl2 (k := k1) (by rw [← keyL_rep e1 rb2]; exact cb.1), ?_⟩)))
          rw [kIx_some hl2]
          exact q
      · cases e
    | _ => cases e
  | _ => cases e
theorem op2_in : Op2 K (rInA K id) inD := fun cl I M H da db d x y Fa Fb Q hi hm ra rb e q => by
  unfold inD at e
  cases e1 : inB da db with
  | ok k =>
    rw [e1] at e
    cases e
    exact inA_of ra rb e1 (scal_ok q rfl)
  | ex _ => rw [e1] at e; cases e
  | bad => rw [e1] at e; cases e
theorem op2_nin : Op2 K (rInA K not) ninD := fun cl I M H da db d x y Fa Fb Q hi hm ra rb e q => by
  unfold ninD at e
  cases e1 : inB da db with
  | ok k =>
    rw [e1] at e
    cases e
    exact inA_of ra rb e1 (scal_ok q rfl)
  | ex _ => rw [e1] at e; cases e
  | bad => rw [e1] at e; cases e
def isnD : D → D → Res D
  | .non, .non => .ok (.bl true)
  | _, .non => .ok (.bl false)
  | _, _ => .bad
def notnD : D → D → Res D
  | .non, .non => .ok (.bl false)
  | _, .non => .ok (.bl true)
  | _, _ => .bad
theorem nx_isn : NoX isnD := fun a b e h => by
  unfold isnD at h
  split at h <;> cases h
theorem nx_notn : NoX notnD := fun a b e h => by
  unfold notnD at h
  split at h <;> cases h
def D.isNon : D → Bool
  | .non => true
  | _ => false
theorem rep_non {cl : Tb} {H : Hp} {I M F : AS} {d : D} {v : V} (r : Rep K cl H I M d v F) : decide (v = .non) = d.isNon := by
  cases d with
  | non => rw [show v = .non from r]; rfl
  | bl b => rw [show v = .bl b from r]; rfl
  | int b => rw [show v = .int b from r]; rfl
  | str b => rw [show v = .str b from r]; rfl
  | tup xs => obtain ⟨p, vs, rfl, _⟩ := r; rfl
  | ktup xs => obtain ⟨p, vs, rfl, _⟩ := r; rfl
  | lst f xs => obtain ⟨p, vs, rfl, _⟩ := r; rfl
  | dk f ks xs => obtain ⟨p, vs, rfl, _⟩ := r; rfl
  | dt f ks xs => obtain ⟨p, vs, rfl, _⟩ := r; rfl
  | obj f c ns xs => obtain ⟨p, dx, vs, rfl, _⟩ := r; rfl
theorem op2_isn : Op2 K (fun x y H Q => y = .non ∧ Q (.bl (decide (x = .non))) H) isnD := fun cl I M H da db d x y Fa Fb Q hi hm ra rb e q => by
  unfold isnD at e
  split at e
  · cases e
    exact ⟨rb, by rw [rep_non ra]; exact scal_ok q rfl⟩
  · rename_i hn
    cases e
    refine ⟨rb, ?_⟩
    rw [rep_non ra]
    have : da.isNon = false := by
      cases da with
      | non => exact absurd rfl (hn)
      | _ => rfl
    rw [this]
    exact scal_ok q rfl
  · cases e
theorem op2_notn : Op2 K (fun x y H Q => y = .non ∧ Q (.bl (!decide (x = .non))) H) notnD := fun cl I M H da db d x y Fa Fb Q hi hm ra rb e q => by
  unfold notnD at e
  split at e
  · cases e
    exact ⟨rb, by rw [rep_non ra]; exact scal_ok q rfl⟩
  · rename_i hn
    cases e
    refine ⟨rb, ?_⟩
    rw [rep_non ra]
    have : da.isNon = false := by
      cases da with
      | non => exact absurd rfl (hn)
      | _ => rfl
    rw [this]
    exact scal_ok q rfl
  · cases e
def ii (C : Int → Int → Bool) (f : Int → Int → D) : D → D → Res D
  | .int i, .int j => if C i j then .ok (f i j) else .bad
  | _, _ => .bad
theorem nx_ii {C : Int → Int → Bool} {f : Int → Int → D} : NoX (ii C f) := fun a b e h => by
  unfold ii at h
  split at h
  · split at h <;> cases h
  · cases h
theorem op2_ii {C : Int → Int → Bool} {C' : Int → Int → Prop} {f : Int → Int → Int} (hc : ∀ i j, C i j = true → C' i j) : Op2 K (rI C' fun i j => .int (f i j)) (ii C fun i j => .int (f i j)) := fun cl I M H da db d x y Fa Fb Q hi hm ra rb e q => by
  unfold ii at e
  split at e
  · rename_i i j
    split at e
    · rename_i h
      cases e
      exact ⟨i, j, ra, rb, hc i j h, scal_ok q rfl⟩
    · cases e
  · cases e
theorem op2_ib0 {f : Int → Int → Bool} : Op2 K (rI0 fun i j => .bl (f i j)) (ii (fun _ _ => true) fun i j => .bl (f i j)) := fun cl I M H da db d x y Fa Fb Q hi hm ra rb e q => by
  unfold ii at e
  split at e
  · rename_i i j
    cases e
    exact ⟨i, j, ra, rb, scal_ok q rfl⟩
  · cases e
def mulD : D → D → Res D := ii (fun i j => (decide (-(2 ^ 64) < i) && decide (i < 2 ^ 64)) || (decide (-(2 ^ 64) < j) && decide (j < 2 ^ 64))) fun i j => .int (i * j)
def modD : D → D → Res D := ii (fun _ j => decide (0 < j)) fun i j => .int (i % j)
def fdivD : D → D → Res D := ii (fun _ j => decide (0 < j) && decide (j < 1073741824)) fun i j => .int (i / j)
def powD : D → D → Res D := ii (fun i j => decide (0 ≤ j) && (decide (j ≤ 1000000) && decide (i.natAbs < 2 ^ 64))) fun i j => .int (i ^ j.toNat)
def ltD : D → D → Res D := ii (fun _ _ => true) fun i j => .bl (decide (i < j))
def leD : D → D → Res D := ii (fun _ _ => true) fun i j => .bl (decide (i ≤ j))
def gtD : D → D → Res D := ii (fun _ _ => true) fun i j => .bl (decide (j < i))
def geD : D → D → Res D := ii (fun _ _ => true) fun i j => .bl (decide (j ≤ i))
def addD : D → D → Res D
  | .int i, .int j => .ok (.int (i + j))
  | .str a, .str b => if a.length + b.length ≤ sizeLine then .ok (.str (a ++ b)) else .bad
  | .lst f xs, .lst g ys => if f ≠ .frz ∧ g ≠ .frz ∧ immL xs = true ∧ immL ys = true ∧ xs.length + ys.length ≤ sizeLine then .ok (.lst .own (xs ++ ys)) else .bad
  | .tup xs, .tup ys => if immL xs = true ∧ immL ys = true ∧ xs.length + ys.length ≤ sizeLine then .ok (.tup (xs ++ ys)) else .bad
  | _, _ => .bad
theorem nx_add : NoX addD := fun a b e h => by
  unfold addD at h
  repeat' split at h
  all_goals cases h
def rAddA (K : PySem.W.Frag) : R2 := fun x y H Q => (∃ i j, x = .int i ∧ y = .int j ∧ Q (.int (i + j)) H) ∨ (∃ i j, x = .str i ∧ y = .str j ∧ i.length + j.length ≤ sizeLine ∧ Q (.str (i ++ j)) H) ∨ rCat x y H Q ∨ rCatA K x y H Q
theorem op_addA {X : Cx} : OpR X (binaryOp .Add) (rAddA X.K) := OpR.or op_add (OpR.or op_add_str (OpR.or op_cat op_catA))
theorem immL_app {xs ys : List D} (h1 : immL xs = true) (h2 : immL ys = true) : immL (xs ++ ys) = true := by
  rw [immL_eq, List.all_append, ← immL_eq, ← immL_eq, h1, h2]
  rfl
theorem RepL.appI {cl : Tb} {H : Hp} {I M M' F F' : AS} {xs ys : List D} {vs ws : List V} (r : RepL K cl H I M xs vs F) (t : RepL K cl H I M' ys ws F') (h1 : immL xs = true) (h2 : immL ys = true) : RepL K cl H I (fun _ => True) (xs ++ ys) (vs ++ ws) none_ :=
  RepL.append (RepL.imm xs vs F none_ h1 r) (RepL.imm ys ws F' none_ h2 t)
theorem op2_add : Op2 K (rAddA K) addD := fun cl I M H da db d x y Fa Fb Q hi hm ra rb e q => by
  unfold addD at e
  split at e
  · rename_i i j
    cases e
    exact .inl ⟨i, j, ra, rb, scal_ok q rfl⟩
  · rename_i a b
    split at e
    · rename_i hz
      cases e
      exact .inr (.inl ⟨a, b, ra, rb, hz, scal_ok q rfl⟩)
    · cases e
  · rename_i f xs g ys
    split at e
    · rename_i hz
      cases e
      obtain ⟨f1, g1, i1, i2, z⟩ := hz
      obtain ⟨p, vs, rfl, c, r⟩ := ra
      obtain ⟨p2, ws, rfl, c2, r2⟩ := rb
      have c' := cell_some (c.resolve_right fun z => f1 z.1) f1
      have c2' := cell_some (c2.resolve_right fun z => g1 z.1) g1
      refine .inr (.inr (.inl ⟨p, p2, vs, ws, rfl, rfl, c', c2', by rw [r.length, r2.length]; exact z, fun n hn => ?_⟩))
      exact q _ _ _ (Same.new hn) (new_own hn) (rep_lst hn (RepL.appI r r2 i1 i2) (immL_app i1 i2))
    · cases e
  · rename_i xs ys
    split at e
    · rename_i hz
      cases e
      obtain ⟨i1, i2, z⟩ := hz
      obtain ⟨p, vs, rfl, c, r⟩ := ra
      obtain ⟨p2, ws, rfl, c2, r2⟩ := rb
      have ap := RepL.appI r r2 i1 i2
      refine .inr (.inr (.inr ⟨p, p2, vs, ws, rfl, rfl, .inl (.inl c.1), .inl (.inl c2.1), by rw [r.length, r2.length]; exact z, fun h0 => ?_, fun _ h0 => ?_, fun _ _ n hn => ?_⟩))
      · refine q _ H none_ same_refl (fun _ z => z.elim) ?_
        rw [i_none]
        subst h0
        exact ⟨p2, [] ++ ws, rfl, c2, ap⟩
      · refine q _ H none_ same_refl (fun _ z => z.elim) ?_
        rw [i_none]
        subst h0
        exact ⟨p, vs ++ [], rfl, by rw [List.append_nil]; exact c, ap⟩
      · exact q _ _ none_ (Same.new hn) (fun _ z => z.elim) (rep_tup hi hn ap (immL_app i1 i2))
    · cases e
  · cases e
end
section
variable {X : Cx} {c : Cc} {pos : Pos} {a b : Expr} {ga gb : Env → Res D}
theorem jn_add (ha : JV X c a ga) (hb : JV X c b gb) : JN X c (.BinOp a .Add b pos) (gBin addD ga gb) := jn_op op_addA op2_add nx_add ha hb
theorem jn_mod (ha : JV X c a ga) (hb : JV X c b gb) : JN X c (.BinOp a .Mod b pos) (gBin modD ga gb) := jn_op op_mod (op2_ii fun i j h => of_decide_eq_true h) nx_ii ha hb
theorem jn_fdiv (ha : JV X c a ga) (hb : JV X c b gb) : JN X c (.BinOp a .FloorDiv b pos) (gBin fdivD ga gb) := jn_op op_fdiv (op2_ii fun i j h => by
  simp only [Bool.and_eq_true, decide_eq_true_eq] at h
  exact h) nx_ii ha hb
theorem jn_pow (ha : JV X c a ga) (hb : JV X c b gb) : JN X c (.BinOp a .Pow b pos) (gBin powD ga gb) := jn_op op_pow (op2_ii fun i j h => by
  simp only [Bool.and_eq_true, decide_eq_true_eq] at h
  exact h) nx_ii ha hb
theorem jn_isn (ha : JV X c a ga) (hb : JV X c b gb) : JN X c (.Compare a [.Is] [b] pos) (gBin isnD ga gb) := jn_cmp op_isN op2_isn nx_isn ha hb (nomark _)
theorem jn_in (hu : X.A.units + 65 < cLine) (ha : JV X c a ga) (hb : JV X c b gb) (hm : behindInMarks .In b = false := by rfl) : JN X c (.Compare a [.In] [b] pos) (gBin inD ga gb) := jn_cmp (op_inA hu) op2_in nx_in ha hb hm
theorem jn_nin (hu : X.A.units + 65 < cLine) (ha : JV X c a ga) (hb : JV X c b gb) (hm : behindInMarks .NotIn b = false := by rfl) : JN X c (.Compare a [.NotIn] [b] pos) (gBin ninD ga gb) := jn_cmp (op_ninA hu) op2_nin nx_nin ha hb hm
end
end PD
namespace PD
open PySem L2

section
variable {X : Cx} {c : Cc} {pos : Pos} {a b e : Expr} {ga gb g : Env → Res D}
def asB : D → Res Bool
  | .bl b => .ok b
  | _ => .bad
def truD : D → Res Bool
  | .non => .ok false
  | .bl b => .ok b
  | .int i => .ok (i != 0)
  | .str s => if s.length ≤ sizeLine then .ok ((s.length : Int) != 0) else .bad
  | .tup xs => .ok (!xs.isEmpty)
  | .ktup xs => .ok (!xs.isEmpty)
  | .lst _ xs => .ok (!xs.isEmpty)
  | .dk f ks _ => if f = .frz then .bad else .ok (!ks.isEmpty)
  | _ => .bad
theorem truD_nx (d : D) (x : Exc) : truD d ≠ .ex x := fun h => by
  unfold truD at h
  repeat' split at h
  all_goals cases h
def gTru (g : Env → Res D) : Env → Res Bool := fun E => g E >>= truD
def gB (g : Env → Res D) : Env → Res Bool := fun E => g E >>= asB
theorem isEmptyL {xs : List D} {vs : List V} (h : vs.length = xs.length) : vs.isEmpty = xs.isEmpty := by
  cases xs <;> cases vs <;> simp_all
theorem tru_rep {K : PySem.W.Frag} {cl : Tb} {H : Hp} {I M F : AS} {d : D} {v : V} {k : Bool} (r : Rep K cl H I M d v F) (h : truD d = .ok k) : TruV K v H k := by
  cases d with
  | non => cases h; rw [show v = .non from r]; rfl
  | bl b => cases h; rw [show v = .bl _ from r]; rfl
  | int i => cases h; rw [show v = .int _ from r]; rfl
  | str s =>
    simp only [truD] at h
    split at h
    · rename_i hs
      cases h
      rw [show v = .str _ from r]
      exact ⟨hs, rfl⟩
    · cases h
  | tup xs =>
    cases h
    obtain ⟨p, vs, rfl, q, rr⟩ := r
    exact .inr (.inl ⟨vs, .inl (.inl q.1), by rw [isEmptyL rr.length]⟩)
  | ktup xs =>
    cases h
    obtain ⟨p, vs, rfl, q, rr⟩ := r
    exact .inr (.inl ⟨vs, .inr q, by rw [isEmptyL rr.length]⟩)
  | lst f xs =>
    cases h
    obtain ⟨p, vs, rfl, q, rr⟩ := r
    exact .inl ⟨vs, cell_sql q, by rw [isEmptyL rr.length]⟩
  | dk f ks xs =>
    simp only [truD] at h
    split at h
    · cases h
    · rename_i hf
      cases h
      obtain ⟨p, vs, rfl, hl, q, rr⟩ := r
      refine .inr (.inr ⟨_, cell_some q hf, ?_⟩)
      have h1 := rr.length
      cases ks <;> cases vs <;> simp_all <;> omega
  | dt f ks xs => cases h
  | obj f c ns xs => cases h
theorem jt_tru (ha : JV X c a ga) (he : ∀ whole, isTrue a X.env whole = (do let v ← whole; standAt a.pos; holding [v] (truthy v)) := by intro _; rfl) : JT X c a (gTru ga) := ⟨PT.weak (pt_truth ha.pe he) fun σ H Q ⟨E, W, s, q⟩ => by
  unfold gTru at q
  refine tV_use s (fun e e1 => by rw [e1] at q; exact q) (fun e1 => by rw [e1] at q; exact q) fun d e1 v H1 F sm s1 f r => ?_
  rw [e1] at q
  simp only [res_bind_ok] at q
  cases e2 : truD d with
  | ok k =>
    rw [e2] at q
    exact ⟨k, tru_rep r e2, q H1 sm⟩
  | ex x => exact absurd e2 (truD_nx d x)
  | bad => rw [e2] at q; exact q.elim⟩
/-- a comparison as a test -/
theorem jt_cmp {op : CmpOp} {r : R2} {f : D → D → Res D} (ho : OpR X (compareOp op) r) (hf : Op2 X.K r f) (nx : NoX f) (ha : JV X c a ga) (hb : JV X c b gb) (hm : behindInMarks op b = false := by first | exact nomark _ | rfl) :
    JT X c (.Compare a [op] [b] pos) (gB (gBin f ga gb)) := ⟨PT.weak (pt_cmpR ho ha.pe hb.pe hm) fun σ H Q ⟨E, W, s, q⟩ => by
  refine opsem ha hb hf nx ⟨E, W, s, ?_⟩
  unfold gB at q
  cases e1 : gBin f ga gb E with
  | ok d =>
    rw [e1] at q
    simp only [res_bind_ok] at q
    cases d with
    | bl k => exact fun v H' F sm f r => ⟨k, r, q H' sm⟩
    | _ => exact q.elim
  | ex x => rw [e1] at q; exact q
  | bad => rw [e1] at q; exact q⟩
theorem jt_lt (ha : JV X c a ga) (hb : JV X c b gb) : JT X c (.Compare a [.Lt] [b] pos) (gB (gBin ltD ga gb)) := jt_cmp op_lt op2_ib0 nx_ii ha hb (nomark _)
theorem jt_gt (ha : JV X c a ga) (hb : JV X c b gb) : JT X c (.Compare a [.Gt] [b] pos) (gB (gBin gtD ga gb)) := jt_cmp op_gt op2_ib0 nx_ii ha hb (nomark _)
theorem jt_ge (ha : JV X c a ga) (hb : JV X c b gb) : JT X c (.Compare a [.GtE] [b] pos) (gB (gBin geD ga gb)) := jt_cmp op_ge op2_ib0 nx_ii ha hb (nomark _)
theorem jt_eq (hu : X.A.units + 65 < cLine) (ha : JV X c a ga) (hb : JV X c b gb) : JT X c (.Compare a [.Eq] [b] pos) (gB (gBin eqD ga gb)) := jt_cmp (op_eqD (by omega)) op2_eq nx_eq ha hb (nomark _)
theorem jt_ne (hu : X.A.units + 65 < cLine) (ha : JV X c a ga) (hb : JV X c b gb) : JT X c (.Compare a [.NotEq] [b] pos) (gB (gBin neD ga gb)) := jt_cmp (op_neD (by omega)) op2_ne nx_ne ha hb (nomark _)
theorem jt_isn (ha : JV X c a ga) (hb : JV X c b gb) : JT X c (.Compare a [.Is] [b] pos) (gB (gBin isnD ga gb)) := jt_cmp op_isN op2_isn nx_isn ha hb (nomark _)
theorem jt_notn (ha : JV X c a ga) (hb : JV X c b gb) : JT X c (.Compare a [.IsNot] [b] pos) (gB (gBin notnD ga gb)) := jt_cmp op_notN op2_notn nx_notn ha hb (nomark _)
theorem jt_in (hu : X.A.units + 65 < cLine) (ha : JV X c a ga) (hb : JV X c b gb) (hm : behindInMarks .In b = false := by rfl) : JT X c (.Compare a [.In] [b] pos) (gB (gBin inD ga gb)) := jt_cmp (op_inA hu) op2_in nx_in ha hb hm
theorem jt_nin (hu : X.A.units + 65 < cLine) (ha : JV X c a ga) (hb : JV X c b gb) (hm : behindInMarks .NotIn b = false := by rfl) : JT X c (.Compare a [.NotIn] [b] pos) (gB (gBin ninD ga gb)) := jt_cmp (op_ninA hu) op2_nin nx_nin ha hb hm
theorem tT_use {K : PySem.W.Frag} {W : AS} {σ : St} {H : Hp} {E : Env} {g : Env → Res Bool} {Q : Bool → Hp → Prop} (s : Sat K c E σ H W) (hx : ∀ e, g E = .ex e → ∀ u dd H', Same H H' → ERep K c.cl H' (c.I W) e u dd → c.Wx u dd σ H') (hb : g E ≠ .bad)
    (h : ∀ k, g E = .ok k → ∀ H', Same H H' → Sat K c E σ H' W → Q k H') : tT K c g σ H Q := by
  refine ⟨E, W, s, ?_⟩
  cases e : g E with
  | ok d => exact fun H' sm => h d e H' sm (s.same sm)
  | ex x => exact hx x e
  | bad => exact hb e
variable {ta tb : Env → Res Bool} {rest : List Expr}
def gAnd (ga gb : Env → Res Bool) : Env → Res Bool := fun E => ga E >>= fun k => if k = true then gb E else .ok false
def gOr (ga gb : Env → Res Bool) : Env → Res Bool := fun E => ga E >>= fun k => if k = true then .ok true else gb E
def gNot (ga : Env → Res Bool) : Env → Res Bool := fun E => ga E >>= fun k => .ok (!k)
theorem jw_and1 (ha : JT X c a ta) : JW X c (.BoolOp .And [a] pos) ta := ⟨pw_and1 ha.pt⟩
theorem jw_or1 (ha : JT X c a ta) : JW X c (.BoolOp .Or [a] pos) ta := ⟨pw_or1 ha.pt⟩
theorem jw_and (ha : JT X c a ta) (hb : JW X c (.BoolOp .And (b :: rest) pos) tb) : JW X c (.BoolOp .And (a :: b :: rest) pos) (gAnd ta tb) := ⟨PW.weak (pw_and ha.pt hb.pw) fun σ H Q ⟨E, W, s, q⟩ => by
  unfold gAnd at q
  refine tT_use s (fun e e1 => by rw [e1] at q; exact q) (fun e1 => by rw [e1] at q; exact q) fun k e1 H1 sm s1 => ?_
  rw [e1] at q
  simp only [res_bind_ok] at q
  cases k with
  | true => exact ⟨E, W, s1, resT_back sm q⟩
  | false => exact q H1 sm⟩
theorem jw_or (ha : JT X c a ta) (hb : JW X c (.BoolOp .Or (b :: rest) pos) tb) : JW X c (.BoolOp .Or (a :: b :: rest) pos) (gOr ta tb) := ⟨PW.weak (pw_or ha.pt hb.pw) fun σ H Q ⟨E, W, s, q⟩ => by
  unfold gOr at q
  refine tT_use s (fun e e1 => by rw [e1] at q; exact q) (fun e1 => by rw [e1] at q; exact q) fun k e1 H1 sm s1 => ?_
  rw [e1] at q
  simp only [res_bind_ok] at q
  cases k with
  | true => exact q H1 sm
  | false => exact ⟨E, W, s1, resT_back sm q⟩⟩
theorem jt_w (h : JW X c e ta) : JT X c e ta := ⟨h.pw.pt⟩
theorem jt_not (ha : JT X c a ta) : JT X c (.UnaryOp .Not a pos) (gNot ta) := ⟨PT.weak (pt_not ha.pt) fun σ H Q ⟨E, W, s, q⟩ => by
  unfold gNot at q
  refine tT_use s (fun e e1 => by rw [e1] at q; exact q) (fun e1 => by rw [e1] at q; exact q) fun k e1 H1 sm s1 => ?_
  rw [e1] at q
  exact q H1 sm⟩
/-- as values: bools ahead -/
def gAndV (ga gb : Env → Res D) : Env → Res D := fun E => ga E >>= fun x => asB x >>= fun k => if k = true then gb E else .ok (.bl false)
theorem jn_one {op} (ha : JN X c a ga) : JN X c (.BoolOp op [a] pos) ga := ⟨pe_one ha.pe⟩
theorem jn_and (ha : JN X c a ga) (hb : JN X c (.BoolOp .And (b :: rest) pos) gb) : JN X c (.BoolOp .And (a :: b :: rest) pos) (gAndV ga gb) := ⟨PE.weak (pe_and ha.pe hb.pe) fun σ H Q ⟨E, W, s, q⟩ => by
  unfold gAndV at q
  refine tN_use s (fun e e1 => by rw [e1] at q; exact q) (fun e1 => by rw [e1] at q; exact q) fun d e1 v H1 F sm s1 f r => ?_
  rw [e1] at q
  simp only [res_bind_ok] at q
  cases d with
  | bl k =>
    simp only [asB, res_bind_ok] at q
    refine ⟨k, r, ?_⟩
    cases k with
    | true => exact ⟨E, W, s1, resN_back sm q⟩
    | false => exact q _ H1 none_ sm (fun _ z => z.elim) rfl
  | _ => exact q.elim⟩
variable {t : Expr} {gt : Env → Res Bool}
def gIf (gt : Env → Res Bool) (ga gb : Env → Res D) : Env → Res D := fun E => gt E >>= fun k => if k = true then ga E else gb E
theorem jv_if (ht : JT X c t gt) (ha : JV X c a ga) (hb : JV X c b gb) : JV X c (.IfExp t a b pos) (gIf gt ga gb) := ⟨PE.weak (pe_ifExp ht.pt ha.pe hb.pe) fun σ H Q ⟨E, W, s, q⟩ => by
  unfold gIf at q
  refine tT_use s (fun e e1 => by rw [e1] at q; exact q) (fun e1 => by rw [e1] at q; exact q) fun k e1 H1 sm s1 => ?_
  rw [e1] at q
  simp only [res_bind_ok] at q
  cases k with
  | true => exact ⟨E, W, s1, resV_back sm q⟩
  | false => exact ⟨E, W, s1, resV_back sm q⟩⟩
variable {d : Expr} {gd : Env → Res D}
def gChain (f f' : D → D → Res D) (ga gb gd : Env → Res D) : Env → Res D := fun E => ga E >>= fun x => gb E >>= fun y => f x y >>= fun z => asB z >>= fun k => if k = true then gd E >>= fun w => f' y w else .ok (.bl false)
theorem chainsem {r r' : R2} {f f' : D → D → Res D} (hf : Op2 X.K r f) (nx : NoX f) (hf' : Op2 X.K r' f') (nx' : NoX f') {σ : St} {H : Hp} {Q : VK} (h : tN X.K c (gChain f f' ga gb gd) σ H Q) : tChain r r' (tV X.K c ga) (tV X.K c gb) (tV X.K c gd) σ H Q := by
  obtain ⟨E, W, s, q⟩ := h
  unfold gChain at q
  refine tV_use s (fun e e1 => by rw [e1] at q; exact q) (fun e1 => by rw [e1] at q; exact q) fun da e1 x H1 Fa sm1 s1 fa ra => ?_
  rw [e1] at q
  simp only [res_bind_ok] at q
  refine tV_use s1 (fun e e2 => by rw [e2] at q; exact fun u dd H' sm => q u dd H' (sm1.trans sm)) (fun e2 => by rw [e2] at q; exact q) fun db e2 y H2 Fb sm2 s2 fb rb => ?_
  rw [e2] at q
  simp only [res_bind_ok] at q
  cases e3 : f da db with
  | ex e => exact absurd e3 (nx da db e)
  | bad => rw [e3] at q; exact q.elim
  | ok z =>
    rw [e3] at q
    simp only [res_bind_ok] at q
    cases z with
    | bl k =>
      simp only [asB, res_bind_ok] at q
      refine hf c.cl (c.I W) (c.M W) H2 da db _ x y Fa Fb _ s2.ih s2.mi (ra.same sm2) rb e3 fun v H3 F sm3 f r => ⟨k, r, ?_⟩
      have s3 := s2.same sm3
      cases k with
      | false => exact q _ H3 none_ ((sm1.trans sm2).trans sm3) (fun _ z => z.elim) rfl
      | true =>
        rw [if_pos rfl] at q
        show tV X.K c gd σ H3 _
        refine tV_use s3 (fun e e4 => by rw [e4] at q; exact fun u dd H' sm => q u dd H' (((sm1.trans sm2).trans sm3).trans sm)) (fun e4 => by rw [e4] at q; exact q) fun dw e4 w H4 Fw sm4 s4 fw rw' => ?_
        rw [e4] at q
        simp only [res_bind_ok] at q
        cases e5 : f' db dw with
        | ex e => exact absurd e5 (nx' db dw e)
        | bad => rw [e5] at q; exact q.elim
        | ok d5 =>
          rw [e5] at q
          refine hf' c.cl (c.I W) (c.M W) H4 db dw d5 y w Fb Fw Q s4.ih s4.mi ((rb.same sm3).same sm4) rw' e5 fun v H' F sm f r => ?_
          exact q v H' F ((((sm1.trans sm2).trans sm3).trans sm4).trans sm) (fun a z => ⟨(((sm1.trans sm2).trans sm3).trans sm4).free (f a z).1, (f a z).2⟩) r
    | _ => exact q.elim
theorem jt_chain_le (ha : JV X c a ga) (hb : JV X c b gb) (hd : JV X c d gd) (hm : lastMarks [.LtE, .LtE] [b, d] = false := by rfl) : JT X c (.Compare a [.LtE, .LtE] [b, d] pos) (gB (gChain leD leD ga gb gd)) := ⟨PT.weak (pt_chain op_le op_le ha.pe hb.pe hd.pe hm) fun σ H Q ⟨E, W, s, q⟩ => by
  refine chainsem (f := leD) (f' := leD) op2_ib0 nx_ii op2_ib0 nx_ii ⟨E, W, s, ?_⟩
  unfold gB at q
  cases e1 : gChain leD leD ga gb gd E with
  | ok d =>
    rw [e1] at q
    simp only [res_bind_ok] at q
    cases d with
    | bl k => exact fun v H' F sm f r => ⟨k, r, q H' sm⟩
    | _ => exact q.elim
  | ex x => rw [e1] at q; exact q
  | bad => rw [e1] at q; exact q⟩
/-- an operation that hands out a part of the first -/
def Op2V (K : PySem.W.Frag) (r : R2) (f : D → D → Res D) : Prop := ∀ (cl : Tb) (I M : AS) (H : Hp) (da db d : D) (x y : V) (Fa Fb : AS) (Q : VK), Rep K cl H I M da x Fa → Rep K cl H I M db y Fb → f da db = .ok d →
  (∀ v H' F, Same H H' → (∀ a, F a → Fa a ∨ Fb a) → Rep K cl H' I M d v F → Q v H') → r x y H Q
theorem opsemV {r : R2} {f : D → D → Res D} (ha : JV X c a ga) (hb : JV X c b gb) (ho : Op2V X.K r f) (nx : NoX f) {σ : St} {H : Hp} {Q : VK} (h : tV X.K c (gBin f ga gb) σ H Q) : tOp r (tV X.K c ga) (tV X.K c gb) σ H Q := by
  obtain ⟨E, W, s, q⟩ := h
  unfold gBin at q
  refine tV_use s (fun e e1 => by rw [e1] at q; exact q) (fun e1 => by rw [e1] at q; exact q) fun da e1 x H1 Fa sm1 s1 fa ra => ?_
  rw [e1] at q
  simp only [res_bind_ok] at q
  refine tV_use s1 (fun e e2 => by rw [e2] at q; exact fun u dd H' sm => q u dd H' (sm1.trans sm)) (fun e2 => by rw [e2] at q; exact q) fun db e2 y H2 Fb sm2 s2 fb rb => ?_
  rw [e2] at q
  simp only [res_bind_ok] at q
  cases e3 : f da db with
  | ok d =>
    rw [e3] at q
    refine ho c.cl (c.I W) (c.M W) H2 da db d x y Fa Fb Q (ra.same sm2) rb e3 fun v H' F sm f r => ?_
    exact q v H' ((sm1.trans sm2).trans sm) ⟨F, fun a z => (f a z).elim (fa a) (fb a), r⟩
  | ex e => exact absurd e3 (nx da db e)
  | bad =>
    rw [e3] at q
    exact q.elim
def atR {α : Type} (o : Option α) : Res α := match o with
  | some a => .ok a
  | none => .bad
@[simp] theorem atR_some {α : Type} (a : α) : atR (some a) = .ok a := rfl
@[simp] theorem atR_none {α : Type} : atR (none : Option α) = .bad := rfl
theorem atR_ok {α : Type} {o : Option α} {a : α} (h : atR o = .ok a) : o = some a := by
  cases o with
  | none => cases h
  | some b => cases h; rfl
theorem atR_nx {α : Type} {o : Option α} {e : Exc} : atR o ≠ .ex e := by cases o <;> exact fun z => nomatch z
def ixD (x y : D) : Res D := match x with
  | .lst _ xs => match y with
    | .int i => atR (atI xs i)
    | _ => .bad
  | .tup xs => match y with
    | .int i => atR (atI xs i)
    | _ => .bad
  | .ktup xs => match y with
    | .int i => atR (atI xs i)
    | _ => .bad
  | .str s => match y with
    | .int i => if s.length ≤ sizeLine then atR (atI s.cps.toList i) >>= fun k => .ok (.str ⟨#[k]⟩) else .bad
    | _ => .bad
  | .dk f ks vs => match keyD y with
    | some k => if f = .frz then .bad else atR ((kIx ks k).bind fun i => vs[i]?)
    | none => .bad
  | .dt f ks vs => match y with
    | .tup ds => match keyL ds with
      | some k => if f = .frz then .bad else atR ((kIx ks k).bind fun i => vs[i]?)
      | none => .bad
    | _ => .bad
  | _ => .bad
theorem bind_atR_nx {α : Type} {o : Option α} {f : α → Res D} {e : Exc} (hf : ∀ a e, f a ≠ .ex e) : (atR o >>= f) ≠ .ex e := by
  cases o with
  | none => exact fun z => nomatch z
  | some a => exact hf a e
theorem nx_ix : NoX ixD := fun x y e h => by
  unfold ixD at h
  repeat' split at h
  all_goals first | exact atR_nx h | exact bind_atR_nx (fun _ _ z => by cases z) h | cases h
def rIxA (K : PySem.W.Frag) : R2 := fun x y H Q => rIx K x y H Q ∨ ∃ a v, x = .ref a ∧ DGet H a y (some v) ∧ Q v H
theorem ix_dict (hu : X.A.units + 1 < cLine) : IxR X (fun x y H Q => ∃ a v, x = .ref a ∧ DGet H a y (some v) ∧ Q v H) := by
  intro value slice pins s σ H x y v u Q I rx ry h hs
  obtain ⟨a, v', rfl, g, q⟩ := h
  cases rx
  exact PyProof.Rows.tail_any (dict_typeIs I g) PySem.F.slot_dict_getitem.lookup (d_getItem hu I g ry fun w' s3 I3 rw' => ⟨v', H, I3, rw', q⟩) hs
theorem ix_A (hu : X.A.units + 1 < cLine) : IxR X (rIxA X.K) := ix_seq.or (ix_dict hu)
theorem atI_rep {K : PySem.W.Frag} {cl : Tb} {H : Hp} {I M F : AS} {xs : List D} {vs : List V} {i : Int} {d : D} (r : RepL K cl H I M xs vs F) (h : atI xs i = some d) : ∃ v F', atI vs i = some v ∧ (∀ a, F' a → F a) ∧ Rep K cl H I M d v F' := by
  unfold atI at h ⊢
  rw [r.length]
  cases e : ixN xs.length i with
  | none => rw [e] at h; cases h
  | some j =>
    rw [e] at h
    obtain ⟨v, F', g, b, rr⟩ := r.get (show xs[j]? = some d from h)
    exact ⟨v, F', g, b, rr⟩
theorem kIx_rep {K : PySem.W.Frag} {cl : Tb} {H : Hp} {I M F : AS} {κ : Type} [DecidableEq κ] {ks : List κ} {k : κ} {xs : List D} {vs : List V} {d : D} (r : RepL K cl H I M xs vs F) (h : ((kIx ks k).bind fun i => xs[i]?) = some d) :
    ∃ v F', ((kIx ks k).bind fun i => vs[i]?) = some v ∧ (∀ a, F' a → F a) ∧ Rep K cl H I M d v F' := by
  cases e : kIx ks k with
  | none => rw [e] at h; cases h
  | some j =>
    rw [e] at h
    obtain ⟨v, F', g, b, rr⟩ := r.get (show xs[j]? = some d from h)
    exact ⟨v, F', g, b, rr⟩
theorem op2_ix {K : PySem.W.Frag} : Op2V K (rIxA K) ixD := fun cl I M H da db d x y Fa Fb Q ra rb e q => by
  cases da with
  | lst f xs =>
    simp only [ixD] at e
    split at e
    · rename_i i
      have e := atR_ok e
      obtain ⟨p, vs, rfl, c, r⟩ := ra
      obtain ⟨v, F', g, b, rr⟩ := atI_rep r e
      exact .inl (.inl ⟨p, vs, i, v, rfl, rb, cell_sql c, g, q v H F' same_refl (fun a z => .inl (sub_le a (b a z))) rr⟩)
    · cases e
  | tup xs =>
    simp only [ixD] at e
    split at e
    · rename_i i
      have e := atR_ok e
      obtain ⟨p, vs, rfl, c, r⟩ := ra
      obtain ⟨v, F', g, b, rr⟩ := atI_rep r e
      exact .inl (.inr (.inl ⟨p, vs, i, v, rfl, rb, .inl (.inl c.1), g, q v H F' same_refl (fun a z => (b a z).elim) rr⟩))
    · cases e
  | ktup xs =>
    simp only [ixD] at e
    split at e
    · rename_i i
      have e := atR_ok e
      obtain ⟨p, vs, rfl, c, r⟩ := ra
      obtain ⟨v, F', g, b, rr⟩ := atI_rep r e
      exact .inl (.inr (.inl ⟨p, vs, i, v, rfl, rb, .inr c, g, q v H F' same_refl (fun a z => (b a z).elim) rr⟩))
    · cases e
  | str s =>
    simp only [ixD] at e
    split at e
    · rename_i i
      split at e
      · rename_i hz
        cases e1 : atI s.cps.toList i with
        | none => rw [e1] at e; cases e
        | some k =>
          rw [e1] at e
          cases e
          exact .inl (.inr (.inr ⟨s, i, k, ra, rb, hz, e1, q _ H none_ same_refl (fun _ z => z.elim) rfl⟩))
      · cases e
    · cases e
  | dk f ks xs =>
    simp only [ixD] at e
    split at e
    · rename_i k e1
      split at e
      · cases e
      · rename_i hf
        have e := atR_ok e
        obtain ⟨p, ws, rfl, hl, c, r⟩ := ra
        have hl2 : ks.length = ws.length := by rw [hl, r.length]
        obtain ⟨v, F', g, b, rr⟩ := kIx_rep r e
        refine .inr ⟨p, v, rfl, ?_, q v H F' same_refl (fun a z => .inl (sub_le a (b a z))) rr⟩
        rw [keyD_rep e1 rb, ← g]
        exact dget_k (cl := cl) hf c hl2
    · cases e
  | dt f ks xs =>
    simp only [ixD] at e
    split at e
    · split at e
      · rename_i k e1
        split at e
        · cases e
        · rename_i hf
          have e := atR_ok e
          obtain ⟨p, ws, rfl, hl, c, r⟩ := ra
          obtain ⟨b', us, rfl, cb, rb2⟩ := rb
          have hl2 : ks.length = ws.length := by rw [hl, r.length]
          obtain ⟨v, F', g, b, rr⟩ := kIx_rep r e
          refine .inr ⟨p, v, rfl, ?_, q v H F' same_refl (fun a z => .inl (sub_le a (b a z))) rr⟩
          rw [← g]
          exact dget_t (cl := cl) hf c hl2 (by rw [← keyL_rep e1 rb2]; exact cb.1)
      · cases e
    · cases e
  | _ => cases e
theorem jv_ix (hu : X.A.units + 1 < cLine) (ha : JV X c a ga) (hb : JV X c b gb) (hs : PlainIx b := by intro _ _; rfl) : JV X c (.Subscript a b pos) (gBin ixD ga gb) := ⟨PE.weak (pe_ix (ix_A hu) ha.pe hb.pe hs) fun _ _ _ h => opsemV ha hb op2_ix nx_ix h⟩
abbrev GO := Env → Res (Option Int)
def asI : D → Res Int
  | .int i => .ok i
  | _ => .bad
def gO (g : Env → Res D) : GO := fun E => g E >>= fun d => asI d >>= fun i => .ok (some i)
def gO0 : GO := fun _ => .ok none
def tO (K : PySem.W.Frag) (c : Cc) (g : GO) : TO := fun σ H Q => ∃ E W, Sat K c E σ H W ∧ match g E with
  | .ok o => ∀ H', Same H H' → Q o H'
  | .ex e => ∀ u dd H', Same H H' → ERep K c.cl H' (c.I W) e u dd → c.Wx u dd σ H'
  | .bad => False
structure JO (X : Cx) (c : Cc) (e : Option Expr) (g : GO) : Prop where po : PO X e (tO X.K c g)
theorem jo_none : JO X c none gO0 := ⟨⟨fun pins s σ H Q I ⟨E, W, st, q⟩ => po_none.run pins s σ H Q I (q H same_refl)⟩⟩
theorem jo_some (h : JV X c e g) : JO X c (some e) (gO g) := ⟨⟨fun pins s σ H Q I ⟨E, W, st, q⟩ => (po_some h.pe).run pins s σ H Q I (by
  unfold gO at q
  refine tV_use st (fun e e1 => by rw [e1] at q; exact q) (fun e1 => by rw [e1] at q; exact q) fun d e1 v H1 F sm s1 f r => ?_
  rw [e1] at q
  cases d with
  | int i => exact ⟨i, r, q H1 sm⟩
  | _ => exact q.elim)⟩⟩
def cutD (xs : List D) (lo hi : Option Int) : List D := (xs.drop (HT.sIx xs.length 0 lo)).take (HT.sIx xs.length xs.length hi - HT.sIx xs.length 0 lo)
def slD (x : D) (lo hi : Option Int) : Res D := match x with
  | .lst _ xs => if immL xs then .ok (.lst .own (cutD xs lo hi)) else .bad
  | .tup xs => if immL xs then .ok (.tup (cutD xs lo hi)) else .bad
  | .str s => if s.length ≤ sizeLine then .ok (.str (cutS s lo hi)) else .bad
  | _ => .bad
def gSl (g : Env → Res D) (gl gh : GO) : Env → Res D := fun E => g E >>= fun x => gl E >>= fun lo => gh E >>= fun hi => slD x lo hi
theorem immL_take {xs : List D} {n : Nat} (h : immL xs = true) : immL (xs.take n) = true := by
  rw [immL_eq, List.all_eq_true] at h ⊢
  exact fun d z => h d (List.mem_of_mem_take z)
theorem immL_drop {xs : List D} {n : Nat} (h : immL xs = true) : immL (xs.drop n) = true := by
  rw [immL_eq, List.all_eq_true] at h ⊢
  exact fun d z => h d (List.mem_of_mem_drop z)
def rSlAll (K : PySem.W.Frag) : V → Option Int → Option Int → Hp → VK → Prop := fun x lo hi H Q => rSlL K x lo hi H Q ∨ rSlA K x lo hi H Q ∨ rSlS x lo hi H Q
theorem sl_all : SlR X (rSlAll X.K) := SlR.or sl_list (SlR.or sl_tupA sl_str)
theorem jn_slice {lo hi : Option Expr} {p2 : Pos} {gl gh : GO} (ha : JV X c a ga) (hl : JO X c lo gl) (hh : JO X c hi gh) : JN X c (.Subscript a (.Slice lo hi none p2) pos) (gSl ga gl gh) := ⟨PE.weak (pe_slice sl_all ha.pe hl.po hh.po) fun σ H Q ⟨E, W, s, q⟩ => by
  unfold gSl at q
  refine tV_use s (fun e e1 => by rw [e1] at q; exact q) (fun e1 => by rw [e1] at q; exact q) fun d e1 v H1 F sm s1 f r => ?_
  rw [e1] at q
  simp only [res_bind_ok] at q
  refine ⟨E, W, s1, ?_⟩
  cases e2 : gl E with
  | ex x => rw [e2] at q; exact fun u dd H' sm2 => q u dd H' (sm.trans sm2)
  | bad => rw [e2] at q; exact q
  | ok l =>
    rw [e2] at q
    simp only [res_bind_ok] at q
    refine fun H2 sm2 => ⟨E, W, s1.same sm2, ?_⟩
    cases e3 : gh E with
    | ex x => rw [e3] at q; exact fun u dd H' sm3 => q u dd H' ((sm.trans sm2).trans sm3)
    | bad => rw [e3] at q; exact q
    | ok h =>
      rw [e3] at q
      simp only [res_bind_ok] at q
      intro H3 sm3
      have r3 := (r.same sm2).same sm3
      have sm4 := (sm.trans sm2).trans sm3
      have s3 := (s1.same sm2).same sm3
      cases d with
      | lst fl xs =>
        simp only [slD] at q
        split at q
        · rename_i hi
          obtain ⟨p, vs, rfl, cc, rr⟩ := r3
          refine .inl ⟨p, vs, rfl, cell_sql cc, fun n hn => ?_⟩
          have ec : cutV vs l h = (vs.drop (HT.sIx xs.length 0 l)).take (HT.sIx xs.length xs.length h - HT.sIx xs.length 0 l) := by
            unfold cutV
            rw [rr.length]
          have rc : RepL X.K c.cl H3 (c.I W) (fun _ => True) (cutD xs l h) (cutV vs l h) none_ := by
            rw [ec]
            exact RepL.take _ (RepL.drop _ (RepL.imm (M' := fun _ => True) xs vs _ none_ hi rr))
          exact q _ _ _ (sm4.trans (Same.new hn)) (fun a z => ⟨sm4.free ((new_own (o := .lst (cutV vs l h)) hn) a z).1, ((new_own (o := .lst (cutV vs l h)) hn) a z).2⟩) (rep_lst hn rc (immL_take (immL_drop hi)))
        · exact q.elim
      | tup xs =>
        simp only [slD] at q
        split at q
        · rename_i hi
          obtain ⟨p, vs, rfl, cc, rr⟩ := r3
          have ec : cutV vs l h = (vs.drop (HT.sIx xs.length 0 l)).take (HT.sIx xs.length xs.length h - HT.sIx xs.length 0 l) := by
            unfold cutV
            rw [rr.length]
          have rc : RepL X.K c.cl H3 (c.I W) (fun _ => True) (cutD xs l h) (cutV vs l h) none_ := by
            rw [ec]
            exact RepL.take _ (RepL.drop _ (RepL.imm (M' := fun _ => True) xs vs _ none_ hi rr))
          refine .inr (.inl ⟨p, vs, rfl, .inl (.inl cc.1), fun hw => ?_, fun hw n hn => ?_⟩)
          · refine q _ H3 none_ sm4 (fun _ z => z.elim) ?_
            rw [i_none]
            have e5 : cutV vs l h = vs := by
              unfold cutV
              rw [hw.1, hw.2]
              simp
            rw [e5] at rc
            exact ⟨p, vs, rfl, cc, rc⟩
          · exact q _ _ none_ (sm4.trans (Same.new hn)) (fun _ z => z.elim) (rep_tup s3.ih hn rc (immL_take (immL_drop hi)))
        · exact q.elim
      | str z =>
        simp only [slD] at q
        split at q
        · rename_i hz
          exact .inr (.inr ⟨z, r3, hz, q _ H3 none_ sm4 (fun _ z => z.elim) rfl⟩)
        · exact q.elim
      | _ => exact q.elim⟩
variable {es : List Expr} {gs gr : Env → Res (List D)}
def gNil : Env → Res (List D) := fun _ => .ok []
def gCons (g : Env → Res D) (gs : Env → Res (List D)) : Env → Res (List D) := fun E => g E >>= fun d => gs E >>= fun ds => .ok (d :: ds)
/-- parts that do not change -/
def resL (K : PySem.W.Frag) (c : Cc) (W : AS) (σ : St) (H : Hp) (r : Res (List D)) (Q : List V → Hp → Prop) : Prop := match r with
  | .ok ds => ∀ vs H', Same H H' → RepL K c.cl H' (c.I W) (fun _ => True) ds vs none_ → Q vs H'
  | .ex e => ∀ u dd H', Same H H' → ERep K c.cl H' (c.I W) e u dd → c.Wx u dd σ H'
  | .bad => False
def tL (K : PySem.W.Frag) (c : Cc) (g : Env → Res (List D)) : TA := fun σ H Q => ∃ E W, Sat K c E σ H W ∧ resL K c W σ H (g E) Q
structure JL (X : Cx) (c : Cc) (es : List Expr) (g : Env → Res (List D)) : Prop where pa : PA X es (tL X.K c g)
theorem jl_nil : JL X c [] gNil := ⟨PA.weak pa_nil fun σ H Q ⟨E, W, s, q⟩ => q [] H same_refl rfl⟩
theorem jl_cons (h : JN X c e g) (hr : JL X c es gs) (hs : starEach (e :: es) X.env = (false, eval e X.env) :: starEach es X.env := by rfl) : JL X c (e :: es) (gCons (gFr g) gs) := ⟨PA.weak (pa_cons (jn_fr h).pe hr.pa hs) fun σ H Q ⟨E, W, s, q⟩ => by
  have hfr : ∀ d, gFr g E = .ok d → ∃ d' : D, d = d'.fr := fun d e1 => by
    unfold gFr at e1
    cases e2 : g E with
    | ok d' => rw [e2] at e1; cases e1; exact ⟨d', rfl⟩
    | ex x => rw [e2] at e1; cases e1
    | bad => rw [e2] at e1; cases e1
  unfold gCons at q
  refine ⟨E, W, s, ?_⟩
  cases e1 : gFr g E with
  | ex x => rw [e1] at q; exact q
  | bad => rw [e1] at q; exact q
  | ok d =>
    rw [e1] at q
    simp only [res_bind_ok] at q
    intro v H1 F sm f r
    refine ⟨E, W, s.same sm, ?_⟩
    -- the frozen part bears no footprint
    cases e2 : gs E with
    | ex x => rw [e2] at q; exact fun u dd H' sm2 => q u dd H' (sm.trans sm2)
    | bad => rw [e2] at q; exact q
    | ok ds =>
      rw [e2] at q
      obtain ⟨d', rfl⟩ := hfr d e1
      refine fun vs H2 sm2 r2 => q (v :: vs) H2 (sm.trans sm2) (RepL.none_cons ?_ r2)
      have r3 : Rep X.K c.cl H1 (c.I W) (fun _ => True) d'.fr.fr v none_ := Rep.fr (fun a z => Or.inl z) d'.fr v F (fun a z w => s.fresh (f a z).1 w) r
      have e3 : d'.fr.fr = d'.fr := fr_fr d'
      rw [e3] at r3
      exact r3.same sm2⟩
def gTup (gs : Env → Res (List D)) : Env → Res D := fun E => gs E >>= fun ds => if immL ds ∧ ds.length ≤ sizeLine then .ok (.tup ds) else .bad
def gLst (gs : Env → Res (List D)) : Env → Res D := fun E => gs E >>= fun ds => if immL ds ∧ ds.length ≤ sizeLine then .ok (.lst .own ds) else .bad
theorem tL_use {K : PySem.W.Frag} {W : AS} {σ : St} {H : Hp} {E : Env} {Q : List V → Hp → Prop} (s : Sat K c E σ H W) (hx : ∀ e, gs E = .ex e → ∀ u dd H', Same H H' → ERep K c.cl H' (c.I W) e u dd → c.Wx u dd σ H') (hb : gs E ≠ .bad)
    (h : ∀ ds, gs E = .ok ds → ∀ vs H', Same H H' → Sat K c E σ H' W → RepL K c.cl H' (c.I W) (fun _ => True) ds vs none_ → Q vs H') : tL K c gs σ H Q := by
  refine ⟨E, W, s, ?_⟩
  cases e : gs E with
  | ok d => exact fun v H' sm r => h d e v H' sm (s.same sm) r
  | ex x => exact hx x e
  | bad => exact hb e
theorem jn_tup {x1} (h : JL X c es gs) : JN X c (.Tuple es x1 pos) (gTup gs) := ⟨PE.weak (pe_tup h.pa) fun σ H Q ⟨E, W, s, q⟩ => by
  unfold gTup at q
  refine tL_use s (fun e e1 => by rw [e1] at q; exact q) (fun e1 => by rw [e1] at q; exact q) fun ds e1 vs H1 sm s1 r => ?_
  rw [e1] at q
  simp only [res_bind_ok] at q
  split at q
  · rename_i hz
    exact ⟨by rw [r.length]; exact hz.2, fun n hn => q _ _ none_ (sm.trans (Same.new hn)) (fun _ z => z.elim) (rep_tup s1.ih hn r hz.1)⟩
  · exact q.elim⟩
theorem jn_lst (h : JL X c es gs) : JN X c (.List es pos) (gLst gs) := ⟨PE.weak (pe_lst h.pa) fun σ H Q ⟨E, W, s, q⟩ => by
  unfold gLst at q
  refine tL_use s (fun e e1 => by rw [e1] at q; exact q) (fun e1 => by rw [e1] at q; exact q) fun ds e1 vs H1 sm s1 r => ?_
  rw [e1] at q
  simp only [res_bind_ok] at q
  split at q
  · rename_i hz
    exact ⟨by rw [r.length]; exact hz.2, fun n hn => q _ _ _ (sm.trans (Same.new hn)) (fun a z => ⟨sm.free (new_own (o := .lst vs) hn a z).1, (new_own (o := .lst vs) hn a z).2⟩) (rep_lst hn r hz.1)⟩
  · exact q.elim⟩
/-- arguments: views, what is own lent -/
theorem ja_nil : JA X c [] gNil := ⟨PA.weak pa_nil fun σ H Q ⟨E, W, s, q⟩ => q [] H same_refl rfl⟩
theorem ja_cons (h : JV X c e g) (hr : JA X c es gs) (hs : starEach (e :: es) X.env = (false, eval e X.env) :: starEach es X.env := by rfl) : JA X c (e :: es) (gCons (gDm g) gs) := ⟨PA.weak (pa_cons h.pe hr.pa hs) fun σ H Q ⟨E, W, s, q⟩ => by
  unfold gCons gDm at q
  refine tV_use s (fun e e1 => by rw [e1] at q; exact q) (fun e1 => by rw [e1] at q; exact q) fun d e1 v H1 F sm s1 f r => ?_
  rw [e1] at q
  simp only [res_bind_ok] at q
  refine ⟨E, W, s1, ?_⟩
  cases e2 : gs E with
  | ex x => rw [e2] at q; exact fun u dd H' sm2 => q u dd H' (sm.trans sm2)
  | bad => rw [e2] at q; exact q
  | ok ds =>
    rw [e2] at q
    refine fun vs H2 sm2 r2 => q (v :: vs) H2 (sm.trans sm2) (RepL.none_cons ?_ r2)
    exact Rep.dm (fun a z => z) (fun _ z => Or.inr z) d v F (fun a z y => s.ws a (f a z) y) (r.same sm2)⟩
end
end PD
namespace PD
open PySem L2

section
variable {X : Cx} {c : Cc} {pos : Pos} {a b e : Expr} {ga gb g : Env → Res D}
end

def resS (K : PySem.W.Frag) (c : Cc) (W : AS) (H : Hp) (o : Out) (D : Ends) : Prop := match o with
  | .nx E => ∀ σ' H' W', Step H W H' W' → Sat K c E σ' H' W' → D.nx σ' H'
  | .bk E => ∀ σ' H' W', Step H W H' W' → Sat K c E σ' H' W' → D.bk σ' H'
  | .ct E => ∀ σ' H' W', Step H W H' W' → Sat K c E σ' H' W' → D.ct σ' H'
  | .rt d E => ∀ v σ' H' W' F, Step H W H' (fun a => W' a ∨ F a) → Sat K (c.addB F) E σ' H' W' → Rep K c.cl H' ((c.addB F).I W') (fun _ => True) d v F → D.rt v H'
  | .ex e E => ∀ u dd σ' H' W', Step H W H' W' → Sat K c E σ' H' W' → ERep K c.cl H' (c.I W') e u dd → c.Wx u dd σ' H'
  | .bad => False
def tS (K : PySem.W.Frag) (c : Cc) (s : Env → Out) : TS := fun D σ H => ∃ E W, Sat K c E σ H W ∧ resS K c W H (s E) D
structure JS (X : Cx) (c : Cc) (st : Stmt) (s : Env → Out) : Prop where ps : PS X st (tS X.K c s)
structure JSs (X : Cx) (c : Cc) (st : List Stmt) (s : Env → Out) : Prop where ps : PSs X st (tS X.K c s)
section
variable {K : PySem.W.Frag} {X : Cx} {c : Cc} {pos : Pos} {a b e : Expr} {ga gb g : Env → Res D} {W W' : AS} {σ : St} {H H' : Hp} {E : Env} {Dn : Ends}
theorem resS_back {o : Out} (t : Step H W H' W') (q : resS K c W H o Dn) : resS K c W' H' o Dn := by
  cases o with
  | nx E => exact fun σ2 H2 W2 t2 => q σ2 H2 W2 (t.trans t2)
  | bk E => exact fun σ2 H2 W2 t2 => q σ2 H2 W2 (t.trans t2)
  | ct E => exact fun σ2 H2 W2 t2 => q σ2 H2 W2 (t.trans t2)
  | rt d E => exact fun v σ2 H2 W2 F t2 => q v σ2 H2 W2 F (t.trans t2)
  | ex e E => exact fun u dd σ2 H2 W2 t2 => q u dd σ2 H2 W2 (t.trans t2)
  | bad => exact q
/-- a new value is stored at slot i -/
theorem Sat.store {i : Nat} {d : D} {v : V} {F : AS} (s : Sat K c E σ H W) (sm : Same H H') (hF : ∀ a, F a → H a = none ∧ H' a ≠ none) (r : Rep K c.cl H' (fun a => c.I W a ∨ F a) (fun _ => True) d v F) (hi : i < E.length) (h0 : c.p0 i = none) :
    Sat K c (E.set i (some d)) (σ.set i (some v)) H' (fun a => W a ∨ F a) ∧ Step H W H' (fun a => W a ∨ F a) := by
  obtain ⟨w1, ws, sb, w2, w3, wz, wp, w4, fp, f1, f2, f3⟩ := id s
  have st : Step H W H' (fun a => W a ∨ F a) := ⟨fun a o q _ => sm a o q, fun a q => Same.some_ sm q, fun a z => z.elim .inl fun y => .inr (hF a y).1⟩
  refine ⟨⟨fun a z => ?_, fun a z => ?_, sb, fun a z => z.elim (fun y => Same.some_ sm (w2 a y)) fun y => (hF a y).2, fun a z => Same.some_ sm (w3 a z), c.zs _ _ _ _ st wz, fun j v e => ?_, by rw [List.length_set, List.length_set]; exact w4,
    fun j => if j = i then F else fp j, fun j a z => ?_, fun j k a hjk z => ?_, fun j d' e => ?_⟩, st⟩
  · rcases z with z | z
    · exact w1 a z
    · exact fun y => w3 a y (hF a z).1
  · rcases z with z | z
    · exact ws a z
    · exact fun y => w3 a (sb a y) (hF a z).1
  · by_cases hj : j = i
    · rw [hj, h0] at e; cases e
    · rw [List.getElem?_set_ne (Ne.symm hj)]
      exact wp j v e
  · simp only at z
    split at z
    · exact .inr z
    · exact .inl (f1 j a z)
  · simp only at z ⊢
    split at z
    · rename_i hj
      split
      · rename_i hk
        exact absurd (hj.trans hk.symm) hjk
      · exact fun y => w2 a (f1 k a y) (hF a z).1
    · split
      · exact fun y => w2 a (f1 j a z) (hF a y).1
      · exact f2 j k a hjk z
  · by_cases hj : j = i
    · subst hj
      rw [List.getElem?_set_self (by omega)] at e
      cases e
      refine ⟨v, List.getElem?_set_self (by omega), ?_⟩
      simp only [if_pos]
      refine Rep.mono (fun a o q n => ⟨q, fun y => n ?_⟩) (fun a o q n => absurd trivial n) d v F F (fun _ _ q _ => q) (fun _ z => z) r
      rcases y with (y | y) | y
      · exact .inl (.inl y)
      · exact .inr y
      · exact .inl (.inr y)
    · rw [List.getElem?_set_ne (Ne.symm hj)] at e
      obtain ⟨v', q, r'⟩ := f3 j d' e
      refine ⟨v', by rw [List.getElem?_set_ne (Ne.symm hj)]; exact q, ?_⟩
      simp only [if_neg hj]
      refine Rep.mono (fun a o q n => ⟨sm a o q, fun y => ?_⟩) (fun a o q n => ⟨sm a o q, fun y => ?_⟩) d' v' _ _ (fun a o q _ => sm a o q) (fun _ z => z) r'
      · rcases y with (y | y) | y
        · exact n (.inl y)
        · rw [(hF a y).1] at q; cases q
        · exact n (.inr y)
      · rcases y with (y | y) | y
        · exact n (.inl y)
        · rw [(hF a y).1] at q; cases q
        · exact n (.inr y)
/-- slot i emptied, what it held set free: W without it -/
theorem Sat.drop0 {i : Nat} {d : D} (s : Sat K c E σ H W) (e0 : E[i]? = some (some d)) : ∃ v F, σ[i]? = some (some v) ∧ (∀ a, F a → W a) ∧ Rep K c.cl H (c.I W) (c.M W) d v F ∧ Sat K (c.aside F) (E.set i none) σ H (fun a => W a ∧ ¬ F a) ∧ Sat K (c.addB F) (E.set i none) σ H (fun a => W a ∧ ¬ F a) := by
  obtain ⟨w1, ws, sb, w2, w3, wz, wp, w4, fp, f1, f2, f3⟩ := id s
  obtain ⟨v, e2, r⟩ := f3 i d e0
  have st : Step H W H (fun a => W a ∧ ¬ fp i a) := ⟨fun a o q _ => q, fun a q => q, fun a z => .inl z.1⟩
  have g1 : ∀ j a, (if j = i then none_ else fp j) a → W a ∧ ¬ fp i a := fun j a z => by
    split at z
    · exact z.elim
    · rename_i hj
      exact ⟨f1 j a z, f2 j i a hj z⟩
  have g2 : ∀ j k a, j ≠ k → (if j = i then none_ else fp j) a → ¬ (if k = i then none_ else fp k) a := fun j k a hjk z => by
    split at z
    · exact z.elim
    · split
      · exact fun y => y
      · exact f2 j k a hjk z
  refine ⟨v, fp i, e2, f1 i, r, ⟨fun a z y => y.elim (w1 a z.1) z.2, fun a z y => y.elim (ws a z.1) z.2, fun a z => z.imp (sb a) id, fun a z => w2 a z.1, fun a z => z.elim (w3 a) fun y => w2 a (f1 i a y), c.zs _ _ _ _ st wz, wp, by rw [List.length_set]; exact w4, fun j => if j = i then none_ else fp j, g1, g2, fun j d' e => ?_⟩,
    ⟨fun a z y => y.elim (w1 a z.1) z.2, fun a z => ws a z.1, fun a z => .inl (sb a z), fun a z => w2 a z.1, fun a z => z.elim (w3 a) fun y => w2 a (f1 i a y), c.zs _ _ _ _ st wz, wp, by rw [List.length_set]; exact w4, fun j => if j = i then none_ else fp j, g1, g2, fun j d' e => ?_⟩⟩
  · by_cases hj : j = i
    · subst hj
      rw [List.getElem?_set_self (List.getElem?_eq_some_iff.mp e0).1] at e
      cases e
    · rw [List.getElem?_set_ne (Ne.symm hj)] at e
      obtain ⟨v', q, r'⟩ := f3 j d' e
      refine ⟨v', q, ?_⟩
      simp only [if_neg hj]
      refine Rep.mono (fun a o q n => ⟨q, fun y => n ?_⟩) (fun a o q n => ⟨q, fun y => n ?_⟩) d' v' _ _ (fun _ _ q _ => q) (fun _ z => z) r'
      · rcases y with y | y | y
        · exact .inl y.1
        · exact .inr y
        · exact .inl (f1 i a y)
      · rcases y with y | y | y
        · exact .inl y.1
        · exact .inr y
        · exact .inl (f1 i a y)
  · by_cases hj : j = i
    · subst hj
      rw [List.getElem?_set_self (List.getElem?_eq_some_iff.mp e0).1] at e
      cases e
    · rw [List.getElem?_set_ne (Ne.symm hj)] at e
      obtain ⟨v', q, r'⟩ := f3 j d' e
      refine ⟨v', q, ?_⟩
      simp only [if_neg hj]
      refine Rep.mono (fun a o q n => ⟨q, fun y => n ?_⟩) (fun a o q n => ⟨q, fun y => n ?_⟩) d' v' _ _ (fun _ _ q _ => q) (fun _ z => z) r'
      · rcases y with y | y | y
        · exact .inl y.1
        · exact .inr y
        · exact .inl (f1 i a y)
      · rcases y with y | y
        · exact .inl y.1
        · exact .inr y
/-- a view of nothing that is ours is stored -/
theorem Sat.storeV {i : Nat} {d : D} {v : V} {F : AS} (s : Sat K c E σ H W) (r : Rep K c.cl H (c.I W) (c.M W) d v F) (hd : d.noOwn = true) (hi : i < E.length) (h0 : c.p0 i = none) : Sat K c (E.set i (some d)) (σ.set i (some v)) H W := by
  obtain ⟨w1, ws, sb, w2, w3, wz, wp, w4, fp, f1, f2, f3⟩ := s
  refine ⟨w1, ws, sb, w2, w3, wz, fun j v e => ?_, by rw [List.length_set, List.length_set]; exact w4, fun j => if j = i then none_ else fp j, fun j a z => ?_, fun j k a hjk z => ?_, fun j d' e => ?_⟩
  · by_cases hj : j = i
    · rw [hj, h0] at e; cases e
    · rw [List.getElem?_set_ne (Ne.symm hj)]
      exact wp j v e
  · simp only at z
    split at z
    · exact z.elim
    · exact f1 j a z
  · simp only at z ⊢
    split at z
    · exact z.elim
    · split
      · exact fun y => y
      · exact f2 j k a hjk z
  · by_cases hj : j = i
    · subst hj
      rw [List.getElem?_set_self (by omega)] at e
      cases e
      refine ⟨v, List.getElem?_set_self (by omega), ?_⟩
      simp only [if_pos]
      exact Rep.noOwn d v F none_ hd r
    · rw [List.getElem?_set_ne (Ne.symm hj)] at e
      obtain ⟨v', q, r'⟩ := f3 j d' e
      refine ⟨v', by rw [List.getElem?_set_ne (Ne.symm hj)]; exact q, ?_⟩
      simp only [if_neg hj]
      exact r'
/-- a slot's own things change no more -/
def frzE (i : Nat) (E : Env) : Env := match E[i]? with
  | some (some d) => E.set i (some d.fr)
  | _ => E
theorem Sat.frz (s : Sat K c E σ H W) (i : Nat) : ∃ W', Sat K c (frzE i E) σ H W' ∧ Step H W H W' := by
  unfold frzE
  split
  · rename_i d e0
    obtain ⟨w1, ws, sb, w2, w3, wz, wp, w4, fp, f1, f2, f3⟩ := s
    have hi : i < E.length := (List.getElem?_eq_some_iff.mp e0).1
    have st : Step H W H (fun a => W a ∧ ¬ fp i a) := ⟨fun a o q _ => q, fun a q => q, fun a z => .inl z.1⟩
    refine ⟨fun a => W a ∧ ¬ fp i a, ⟨fun a z => w1 a z.1, fun a z => ws a z.1, sb, fun a z => w2 a z.1, w3, c.zs _ _ _ _ st wz, wp, by rw [List.length_set]; exact w4, fun j => if j = i then none_ else fp j, fun j a z => ?_, fun j k a hjk z => ?_, fun j d' e => ?_⟩, st⟩
    · simp only at z
      split at z
      · exact z.elim
      · rename_i hj
        exact ⟨f1 j a z, f2 j i a hj z⟩
    · simp only at z ⊢
      split at z
      · exact z.elim
      · split
        · exact fun y => y
        · exact f2 j k a hjk z
    · by_cases hj : j = i
      · subst hj
        rw [List.getElem?_set_self hi] at e
        cases e
        obtain ⟨v, q, r⟩ := f3 j d e0
        refine ⟨v, q, ?_⟩
        simp only [if_pos]
        have r2 := Rep.fr (I' := fun a => (W a ∧ ¬ fp j a) ∨ c.B a) (fun a z => z.elim (fun y => Or.inl y.1) .inr) d v (fp j) (fun a z y => y.elim (fun x => x.2 z) (w1 a (f1 j a z))) r
        exact Rep.mono (fun a o q n => ⟨q, n⟩) (fun a o q n => ⟨q, fun y => n (y.imp (·.1) id)⟩) _ v none_ none_ (fun _ _ q _ => q) (fun _ z => z) r2
      · rw [List.getElem?_set_ne (Ne.symm hj)] at e
        obtain ⟨v', q, r'⟩ := f3 j d' e
        refine ⟨v', q, ?_⟩
        simp only [if_neg hj]
        exact Rep.mono (fun a o q n => ⟨q, fun y => n (y.elim (fun x => .inl x.1) .inr)⟩) (fun a o q n => ⟨q, fun y => n (y.imp (·.1) id)⟩) d' v' _ _ (fun _ _ q _ => q) (fun _ z => z) r'
  · exact ⟨W, s, Step.refl H W⟩
/-- so much more borrowed: fresh things -/
theorem Sat.addF {F : AS} (s : Sat K c E σ H W) (sm : Same H H') (hF : ∀ a, F a → H a = none ∧ H' a ≠ none) : Sat K (c.addB F) E σ H' W := by
  obtain ⟨w1, ws, sb, w2, w3, wz, wp, w4, fp, f1, f2, f3⟩ := s
  refine ⟨fun a z y => y.elim (w1 a z) fun x => w2 a z (hF a x).1, ws, fun a z => .inl (sb a z), fun a z => Same.some_ sm (w2 a z), fun a z => z.elim (fun y => Same.some_ sm (w3 a y)) fun y => (hF a y).2, c.zs _ _ _ _ (Step.same sm) wz, wp, w4, fp, f1, f2, fun i d e => ?_⟩
  obtain ⟨v, q, r⟩ := f3 i d e
  refine ⟨v, q, Rep.mono (fun a o q n => ⟨sm a o q, fun y => ?_⟩) (fun a o q n => ⟨sm a o q, n⟩) d v _ _ (fun a o q _ => sm a o q) (fun _ z => z) r⟩
  rcases y with y | y | y
  · exact n (.inl y)
  · exact n (.inr y)
  · rw [(hF a y).1] at q; cases q
def seqS (s t : Env → Out) : Env → Out := fun E => match s E with
  | .nx E1 => t E1
  | o => o
def nilS : Env → Out := .nx
theorem jss_nil : JSs X c [] nilS := ⟨PSs.weak pss_nil fun D σ H ⟨E, W, s, q⟩ => q σ H W (Step.refl H W) s⟩
theorem seq_sem {s t : Env → Out} {D : Ends} (h : tS K c (seqS s t) D σ H) : tS K c s { D with nx := tS K c t D } σ H := by
  obtain ⟨E, W, st, q⟩ := h
  refine ⟨E, W, st, ?_⟩
  unfold seqS at q
  cases e : s E with
  | nx E1 =>
    rw [e] at q
    exact fun σ' H' W' t2 s2 => ⟨E1, W', s2, resS_back t2 q⟩
  | bk E => rw [e] at q; exact q
  | ct E => rw [e] at q; exact q
  | rt d E => rw [e] at q; exact q
  | ex x E => rw [e] at q; exact q
  | bad => rw [e] at q; exact q
theorem jss_cons {st : Stmt} {rest : List Stmt} {s t : Env → Out} (h : JS X c st s) (hr : JSs X c rest t) : JSs X c (st :: rest) (seqS s t) := ⟨PSs.weak (pss_cons h.ps hr.ps) fun _ _ _ h => seq_sem h⟩
theorem jss_one {st : Stmt} {s : Env → Out} (h : JS X c st s) : JSs X c [st] s := ⟨pss_one h.ps⟩
/-- ahead of a statement: slot i changes no more -/
def frS (i : Nat) (s : Env → Out) : Env → Out := fun E => s (frzE i E)
theorem js_fr {st : Stmt} {s : Env → Out} (i : Nat) (h : JS X c st s) : JS X c st (frS i s) := ⟨PS.weak h.ps fun D σ H ⟨E, W, s1, q⟩ => by
  obtain ⟨W', s2, t⟩ := s1.frz i
  exact ⟨_, W', s2, resS_back t q⟩⟩
def asgS (i : Nat) (g : Env → Res D) : Env → Out := fun E => match g E with
  | .ok d => if i < E.length then .nx (E.set i (some d)) else .bad
  | .ex e => .ex e E
  | .bad => .bad
theorem ex_ok {e : Exc} (s : Sat K c E σ H W) (q : resS K c W H (.ex e E) Dn) : ∀ u dd H', Same H H' → ERep K c.cl H' (c.I W) e u dd → c.Wx u dd σ H' := fun u dd H' sm r => q u dd σ H' W (Step.same sm) (s.same sm) r
theorem js_set {i : Nat} {x : Str} {pos' : Pos} (hN : X.N.Nodup) (hi : X.N[i]? = some x) (hx : Loc X.env.scope x) (h : JN X c e g) (h0 : c.p0 i = none) (hs : swapsWith e (some (.Name x pos')) pos.line X.env = pure false := by rfl)
    (hf : X.fn x = true ∨ X.env.scope.names.lookup x = some .local := by first | exact .inl rfl | exact .inr rfl | assumption) : JS X c (.Assign [.Name x pos'] e pos) (asgS i g) := ⟨PS.weak (ps_set hN hi hx h.pe hs hf) fun D σ H ⟨E, W, s, q⟩ => by
  unfold asgS at q
  refine ⟨E, W, s, ?_⟩
  cases e1 : g E with
  | ok d =>
    rw [e1] at q
    simp only at q
    split at q
    · rename_i hlt
      intro v H' F sm f r
      obtain ⟨s2, t⟩ := s.store sm f r hlt h0
      exact q _ H' _ t s2
    · exact q.elim
  | ex x => rw [e1] at q; exact ex_ok s q
  | bad => rw [e1] at q; exact q⟩
/-- x = e, a view of nothing own -/
def asgVS (i : Nat) (g : Env → Res D) : Env → Out := fun E => match g E with
  | .ok d => if i < E.length ∧ d.noOwn = true then .nx (E.set i (some d)) else .bad
  | .ex e => .ex e E
  | .bad => .bad
theorem js_setV {i : Nat} {x : Str} {pos' : Pos} (hN : X.N.Nodup) (hi : X.N[i]? = some x) (hx : Loc X.env.scope x) (h : JV X c e g) (h0 : c.p0 i = none) (hs : swapsWith e (some (.Name x pos')) pos.line X.env = pure false := by rfl)
    (hf : X.fn x = true ∨ X.env.scope.names.lookup x = some .local := by first | exact .inl rfl | exact .inr rfl | assumption) : JS X c (.Assign [.Name x pos'] e pos) (asgVS i g) := ⟨PS.weak (ps_set hN hi hx h.pe hs hf) fun D σ H ⟨E, W, s, q⟩ => by
  unfold asgVS at q
  refine ⟨E, W, s, ?_⟩
  cases e1 : g E with
  | ok d =>
    rw [e1] at q
    simp only at q
    split at q
    · rename_i hlt
      rintro v H' sm ⟨F, f, r⟩
      exact q _ H' W (Step.same sm) ((s.same sm).storeV r hlt.2 hlt.1 h0)
    · exact q.elim
  | ex x => rw [e1] at q; exact ex_ok s q
  | bad => rw [e1] at q; exact q⟩
/-- return -/
def retS (g : Env → Res D) : Env → Out := fun E => match g E with
  | .ok d => .rt d E
  | .ex e => .ex e E
  | .bad => .bad
theorem js_ret (h : JN X c e g) : JS X c (.Return (some e) pos) (retS g) := ⟨PS.weak (ps_ret h.pe) fun D σ H ⟨E, W, s, q⟩ => by
  unfold retS at q
  refine ⟨E, W, s, ?_⟩
  cases e1 : g E with
  | ok d =>
    rw [e1] at q
    intro v H' F sm f r
    refine q v σ H' W F ⟨fun a o q _ => sm a o q, fun a q => Same.some_ sm q, fun a z => z.elim .inl fun y => .inr (f a y).1⟩ (s.addF sm f) (Rep.mono (fun a o q n => ⟨q, fun y => n ?_⟩) (fun a o q n => ⟨q, n⟩) d v F F (fun _ _ q _ => q) (fun _ z => z) r)
    rcases y with y | y | y
    · exact .inl (.inl y)
    · exact .inl (.inr y)
    · exact .inr y
  | ex x => rw [e1] at q; exact ex_ok s q
  | bad => rw [e1] at q; exact q⟩
mutual
def D.noBor : D → Bool
  | .tup xs => noBorL xs
  | .ktup xs => noBorL xs
  | .lst f xs => decide (f ≠ .bor) && noBorL xs
  | .dk f _ vs => decide (f ≠ .bor) && noBorL vs
  | .dt f _ vs => decide (f ≠ .bor) && noBorL vs
  | .obj f _ _ vs => decide (f ≠ .bor) && noBorL vs
  | _ => true
def noBorL : List D → Bool
  | [] => true
  | d :: ds => d.noBor && noBorL ds
end
theorem cell_noBor {I M M' F : AS} {f : Fl} {p : Addr} {o : HO} (h : f ≠ .bor) (c : Cell H I M F f p o) : Cell H I M' F f p o := by
  cases f with
  | bor => exact absurd rfl h
  | _ => exact c
mutual
theorem Rep.noBor {cl : Tb} {I M M' : AS} : ∀ (d : D) (v : V) (F : AS), d.noBor = true → Rep K cl H I M d v F → Rep K cl H I M' d v F
  | .non, _, _, _, h => h
  | .bl _, _, _, _, h => h
  | .int _, _, _, _, h => h
  | .str _, _, _, _, h => h
  | .tup xs, v, F, n, h => by
    simp only [D.noBor] at n
    obtain ⟨p, vs, e, c, r⟩ := h
    exact ⟨p, vs, e, c, RepL.noBor xs vs _ n r⟩
  | .ktup xs, v, F, n, h => by
    simp only [D.noBor] at n
    obtain ⟨p, vs, e, c, r⟩ := h
    exact ⟨p, vs, e, c, RepL.noBor xs vs _ n r⟩
  | .lst f xs, v, F, n, h => by
    simp only [D.noBor, Bool.and_eq_true, decide_eq_true_eq] at n
    obtain ⟨p, vs, e, c, r⟩ := h
    refine ⟨p, vs, e, ?_, RepL.noBor xs vs _ n.2 r⟩
    rcases c with c | c
    · exact .inl (cell_noBor n.1 c)
    · exact .inr c
  | .dk f ks xs, v, F, n, h => by
    simp only [D.noBor, Bool.and_eq_true, decide_eq_true_eq] at n
    obtain ⟨p, vs, e, l, c, r⟩ := h
    exact ⟨p, vs, e, l, cell_noBor n.1 c, RepL.noBor xs vs _ n.2 r⟩
  | .dt f ks xs, v, F, n, h => by
    simp only [D.noBor, Bool.and_eq_true, decide_eq_true_eq] at n
    obtain ⟨p, vs, e, l, c, r⟩ := h
    exact ⟨p, vs, e, l, cell_noBor n.1 c, RepL.noBor xs vs _ n.2 r⟩
  | .obj f c ns xs, v, F, n, h => by
    simp only [D.noBor, Bool.and_eq_true, decide_eq_true_eq] at n
    obtain ⟨p, dx, vs, e, l, c, r⟩ := h
    exact ⟨p, dx, vs, e, l, cell_noBor n.1 c, RepL.noBor xs vs _ n.2 r⟩
theorem RepL.noBor {cl : Tb} {I M M' : AS} : ∀ (xs : List D) (vs : List V) (F : AS), noBorL xs = true → RepL K cl H I M xs vs F → RepL K cl H I M' xs vs F
  | [], _, _, _, h => h
  | d :: ds, vs, F, n, h => by
    simp only [noBorL, Bool.and_eq_true] at n
    obtain ⟨v, ws, F1, F2, e, r1, r2, a1, a2, a3⟩ := h
    exact ⟨v, ws, F1, F2, e, Rep.noBor d v F1 n.1 r1, RepL.noBor ds ws F2 n.2 r2, a1, a2, a3⟩
end
/-- return x: what is ours goes out -/
def retVS (i : Nat) : Env → Out := fun E => match E[i]? with
  | some (some d) => if d.noBor = true then .rt d (E.set i none) else .bad
  | _ => .bad
theorem js_retV {i : Nat} {x : Str} {px : Pos} (h : PE X (.Name x px) (tVar i)) : JS X c (.Return (some (.Name x px)) pos) (retVS i) := ⟨PS.weak (ps_ret h) fun D σ H ⟨E, W, s, q⟩ => by
  unfold retVS at q
  split at q
  · rename_i d e0
    split at q
    · rename_i hb
      obtain ⟨v, F, e2, f, r, _, s2⟩ := s.drop0 e0
      refine ⟨v, e2, ?_⟩
      refine q v σ H (fun a => W a ∧ ¬ F a) F ⟨fun a o q _ => q, fun a q => q, fun a z => .inl (z.elim (·.1) (f a))⟩ s2 ?_
      have r2 : Rep X.K c.cl H (c.I W) (fun _ => True) d v F := Rep.noBor d v F hb r
      refine Rep.mono (fun a o q n => ⟨q, fun y => n ?_⟩) (fun a o q n => ⟨q, n⟩) d v _ _ (fun _ _ q _ => q) (fun _ z => z) r2
      rcases y with y | y | y
      · exact .inl y.1
      · exact .inr y
      · exact .inl (f a y)
    · exact q.elim
  · exact q.elim⟩
/-- if -/
def ifS (gt : Env → Res Bool) (s t : Env → Out) : Env → Out := fun E => match gt E with
  | .ok k => if k = true then s E else t E
  | .ex e => .ex e E
  | .bad => .bad
theorem js_if {t : Expr} {x y : List Stmt} {gt : Env → Res Bool} {s1 s2 : Env → Out} (ht : JT X c t gt) (h1 : JSs X c x s1) (h2 : JSs X c y s2) : JS X c (.If t x y pos) (ifS gt s1 s2) := ⟨PS.weak (ps_if ht.pt h1.ps h2.ps) fun D σ H ⟨E, W, s, q⟩ => by
  unfold ifS at q
  refine ⟨E, W, s, ?_⟩
  cases e1 : gt E with
  | ok k =>
    rw [e1] at q
    intro H' sm
    cases k with
    | true => exact ⟨E, W, s.same sm, resS_back (Step.same sm) q⟩
    | false => exact ⟨E, W, s.same sm, resS_back (Step.same sm) q⟩
  | ex x => rw [e1] at q; exact ex_ok s q
  | bad => rw [e1] at q; exact q⟩
end
end PD
namespace PD
open PySem L2

/-- slots outside idx are as they were -/
def SameOut (idx : List Nat) (σ σ' : St) : Prop := σ'.length = σ.length ∧ ∀ j, j ∉ idx → σ'[j]? = σ[j]?
theorem SameOut.refl (σ : St) : SameOut [] σ σ := ⟨rfl, fun _ _ => rfl⟩
def tG (K : PySem.W.Frag) (c : Cc) (idx : List Nat) (ud : D → Env → Res Env) : TG := fun v σ H Q => ∃ E W d, Sat K c E σ H W ∧ (d.noOwn = true → Rep K c.cl H (c.I W) (c.M W) d v none_) ∧ match ud d E with
  | .ok E' => ∀ σ', SameOut idx σ σ' → Sat K c E' σ' H W → Q σ' H
  | _ => False
/-- several targets -/
def tGs (K : PySem.W.Frag) (c : Cc) (idx : List Nat) (uds : List D → Env → Res Env) : TGs := fun vs σ H Q => ∃ E W ds, Sat K c E σ H W ∧ (noOwnL ds = true → RepL K c.cl H (c.I W) (c.M W) ds vs none_) ∧ match uds ds E with
  | .ok E' => ∀ σ', SameOut idx σ σ' → Sat K c E' σ' H W → Q σ' H
  | _ => False
structure JG (X : Cx) (c : Cc) (t : Expr) (idx : List Nat) (ud : D → Env → Res Env) : Prop where pg : PG X t (tG X.K c idx ud)
structure JGs (X : Cx) (c : Cc) (ts : List Expr) (idx : List Nat) (uds : List D → Env → Res Env) : Prop where pg : PGs X ts (tGs X.K c idx uds)
theorem PG.weak {X : Cx} {e : Expr} {t t' : TG} (h : PG X e t) (w : ∀ v σ H Q, t' v σ H Q → t v σ H Q) : PG X e t' := ⟨fun pins s σ H v u Q I r q => h.run pins s σ H v u Q I r (w _ _ _ _ q)⟩
def udName (i : Nat) (d : D) (E : Env) : Res Env := if i < E.length ∧ d.noOwn = true then .ok (E.set i (some d)) else .bad
def udNil (ds : List D) (E : Env) : Res Env := match ds with
  | [] => .ok E
  | _ => .bad
def udCons (ud : D → Env → Res Env) (uds : List D → Env → Res Env) (ds : List D) (E : Env) : Res Env := match ds with
  | d :: r => ud d E >>= fun E1 => uds r E1
  | [] => .bad
def udTup (uds : List D → Env → Res Env) (d : D) (E : Env) : Res Env := match d with
  | .tup ds => if noOwnL ds then uds ds E else .bad
  | .ktup ds => if noOwnL ds then uds ds E else .bad
  | _ => .bad
section
variable {K : PySem.W.Frag} {X : Cx} {c : Cc} {pos : Pos}
theorem jg_name {i : Nat} {x : Str} (hN : X.N.Nodup) (hi : X.N[i]? = some x) (hx : Loc X.env.scope x) (h0 : c.p0 i = none) (hf : X.fn x = true ∨ X.env.scope.names.lookup x = some .local := by first | exact .inl rfl | exact .inr rfl | assumption) : JG X c (.Name x pos) [i] (udName i) :=
  ⟨PG.weak (pg_name hN hi hx hf) fun v σ H Q ⟨E, W, d, s, r, q⟩ => by
  unfold udName at q
  split at q
  · rename_i E' e1
    split at e1
    · rename_i hh
      cases e1
      refine q (σ.set i (some v)) ⟨List.length_set, fun j hj => List.getElem?_set_ne (fun z => hj (by simp [z]))⟩ (s.storeV (r hh.2) hh.2 hh.1 h0)
    · cases e1
  · exact q.elim⟩
theorem PGs.weak {X : Cx} {es : List Expr} {t t' : TGs} (h : PGs X es t) (w : ∀ v σ H Q, t' v σ H Q → t v σ H Q) : PGs X es t' := ⟨fun pins s σ H v u Q I r q => h.run pins s σ H v u Q I r (w _ _ _ _ q)⟩
theorem jgs_nil : JGs X c [] [] udNil := ⟨PGs.weak pgs_nil fun vs σ H Q ⟨E, W, ds, s, r, q⟩ => by
  cases ds with
  | nil => exact ⟨r rfl, q σ (SameOut.refl σ) s⟩
  | cons d ds => exact q.elim⟩
theorem SameOut.trans {i1 i2 : List Nat} {σ σ1 σ2 : St} (a : SameOut i1 σ σ1) (b : SameOut i2 σ1 σ2) : SameOut (i1 ++ i2) σ σ2 := ⟨b.1.trans a.1, fun j hj => by
  rw [List.mem_append, not_or] at hj
  exact (b.2 j hj.2).trans (a.2 j hj.1)⟩
/-- own marks are looked for by each target -/
def udChk (ud : D → Env → Res Env) : Prop := ∀ d E E', ud d E = .ok E' → d.noOwn = true
def udChks (uds : List D → Env → Res Env) : Prop := ∀ ds E E', uds ds E = .ok E' → noOwnL ds = true
theorem chk_name {i : Nat} : udChk (udName i) := fun d E E' h => by
  unfold udName at h
  split at h
  · rename_i hh; exact hh.2
  · cases h
theorem chk_nil : udChks udNil := fun ds E E' h => by
  cases ds with
  | nil => rfl
  | cons d ds => cases h
theorem chk_cons {ud : D → Env → Res Env} {uds : List D → Env → Res Env} (h1 : udChk ud) (h2 : udChks uds) : udChks (udCons ud uds) := fun ds E E' h => by
  cases ds with
  | nil => cases h
  | cons d ds =>
    simp only [udCons] at h
    cases e : ud d E with
    | ok E1 =>
      rw [e] at h
      simp only [noOwnL, h1 d E E1 e, h2 ds E1 E' h, Bool.and_self]
    | ex x => rw [e] at h; cases h
    | bad => rw [e] at h; cases h
theorem chk_tup {uds : List D → Env → Res Env} : udChk (udTup uds) := fun d E E' h => by
  cases d with
  | tup ds =>
    simp only [udTup] at h
    split at h
    · assumption
    · cases h
  | ktup ds =>
    simp only [udTup] at h
    split at h
    · assumption
    · cases h
  | _ => cases h
theorem jgs_cons {t : Expr} {ts : List Expr} {i1 i2 : List Nat} {ud : D → Env → Res Env} {uds : List D → Env → Res Env} (h : JG X c t i1 ud) (hc : udChk ud) (hr : JGs X c ts i2 uds) (hcs : udChks uds) (hs : (assignEach (t :: ts) X.env).map (·.2) = assign t X.env :: (assignEach ts X.env).map (·.2) := by rfl) : JGs X c (t :: ts) (i1 ++ i2) (udCons ud uds) :=
  ⟨PGs.weak (pgs_cons h.pg hr.pg hs) fun vs σ H Q ⟨E, W, ds, s, r, q⟩ => by
  cases ds with
  | nil => exact q.elim
  | cons d ds =>
    simp only [udCons] at q
    cases e : ud d E with
    | ok E1 =>
      rw [e] at q
      simp only [res_bind_ok] at q
      split at q
      · rename_i E2 e2
        have n1 := hc d E E1 e
        have n2 := hcs ds E1 E2 e2
        obtain ⟨v, ws, rfl, r1, r2⟩ := (r (by simp only [noOwnL, n1, n2, Bool.and_self])).uncons
        refine ⟨v, ws, rfl, E, W, d, s, fun _ => r1, ?_⟩
        rw [e]
        intro σ1 so1 s1
        refine ⟨E1, W, ds, s1, fun _ => r2, ?_⟩
        rw [e2]
        exact fun σ2 so2 s2 => q σ2 (so1.trans so2) s2
      · exact q.elim
    | ex x => rw [e] at q; exact q.elim
    | bad => rw [e] at q; exact q.elim⟩
theorem jg_tup {es : List Expr} {k n : Nat} {idx : List Nat} {uds : List D → Env → Res Env} (hcalm : X.calm = true) (h : JGs X c es idx uds) (hn : ∀ ds E E', uds ds E = .ok E' → ds.length = n) (hl : (assignEach es X.env).length = n := by rfl) (hst : (assignEach es X.env).findIdx? (·.1) = none := by rfl) :
    JG X c (.Tuple es k pos) idx (udTup uds) :=
  ⟨PG.weak (pg_tup hcalm h.pg hl hst) fun v σ H Q ⟨E, W, d, s, r, q⟩ => by
  cases d with
  | tup ds =>
    simp only [udTup] at q
    by_cases hh : noOwnL ds = true
    · rw [if_pos hh] at q
      cases e1 : uds ds E with
      | ok E1 =>
        rw [e1] at q
        obtain ⟨p, vs, rfl, cc, rr⟩ := r hh
        refine ⟨p, vs, rfl, .inl (.inl cc.1), by rw [rr.length, hn ds E E1 e1], E, W, ds, s, fun _ => rr, ?_⟩
        rw [e1]
        exact q
      | ex x => rw [e1] at q; exact q.elim
      | bad => rw [e1] at q; exact q.elim
    · rw [if_neg hh] at q
      exact q.elim
  | ktup ds =>
    simp only [udTup] at q
    by_cases hh : noOwnL ds = true
    · rw [if_pos hh] at q
      cases e1 : uds ds E with
      | ok E1 =>
        rw [e1] at q
        obtain ⟨p, vs, rfl, cc, rr⟩ := r hh
        refine ⟨p, vs, rfl, .inr cc, by rw [rr.length, hn ds E E1 e1], E, W, ds, s, fun _ => rr, ?_⟩
        rw [e1]
        exact q
      | ex x => rw [e1] at q; exact q.elim
      | bad => rw [e1] at q; exact q.elim
    · rw [if_neg hh] at q
      exact q.elim
  | _ => exact q.elim⟩
def lenIs (uds : List D → Env → Res Env) (n : Nat) : Prop := ∀ ds E E', uds ds E = .ok E' → ds.length = n
theorem len_nil : lenIs udNil 0 := fun ds E E' h => by
  cases ds with
  | nil => rfl
  | cons d ds => cases h
theorem len_cons {ud : D → Env → Res Env} {uds : List D → Env → Res Env} {n : Nat} (h : lenIs uds n) : lenIs (udCons ud uds) (n + 1) := fun ds E E' e => by
  cases ds with
  | nil => cases e
  | cons d ds =>
    simp only [udCons] at e
    cases e1 : ud d E with
    | ok E1 => rw [e1] at e; rw [List.length_cons, h ds E1 E' e]
    | ex x => rw [e1] at e; cases e
    | bad => rw [e1] at e; cases e
def unpS (ud : D → Env → Res Env) (g : Env → Res D) : Env → Out := fun E => match g E with
  | .ok d => match ud d E with
    | .ok E' => .nx E'
    | _ => .bad
  | .ex e => .ex e E
  | .bad => .bad
theorem js_unp {t e : Expr} {idx : List Nat} {ud : D → Env → Res Env} {g : Env → Res D} (he : JV X c e g) (hg : JG X c t idx ud) (hck : udChk ud) (hs : swapsWithSole [t] e pos.line X.env = pure false := by rfl) (hw : swappedStores [t] e X.env = pure none := by rfl) (h1 : (assignEach [t] X.env).map (·.2) = [assign t X.env] := by rfl) : JS X c (.Assign [t] e pos) (unpS ud g) :=
  ⟨PS.weak (ps_asg he.pe hg.pg hs hw h1) fun D σ H ⟨E, W, s, q⟩ => by
  unfold unpS at q
  refine tV_use s (fun e e1 => by rw [e1] at q; exact ex_ok s q) (fun e1 => by rw [e1] at q; exact q) fun d e1 v H1 F sm s1 f r => ?_
  rw [e1] at q
  simp only at q
  split at q
  · rename_i E' e2
    refine ⟨E, W, d, s1, fun hn => Rep.noOwn d v F none_ hn r, ?_⟩
    rw [e2]
    exact fun σ' so s2 => q σ' H1 W (Step.same sm) s2
  · exact q.elim⟩
end

/-- the walk J gives the items ds; strong: whatever the body does -/
def Ws (K : PySem.W.Frag) (c : Cc) (J : It) (ds : List D) (H : Hp) (W : AS) (strong : Bool) : Prop := ∃ G : Hp → AS → Prop, G H W ∧
  (∀ H W H' W', G H W → Step H W H' W' → (strong = true ∨ (W' = W ∧ Same H H')) → G H' W') ∧ (∀ i H W, i < ds.length → G H W → J.go i H) ∧ (∀ H W, G H W → J.stop ds.length H) ∧
  ∀ i H1 W x H' (Nw : AS), i < ds.length → (∀ a, c.I W a → H1 a ≠ none) → (∀ a, Nw a → H a = none ∧ H1 a ≠ none) → G H1 W → J.yld i H1 x H' → Same H1 H' ∧ ∃ d, ds[i]? = some d ∧ d.noOwn = true ∧ Rep K c.cl H' (fun a => c.I W a ∨ Nw a) (c.M W) d x none_
def tI (K : PySem.W.Frag) (c : Cc) (strong : Bool) (g : Env → Res (List D)) : TI := fun σ H R => ∃ E W, Sat K c E σ H W ∧ match g E with
  | .ok ds => ∀ J H', Same H H' → Ws K c J ds H' W strong → R J H'
  | .ex e => ∀ u dd H', Same H H' → ERep K c.cl H' (c.I W) e u dd → c.Wx u dd σ H'
  | .bad => False
structure JI (X : Cx) (c : Cc) (strong : Bool) (t it : Expr) (g : Env → Res (List D)) : Prop where pi : PI X t it (tI X.K c strong g)
theorem PI.weak {X : Cx} {t e : Expr} {w w' : TI} (h : PI X t e w) (f : ∀ σ H R, w' σ H R → w σ H R) : PI X t e w' := ⟨fun pins s σ H R I q => h.run pins s σ H R I (f _ _ _ q)⟩
theorem PI.or {X : Cx} {t e : Expr} {w w' : TI} (h : PI X t e w) (h' : PI X t e w') : PI X t e (fun σ H R => w σ H R ∨ w' σ H R) := ⟨fun pins s σ H R I q => q.elim (h.run pins s σ H R I) (h'.run pins s σ H R I)⟩
section
variable {K : PySem.W.Frag} {X : Cx} {c : Cc} {pos : Pos} {e t : Expr} {g : Env → Res D} {strong : Bool} {W : AS} {H : Hp}
def chars (s : Str) : List D := s.cps.toList.map fun k => .str ⟨#[k]⟩
def itD (strong : Bool) : D → Res (List D)
  | .lst f xs => if (f ≠ .own ∨ strong = false) ∧ noOwnL xs then .ok xs else .bad
  | .tup xs => if noOwnL xs then .ok xs else .bad
  | .ktup xs => if noOwnL xs then .ok xs else .bad
  | .str s => .ok (chars s)
  | _ => .bad
/-- a list that stays -/
theorem ws_m1 {H0 H1 H2 : Hp} {W1 W2 : AS} (st : Step H1 W1 H2 W2) : ∀ a o, H1 a = some o → ¬ (c.I W1 a ∨ H0 a = none) → H2 a = some o ∧ ¬ (c.I W2 a ∨ H0 a = none) := fun a o q n => ⟨st.1 a o q fun z => n (.inl (.inl z)), fun z => z.elim (fun z => z.elim (fun y => (st.2.2 a y).elim (fun x => n (.inl (.inl x))) fun x => by rw [x] at q; cases q) fun y => n (.inl (.inr y))) fun z => n (.inr z)⟩
theorem ws_m2 {H1 H2 : Hp} {W1 W2 : AS} (st : Step H1 W1 H2 W2) : ∀ a o, H1 a = some o → ¬ c.M W1 a → H2 a = some o ∧ ¬ c.M W2 a := fun a o q n => ⟨st.1 a o q fun z => n (.inl z), fun y => y.elim (fun y => (st.2.2 a y).elim (fun z => n (.inl z)) fun x => by rw [x] at q; cases q) fun z => n (.inr z)⟩
theorem ws_m0 {H1 H2 : Hp} {W1 W2 : AS} (st : Step H1 W1 H2 W2) : ∀ a o, H1 a = some o → ¬ c.I W1 a → H2 a = some o ∧ ¬ c.I W2 a := fun a o q n => ⟨st.1 a o q fun z => n (.inl z), fun z => z.elim (fun y => (st.2.2 a y).elim (fun x => n (.inl x)) fun x => by rw [x] at q; cases q) fun y => n (.inr y)⟩
theorem repL_old {xs : List D} {vs : List V} (r : RepL K c.cl H (c.I W) (c.M W) xs vs none_) : RepL K c.cl H (fun a => c.I W a ∨ H a = none) (c.M W) xs vs none_ :=
  RepL.mono (fun a o q n => ⟨q, fun z => z.elim n fun y => by rw [y] at q; cases q⟩) (fun a o q n => ⟨q, n⟩) xs vs _ _ (fun _ _ _ z => z.elim) (fun _ z => z) r
theorem rep_old {H1 : Hp} {W1 Nw : AS} {d : D} {v : V} (hN : ∀ a, Nw a → H a = none ∧ H1 a ≠ none) (r : Rep K c.cl H1 (fun a => c.I W1 a ∨ H a = none) (c.M W1) d v none_) : Rep K c.cl H1 (fun a => c.I W1 a ∨ Nw a) (c.M W1) d v none_ :=
  Rep.mono (fun a o q n => ⟨q, fun z => n (z.imp id fun y => (hN a y).1)⟩) (fun a o q n => ⟨q, n⟩) d v _ _ (fun _ _ _ z => z.elim) (fun _ z => z) r
theorem ws_list {f : Fl} {xs : List D} {p : Addr} {vs : List V} {F : AS} (h : f ≠ .own ∨ strong = false) (hn : noOwnL xs = true) (cc : Cell H (c.I W) (c.M W) F f p (.lst vs) ∨ (f = .frz ∧ KL K p vs)) (r : RepL K c.cl H (c.I W) (c.M W) xs vs (sub F f p)) : Ws K c (Itl K p) xs H W strong := by
  have hl := r.length
  have r0 : RepL K c.cl H (c.I W) (c.M W) xs vs none_ := RepL.noOwn xs vs _ none_ hn r
  refine ⟨fun H' W' => SqL K H' p vs ∧ RepL K c.cl H' (fun a => c.I W' a ∨ H a = none) (c.M W') xs vs none_ ∧ (f ≠ .own → Cell H' (c.I W') (c.M W') none_ f p (.lst vs) ∨ (f = .frz ∧ KL K p vs)), ⟨cell_sql cc, repL_old r0, fun hf => cc.imp (cell_noOwn hf) id⟩, ?_, ?_, ?_, ?_⟩
  · rintro H1 W1 H2 W2 ⟨a3, a4, a5⟩ st sg
    refine ⟨?_, RepL.mono (ws_m1 st) (ws_m2 st) xs vs _ _ (fun _ _ _ z => z.elim) (fun _ z => z) a4, fun hf => (a5 hf).imp (cell_mono (ws_m0 st) (ws_m2 st) (fun _ _ _ z => z.elim) (fun _ z => z)) id⟩
    by_cases hf : f = .own
    · rcases sg with sg | ⟨_, sm⟩
      · rcases h with h | h
        · exact absurd hf h
        · rw [h] at sg; cases sg
      · exact Same.seq sm a3
    · exact cell_sql ((a5 hf).imp (cell_mono (ws_m0 st) (ws_m2 st) (fun _ _ _ z => z.elim) (fun _ z => z)) id)
  · exact fun i H1 W1 hi ⟨a3, _⟩ => walk_list.goes i H1 (by rw [hl]; exact hi) a3
  · exact fun H1 W1 ⟨a3, _⟩ => by
      have := walk_list.stops H1 a3
      rwa [hl] at this
  · rintro i H1 W1 x H' Nw hi hI hN ⟨a3, a4, _⟩ y
    obtain ⟨rfl, gx⟩ := walk_list.yields i H1 x H' (by rw [hl]; exact hi) a3 y
    refine ⟨same_refl, xs[i], by simp [hi], ?_, ?_⟩
    · rw [noOwnL_eq, List.all_eq_true] at hn
      exact hn _ (List.getElem_mem hi)
    · obtain ⟨v, gv, rv⟩ := a4.get0 (show xs[i]? = some xs[i] by simp [hi])
      rw [gx] at gv
      cases gv
      exact rep_old hN rv
theorem ws_tup {xs : List D} {p : Addr} {vs : List V} (hn : noOwnL xs = true) (cc : (H p = some (.tup vs) ∧ ¬ c.I W p) ∨ KT K p vs) (r : RepL K c.cl H (c.I W) (c.M W) xs vs none_) : Ws K c (Itt K p) xs H W strong := by
  have hl := r.length
  refine ⟨fun H' W' => ((H' p = some (.tup vs) ∧ ¬ c.I W' p) ∨ KT K p vs) ∧ RepL K c.cl H' (fun a => c.I W' a ∨ H a = none) (c.M W') xs vs none_, ⟨cc, repL_old r⟩, ?_, ?_, ?_, ?_⟩
  · rintro H1 W1 H2 W2 ⟨a3, a4⟩ st _
    exact ⟨a3.imp (fun z => ws_m0 st _ _ z.1 z.2) id, RepL.mono (ws_m1 st) (ws_m2 st) xs vs _ _ (fun _ _ _ z => z.elim) (fun _ z => z) a4⟩
  · exact fun i H1 W1 hi ⟨a3, _⟩ => walk_tup.goes i H1 (by rw [hl]; exact hi) (a3.elim (fun z => .inl (.inl z.1)) .inr)
  · exact fun H1 W1 ⟨a3, _⟩ => by
      have := (walk_tup (K := K) (a := p) (xs := vs)).stops H1 (a3.elim (fun z => .inl (.inl z.1)) .inr)
      rwa [hl] at this
  · rintro i H1 W1 x H' Nw hi hI hN ⟨a3, a4⟩ y
    obtain ⟨rfl, gx⟩ := (walk_tup (K := K) (a := p) (xs := vs)).yields i H1 x H' (by rw [hl]; exact hi) (a3.elim (fun z => .inl (.inl z.1)) .inr) y
    refine ⟨same_refl, xs[i], by simp [hi], ?_, ?_⟩
    · rw [noOwnL_eq, List.all_eq_true] at hn
      exact hn _ (List.getElem_mem hi)
    · obtain ⟨v, gv, rv⟩ := a4.get0 (show xs[i]? = some xs[i] by simp [hi])
      rw [gx] at gv
      cases gv
      exact rep_old hN rv
theorem ws_str {z : Str} : Ws K c (Its z) (chars z) H W strong := by
  have hl : (chars z).length = z.cps.size := by simp [chars]
  refine ⟨fun _ _ => True, trivial, fun _ _ _ _ _ _ _ => trivial, fun i H1 W1 hi _ => walk_str.goes i H1 (by rw [← hl]; exact hi) trivial, fun H1 W1 _ => by rw [hl]; exact walk_str.stops H1 trivial, ?_⟩
  rintro i H1 W1 x H' Nw hi hI hN _ y
  obtain ⟨rfl, k, gk, rfl⟩ := walk_str.yields i H1 x H' (by rw [← hl]; exact hi) trivial y
  refine ⟨same_refl, .str ⟨#[k]⟩, ?_, rfl, rfl⟩
  simp [chars, gk]
def gIt (strong : Bool) (g : Env → Res D) : Env → Res (List D) := fun E => g E >>= itD strong
theorem ji_seq (h : JV X c e g) : JI X c strong t e (gIt strong g) := ⟨PI.weak (PI.or (pi_list h.pe) (PI.or (pi_tup h.pe) (pi_str h.pe))) fun σ H R ⟨E, W, s, q⟩ => by
  unfold gIt at q
  cases e1 : g E with
  | ex x =>
    rw [e1] at q
    exact .inl ⟨E, W, s, by rw [e1]; exact q⟩
  | bad => rw [e1] at q; exact q.elim
  | ok d =>
    rw [e1] at q
    simp only [res_bind_ok] at q
    cases d with
    | lst f xs =>
      simp only [itD] at q
      by_cases hh : (f ≠ .own ∨ strong = false) ∧ noOwnL xs = true
      · rw [if_pos hh] at q
        refine .inl ⟨E, W, s, ?_⟩
        rw [e1]
        rintro v H' sm ⟨F, fF, p, vs, rfl, cc, r⟩
        exact ⟨p, rfl, ⟨vs, cell_sql cc⟩, q _ H' sm (ws_list hh.1 hh.2 cc r)⟩
      · rw [if_neg hh] at q; exact q.elim
    | tup xs =>
      simp only [itD] at q
      by_cases hh : noOwnL xs = true
      · rw [if_pos hh] at q
        refine .inr (.inl ⟨E, W, s, ?_⟩)
        rw [e1]
        rintro v H' sm ⟨F, fF, p, vs, rfl, cc, r⟩
        exact ⟨p, rfl, ⟨vs, .inl (.inl cc.1)⟩, q _ H' sm (ws_tup hh (.inl cc) r)⟩
      · rw [if_neg hh] at q; exact q.elim
    | ktup xs =>
      simp only [itD] at q
      by_cases hh : noOwnL xs = true
      · rw [if_pos hh] at q
        refine .inr (.inl ⟨E, W, s, ?_⟩)
        rw [e1]
        rintro v H' sm ⟨F, fF, p, vs, rfl, cc, r⟩
        exact ⟨p, rfl, ⟨vs, .inr cc⟩, q _ H' sm (ws_tup hh (.inr cc) r)⟩
      · rw [if_neg hh] at q; exact q.elim
    | str z =>
      refine .inr (.inr ⟨E, W, s, ?_⟩)
      rw [e1]
      rintro v H' sm ⟨F, fF, r⟩
      exact ⟨z, r, q _ H' sm ws_str⟩
    | _ => exact q.elim⟩
/-- ints from lo on -/
def intsD (lo : Int) (n : Nat) : List D := (List.range n).map fun (i : Nat) => .int (lo + i)
theorem ws_range {lo : Int} {n : Nat} : Ws K c (Itr lo n) (intsD lo n) H W strong := by
  have hl : (intsD lo n).length = n := by simp [intsD]
  refine ⟨fun _ _ => True, trivial, fun _ _ _ _ _ _ _ => trivial, fun i H1 W1 hi _ => walk_range.goes i H1 (by rw [← hl]; exact hi) trivial, fun H1 W1 _ => by rw [hl]; exact walk_range.stops H1 trivial, ?_⟩
  rintro i H1 W1 x H' Nw hi hI hN _ y
  obtain ⟨rfl, rfl⟩ := walk_range.yields i H1 x H' (by rw [← hl]; exact hi) trivial y
  rw [hl] at hi
  refine ⟨same_refl, .int (lo + i), ?_, rfl, rfl⟩
  simp [intsD, hi]
/-- (not computed by the kernel: by a choice) -/
noncomputable def rngOk (i : Int) : Bool := @decide (-4611686018427387904 ≤ i ∧ i < 4611686018427387904) (Classical.propDecidable _)
noncomputable def gRng1 (g : Env → Res D) : Env → Res (List D) := fun E => g E >>= fun d => asI d >>= fun j => if rngOk j then .ok (intsD 0 j.toNat) else .bad
theorem rngOk_ok {i : Int} (h : rngOk i = true) : -(2 ^ 62) ≤ i ∧ i < 2 ^ 62 := by
  simp only [rngOk, decide_eq_true_eq] at h
  exact h
theorem ji_range1 {a : Expr} {p : Pos} (hg : Gl X "range") (hm : X.mg "range" = none) (ha : JV X c a g) (hs : starEach [a] X.env = [(false, eval a X.env)] := by rfl) : JI X c strong t (.Call (.Name "range" p) [a] [] pos) (gRng1 g) := ⟨PI.weak (pi_range1 hg hm (pa_cons ha.pe pa_nil (by rw [hs]; rfl)) hs) fun σ H R ⟨E, W, s, q⟩ => by
  unfold gRng1 at q
  refine tV_use s (fun e e1 => by rw [e1] at q; exact q) (fun e1 => by rw [e1] at q; exact q) fun d e1 v H1 F sm s1 f r => ?_
  rw [e1] at q
  simp only [res_bind_ok] at q
  cases d with
  | int j =>
    simp only [asI, res_bind_ok] at q
    by_cases hh : rngOk j = true
    · rw [if_pos hh] at q
      exact ⟨j, by rw [show v = .int j from r], (rngOk_ok hh).1, (rngOk_ok hh).2, q _ H1 sm ws_range⟩
    · rw [if_neg hh] at q; exact q.elim
  | _ => exact q.elim⟩
def forS (ud : D → Env → Res Env) (body : Env → Out) : List D → Env → Out
  | [], E => .nx E
  | d :: ds, E => match ud d E with
    | .ok E1 => match body E1 with
      | .nx E2 => forS ud body ds E2
      | .ct E2 => forS ud body ds E2
      | .bk E2 => .nx E2
      | o => o
    | _ => .bad
def gFor (gi : Env → Res (List D)) (ud : D → Env → Res Env) (body : Env → Out) : Env → Out := fun E => match gi E with
  | .ok ds => forS ud body ds E
  | .ex e => .ex e E
  | .bad => .bad
theorem js_for {it : Expr} {body : List Stmt} {gi : Env → Res (List D)} {idx : List Nat} {ud : D → Env → Res Env} {sb : Env → Out} (hp : PassesOwn (model X.prog X.w) X.A X.env X.xe) (hcalm : X.calm = true) (hi : JI X c true t it gi) (hg : JG X c t idx ud) (hb : JSs X c body sb)
    (hf : ∀ x, foldedSetIterable it X.env x = pure x := by intro _; rfl) : JS X c (.For t it body [] pos) (gFor gi ud sb) := ⟨PS.weak (ps_for hp hcalm hi.pi hg.pg hb.ps hf) fun D σ H ⟨E, W, s, q⟩ => by
  unfold gFor at q
  refine ⟨E, W, s, ?_⟩
  cases e1 : gi E with
  | ex x => rw [e1] at q; exact ex_ok s q
  | bad => rw [e1] at q; exact q.elim
  | ok ds =>
    rw [e1] at q
    rintro J H1 sm ⟨G, g0, gs, gg, gp, gy⟩
    have wk : Walk J ds.length (fun H => ∃ W, (∀ a, c.I W a → H a ≠ none) ∧ G H W) (fun i H x H' => J.yld i H x H') := ⟨fun i H hi ⟨W, _, h⟩ => gg i H W hi h, fun H ⟨W, _, h⟩ => gp H W h, fun i H x H' hi _ y => y⟩
    refine for_it wk (fun i σ H => ∃ E W, Sat X.K c E σ H W ∧ G H W ∧ resS X.K c W H (forS ud sb (ds.drop i) E) D) ⟨E, W, s.same sm, g0, resS_back (Step.same sm) q⟩ (fun i σ H hi ⟨E, W, s, g, _⟩ => ⟨W, s.ih, g⟩) ?_ ?_
    · rintro i x σ1 H2 H3 hi ⟨E1, W1, s1, g1, q1⟩ y
      obtain ⟨sm3, d, ed, hd, rd⟩ := gy i H2 W1 x H3 none_ hi s1.ih (fun _ z => z.elim) g1 y
      rw [i_none] at rd
      have s3 := s1.same sm3
      have ed2 : ds.drop i = d :: ds.drop (i + 1) := by
        rw [List.drop_eq_getElem_cons hi]
        rw [List.getElem?_eq_getElem hi] at ed
        cases ed
        rfl
      rw [ed2] at q1
      simp only [forS] at q1
      refine ⟨E1, W1, d, s3, fun _ => rd, ?_⟩
      cases e2 : ud d E1 with
      | ok E2 =>
        rw [e2] at q1
        simp only at q1 ⊢
        intro σ2 so s4
        refine ⟨E2, W1, s4, ?_⟩
        have g3 : G H3 W1 := gs _ _ _ _ g1 (Step.same sm3) (.inl rfl)
        have q3 := resS_back (Step.same sm3) q1
        cases e3 : sb E2 with
        | nx E3 =>
          rw [e3] at q3
          exact fun σ' H' W' t2 s5 => ⟨E3, W', s5, gs _ _ _ _ g3 t2 (.inl rfl), resS_back t2 q3⟩
        | ct E3 =>
          rw [e3] at q3
          exact fun σ' H' W' t2 s5 => ⟨E3, W', s5, gs _ _ _ _ g3 t2 (.inl rfl), resS_back t2 q3⟩
        | bk E3 => rw [e3] at q3; exact q3
        | rt d E3 => rw [e3] at q3; exact q3
        | ex x E3 => rw [e3] at q3; exact q3
        | bad => rw [e3] at q3; exact q3
      | ex x => rw [e2] at q1; exact q1.elim
      | bad => rw [e2] at q1; exact q1.elim
    · rintro σ1 H2 ⟨E1, W1, s1, g1, q1⟩
      rw [List.drop_length] at q1
      exact q1 σ1 H2 W1 (Step.refl _ _) s1⟩
/-- so many turns at most -/
def whileS (gt : Env → Res Bool) (body : Env → Out) : Nat → Env → Out
  | 0, _ => .bad
  | n + 1, E => match gt E with
    | .ok true => match body E with
      | .nx E2 => whileS gt body n E2
      | .ct E2 => whileS gt body n E2
      | .bk E2 => .nx E2
      | o => o
    | .ok false => .nx E
    | .ex e => .ex e E
    | .bad => .bad
theorem js_while {t : Expr} {body : List Stmt} {gt : Env → Res Bool} {sb : Env → Out} (n : Nat) (hp : PassesOwn (model X.prog X.w) X.A X.env X.xe) (ht : JT X c t gt) (hb : JSs X c body sb) : JS X c (.While t body [] pos) (whileS gt sb n) := ⟨PS.weak (ps_while hp ht.pt hb.ps) fun D σ H ⟨E, W, s, q⟩ => by
  refine ⟨fun m σ H => ∃ E W, Sat X.K c E σ H W ∧ resS X.K c W H (whileS gt sb m E) D, ⟨n, E, W, s, q⟩, ?_⟩
  rintro m σ1 H1 ⟨E1, W1, s1, q1⟩
  cases m with
  | zero => exact q1.elim
  | succ m =>
    simp only [whileS] at q1
    refine ⟨E1, W1, s1, ?_⟩
    cases e1 : gt E1 with
    | ex x => rw [e1] at q1; exact ex_ok s1 q1
    | bad => rw [e1] at q1; exact q1.elim
    | ok k =>
      rw [e1] at q1
      intro H2 sm
      cases k with
      | false => exact resS_back (Step.same sm) q1 σ1 H2 W1 (Step.refl _ _) (s1.same sm)
      | true =>
        simp only at q1
        rw [if_pos rfl]
        refine ⟨fun σ' H' => ∃ E W, Sat X.K c E σ' H' W ∧ resS X.K c W H' (whileS gt sb m E) D, fun σ' H' h => ⟨m, Nat.lt_succ_self m, h⟩, E1, W1, s1.same sm, ?_⟩
        have q2 := resS_back (Step.same sm) q1
        cases e3 : sb E1 with
        | nx E3 =>
          rw [e3] at q2
          exact fun σ' H' W' t2 s5 => ⟨E3, W', s5, resS_back t2 q2⟩
        | ct E3 =>
          rw [e3] at q2
          exact fun σ' H' W' t2 s5 => ⟨E3, W', s5, resS_back t2 q2⟩
        | bk E3 => rw [e3] at q2; exact q2
        | rt d E3 => rw [e3] at q2; exact q2
        | ex x E3 => rw [e3] at q2; exact q2
        | bad => rw [e3] at q2; exact q2⟩
end
end PD
namespace PD
open PySem L2

theorem wipe_in {σ : St} {i : Nat} : ∀ {vs : List Nat}, i ∈ vs → i < σ.length → (wipe σ vs)[i]? = some none
  | [], h, _ => by simp at h
  | v :: vs, h, hl => by
    unfold wipe
    by_cases e : v = i
    · subst e
      rw [List.getElem?_set_self (by rw [wipe_length]; exact hl)]
    · rw [List.getElem?_set_ne e]
      exact wipe_in ((List.mem_cons.mp h).resolve_left fun z => e z.symm) hl
theorem wipe_same {σ σ' : St} {vs idx : List Nat} (h : SameOut idx (wipe σ vs) σ') (hi : ∀ i ∈ idx, i ∈ vs) : wipe σ' vs = wipe σ vs := by
  have hl : σ'.length = σ.length := by rw [h.1, wipe_length]
  apply List.ext_getElem?
  intro j
  by_cases hj : j ∈ vs
  · by_cases hlt : j < σ.length
    · rw [wipe_in hj (by rw [hl]; exact hlt), wipe_in hj hlt]
    · rw [List.getElem?_eq_none (by rw [wipe_length]; omega), List.getElem?_eq_none (by rw [wipe_length]; omega)]
  · rw [wipe_out hj, h.2 j (fun z => hj (hi j z))]
/-- the block of a comprehension whose new object stands at d -/
abbrev Cc.blk (c : Cc) (d : Addr) : Cc := { cl := c.cl, B := fun a => c.B a ∨ a = d, Z := c.Z, zs := c.zs, Wx := fun _ _ _ _ => False, p0 := fun _ => none, S := c.S }
def wipeE (E : Env) : List Nat → Env
  | [] => E
  | v :: vs => (wipeE E vs).set v none
theorem wipeE_length (E : Env) : ∀ vs : List Nat, (wipeE E vs).length = E.length
  | [] => rfl
  | v :: vs => by unfold wipeE; rw [List.length_set, wipeE_length E vs]
theorem wipeE_some {E : Env} {i : Nat} {d : D} : ∀ {vs : List Nat}, (wipeE E vs)[i]? = some (some d) → E[i]? = some (some d) ∧ i ∉ vs
  | [], h => ⟨h, by simp⟩
  | v :: vs, h => by
    unfold wipeE at h
    by_cases hi : v = i
    · subst hi
      by_cases hv : v < (wipeE E vs).length
      · rw [List.getElem?_set_self hv] at h; cases h
      · rw [List.getElem?_eq_none (by simpa using hv)] at h; cases h
    · rw [List.getElem?_set_ne hi] at h
      obtain ⟨h1, h2⟩ := wipeE_some h
      exact ⟨h1, by simp only [List.mem_cons, not_or]; exact ⟨fun e => hi e.symm, h2⟩⟩
section
variable {K : PySem.W.Frag} {X : Cx} {c : Cc} {pos : Pos} {W : AS} {σ : St} {H H' : Hp} {E : Env} {p : Addr}
/-- from a frame to the block -/
theorem Sat.toBlk (s : Sat K c E σ H W) (hp : H p = none) (sm : Same H H') (hp' : H' p ≠ none) (vs : List Nat) : Sat K (c.blk p) (wipeE E vs) (wipe σ vs) H' W := by
  obtain ⟨w1, ws, sb, w2, w3, wz, wp, w4, fp, f1, f2, f3⟩ := s
  refine ⟨fun a z y => y.elim (w1 a z) fun x => w2 a z (by rw [x]; exact hp), ws, fun a z => .inl (sb a z), fun a z => Same.some_ sm (w2 a z), fun a z => z.elim (fun y => Same.some_ sm (w3 a y)) (fun y => by rw [y]; exact hp'), c.zs _ _ _ _ (Step.same sm) wz, fun _ v e => (by cases e), (by rw [wipe_length, wipeE_length]; exact w4), fp, f1, f2, fun i d e => ?_⟩
  obtain ⟨e1, e2⟩ := wipeE_some e
  obtain ⟨v, q, r⟩ := f3 i d e1
  refine ⟨v, by rw [wipe_out e2]; exact q, ?_⟩
  refine Rep.mono (fun a o q n => ⟨sm a o q, fun y => ?_⟩) (fun a o q n => ⟨sm a o q, n⟩) d v _ _ (fun a o q _ => sm a o q) (fun _ z => z) r
  rcases y with y | y | y
  · exact n (.inl y)
  · exact n (.inr y)
  · rw [y, hp] at q; cases q
structure JTs (X : Cx) (c : Cc) (ifs : List Expr) (g : Env → Res Bool) : Prop where pt : PTs X ifs (tT X.K c g)
def gYes : Env → Res Bool := fun _ => .ok true
theorem jts_nil : JTs X c [] gYes := ⟨⟨fun pins s σ H Q I ⟨E, W, st, q⟩ => pts_nil.run pins s σ H Q I (q H same_refl)⟩⟩
theorem jts_one {e : Expr} {g : Env → Res Bool} (h : JT X c e g) : JTs X c [e] g := ⟨pts_one h.pt⟩
theorem PTs.ex {ι : Type} {ifs : List Expr} {t : ι → TT} (h : ∀ i, PTs X ifs (t i)) : PTs X ifs (fun σ H Q => ∃ i, t i σ H Q) := ⟨fun pins s σ H Q I ⟨i, q⟩ => (h i).run pins s σ H Q I q⟩
theorem PE.ex {ι : Type} {e : Expr} {t : ι → TE} (h : ∀ i, PE X e (t i)) : PE X e (fun σ H Q => ∃ i, t i σ H Q) := ⟨fun pins s σ H Q I ⟨i, q⟩ => (h i).run pins s σ H Q I q⟩
theorem PG.ex {ι : Type} {e : Expr} {t : ι → TG} (h : ∀ i, PG X e (t i)) : PG X e (fun v σ H Q => ∃ i, t i v σ H Q) := ⟨fun pins s σ H v u Q I r ⟨i, q⟩ => (h i).run pins s σ H v u Q I r q⟩
def tGx (K : PySem.W.Frag) (c : Cc) (idx : List Nat) (ud : D → Env → Res Env) : TG := fun v σ H Q => ∃ d, tG K (c.blk d) idx ud v σ H Q
def tTx (K : PySem.W.Frag) (c : Cc) (g : Env → Res Bool) : TT := fun σ H Q => ∃ d, tT K (c.blk d) g σ H Q
def tNx (K : PySem.W.Frag) (c : Cc) (g : Env → Res D) : TE := fun σ H Q => ∃ d, tN K (c.blk d) g σ H Q
/-- the items made -/
def lcS (ud : D → Env → Res Env) (gt : Env → Res Bool) (ge : Env → Res D) (E : Env) : List D → Res (List D)
  | [] => .ok []
  | d :: ds => match ud d E with
    | .ok E2 => match gt E2 with
      | .ok k => if k = true then (match ge E2 with
          | .ok y => lcS ud gt ge E ds >>= fun ys => .ok (y.fr :: ys)
          | _ => .bad) else lcS ud gt ge E ds
      | _ => .bad
    | _ => .bad
def gLc (gi : Env → Res (List D)) (vs : List Nat) (ud : D → Env → Res Env) (gt : Env → Res Bool) (ge : Env → Res D) : Env → Res D := fun E => gi E >>= fun ds => lcS ud gt ge (wipeE E vs) ds >>= fun ys => if immL ys ∧ ys.length ≤ sizeLine then .ok (.lst .own ys) else .bad
theorem lcS_nx {ud : D → Env → Res Env} {gt : Env → Res Bool} {ge : Env → Res D} {E : Env} {x : Exc} : ∀ ds : List D, lcS ud gt ge E ds ≠ .ex x
  | [], h => by simp [lcS] at h
  | d :: ds, h => by
    simp only [lcS] at h
    repeat' split at h
    all_goals first | exact lcS_nx ds h | (cases h; done) | skip
    cases e : lcS ud gt ge E ds with
    | ok ys => rw [e] at h; cases h
    | ex y => exact lcS_nx ds (by rw [e] at h; cases h; exact e)
    | bad => rw [e] at h; cases h
theorem RepL.snoc {cl : Tb} {I M : AS} {xs : List D} {vs : List V} {d : D} {v : V} (r : RepL K cl H I M xs vs none_) (q : Rep K cl H I M d v none_) : RepL K cl H I M (xs ++ [d]) (vs ++ [v]) none_ := RepL.append r (RepL.none_cons q rfl)
theorem lcsem {own : List (Str × Nat)} {idx : List Nat} {gi : Env → Res (List D)} {ud : D → Env → Res Env} {gt : Env → Res Bool} {ge : Env → Res D} (hidx : ∀ i ∈ idx, i ∈ own.map (·.2)) {σ : St} {H : Hp} {Q : VK}
    (h : tN X.K c (gLc gi (own.map (·.2)) ud gt ge) σ H Q) :
    tLc (tI X.K c false gi) (tGx X.K c idx ud) (tTx X.K c gt) (tNx X.K c ge) (own.map (·.2)) σ H Q := by
  obtain ⟨E, W, s, q⟩ := h
  unfold gLc at q
  refine ⟨E, W, s, ?_⟩
  cases e1 : gi E with
  | ex x => rw [e1] at q; exact q
  | bad => rw [e1] at q; exact q
  | ok ds =>
    rw [e1] at q
    simp only [res_bind_ok] at q
    rintro J H1 sm ⟨G, g0, gs, gg, gp, gy⟩ p hp
    have s1 := s.same sm
    cases e2 : lcS ud gt ge (wipeE E (own.map (·.2))) ds with
    | ex x => exact absurd e2 (lcS_nx ds)
    | bad => rw [e2] at q; exact q.elim
    | ok ys =>
      rw [e2] at q
      simp only [res_bind_ok] at q
      by_cases hh : immL ys = true ∧ ys.length ≤ sizeLine
      · rw [if_pos hh] at q
        have wk : Walk J ds.length (fun H => Same H1 H) (fun i H x H' => J.yld i H x H') := ⟨fun i H hi h => gg i H W hi (gs _ _ _ _ g0 (Step.same h) (.inr ⟨rfl, h⟩)), fun H h => gp H W (gs _ _ _ _ g0 (Step.same h) (.inr ⟨rfl, h⟩)), fun i H x H' hi _ y => y⟩
        refine lc_it wk (g := tGx X.K c idx ud) (tt := tTx X.K c gt) (te := tNx X.K c ge) (vs := own.map (·.2)) (σ := σ) (D := p) (Qd := fun H => Q (.ref p) H) (fun i H => Same H1 H ∧ ∃ acc as bs, H p = some (.lst acc) ∧ RepL X.K c.cl H ((c.blk p).I W) (fun _ => True) as acc none_ ∧ lcS ud gt ge (wipeE E (own.map (·.2))) (ds.drop i) = .ok bs ∧ ys = as ++ bs)
          ⟨Same.new hp, [], [], ys, upd_same, rfl, e2, rfl⟩ (fun i H _ z => z.1) ?_ ?_
        · rintro i x H2 H3 hi ⟨sm2, acc, as, bs, ha, ra, eb, ey⟩ y
          have g2 := gs _ _ _ _ g0 (Step.same sm2) (.inr ⟨rfl, sm2⟩)
          obtain ⟨sm3, d, ed, hd, rd⟩ := gy i H2 W x H3 (fun a => a = p) hi (s1.same sm2).ih (fun a z => by
            have z : a = p := z
            subst z
            exact ⟨hp, ne_of_some ha⟩) g2 y
          have ed2 : ds.drop i = d :: ds.drop (i + 1) := by
            rw [List.drop_eq_getElem_cons hi]
            rw [List.getElem?_eq_getElem hi] at ed
            cases ed
            rfl
          rw [ed2] at eb
          simp only [lcS] at eb
          have ha3 := sm3 p _ ha
          have sb := s1.toBlk hp (sm2.trans sm3) (ne_of_some ha3) (own.map (·.2))
          refine ⟨p, wipeE E (own.map (·.2)), W, d, sb, fun hn => ?_, ?_⟩
          · -- the item as the block sees it
            refine Rep.mono (fun a o q n => ⟨q, fun z => n ?_⟩) (fun a o q n => ⟨q, n⟩) d x _ _ (fun _ _ _ z => z.elim) (fun _ z => z) rd
            rcases z with z | z | z
            · exact .inl (.inl z)
            · exact .inl (.inr z)
            · exact .inr z
          · cases e3 : ud d (wipeE E (own.map (·.2))) with
            | ex z => rw [e3] at eb; cases eb
            | bad => rw [e3] at eb; cases eb
            | ok E2 =>
              rw [e3] at eb
              simp only at eb ⊢
              intro σ2 so s4
              refine ⟨wipe_same so hidx, p, E2, W, s4, ?_⟩
              cases e4 : gt E2 with
              | ex z => rw [e4] at eb; cases eb
              | bad => rw [e4] at eb; cases eb
              | ok k =>
                rw [e4] at eb
                simp only at eb
                intro H4 sm4
                cases k with
                | false =>
                  rw [if_neg Bool.false_ne_true] at eb
                  rw [if_neg Bool.false_ne_true]
                  exact ⟨(sm2.trans sm3).trans sm4, acc, as, bs, sm4 p _ ha3, (ra.same sm3).same sm4, eb, ey⟩
                | true =>
                  rw [if_pos rfl] at eb
                  rw [if_pos rfl]
                  refine ⟨p, E2, W, s4.same sm4, ?_⟩
                  cases e5 : ge E2 with
                  | ex z => rw [e5] at eb; cases eb
                  | bad => rw [e5] at eb; cases eb
                  | ok y2 =>
                    rw [e5] at eb
                    simp only at eb
                    intro v H5 F sm5 f r5
                    cases e6 : lcS ud gt ge (wipeE E (own.map (·.2))) (ds.drop (i + 1)) with
                    | ex z => rw [e6] at eb; cases eb
                    | bad => rw [e6] at eb; cases eb
                    | ok zs =>
                      rw [e6] at eb
                      cases eb
                      have ha5 := sm5 p _ (sm4 p _ ha3)
                      have ra5 := ((ra.same sm3).same sm4).same sm5
                      have rf : Rep X.K c.cl H5 ((c.blk p).I W) (fun _ => True) y2.fr v none_ := Rep.fr (fun a z => Or.inl z) y2 v F (fun a z w => (s4.same sm4).fresh (f a z).1 w) r5
                      have rs := RepL.snoc ra5 rf
                      refine ⟨acc, ha5, ?_, fun a o z => ?_, acc ++ [v], as ++ [y2.fr], zs, upd_same, ?_, rfl, by rw [ey, List.append_assoc]; rfl⟩
                      · have h1 := ra5.length
                        have h2 := hh.2
                        rw [ey, List.length_append, List.length_cons] at h2
                        omega
                      · rw [upd_ne (ne_of_none z hp)]
                        exact sm5 a o (sm4 a o (sm3 a o (sm2 a o z)))
                      · refine RepL.mono (fun a o q n => ⟨?_, n⟩) (fun a o q n => absurd trivial n) _ _ _ _ (fun _ _ _ z => z.elim) (fun _ z => z) rs
                        rw [upd_ne fun z => n (.inr (.inr z))]
                        exact q
        · rintro H2 ⟨sm2, acc, as, bs, ha, ra, eb, ey⟩
          rw [List.drop_length] at eb
          simp only [lcS] at eb
          cases eb
          rw [List.append_nil] at ey
          subst ey
          refine q _ H2 (fun a => a = p) (sm.trans sm2) (fun a z => ?_) ⟨p, acc, rfl, .inl ⟨ha, rfl⟩, ?_⟩
          · have e : a = p := z
            subst e
            exact ⟨sm.free hp, ne_of_some ha⟩
          · refine RepL.weaken (fun _ z => z.elim) (RepL.mono (fun a o q n => ⟨q, fun y => n ?_⟩) (fun a o q n => absurd trivial n) _ _ _ _ (fun _ _ _ z => z.elim) (fun _ z => z) ra)
            rcases y with (y | y) | y
            · exact .inl y
            · exact .inr (.inl y)
            · exact .inr (.inr y)
      · rw [if_neg hh] at q
        exact q.elim
/-- [elt for tg in iter if ..] -/
theorem jn_lc {iter tg elt : Expr} {ifs : List Expr} {scope : Scope} {own : List (Str × Nat)} {idx : List Nat} {gi : Env → Res (List D)} {ud : D → Env → Res Env} {gt : Env → Res Bool} {ge : Env → Res D} (hc : X.calm = true) (hN : X.N.Nodup) (hi : JI X c false tg iter gi) (ok : BlkOk X.N X.env.scope scope own)
    (hg : ∀ (s : Shared) (H : Hp) (C : Addr) (cl : List (Str × Addr)) (fp : List Addr) (d : Addr), JG (X.blk s H scope (compEnvC scope cl C X.env) fp) (c.blk d) tg idx ud)
    (ht : ∀ (s : Shared) (H : Hp) (C : Addr) (cl : List (Str × Addr)) (fp : List Addr) (d : Addr), JTs (X.blk s H scope (compEnvC scope cl C X.env) fp) (c.blk d) ifs gt)
    (he : ∀ (s : Shared) (H : Hp) (C : Addr) (cl : List (Str × Addr)) (fp : List Addr) (d : Addr), JN (X.blk s H scope (compEnvC scope cl C X.env) fp) (c.blk d) elt ge)
    (hidx : ∀ i ∈ idx, i ∈ own.map (·.2) := by decide) (hs : ∀ x, foldedSetIterable iter X.env x = pure x := by intro _; rfl) : JN X c (.ListComp elt [⟨tg, iter, ifs, 0⟩] scope pos) (gLc gi (own.map (·.2)) ud gt ge) :=
  ⟨PE.weak (pe_lc hc hN hi.pi ok (g := tGx X.K c idx ud) (tt := tTx X.K c gt) (te := tNx X.K c ge) (fun s H C cl fp => PG.ex fun d => (hg s H C cl fp d).pg) (fun s H C cl fp => PTs.ex fun d => (ht s H C cl fp d).pt) (fun s H C cl fp => PE.ex fun d => (he s H C cl fp d).pe) hs) fun _ _ _ h => lcsem hidx h⟩
/-- y = [..] on one line, y a local name -/
theorem js_setLc {i : Nat} {y : Str} {py spos : Pos} {iter tg elt : Expr} {ifs : List Expr} {scope : Scope} {own : List (Str × Nat)} {idx : List Nat} {gi : Env → Res (List D)} {ud : D → Env → Res Env} {gt : Env → Res Bool} {ge : Env → Res D} (hc : X.calm = true) (hN : X.N.Nodup) (hy : X.N[i]? = some y) (hyl : X.env.scope.names.lookup y = some .local)
    (hsw : swapsWith (.ListComp elt [⟨tg, iter, ifs, 0⟩] scope pos) (some (.Name y py)) spos.line X.env = pure true) (hi : JI X c false tg iter gi) (ok : BlkOk X.N X.env.scope scope own)
    (hg : ∀ (s : Shared) (H : Hp) (C : Addr) (cl : List (Str × Addr)) (fp : List Addr) (d : Addr), JG (X.blk s H scope (compEnvC scope cl C X.env) fp) (c.blk d) tg idx ud)
    (ht : ∀ (s : Shared) (H : Hp) (C : Addr) (cl : List (Str × Addr)) (fp : List Addr) (d : Addr), JTs (X.blk s H scope (compEnvC scope cl C X.env) fp) (c.blk d) ifs gt)
    (he : ∀ (s : Shared) (H : Hp) (C : Addr) (cl : List (Str × Addr)) (fp : List Addr) (d : Addr), JN (X.blk s H scope (compEnvC scope cl C X.env) fp) (c.blk d) elt ge)
    (h0 : c.p0 i = none) (hidx : ∀ i ∈ idx, i ∈ own.map (·.2) := by decide) (hs : ∀ x, foldedSetIterable iter X.env x = pure x := by intro _; rfl) : JS X c (.Assign [.Name y py] (.ListComp elt [⟨tg, iter, ifs, 0⟩] scope pos) spos) (asgS i (gLc gi (own.map (·.2)) ud gt ge)) :=
  ⟨PS.weak (ps_setLc hc hN hy hyl hsw hi.pi ok (g := tGx X.K c idx ud) (tt := tTx X.K c gt) (te := tNx X.K c ge) (fun s H C cl fp => PG.ex fun d => (hg s H C cl fp d).pg) (fun s H C cl fp => PTs.ex fun d => (ht s H C cl fp d).pt) (fun s H C cl fp => PE.ex fun d => (he s H C cl fp d).pe) hs) fun D σ H ⟨E, W, s, q⟩ => by
  unfold asgS at q
  refine lcsem hidx ⟨E, W, s, ?_⟩
  cases e1 : gLc gi (own.map (·.2)) ud gt ge E with
  | ok d =>
    rw [e1] at q
    simp only at q
    split at q
    · rename_i hlt
      intro v H' F sm f r
      obtain ⟨s2, t⟩ := s.store sm f r hlt h0
      exact q _ H' _ t s2
    · exact q.elim
  | ex x => rw [e1] at q; exact ex_ok s q
  | bad => rw [e1] at q; exact q⟩
end
end PD
namespace PD
open PySem L2

section
variable {X : Cx} {CX : CXT} {k n : Nat} {f C : Addr} {fd : FuncData} {ps ks : List Str} {sp : Sp} {E : St → XK} {x m : Str} {p pos apos : Pos} {e o : Expr} {es : List Expr} {kws : List Keyword} {ta : TE} {t tk : TA} {dvs : List V} {ds : List Value} {g : List Value → List Value → List Value} {gV : List V → List V → List V}
theorem run_fnP {pins : List (Addr × Obj)} {σ : St} {H : Hp} {s : Shared} {Q : VK} {us : List Value} {vs : List V} (F : FnOk X.prog X.w X.K X.mg X.base CX k f fd ps sp) (hr : Room k X.A) (hb : Binds X.K fd ps ds) (hd : Vals dvs ds) (hx : PassesAt CX X σ (E σ))
    (I : Inv X pins σ H s) (r : Vals vs us) (h : sp (vs ++ dvs) H Q (E σ)) : wpAny (model X.prog X.w) X.A (call (.ref f) us) (EP X pins σ Q) X.xe s := by
  have r2 : Vals (vs ++ dvs) (us ++ ds) := r.append hd
  have hl : (us ++ ds).length = ps.length := by rw [← r2.length]; exact F.len _ _ _ _ h
  refine wpAny_call (codeAny_mono (F.run X.A X.stack s H ⟨us, []⟩ (us ++ ds) (vs ++ dvs) Q (E σ) hr I.env0 (hb s us I.kIn hl) r2 h) fun r s' hq => ?_)
  cases r with
  | error e => exact hx pins H s e s' I hq
  | ok fl =>
    cases fl with
    | ret u => exact I.after hq
    | next => exact False.elim hq
    | brk => exact False.elim hq
    | cont => exact False.elim hq
theorem pe_callP (F : FnOk X.prog X.w X.K X.mg X.base CX k f fd ps sp) (hr : Room k X.A) (hg : Gl X x) (hm : X.mg x = some (.ref f)) (hk : PySem.W.keepIn X.K (.ref f) = true) (hb : Binds X.K fd ps ds) (hd : Vals dvs ds) (hx : ∀ σ, PassesAt CX X σ (E σ))
    (ha : PA X (e :: es) t) (hdb : (x == ("__debug__" : Str)) = false := by decide) (he : starEach (e :: es) X.env = (false, eval e X.env) :: starEach es X.env := by rfl) (hpl : (backTo pos (starEach es X.env)).any (·.1) = false := by rfl) :
    PE X (.Call (.Name x p) (e :: es) [] pos) (fun σ H Q => t σ H fun vs H1 => sp (vs ++ dvs) H1 Q (E σ)) := by
  refine ⟨fun pins s σ H Q I h => ?_⟩
  refine wpAny_Call_Name_kw (ld_glob I hg hm ?_ hdb)
  refine PySem.W.callWith_K (h₀ := X.base) I.ok.mod.kin hk (thn (ha.run pos pins s σ H _ I h) fun us s1 ⟨vs, H1, I1, r, q⟩ => ⟨I1.kIn, ?_⟩) he hpl
  exact run_fnP F hr hb hd (hx σ) I1 r q
end
end PD
namespace PD
open PySem L2 PySem.Spec PyProof.Rows

/-- what a def that changes its first argument gives -/
inductive MR where
  | ok (d d0 : D)
  | ex (e : Exc) (d0 : D)
  | bad
/-- the arguments are looked at alone -/
def spF (K : PySem.W.Frag) (T : Tb) (F : List D → Res D) : Sp := fun vs H Q E => ∃ (ds : List D) (I : AS), (∀ a, I a → H a ≠ none) ∧ RepL K T H I none_ ds vs none_ ∧ match F ds with
  | .ok d => ∀ v H' F', Same H H' → (∀ a, F' a → H a = none ∧ H' a ≠ none) → Rep K T H' (fun a => I a ∨ F' a) (fun _ => True) d v F' → Q v H'
  | .ex e => ∀ u dd H', Same H H' → ERep K T H' I e u dd → E u dd H'
  | .bad => False
def startE (m : Nat) (ds : List D) : Env := ds.map some ++ List.replicate (m - ds.length) none
def bodyF (n m : Nat) (s : Env → Out) (ds : List D) : Res D := if ds.length = n then match s (startE m ds) with
  | .rt d _ => .ok d
  | .nx _ => .ok .non
  | .ex e _ => .ex e
  | _ => .bad else .bad
/-- the context at a def's entry -/
def cc0 (T : Tb) (I : AS) (E : XK) (p0 : Nat → Option V) : Cc := { cl := T, B := I, Z := fun _ _ => True, zs := fun _ _ _ _ _ _ => trivial, Wx := fun u d _ H => E u d H, p0 := p0, S := none_ }
section
variable {P : Program} {w : World} {K : PySem.W.Frag} {mg : Str → Option Value} {base : Heap} {T : Tb}
theorem startE_get {m : Nat} {ds : List D} {i : Nat} {d : D} (h : (startE m ds)[i]? = some (some d)) : ds[i]? = some d := by
  unfold startE at h
  by_cases hi : i < ds.length
  · rw [List.getElem?_append_left (by simpa using hi), List.getElem?_map] at h
    cases e : ds[i]? with
    | none => rw [e] at h; cases h
    | some x => rw [e] at h; cases h; rfl
  · rw [List.getElem?_append_right (by simpa using hi)] at h
    obtain ⟨h1, h2⟩ := List.getElem?_eq_some_iff.mp h
    simp at h2
theorem start_get {N : List Str} {vs : List V} {i : Nat} {v : V} (h : vs[i]? = some v) : (L2.start N vs)[i]? = some (some v) := by
  have hi : i < vs.length := (List.getElem?_eq_some_iff.mp h).1
  unfold L2.start
  rw [List.getElem?_append_left (by simpa using hi), List.getElem?_map, h]
  rfl
theorem start_len {N : List Str} {ds : List D} {vs : List V} (h : vs.length = ds.length) : (startE N.length ds).length = (L2.start N vs).length := by
  unfold startE L2.start
  simp [h]
theorem fn_pure {k n : Nat} {x qual : Str} {params : Arguments} {body : List Stmt} {scope : Scope} {dvs : List V} {kws : List (Str × V)} {f : Addr} {fd : FuncData} {N ps : List Str} {s : Env → Out} (F : FunD K x qual params body scope dvs kws f fd) (S : FnScope N ps scope) (hn : ps.length = n)
    (hb : ∀ (cdv : Value) (A : Around) (outer : List PySem.Env) (s0 : Shared) (H : Hp) (E : XK) (c : Cc), Room k (A.deeper (envOfC qual scope s0.heap.objs.size f cdv)) → c.cl = T → (∀ i, c.p0 i = none) → Takes (cxOf (L2.CX P w) P w K mg base N qual scope f cdv A outer s0 H E) c.Wx →
      JSs (cxOf (L2.CX P w) P w K mg base N qual scope f cdv A outer s0 H E) c body s) : FnOk P w K mg base (L2.CX P w) (k + 1) f fd ps (spF K T (bodyF n N.length s)) := by
  refine F.ok S (fun vs H Q E h => ?_) (fun cdv A outer s0 H vs Q E hr h => ?_)
  · obtain ⟨ds, I, _, r, q⟩ := h
    unfold bodyF at q
    split at q
    · rename_i d e
      split at e
      · rename_i hl
        rw [r.length, hn, hl]
      · cases e
    · rename_i d e
      split at e
      · rename_i hl
        rw [r.length, hn, hl]
      · cases e
    · exact q.elim
  · obtain ⟨ds, I, hI, r, q⟩ := h
    have J := hb cdv A outer s0 H E (cc0 T I E fun _ => none) hr rfl (fun _ => rfl) (takes_of rfl rfl rfl rfl)
    refine ⟨_, J.ps, startE N.length ds, none_, ⟨fun _ z => z.elim, fun _ z => z.elim, fun _ z => z.elim, fun _ z => z.elim, hI, trivial, fun _ v e => (by cases e), start_len r.length, fun _ => none_, fun _ _ z => z.elim, fun _ _ _ _ z => z.elim, fun i d e => ?_⟩, ?_⟩
    · obtain ⟨v, g, rr⟩ := r.get0 (startE_get e)
      exact ⟨v, start_get g, Rep.mono (fun a o q n => ⟨q, fun z => n (z.elim (fun y => y.elim) id)⟩) (fun a o q n => ⟨q, fun z => z.elim (fun y => y) fun y => y⟩) d v _ _ (fun _ _ _ z => z.elim) (fun _ z => z) rr⟩
    · unfold bodyF at q
      by_cases hl : ds.length = n
      · rw [if_pos hl] at q
        cases e : s (startE N.length ds) with
        | nx E1 =>
          rw [e] at q
          exact fun σ' H' W' t s2 => q .non H' none_ (fun a o z => t.1 a o z fun y => y) (fun _ z => z.elim) rfl
        | rt d E1 =>
          rw [e] at q
          refine fun v σ' H' W' F' t s2 rr => q v H' F' (fun a o z => t.1 a o z fun y => y) (fun a z => ⟨(t.2.2 a (.inr z)).resolve_left fun y => y, s2.bh a (.inr z)⟩) (Rep.mono (fun a o q n => ⟨q, fun z => n (.inr z)⟩) (fun a o q n => ⟨q, n⟩) d v _ _ (fun _ _ q _ => q) (fun _ z => z) rr)
        | ex x E1 =>
          rw [e] at q
          refine fun u dd σ' H' W' t s2 er => q u dd H' (fun a o z => t.1 a o z fun y => y) ?_
          obtain ⟨e1, e2⟩ := er
          refine ⟨e1, e2.imp id ?_⟩
          rintro ⟨dx, vs2, h1, h2, h3, h4, h5⟩
          exact ⟨dx, vs2, h1, h2, fun z => h3 (.inr z), h4, RepL.mono (fun a o q n => ⟨q, fun z => n (.inr z)⟩) (fun a o q n => ⟨q, n⟩) _ _ _ _ (fun _ _ _ z => z.elim) (fun _ z => z) h5⟩
        | bk E1 => rw [e] at q; exact q.elim
        | ct E1 => rw [e] at q; exact q.elim
        | bad => rw [e] at q; exact q.elim
      · rw [if_neg hl] at q; exact q.elim
theorem ERep.mono {H : Hp} {I I' : AS} {e : Exc} {u : Value} {d : Option Addr} (h : ∀ a, I' a → I a) (r : ERep K T H I e u d) : ERep K T H I' e u d := by
  obtain ⟨e1, e2⟩ := r
  refine ⟨e1, e2.imp id ?_⟩
  rintro ⟨dx, vs2, h1, h2, h3, h4, h5⟩
  exact ⟨dx, vs2, h1, h2, fun z => h3 (h _ z), h4, RepL.mono (fun a o q n => ⟨q, fun z => n (h _ z)⟩) (fun a o q n => ⟨q, n⟩) _ _ _ _ (fun _ _ _ z => z.elim) (fun _ z => z) h5⟩
end
end PD
namespace PD
open PySem L2

/-- values of defaults: texts of the module -/
def DflRep (K : PySem.W.Frag) (T : Tb) (dds : List D) (dvs : List V) : Prop := ∀ H I M, RepL K T H I M dds dvs none_
theorem dfl_nil {K : PySem.W.Frag} {T : Tb} : DflRep K T [] [] := fun _ _ _ => rfl
theorem PK.weak {X : Cx} {es : List Keyword} {t t' : TA} (h : PK X es t) (w : ∀ σ H Q, t' σ H Q → t σ H Q) : PK X es t' := ⟨fun pos pins s σ H Q I q => h.run pos pins s σ H Q I (w _ _ _ q)⟩
section
variable {X : Cx} {c : Cc} {pos : Pos} {e : Expr} {g : Env → Res D} {gs : Env → Res (List D)}
theorem tA_use {K : PySem.W.Frag} {W : AS} {σ : St} {H : Hp} {E : Env} {Q : List V → Hp → Prop} (s : Sat K c E σ H W) (hx : ∀ e, gs E = .ex e → ∀ u dd H', Same H H' → ERep K c.cl H' (c.I W) e u dd → c.Wx u dd σ H') (hb : gs E ≠ .bad)
    (h : ∀ ds, gs E = .ok ds → ∀ vs H', Same H H' → Sat K c E σ H' W → RepL K c.cl H' (c.I W) c.S ds vs none_ → Q vs H') : tA K c gs σ H Q := by
  refine ⟨E, W, s, ?_⟩
  cases e : gs E with
  | ok d => exact fun v H' sm r => h d e v H' sm (s.same sm) r
  | ex x => exact hx x e
  | bad => exact hb e
end

section
variable {X : Cx} {c : Cc} {T : Tb} {k n : Nat} {f C : Addr} {fd : FuncData} {ps ks : List Str} {x m : Str} {p pos apos : Pos} {e o : Expr} {es : List Expr} {kws : List Keyword} {dvs : List V} {dds : List D} {ds : List Value} {g : List Value → List Value → List Value} {gV : List V → List V → List V}
  {Ff : List D → Res D} {Fm : List D → MR} {ga gk gl : Env → Res (List D)} {go : Env → Res D}
/-- the promise out of what is wanted -/
theorem spF_of {W : AS} {σ : St} {H : Hp} {Q : VK} {ds : List D} {vs : List V} {I : AS} (hI : ∀ a, c.I W a → H a ≠ none) (hT : c.cl = T) (r : RepL X.K c.cl H (c.I W) none_ ds vs none_) (q : resN X.K c W σ H (Ff ds) Q) : spF X.K T Ff vs H Q (WE c.Wx σ) := by
  subst hT
  refine ⟨ds, c.I W, hI, r, ?_⟩
  cases e : Ff ds with
  | ok d => rw [e] at q; exact q
  | ex x => rw [e] at q; exact q
  | bad => rw [e] at q; exact q
theorem lo_M {K : PySem.W.Frag} {cl : Tb} {H : Hp} {I M : AS} {ds : List D} {vs : List V} (r : RepL K cl H I M ds vs none_) : RepL K cl H I none_ ds vs none_ := RepL.mono (fun a o q n => ⟨q, n⟩) (fun a o q n => ⟨q, fun z => z⟩) ds vs _ _ (fun _ _ _ z => z.elim) (fun _ z => z) r
def gCall (F : List D → Res D) (dds : List D) (ga : Env → Res (List D)) : Env → Res D := fun E => ga E >>= fun ds => F (ds ++ dds)
theorem jn_call (F : FnOk X.prog X.w X.K X.mg X.base (L2.CX X.prog X.w) k f fd ps (spF X.K T Ff)) (hT : c.cl = T) (tk : Takes X c.Wx) (hr : Room k X.A) (hg : Gl X x) (hm : X.mg x = some (.ref f)) (hk : PySem.W.keepIn X.K (.ref f) = true) (hb : Binds X.K fd ps ds) (hd : Vals dvs ds) (hdd : DflRep X.K T dds dvs)
    (ha : JA X c (e :: es) ga) (hdb : (x == ("__debug__" : Str)) = false := by decide) (he : starEach (e :: es) X.env = (false, eval e X.env) :: starEach es X.env := by rfl) (hpl : (backTo pos (starEach es X.env)).any (·.1) = false := by rfl) :
    JN X c (.Call (.Name x p) (e :: es) [] pos) (gCall Ff dds ga) := ⟨PE.weak (pe_callP F hr hg hm hk hb hd (fun σ => passAt tk σ) ha.pa hdb he hpl) fun σ H Q ⟨E, W, s, q⟩ => by
  unfold gCall at q
  refine tA_use s (fun e e1 => by rw [e1] at q; exact q) (fun e1 => by rw [e1] at q; exact q) fun as e1 vs H1 sm s1 r => ?_
  rw [e1] at q
  refine spF_of (I := none_) s1.ih hT ?_ (resN_back sm q)
  subst hT
  exact RepL.append (lo_M r) (hdd H1 _ _)⟩
end
end PD
namespace PD
open PySem L2

def kids : D → List D
  | .lst .own xs => xs
  | .dk .own _ xs => xs
  | .dt .own _ xs => xs
  | .obj .own _ _ xs => xs
  | _ => []
def setK (ys : List D) : D → D
  | .lst .own _ => .lst .own ys
  | .dk .own ks _ => .dk .own ks ys
  | .dt .own ks _ => .dt .own ks ys
  | .obj .own c ns _ => .obj .own c ns ys
  | d => d
def getP : List Nat → D → Option D
  | [], d => some d
  | j :: r, d => (kids d)[j]?.bind (getP r)
def setP : List Nat → D → D → D
  | [], x, _ => x
  | j :: r, x, d => match (kids d)[j]? with
    | some y => setK ((kids d).set j (setP r x y)) d
    | none => d
def valsOf : HO → List V
  | .lst vs => vs
  | .dK kvs => kvs.map (·.2)
  | .dT kvs => kvs.map (·.2)
  | .ins _ _ fs => fs.map (·.2)
  | _ => []
def walkV (H : Hp) : List Nat → V → Option V
  | [], v => some v
  | j :: r, v => match v with
    | .ref p => match H p with
      | some o => (valsOf o)[j]?.bind (walkV H r)
      | none => none
    | _ => none
theorem getP_snoc {j : Nat} : ∀ {p : List Nat} {d : D}, getP (p ++ [j]) d = (getP p d).bind fun x => (kids x)[j]?
  | [], d => by
    simp only [List.nil_append, getP, Option.bind_some]
    cases (kids d)[j]? <;> rfl
  | k :: p, d => by
    simp only [List.cons_append, getP]
    cases (kids d)[k]? with
    | none => rfl
    | some x => exact getP_snoc (p := p) (d := x)
def kidV (H : Hp) (j : Nat) : V → Option V
  | .ref p => match H p with
    | some o => (valsOf o)[j]?
    | none => none
  | _ => none
theorem walkV_snoc {H : Hp} {j : Nat} : ∀ {p : List Nat} {v : V}, walkV H (p ++ [j]) v = (walkV H p v).bind (kidV H j)
  | [], v => by
    cases v with
    | ref a =>
      simp only [List.nil_append, walkV, kidV, Option.bind_some]
      cases H a with
      | none => rfl
      | some o => simp only; cases (valsOf o)[j]? <;> rfl
    | _ => rfl
  | k :: p, v => by
    cases v with
    | ref a =>
      simp only [List.cons_append, walkV]
      cases H a with
      | none => rfl
      | some o =>
        simp only
        cases (valsOf o)[k]? with
        | none => rfl
        | some w => exact walkV_snoc (p := p) (v := w)
    | _ => rfl
section
variable {K : PySem.W.Frag} {cl : Tb} {H : Hp} {I M : AS}
theorem walkV_same {H' : Hp} (sm : Same H H') : ∀ {p : List Nat} {v w : V}, walkV H p v = some w → walkV H' p v = some w
  | [], v, w, h => h
  | k :: p, v, w, h => by
    cases v with
    | ref a =>
      simp only [walkV] at h ⊢
      cases e : H a with
      | none => rw [e] at h; cases h
      | some o =>
        rw [sm a o e]
        rw [e] at h
        simp only at h ⊢
        cases e2 : (valsOf o)[k]? with
        | none => rw [e2] at h; cases h
        | some x =>
          rw [e2] at h
          exact walkV_same sm (p := p) h
    | _ => cases h
theorem lensL : ∀ (xs : List D) (vs : List V) (F : AS) (j : Nat) (x : D), RepL K cl H I M xs vs F → xs[j]? = some x → ∃ v Fj, vs[j]? = some v ∧ (∀ a, Fj a → F a) ∧ Rep K cl H I M x v Fj ∧ ∀ (H' : Hp) (I' M' : AS) (x' : D) (G : AS),
    (∀ a o, H a = some o → ¬ I a → H' a = some o ∧ ¬ I' a) → (∀ a o, H a = some o → ¬ M a → H' a = some o ∧ ¬ M' a) → (∀ a o, H a = some o → F a → ¬ Fj a → H' a = some o) → (∀ a, G a → Fj a ∨ H a = none) → (∀ a, F a → H a ≠ none) → Rep K cl H' I' M' x' v G → RepL K cl H' I' M' (xs.set j x') vs (fun a => (F a ∧ ¬ Fj a) ∨ G a)
  | [], _, _, _, _, _, e => by simp at e
  | d :: ds, vs, F, j, x, h, e => by
    obtain ⟨v, ws, F1, F2, rfl, r1, r2, a1, a2, a3⟩ := h
    cases j with
    | zero =>
      cases e
      refine ⟨v, F1, rfl, a1, r1, fun H' I' M' x' G h1 h2 h3 hG hF r => ⟨v, ws, G, F2, rfl, r, ?_, fun a z => .inr z, fun a z => .inl ⟨a2 a z, fun y => a3 a y z⟩, fun a z y => ?_⟩⟩
      · exact RepL.mono h1 h2 ds ws F2 F2 (fun a o q z => h3 a o q (a2 a z) fun y => a3 a y z) (fun _ z => z) r2
      · rcases hG a z with q | q
        · exact a3 a q y
        · exact hF a (a2 a y) q
    | succ j =>
      obtain ⟨w, Fj, e1, b1, b2, b3⟩ := lensL ds ws F2 j x r2 (by simpa using e)
      refine ⟨w, Fj, by simpa using e1, fun a z => a2 a (b1 a z), b2, fun H' I' M' x' G h1 h2 h3 hG hF r => ⟨v, ws, F1, fun a => (F2 a ∧ ¬ Fj a) ∨ G a, rfl, ?_, b3 H' I' M' x' G h1 h2 (fun a o q z n => h3 a o q (a2 a z) n) hG (fun a z => hF a (a2 a z)) r, fun a z => .inl ⟨a1 a z, fun y => a3 a z (b1 a y)⟩, fun a z => z.imp (fun y => ⟨a2 a y.1, y.2⟩) id, fun a z y => ?_⟩⟩
      · exact Rep.mono h1 h2 d v F1 F1 (fun a o q z => h3 a o q (a1 a z) fun y => a3 a z (b1 a y)) (fun _ z => z) r1
      · rcases y with y | y
        · exact a3 a z y.1
        · rcases hG a y with q | q
          · exact a3 a z (b1 a q)
          · exact hF a (a1 a z) q
theorem kid_rep {d : D} {v : V} {F : AS} {j : Nat} {x : D} (h : (kids d)[j]? = some x) (r : Rep K cl H I M d v F) : ∃ p o, v = .ref p ∧ H p = some o ∧ F p ∧ RepL K cl H I M (kids d) (valsOf o) (fun a => F a ∧ a ≠ p) ∧
    ∀ (H' : Hp) (I' M' F' : AS) (ys : List D), H' p = some o → F' p → ys.length = (kids d).length → RepL K cl H' I' M' ys (valsOf o) (fun a => F' a ∧ a ≠ p) → Rep K cl H' I' M' (setK ys d) v F' := by
  cases d with
  | lst f xs =>
    cases f with
    | own =>
      obtain ⟨p, vs, rfl, c, rr⟩ := r
      rcases c with ⟨c1, c2⟩ | c
      · exact ⟨p, _, rfl, c1, c2, rr, fun H' I' M' F' ys h1 h2 _ r2 => ⟨p, vs, rfl, .inl ⟨h1, h2⟩, r2⟩⟩
      · cases c.1
    | _ => simp [kids] at h
  | dk f ks xs =>
    cases f with
    | own =>
      obtain ⟨p, vs, rfl, hl, ⟨c1, c2⟩, rr⟩ := r
      have hz : (ks.zip vs).map (·.2) = vs := by
        rw [← List.unzip_snd, List.unzip_zip (by rw [hl, rr.length])]
      refine ⟨p, _, rfl, c1, c2, by simp only [valsOf, hz]; exact rr, fun H' I' M' F' ys h1 h2 h3 r2 => ?_⟩
      simp only [valsOf, hz] at r2
      exact ⟨p, vs, rfl, by rw [hl]; exact h3.symm, ⟨h1, h2⟩, r2⟩
    | _ => simp [kids] at h
  | dt f ks xs =>
    cases f with
    | own =>
      obtain ⟨p, vs, rfl, hl, ⟨c1, c2⟩, rr⟩ := r
      have hz : (ks.zip vs).map (·.2) = vs := by
        rw [← List.unzip_snd, List.unzip_zip (by rw [hl, rr.length])]
      refine ⟨p, _, rfl, c1, c2, by simp only [valsOf, hz]; exact rr, fun H' I' M' F' ys h1 h2 h3 r2 => ?_⟩
      simp only [valsOf, hz] at r2
      exact ⟨p, vs, rfl, by rw [hl]; exact h3.symm, ⟨h1, h2⟩, r2⟩
    | _ => simp [kids] at h
  | obj f c ns xs =>
    cases f with
    | own =>
      obtain ⟨p, dx, vs, rfl, hl, ⟨c1, c2⟩, rr⟩ := r
      have hz : ((ns.map cl.nm).zip vs).map (·.2) = vs := by
        rw [← List.unzip_snd, List.unzip_zip (by rw [List.length_map, hl, rr.length])]
      refine ⟨p, _, rfl, c1, c2, by simp only [valsOf, hz]; exact rr, fun H' I' M' F' ys h1 h2 h3 r2 => ?_⟩
      simp only [valsOf, hz] at r2
      exact ⟨p, dx, vs, rfl, by rw [hl]; exact h3.symm, ⟨h1, h2⟩, r2⟩
    | _ => simp [kids] at h
  | _ => simp [kids] at h
theorem lens : ∀ (path : List Nat) (d0 d : D) (v0 : V) (F : AS), getP path d0 = some d → Rep K cl H I M d0 v0 F → ∃ v F1, walkV H path v0 = some v ∧ (∀ a, F1 a → F a) ∧ Rep K cl H I M d v F1 ∧ ∀ (H' : Hp) (I' M' : AS) (d' : D) (G : AS),
    (∀ a o, H a = some o → ¬ I a → H' a = some o ∧ ¬ I' a) → (∀ a o, H a = some o → ¬ M a → H' a = some o ∧ ¬ M' a) → (∀ a o, H a = some o → F a → ¬ F1 a → H' a = some o) → (∀ a, G a → F1 a ∨ H a = none) → (∀ a, F a → H a ≠ none) → Rep K cl H' I' M' d' v G → Rep K cl H' I' M' (setP path d' d0) v0 (fun a => (F a ∧ ¬ F1 a) ∨ G a)
  | [], d0, d, v0, F, e, r => by
    cases e
    exact ⟨v0, F, rfl, fun _ z => z, r, fun H' I' M' d' G _ _ _ _ _ r2 => r2.weaken fun _ z => .inr z⟩
  | j :: path, d0, d, v0, F, e, r => by
    simp only [getP] at e
    cases e1 : (kids d0)[j]? with
    | none => rw [e1] at e; cases e
    | some x =>
      rw [e1] at e
      obtain ⟨p, o, rfl, hp, hFp, rl, put⟩ := kid_rep e1 r
      obtain ⟨vj, Fj, g1, g2, g3, g4⟩ := lensL _ _ _ j x rl e1
      obtain ⟨v, F1, k1, k2, k3, k4⟩ := lens path x d vj Fj e g3
      refine ⟨v, F1, ?_, fun a z => (g2 a (k2 a z)).1, k3, fun H' I' M' d' G h1 h2 h3 hG hF r2 => ?_⟩
      · simp only [walkV, hp, g1]
        exact k1
      · have rj := k4 H' I' M' d' G h1 h2 (fun a o q z n => h3 a o q (g2 a z).1 n) hG (fun a z => hF a (g2 a z).1) r2
        have rl2 := g4 H' I' M' _ _ h1 h2 (fun a o q z n => h3 a o q z.1 fun y => n (k2 a y)) (fun a z => z.elim (fun y => .inl y.1) fun y => (hG a y).imp (k2 a) id) (fun a z => hF a z.1) rj
        simp only [setP, e1]
        refine put H' I' M' _ _ (h3 p o hp hFp fun y => (g2 p (k2 p y)).2 rfl) (.inl ⟨hFp, fun y => (g2 p (k2 p y)).2 rfl⟩) (by rw [List.length_set]) (rl2.weaken fun a z => ?_)
        rcases z with ⟨z, n⟩ | z | z
        · exact ⟨.inl ⟨z.1, fun y => n (k2 a y)⟩, z.2⟩
        · exact ⟨.inl ⟨(g2 a z.1).1, z.2⟩, (g2 a z.1).2⟩
        · refine ⟨.inr z, fun y => ?_⟩
          rcases hG a z with q | q
          · exact (g2 a (k2 a q)).2 y
          · rw [y, hp] at q; cases q
end
section
variable {K : PySem.W.Frag} {c : Cc} {W : AS} {σ : St} {H : Hp} {E : Env}
/-- slot i emptied, what it held set aside -/
theorem Sat.dropA {i : Nat} {d : D} {fp : Nat → AS} (s : Sat K c E σ H W) (f1 : ∀ i a, fp i a → W a) (f2 : ∀ i j a, i ≠ j → fp i a → ¬ fp j a) (f3 : ∀ i d, E[i]? = some (some d) → ∃ v, σ[i]? = some (some v) ∧ Rep K c.cl H (c.I W) (c.M W) d v (fp i)) (e0 : E[i]? = some (some d)) :
    Sat K (c.aside (fp i)) (E.set i none) σ H (fun a => W a ∧ ¬ fp i a) := by
  obtain ⟨w1, ws, sb, w2, w3, wz, wp, w4, _⟩ := id s
  have st : Step H W H (fun a => W a ∧ ¬ fp i a) := ⟨fun a o q _ => q, fun a q => q, fun a z => .inl z.1⟩
  have g1 : ∀ j a, (if j = i then none_ else fp j) a → W a ∧ ¬ fp i a := fun j a z => by
    split at z
    · exact z.elim
    · rename_i hj
      exact ⟨f1 j a z, f2 j i a hj z⟩
  have g2 : ∀ j k a, j ≠ k → (if j = i then none_ else fp j) a → ¬ (if k = i then none_ else fp k) a := fun j k a hjk z => by
    split at z
    · exact z.elim
    · split
      · exact fun y => y
      · exact f2 j k a hjk z
  refine ⟨fun a z y => y.elim (w1 a z.1) z.2, fun a z y => y.elim (ws a z.1) z.2, fun a z => z.imp (sb a) id, fun a z => w2 a z.1, fun a z => z.elim (w3 a) fun y => w2 a (f1 i a y), c.zs _ _ _ _ st wz, wp, by rw [List.length_set]; exact w4, fun j => if j = i then none_ else fp j, g1, g2, fun j d' e => ?_⟩
  by_cases hj : j = i
  · subst hj
    rw [List.getElem?_set_self (List.getElem?_eq_some_iff.mp e0).1] at e
    cases e
  · rw [List.getElem?_set_ne (Ne.symm hj)] at e
    obtain ⟨v', q, r'⟩ := f3 j d' e
    refine ⟨v', q, ?_⟩
    simp only [if_neg hj]
    refine Rep.mono (fun a o q n => ⟨q, fun y => n ?_⟩) (fun a o q n => ⟨q, fun y => n ?_⟩) d' v' _ _ (fun _ _ q _ => q) (fun _ z => z) r'
    · rcases y with y | y | y
      · exact .inl y.1
      · exact .inr y
      · exact .inl (f1 i a y)
    · rcases y with y | y | y
      · exact .inl y.1
      · exact .inr y
      · exact .inl (f1 i a y)
/-- a part of slot i changes, some of it may go out -/
theorem Sat.mut {i : Nat} {path : List Nat} {d0 d : D} (s : Sat K c E σ H W) (e0 : E[i]? = some (some d0)) (hg : getP path d0 = some d) : ∃ v0 v F1, σ[i]? = some (some v0) ∧ walkV H path v0 = some v ∧ (∀ a, F1 a → W a) ∧ Rep K c.cl H (c.I W) (c.M W) d v F1 ∧
    (∃ Fs, (∀ a, F1 a → Fs a) ∧ (∀ a, Fs a → W a) ∧ Sat K (c.aside Fs) (E.set i none) σ H (fun a => W a ∧ ¬ Fs a)) ∧
    ∀ (H' : Hp) (Fx G : AS) (d' : D), (∀ a o, H a = some o → ¬ F1 a → H' a = some o) → (∀ a, H a ≠ none → H' a ≠ none) → (∀ a, Fx a → (F1 a ∨ H a = none) ∧ H' a ≠ none) → (∀ a, G a → (F1 a ∨ H a = none) ∧ H' a ≠ none) → (∀ a, G a → ¬ Fx a) →
      (∀ I' M' : AS, (∀ a, I' a → ((W a ∧ ¬ F1 a) ∨ G a) ∨ (c.B a ∨ Fx a)) → (∀ a, M' a → ((W a ∧ ¬ F1 a) ∨ G a) ∨ (c.S a ∨ Fx a)) → Rep K c.cl H' I' M' d' v G) →
      Sat K (c.aside Fx) (E.set i (some (setP path d' d0))) σ H' (fun a => (W a ∧ ¬ F1 a) ∨ G a) ∧ Step H W H' (fun a => ((W a ∧ ¬ F1 a) ∨ G a) ∨ Fx a) := by
  obtain ⟨w1, ws, sb, w2, w3, wz, wp, w4, fp, f1, f2, f3⟩ := id s
  obtain ⟨v0, q0, r0⟩ := f3 i d0 e0
  obtain ⟨v, F1, k1, k2, k3, k4⟩ := lens path d0 d v0 (fp i) hg r0
  refine ⟨v0, v, F1, q0, k1, fun a z => f1 i a (k2 a z), k3, ⟨fp i, k2, f1 i, s.dropA f1 f2 f3 e0⟩, fun H' Fx G d' hH hN hFx hG hGx hr => ?_⟩
  have hFW : ∀ a, F1 a → W a := fun a z => f1 i a (k2 a z)
  have hGW : ∀ a, G a → W a ∨ H a = none := fun a z => (hG a z).1.imp (hFW a) id
  have hXW : ∀ a, Fx a → W a ∨ H a = none := fun a z => (hFx a z).1.imp (hFW a) id
  have hW' : ∀ a, ((W a ∧ ¬ F1 a) ∨ G a) → W a ∨ H a = none := fun a z => z.elim (fun y => .inl y.1) (hGW a)
  have st1 : Step H W H' (fun a => (W a ∧ ¬ F1 a) ∨ G a) := ⟨fun a o q n => hH a o q fun z => n (hFW a z), hN, hW'⟩
  have st : Step H W H' (fun a => ((W a ∧ ¬ F1 a) ∨ G a) ∨ Fx a) := ⟨fun a o q n => hH a o q fun z => n (hFW a z), hN, fun a z => z.elim (hW' a) (hXW a)⟩
  have hI : ∀ a o, H a = some o → ¬ c.I W a → H' a = some o ∧ ¬ (c.aside Fx).I (fun a => (W a ∧ ¬ F1 a) ∨ G a) a := fun a o q n => by
    refine ⟨hH a o q fun z => n (.inl (hFW a z)), fun z => ?_⟩
    rcases z with z | z | z
    · rcases hW' a z with y | y
      · exact n (.inl y)
      · rw [y] at q; cases q
    · exact n (.inr z)
    · rcases hXW a z with y | y
      · exact n (.inl y)
      · rw [y] at q; cases q
  have hM : ∀ a o, H a = some o → ¬ c.M W a → H' a = some o ∧ ¬ (c.aside Fx).M (fun a => (W a ∧ ¬ F1 a) ∨ G a) a := fun a o q n => by
    refine ⟨hH a o q fun z => n (.inl (hFW a z)), fun z => ?_⟩
    rcases z with z | z | z
    · rcases hW' a z with y | y
      · exact n (.inl y)
      · rw [y] at q; cases q
    · exact n (.inr z)
    · rcases hXW a z with y | y
      · exact n (.inl y)
      · rw [y] at q; cases q
  have hG1 : ∀ a, G a → F1 a ∨ H a = none := fun a z => (hG a z).1
  refine ⟨⟨fun a z y => ?_, fun a z y => ?_, fun a z => z.imp (sb a) id, fun a z => ?_, fun a z => ?_, c.zs _ _ _ _ st1 wz, wp, by rw [List.length_set]; exact w4, fun j => if j = i then (fun a => (fp i a ∧ ¬ F1 a) ∨ G a) else fp j, fun j a z => ?_, fun j k a hjk z => ?_, fun j d2 e => ?_⟩, st⟩
  · rcases y with y | y
    · rcases z with z | z
      · exact w1 a z.1 y
      · rcases hG1 a z with q | q
        · exact w1 a (hFW a q) y
        · exact w3 a y q
    · rcases z with z | z
      · rcases (hFx a y).1 with q | q
        · exact z.2 q
        · exact w2 a z.1 q
      · exact hGx a z y
  · rcases y with y | y
    · rcases z with z | z
      · exact ws a z.1 y
      · rcases hG1 a z with q | q
        · exact ws a (hFW a q) y
        · exact w3 a (sb a y) q
    · rcases z with z | z
      · rcases (hFx a y).1 with q | q
        · exact z.2 q
        · exact w2 a z.1 q
      · exact hGx a z y
  · rcases z with z | z
    · exact hN a (w2 a z.1)
    · exact (hG a z).2
  · rcases z with z | z
    · exact hN a (w3 a z)
    · exact (hFx a z).2
  · simp only at z
    split at z
    · rcases z with z | z
      · exact .inl ⟨f1 i a z.1, z.2⟩
      · exact .inr z
    · rename_i hj
      exact .inl ⟨f1 j a z, fun y => f2 j i a hj z (k2 a y)⟩
  · simp only at z ⊢
    have hd : ∀ m, m ≠ i → fp m a → ¬ ((fp i a ∧ ¬ F1 a) ∨ G a) := fun m hm zz y => by
      rcases y with y | y
      · exact f2 m i a hm zz y.1
      · rcases hG1 a y with q | q
        · exact f2 m i a hm zz (k2 a q)
        · exact w2 a (f1 m a zz) q
    split at z
    · rename_i hj
      split
      · rename_i hk
        exact absurd (hj.trans hk.symm) hjk
      · rename_i hk
        exact fun y => hd k hk y z
    · rename_i hj
      split
      · exact hd j hj z
      · exact f2 j k a hjk z
  · by_cases hj : j = i
    · subst hj
      rw [List.getElem?_set_self (List.getElem?_eq_some_iff.mp e0).1] at e
      cases e
      refine ⟨v0, q0, ?_⟩
      simp only [if_pos]
      exact k4 H' _ _ d' G hI hM (fun a o q _ n => hH a o q n) hG1 (fun a z => w2 a (f1 j a z)) (hr _ _ (fun _ z => z) fun _ z => z)
    · rw [List.getElem?_set_ne (Ne.symm hj)] at e
      obtain ⟨v', q, r'⟩ := f3 j d2 e
      refine ⟨v', q, ?_⟩
      simp only [if_neg hj]
      exact Rep.mono hI hM d2 v' _ _ (fun a o q z => hH a o q fun y => f2 j i a hj z (k2 a y)) (fun _ z => z) r'
/-- what was set aside is forgotten -/
theorem Sat.unaside {F : AS} (hsb : ∀ a, c.S a → c.B a) (s : Sat K (c.aside F) E σ H W) : Sat K c E σ H W := by
  obtain ⟨w1, ws, sb, w2, w3, wz, wp, w4, fp, f1, f2, f3⟩ := s
  refine ⟨fun a z y => w1 a z (.inl y), fun a z y => ws a z (.inl y), hsb, w2, fun a z => w3 a (.inl z), wz, wp, w4, fp, f1, f2, fun i d e => ?_⟩
  · obtain ⟨v, q, r⟩ := f3 i d e
    exact ⟨v, q, Rep.mono (fun a o q n => ⟨q, fun y => n (y.imp id .inl)⟩) (fun a o q n => ⟨q, fun y => n (y.imp id .inl)⟩) d v _ _ (fun _ _ q _ => q) (fun _ z => z) r⟩
end
end PD
namespace PD
open PySem L2

def partOf (E : Env) (i : Nat) (p : List Nat) : Option D := match E[i]? with
  | some (some d0) => getP p d0
  | _ => none
def updE (E : Env) (i : Nat) (p : List Nat) (d : D) : Env := match E[i]? with
  | some (some d0) => E.set i (some (setP p d d0))
  | _ => E
def toM {α : Type} (r : Res α) (E : Env) (f : α → MRes) : MRes := match r with
  | .ok a => f a
  | .ex e => .ex e E
  | .bad => .bad
abbrev GP := Env → Res (List Nat)
def GoodP (i : Nat) (g : GP) : Prop := ∀ E p, g E = .ok p → ∃ d, partOf E i p = some d
theorem partOf_some {E : Env} {i : Nat} {p : List Nat} {d : D} (h : partOf E i p = some d) : ∃ d0, E[i]? = some (some d0) ∧ getP p d0 = some d := by
  unfold partOf at h
  split at h
  · rename_i d0 e
    exact ⟨d0, e, h⟩
  · cases h
theorem updE_eq {E : Env} {i : Nat} {p : List Nat} {d0 d : D} (h : E[i]? = some (some d0)) : updE E i p d = E.set i (some (setP p d d0)) := by
  unfold updE
  rw [h]
def tP (K : PySem.W.Frag) (c : Cc) (i : Nat) (g : GP) : TE := fun σ H Q => ∃ E W, Sat K c E σ H W ∧ match g E with
  | .ok p => ∀ v0 v H', Same H H' → σ[i]? = some (some v0) → walkV H' p v0 = some v → Q v H'
  | .ex e => ∀ u dd H', Same H H' → ERep K c.cl H' (c.I W) e u dd → c.Wx u dd σ H'
  | .bad => False
structure JP (X : Cx) (c : Cc) (i : Nat) (e : Expr) (g : GP) : Prop where
  pe : PE X e (tP X.K c i g)
  good : GoodP i g
section
variable {X : Cx} {c : Cc} {pos : Pos} {a b e : Expr} {i : Nat} {ga gb g : Env → Res D} {gp : GP}
/-- a place's value used -/
theorem tP_use {W : AS} {σ : St} {H : Hp} {E : Env} {Q : VK} (h : GoodP i gp) (s : Sat X.K c E σ H W) (hx : ∀ e, gp E = .ex e → ∀ u dd H', Same H H' → ERep X.K c.cl H' (c.I W) e u dd → c.Wx u dd σ H') (hb : gp E ≠ .bad)
    (hk : ∀ p, gp E = .ok p → ∀ d v H', Same H H' → partOf E i p = some d → Sat X.K c E σ H' W → (∃ v0, σ[i]? = some (some v0) ∧ walkV H' p v0 = some v) → Q v H') : tP X.K c i gp σ H Q := by
  refine ⟨E, W, s, ?_⟩
  cases e : gp E with
  | ok p =>
    obtain ⟨d, hd⟩ := h E p e
    exact fun v0 v H' sm q1 q2 => hk p e d v H' sm hd (s.same sm) ⟨v0, q1, q2⟩
  | ex x => exact hx x e
  | bad => exact hb e
def gP0 (i : Nat) : GP := fun E => match E[i]? with
  | some (some _) => .ok []
  | _ => .bad
theorem jp_var {x : Str} (h : PE X (.Name x pos) (tVar i)) : JP X c i (.Name x pos) (gP0 i) := ⟨PE.weak h fun σ H Q ⟨E, W, s, q⟩ => by
  unfold gP0 at q
  cases e : E[i]? with
  | none => rw [e] at q; exact q.elim
  | some o =>
    cases o with
    | none => rw [e] at q; exact q.elim
    | some d =>
      rw [e] at q
      obtain ⟨v, F, e2, f, r⟩ := s.get e
      exact ⟨v, e2, q v v H same_refl e2 rfl⟩, fun E p h => by
  unfold gP0 at h
  split at h
  · rename_i d e
    cases h
    exact ⟨d, by unfold partOf; rw [e]; rfl⟩
  · cases h⟩
theorem walkV_part {σ : St} {W : AS} {H : Hp} {E : Env} {p : List Nat} {d : D} {v0 v : V} (s : Sat X.K c E σ H W) (h : partOf E i p = some d) (q : σ[i]? = some (some v0)) (w : walkV H p v0 = some v) : ∃ F, (∀ a, F a → W a) ∧ Rep X.K c.cl H (c.I W) (c.M W) d v F := by
  obtain ⟨d0, q1, q2⟩ := partOf_some h
  obtain ⟨v0', v', F1, g1, g2, g3, g4, _, _⟩ := s.mut q1 q2
  rw [q] at g1
  cases g1
  rw [w] at g2
  cases g2
  exact ⟨F1, g3, g4⟩
def gPI (i : Nat) (f : D → D → Option Nat) (g : GP) (gi : Env → Res D) : GP := fun E => g E >>= fun p => gi E >>= fun y => match partOf E i p with
  | some d => match f d y with
    | some j => if j < (kids d).length then .ok (p ++ [j]) else .bad
    | none => .bad
  | none => .bad
theorem good_gPI {f : D → D → Option Nat} {gi : Env → Res D} (h : GoodP i gp) : GoodP i (gPI i f gp gi) := fun E p e => by
  unfold gPI at e
  cases e1 : gp E with
  | ex x => rw [e1] at e; cases e
  | bad => rw [e1] at e; cases e
  | ok p0 =>
    rw [e1] at e
    simp only [res_bind_ok] at e
    cases e4 : gi E with
    | ex x => rw [e4] at e; cases e
    | bad => rw [e4] at e; cases e
    | ok y =>
    rw [e4] at e
    simp only [res_bind_ok] at e
    split at e
    · rename_i d e2
      split at e
      · rename_i j e3
        split at e
        · rename_i hj
          cases e
          obtain ⟨d0, q1, q2⟩ := partOf_some e2
          refine ⟨(kids d)[j], ?_⟩
          unfold partOf
          rw [q1]
          simp only [getP_snoc, q2, Option.bind_some, List.getElem?_eq_getElem hj]
        · cases e
      · cases e
    · cases e
def ixIx (d y : D) : Option Nat := match d with
  | .lst .own xs => match y with
    | .int k => ixN xs.length k
    | _ => none
  | .dk .own ks _ => (keyD y).bind fun k => kIx ks k
  | _ => none
theorem jp_ix (hu : X.A.units + 1 < cLine) (ha : JP X c i a gp) (hb : JV X c b gb) (hs : PlainIx b := by intro _ _; rfl) : JP X c i (.Subscript a b pos) (gPI i ixIx gp gb) := ⟨PE.weak (pe_ix (ix_A hu) ha.pe hb.pe hs) fun σ H Q ⟨E, W, s, q⟩ => by
  unfold gPI at q
  refine tP_use ha.good s (fun e e1 => by rw [e1] at q; exact q) (fun e1 => by rw [e1] at q; exact q) fun p e1 d v H1 sm hd s1 ⟨v0, w1, w2⟩ => ?_
  rw [e1] at q
  simp only [res_bind_ok] at q
  refine tV_use s1 (fun e e4 => by rw [e4] at q; exact fun u dd H' sm2 => q u dd H' (sm.trans sm2)) (fun e4 => by rw [e4] at q; exact q) fun y e4 vy H2 Fy sm2 s2 fy ry => ?_
  rw [e4] at q
  simp only [res_bind_ok, hd] at q
  cases e2 : ixIx d y with
  | none => rw [e2] at q; exact q.elim
  | some j =>
    simp only [e2] at q
    by_cases hj : j < (kids d).length
    · rw [if_pos hj] at q
      obtain ⟨F, _, r⟩ := walkV_part s1 hd w1 w2
      have w3 := walkV_same sm2 w2
      have r2 := r.same sm2
      unfold ixIx at e2
      split at e2
      · rename_i xs
        split at e2
        · rename_i k
          obtain ⟨pp, ws, rfl, cc, rr⟩ := r2
          have c1 : H2 pp = some (.lst ws) := cc.elim (·.1) fun z => nomatch z.1
          have hj2 : j < ws.length := by rw [rr.length]; exact hj
          refine .inl (.inl ⟨pp, ws, k, ws[j], rfl, ry, cell_sql cc, ?_, q v0 _ H2 (sm.trans sm2) w1 ?_⟩)
          · unfold atI
            rw [rr.length, e2]
            exact List.getElem?_eq_getElem hj2
          · rw [walkV_snoc, w3]
            simp only [Option.bind_some, kidV, c1, valsOf]
            exact List.getElem?_eq_getElem hj2
        · cases e2
      · rename_i ks xs
        cases e5 : keyD y with
        | none => rw [e5] at e2; cases e2
        | some k =>
          rw [e5] at e2
          have e2 : kIx ks k = some j := e2
          obtain ⟨pp, ws, rfl, hl, cc, rr⟩ := r2
          have hl2 : ks.length = ws.length := by rw [hl, rr.length]
          have hj2 : j < ws.length := by rw [rr.length]; exact hj
          refine .inr ⟨pp, ws[j], rfl, ?_, q v0 _ H2 (sm.trans sm2) w1 ?_⟩
          · rw [keyD_rep e5 ry]
            have := dget_k (cl := c.cl) (k := k) (f := .own) (by decide) cc hl2
            rw [e2] at this
            simpa [List.getElem?_eq_getElem hj2] using this
          · rw [walkV_snoc, w3]
            simp only [Option.bind_some, kidV, cc.1, valsOf]
            rw [← List.unzip_snd, List.unzip_zip hl2, List.getElem?_eq_getElem hj2]
      · cases e2
    · rw [if_neg hj] at q; exact q.elim, good_gPI ha.good⟩
end
def resM (K : PySem.W.Frag) (c : Cc) (W : AS) (σ : St) (H : Hp) (o : MRes) (Q : VK) : Prop := match o with
  | .ok d E => ∀ v H' W' F, Step H W H' (fun a => W' a ∨ F a) → Sat K (c.aside F) E σ H' W' → Rep K c.cl H' ((c.aside F).I W') (fun _ => True) d v F → Q v H'
  | .ex e E => ∀ u dd H' W', Step H W H' W' → Sat K c E σ H' W' → ERep K c.cl H' (c.I W') e u dd → c.Wx u dd σ H'
  | .bad => False
def tM (K : PySem.W.Frag) (c : Cc) (g : Env → MRes) : TE := fun σ H Q => ∃ E W, Sat K c E σ H W ∧ resM K c W σ H (g E) Q
structure JM (X : Cx) (c : Cc) (e : Expr) (g : Env → MRes) : Prop where pe : PE X e (tM X.K c g)
section
variable {X : Cx} {c : Cc} {pos : Pos} {a b e : Expr} {i : Nat} {ga gb g : Env → Res D} {gp : GP} {gm : Env → MRes} {K : PySem.W.Frag} {W W' : AS} {σ : St} {H H' : Hp} {E : Env}
theorem resM_back {o : MRes} {Q : VK} (t : Step H W H' W') (q : resM K c W σ H o Q) : resM K c W' σ H' o Q := by
  cases o with
  | ok d E => exact fun v H2 W2 F t2 => q v H2 W2 F (t.trans t2)
  | ex e E => exact fun u dd H2 W2 t2 => q u dd H2 W2 (t.trans t2)
  | bad => exact q
theorem exM_ok {x : Exc} {Q : VK} (s : Sat K c E σ H W) (q : resM K c W σ H (.ex x E) Q) : ∀ u dd H', Same H H' → ERep K c.cl H' (c.I W) x u dd → c.Wx u dd σ H' := fun u dd H' sm r => q u dd H' W (Step.same sm) (s.same sm) r
theorem Sat.asideF {F : AS} (s : Sat K c E σ H W) (sm : Same H H') (hF : ∀ a, F a → H a = none ∧ H' a ≠ none) : Sat K (c.aside F) E σ H' W := by
  obtain ⟨w1, ws, sb, w2, w3, wz, wp, w4, fp, f1, f2, f3⟩ := s
  refine ⟨fun a z y => y.elim (w1 a z) fun x => w2 a z (hF a x).1, fun a z y => y.elim (ws a z) fun x => w2 a z (hF a x).1, fun a z => z.imp (sb a) id, fun a z => Same.some_ sm (w2 a z), fun a z => z.elim (fun y => Same.some_ sm (w3 a y)) fun y => (hF a y).2, c.zs _ _ _ _ (Step.same sm) wz, wp, w4, fp, f1, f2, fun i d e => ?_⟩
  obtain ⟨v, q, r⟩ := f3 i d e
  refine ⟨v, q, Rep.mono (fun a o q n => ⟨sm a o q, fun y => ?_⟩) (fun a o q n => ⟨sm a o q, fun y => ?_⟩) d v _ _ (fun a o q _ => sm a o q) (fun _ z => z) r⟩
  · rcases y with y | y | y
    · exact n (.inl y)
    · exact n (.inr y)
    · rw [(hF a y).1] at q; cases q
  · rcases y with y | y | y
    · exact n (.inl y)
    · exact n (.inr y)
    · rw [(hF a y).1] at q; cases q
end
end PD
namespace PD
open PySem L2

section
variable {K : PySem.W.Frag} {cl : Tb} {H : Hp} {I M : AS}
theorem RepL.append2 : ∀ {xs ys : List D} {vs ws : List V} {F1 F2 : AS}, RepL K cl H I M xs vs F1 → RepL K cl H I M ys ws F2 → (∀ a, F1 a → ¬ F2 a) → RepL K cl H I M (xs ++ ys) (vs ++ ws) (fun a => F1 a ∨ F2 a)
  | [], ys, vs, ws, F1, F2, h1, h2, _ => by
    have h1 : vs = [] := h1
    subst h1
    exact RepL.weaken (fun a z => .inr z) h2
  | x :: xs, ys, vs, ws, F1, F2, h1, h2, hd => by
    obtain ⟨v, vs2, G1, G2, rfl, r1, r2, a1, a2, a3⟩ := h1
    exact ⟨v, vs2 ++ ws, G1, fun a => G2 a ∨ F2 a, rfl, r1, RepL.append2 r2 h2 fun a z => hd a (a2 a z), fun a z => .inl (a1 a z), fun a z => z.imp (a2 a) id, fun a z y => y.elim (a3 a z) (hd a (a1 a z))⟩
theorem RepL.split : ∀ {xs ys : List D} {vs : List V} {F : AS}, RepL K cl H I M (xs ++ ys) vs F → ∃ vs1 vs2 F1 F2, vs = vs1 ++ vs2 ∧ RepL K cl H I M xs vs1 F1 ∧ RepL K cl H I M ys vs2 F2 ∧ (∀ a, F1 a → F a) ∧ (∀ a, F2 a → F a) ∧ (∀ a, F1 a → ¬ F2 a)
  | [], ys, vs, F, h => ⟨[], vs, none_, F, rfl, rfl, h, fun _ z => z.elim, fun _ z => z, fun _ z => z.elim⟩
  | x :: xs, ys, vs, F, h => by
    obtain ⟨v, ws, G1, G2, rfl, r1, r2, a1, a2, a3⟩ := h
    obtain ⟨vs1, vs2, F1, F2, rfl, s1, s2, b1, b2, b3⟩ := RepL.split r2
    exact ⟨v :: vs1, vs2, fun a => G1 a ∨ F1 a, F2, rfl, ⟨v, vs1, G1, F1, rfl, r1, s1, fun a z => .inl z, fun a z => .inr z, fun a z y => a3 a z (b1 a y)⟩, s2, fun a z => z.elim (a1 a) fun y => a2 a (b1 a y), fun a z => a2 a (b2 a z), fun a z y => z.elim (fun x => a3 a x (b2 a y)) fun x => b3 a x y⟩
theorem RepL.one {x : D} {v : V} {F : AS} (r : Rep K cl H I M x v F) : RepL K cl H I M [x] [v] F := ⟨v, [], F, none_, rfl, r, rfl, fun _ z => z, fun _ z => z.elim, fun _ _ z => z.elim⟩
end
/-- a method that changes a part of ours -/
def MutR (K : PySem.W.Frag) (r : V → List V → Hp → VK → Prop) (f : List D → List D → Res (D × List D)) : Prop :=
  ∀ (cl : Tb) (H : Hp) (I M F1 Fa : AS) (d : List D) (v : V) (ds : List D) (vs : List V) (Q : VK) (res : D) (d' : List D), (∀ a, F1 a → I a) → (∀ a, F1 a → M a) → (∀ a, F1 a ∨ Fa a → H a ≠ none) → (∀ a, F1 a → ¬ Fa a) → Rep K cl H I M (.lst .own d) v F1 → RepL K cl H I (fun _ => True) ds vs Fa → f d ds = .ok (res, d') →
    (∀ w H' Fx G, (∀ a o, H a = some o → ¬ F1 a → H' a = some o) → (∀ a, H a ≠ none → H' a ≠ none) → (∀ a, Fx a ∨ G a → (F1 a ∨ Fa a ∨ H a = none) ∧ H' a ≠ none) → (∀ a, G a → ¬ Fx a) → (∀ I', (∀ a, I' a → I a ∨ H a = none) → Rep K cl H' I' (fun _ => True) res w Fx) →
      (∀ I' M', (∀ a, I' a → I a ∨ H a = none) → (∀ a, M' a → M a ∨ H a = none) → Rep K cl H' I' M' (.lst .own d') v G) → Q w H') → r v vs H Q
def gMut (i : Nat) (f : List D → List D → Res (D × List D)) (gp : GP) (ga : Env → Res (List D)) : Env → MRes := fun E => toM (gp E) E fun p => match partOf E i p with
  | some (.lst .own xs) => toM (ga E) E fun ds => toM (f xs ds) E fun rd => .ok rd.1 (updE E i p (.lst .own rd.2))
  | _ => .bad
def noXf (f : List D → List D → Res (D × List D)) : Prop := ∀ d ds x, f d ds ≠ .ex x
def gOne (g : Env → Res D) : Env → Res (List D) := fun E => g E >>= fun d => .ok [d]
section
variable {X : Cx} {c : Cc} {pos apos : Pos} {a b e e1 e2 : Expr} {i : Nat} {ga gb g g1 g2 : Env → Res D} {gs : Env → Res (List D)} {gp : GP} {gm : Env → MRes} {W W' : AS} {σ : St} {H H' : Hp} {E : Env} {r : V → List V → Hp → VK → Prop} {f : List D → List D → Res (D × List D)} {name : Str} {id : String}
/-- the change itself, behind the arguments -/
theorem mutsem {H1 : Hp} {Q : VK} {p : List Nat} {d : List D} {v : V} {ds : List D} {vs : List V} {Fa : AS} (hf : MutR X.K r f) (s : Sat X.K c E σ H W) (hd : partOf E i p = some (.lst .own d)) (hw : ∃ v0, σ[i]? = some (some v0) ∧ walkV H p v0 = some v) (sm : Same H H1) (ha : ∀ a, Fa a → H a = none ∧ H1 a ≠ none)
    (ra : RepL X.K c.cl H1 (fun a => c.I W a ∨ Fa a) (fun _ => True) ds vs Fa) (q : resM X.K c W σ H (toM (f d ds) E fun rd => .ok rd.1 (updE E i p (.lst .own rd.2))) Q) (nx : noXf f) : r v vs H1 Q := by
  obtain ⟨d0, q1, q2⟩ := partOf_some hd
  obtain ⟨v0, v', F1, g1, g2, g3, g4, _, g5⟩ := s.mut q1 q2
  obtain ⟨v0', w1, w2⟩ := hw
  rw [g1] at w1
  cases w1
  rw [g2] at w2
  cases w2
  cases e1 : f d ds with
  | bad => rw [e1] at q; exact q.elim
  | ex x => exact absurd e1 (nx _ _ _)
  | ok rd =>
    obtain ⟨res, d'⟩ := rd
    rw [e1] at q
    simp only [toM] at q
    rw [updE_eq q1] at q
    refine hf c.cl H1 (fun a => c.I W a ∨ Fa a) (fun a => c.M W a ∨ Fa a) F1 Fa d v ds vs Q res d' (fun a z => .inl (.inl (g3 a z))) (fun a z => .inl (.inl (g3 a z))) (fun a z => z.elim (fun y => Same.some_ sm (s.wh a (g3 a y))) fun y => (ha a y).2) (fun a z y => s.wh a (g3 a z) (ha a y).1) ?_ ra e1 ?_
    · refine Rep.mono (fun a o q n => ⟨sm a o q, fun y => ?_⟩) (fun a o q n => ⟨sm a o q, fun y => ?_⟩) (.lst .own d) v F1 F1 (fun a o q _ => sm a o q) (fun _ z => z) g4
      · rcases y with y | y
        · exact n y
        · rw [(ha a y).1] at q; cases q
      · rcases y with y | y
        · exact n y
        · rw [(ha a y).1] at q; cases q
    · intro w H2 Fx G k1 k2 k3 k4 k5 k6
      have fr : ∀ a, Fx a ∨ G a → (F1 a ∨ H a = none) ∧ H2 a ≠ none := fun a z => ⟨by
        rcases (k3 a z).1 with y | y | y
        · exact .inl y
        · exact .inr (ha a y).1
        · exact .inr (sm.free y), (k3 a z).2⟩
      have hI : ∀ I' : AS, (∀ a, I' a → ((W a ∧ ¬ F1 a) ∨ G a) ∨ (c.B a ∨ Fx a)) → ∀ a, I' a → (c.I W a ∨ Fa a) ∨ H1 a = none := fun I' h a z => by
        rcases h a z with (y | y) | y | y
        · exact .inl (.inl (.inl y.1))
        · rcases (k3 a (.inr y)).1 with x | x | x
          · exact .inl (.inl (.inl (g3 a x)))
          · exact .inl (.inr x)
          · exact .inr x
        · exact .inl (.inl (.inr y))
        · rcases (k3 a (.inl y)).1 with x | x | x
          · exact .inl (.inl (.inl (g3 a x)))
          · exact .inl (.inr x)
          · exact .inr x
      obtain ⟨t1, t2⟩ := g5 H2 Fx G (.lst .own d') (fun a o q n => k1 a o (sm a o q) n) (fun a q => k2 a (Same.some_ sm q)) (fun a z => fr a (.inl z)) (fun a z => fr a (.inr z)) k4 fun I' M' hI' hM' => k6 I' M' (hI I' hI') fun a z => by
        rcases hM' a z with (y | y) | y | y
        · exact .inl (.inl (.inl y.1))
        · rcases (k3 a (.inr y)).1 with x | x | x
          · exact .inl (.inl (.inl (g3 a x)))
          · exact .inl (.inr x)
          · exact .inr x
        · exact .inl (.inl (.inr y))
        · rcases (k3 a (.inl y)).1 with x | x | x
          · exact .inl (.inl (.inl (g3 a x)))
          · exact .inl (.inr x)
          · exact .inr x
      exact q w H2 _ Fx t2 t1 (k5 _ (hI _ fun a z => z))
theorem list_ty {d : List D} {v : V} {F : AS} (r : Rep X.K c.cl H (c.I W) (c.M W) (.lst .own d) v F) : tyV X.K "list" v H := by
  obtain ⟨p, vs, rfl, cc, _⟩ := r
  exact .inl ⟨rfl, vs, cell_sql cc⟩
theorem jm_m1 (slot : Slot "list" name id) (hty : typeOf (.builtin id) = pure (.type "method_descriptor")) (hm : MtR X id r) (hf : MutR X.K r f) (nx : noXf f) (ha : JP X c i a gp) (he : JN X c e g) (hb : attributeBase a name X.env (eval a X.env) = eval a X.env := by rfl)
    (h1 : ((backTo pos (starEach [e] X.env)).all (!·.1) && (backToKw pos (keywordEach [] X.env)).all (·.1.isSome) && decide (([e] : List Expr).length + ([] : List Keyword).length + (if ([] : List Keyword).isEmpty = true then 0 else 1) < 30)) = true := by rfl)
    (hp : (apos.endLine == pos.line) = true := by rfl) (hs : starEach [e] X.env = [(false, eval e X.env)] := by rfl) :
    JM X c (.Call (.Attribute a name apos) [e] [] pos) (gMut i f gp (gOne g)) := ⟨PE.weak (pe_bm PySem.F.plainAttrs_list slot hty hm ha.pe (pa_cons he.pe pa_nil hs) hb h1 hp hs rfl) fun σ H Q ⟨E, W, s, q⟩ => by
  unfold gMut gOne at q
  refine tP_use ha.good s (fun e e1 => by rw [e1] at q; exact exM_ok s q) (fun e1 => by rw [e1] at q; exact q) fun p e1 d v H1 sm hd s1 hw => ?_
  rw [e1] at q
  simp only [toM, hd] at q
  obtain ⟨v0, w1, w2⟩ := hw
  obtain ⟨F, _, rr⟩ := walkV_part s1 hd w1 w2
  cases d with
  | lst fl xs =>
    cases fl with
    | own =>
      have q' : resM X.K c W σ H1 _ Q := resM_back (Step.same sm) q
      clear q
      refine ⟨list_ty rr, tN_use s1 (fun x e2 => by rw [e2] at q'; exact exM_ok s1 q') (fun e2 => by rw [e2] at q'; exact q') fun d2 e2 y H2 F2 sm2 s2 f2 r2 => ?_⟩
      rw [e2] at q'
      exact mutsem hf s1 hd ⟨v0, w1, w2⟩ sm2 f2 (RepL.one r2) q' nx
    | _ => exact q.elim
  | _ => exact q.elim⟩
end
section
variable {K : PySem.W.Frag}
def fApp (xs ds : List D) : Res (D × List D) := match ds with
  | [d] => if xs.length < sizeLine then .ok (.non, xs ++ [d]) else .bad
  | _ => .bad
theorem nx_fApp : noXf fApp := fun d ds x h => by
  unfold fApp at h
  repeat' split at h
  all_goals cases h
theorem mut_of {cl : Tb} {H : Hp} {I M F1 Fa : AS} {d' : List D} {res : D} {Q : VK} {p : Addr} {w : V} {vs vs' : List V} {Fx G : AS} (hF : ∀ a, F1 a ∨ Fa a → H a ≠ none) (hI : ∀ a, F1 a → I a) (hp : H p = some (.lst vs)) (hFp : F1 p)
    (hx : ∀ a, Fx a ∨ G a → F1 a ∨ Fa a) (hGp : G p) (hG : ∀ a, G a → ¬ Fx a) (hxp : ∀ a, Fx a → a ≠ p)
    (rr : ∀ H' I' M', (∀ a o, H a = some o → ¬ I a → H' a = some o ∧ ¬ I' a) → (∀ a o, H a = some o → ¬ M a → H' a = some o ∧ ¬ M' a) → (∀ a o, H a = some o → a ≠ p → H' a = some o) → Rep K cl H' I' (fun _ => True) res w Fx ∧ RepL K cl H' I' M' d' vs' (fun a => G a ∧ a ≠ p)) (hMI : ∀ a, F1 a → M a)
    (q : ∀ w H' Fx G, (∀ a o, H a = some o → ¬ F1 a → H' a = some o) → (∀ a, H a ≠ none → H' a ≠ none) → (∀ a, Fx a ∨ G a → (F1 a ∨ Fa a ∨ H a = none) ∧ H' a ≠ none) → (∀ a, G a → ¬ Fx a) → (∀ I', (∀ a, I' a → I a ∨ H a = none) → Rep K cl H' I' (fun _ => True) res w Fx) →
      (∀ I' M', (∀ a, I' a → I a ∨ H a = none) → (∀ a, M' a → M a ∨ H a = none) → Rep K cl H' I' M' (.lst .own d') (.ref p) G) → Q w H') : Q w (upd H p (.lst vs')) := by
  have hn : ∀ a, H a ≠ none → upd H p (.lst vs') a ≠ none := fun a z => by
    unfold upd
    split
    · exact fun y => nomatch y
    · exact z
  have h1 : ∀ I' : AS, (∀ a, I' a → I a ∨ H a = none) → ∀ a o, H a = some o → ¬ I a → upd H p (.lst vs') a = some o ∧ ¬ I' a := fun I' h a o e n => by
    refine ⟨?_, fun z => ?_⟩
    · rw [upd_ne (fun y => n (by rw [y]; exact hI p hFp))]
      exact e
    · rcases h a z with y | y
      · exact n y
      · rw [y] at e; cases e
  have h2 : ∀ M' : AS, (∀ a, M' a → M a ∨ H a = none) → ∀ a o, H a = some o → ¬ M a → upd H p (.lst vs') a = some o ∧ ¬ M' a := fun I' h a o e n => by
    refine ⟨?_, fun z => ?_⟩
    · rw [upd_ne (fun y => n (by rw [y]; exact hMI p hFp))]
      exact e
    · rcases h a z with y | y
      · exact n y
      · rw [y] at e; cases e
  have h3 : ∀ a o, H a = some o → a ≠ p → upd H p (.lst vs') a = some o := fun a o e n => by
    rw [upd_ne n]
    exact e
  refine q w _ Fx G (fun a o e n => h3 a o e fun y => n (by rw [y]; exact hFp)) hn (fun a z => ⟨(hx a z).elim .inl fun y => .inr (.inl y), hn a (hF a (hx a z))⟩) hG (fun I' h => (rr _ I' none_ (h1 I' h) (h2 _ fun a z => z.elim) h3).1) fun I' M' hI' hM' => ?_
  exact ⟨p, vs', rfl, .inl ⟨upd_same, hGp⟩, (rr _ I' M' (h1 I' hI') (h2 M' hM') h3).2⟩
theorem own_lst {cl : Tb} {H : Hp} {I M F1 : AS} {d : List D} {v : V} (r : Rep K cl H I M (.lst .own d) v F1) : ∃ p ws, v = .ref p ∧ H p = some (.lst ws) ∧ F1 p ∧ RepL K cl H I M d ws (fun a => F1 a ∧ a ≠ p) := by
  obtain ⟨p, ws, rfl, cc, rr⟩ := r
  obtain ⟨c1, c2⟩ : H p = some (.lst ws) ∧ F1 p := cc.elim id fun z => nomatch z.1
  exact ⟨p, ws, rfl, c1, c2, rr⟩
theorem mut_app : MutR K rAppend fApp := fun cl H I M F1 Fa d v ds vs Q res d' hI hM hF hd r ra e q => by
  unfold fApp at e
  split at e
  · rename_i d2
    split at e
    · rename_i hz
      cases e
      obtain ⟨p, ws, rfl, c1, c2, rr⟩ := own_lst r
      obtain ⟨y, ys, G1, G2, rfl, r1, r2, a1, a2, a3⟩ := ra
      have r2 : ys = [] := r2
      subst r2
      refine ⟨p, ws, y, rfl, rfl, c1, by rw [rr.length]; exact hz, ?_⟩
      refine mut_of (res := .non) (w := .non) (Fx := none_) (G := fun a => F1 a ∨ Fa a) hF hI c1 c2 (fun a z => z.elim (fun y => y.elim) id) (.inl c2) (fun _ _ z => z) (fun _ z => z.elim) (fun H' I' M' h1 h2 h3 => ⟨rfl, ?_⟩) hM q
      refine RepL.weaken (fun a z => ?_) (RepL.append2 (RepL.mono h1 h2 d ws _ _ (fun a o q z => h3 a o q z.2) (fun _ z => z) rr) (RepL.one (Rep.mono h1 (fun a o _ n => absurd trivial n) d2 y G1 G1 (fun a o q z => h3 a o q fun y => hd p c2 (a1 p (y ▸ z))) (fun _ z => z) r1)) fun a z y => hd a z.1 (a1 a y))
      rcases z with z | z
      · exact ⟨.inl z.1, z.2⟩
      · exact ⟨.inr (a1 a z), fun y => hd p c2 (a1 p (y ▸ z))⟩
    · cases e
  · cases e
theorem rep_ints {cl : Tb} {H : Hp} {I M : AS} : ∀ {ns : List Int} {F : AS}, RepL K cl H I M (ns.map D.int) (ns.map V.int) F
  | [], F => rfl
  | i :: ns, F => ⟨.int i, ns.map V.int, none_, F, rfl, rfl, rep_ints, fun _ z => z.elim, fun _ z => z, fun _ z => z.elim⟩
end
section
variable {X : Cx} {c : Cc} {pos apos : Pos} {a e : Expr} {i : Nat} {g : Env → Res D} {gp : GP}
theorem jm_append (ha : JP X c i a gp) (he : JN X c e g) (hb : attributeBase a "append" X.env (eval a X.env) = eval a X.env := by rfl)
    (h1 : ((backTo pos (starEach [e] X.env)).all (!·.1) && (backToKw pos (keywordEach [] X.env)).all (·.1.isSome) && decide (([e] : List Expr).length + ([] : List Keyword).length + (if ([] : List Keyword).isEmpty = true then 0 else 1) < 30)) = true := by rfl)
    (hp : (apos.endLine == pos.line) = true := by rfl) (hs : starEach [e] X.env = [(false, eval e X.env)] := by rfl) : JM X c (.Call (.Attribute a "append" apos) [e] [] pos) (gMut i fApp gp (gOne g)) := jm_m1 PySem.F.slot_list_append PySem.F.type_list_append mt_append mut_app nx_fApp ha he hb h1 hp hs
end
end PD
namespace PD
open PySem L2

/-- arguments of a call that changes slot i's thing: they lie outside of it -/
def tB (K : PySem.W.Frag) (c : Cc) (i : Nat) (g : Env → Res (List D)) : TA := fun σ H Q => ∃ E W Fs, Sat K c E σ H W ∧ Sat K (c.aside Fs) (E.set i none) σ H (fun a => W a ∧ ¬ Fs a) ∧ (∀ a, Fs a → W a) ∧ match g E with
  | .ok ds => ∀ vs H', Same H H' → RepL K c.cl H' (c.I W) Fs ds vs none_ → Q vs H'
  | .ex e => ∀ u dd H', Same H H' → ERep K c.cl H' (c.I W) e u dd → c.Wx u dd σ H'
  | .bad => False
structure JB (X : Cx) (c : Cc) (i : Nat) (es : List Expr) (g : Env → Res (List D)) : Prop where pa : PA X es (tB X.K c i g)
section
variable {X : Cx} {c : Cc} {pos apos : Pos} {a b e o : Expr} {es : List Expr} {kws : List Keyword} {i k n : Nat} {ga gk gs : Env → Res (List D)} {gp : GP} {K : PySem.W.Frag} {W W' : AS} {σ : St} {H H' : Hp} {E : Env} {T : Tb}
theorem PA.ex {ι : Type} {es : List Expr} {t : ι → TA} (h : ∀ i, PA X es (t i)) : PA X es (fun σ H Q => ∃ i, t i σ H Q) := ⟨fun pos pins s σ H Q I ⟨i, q⟩ => (h i).run pos pins s σ H Q I q⟩
theorem PK.ex {ι : Type} {es : List Keyword} {t : ι → TA} (h : ∀ i, PK X es (t i)) : PK X es (fun σ H Q => ∃ i, t i σ H Q) := ⟨fun pos pins s σ H Q I ⟨i, q⟩ => (h i).run pos pins s σ H Q I q⟩
end
end PD
namespace PD
open PySem L2

section
variable {X : Cx} {c : Cc} {T : Tb} {k n i : Nat} {f C : Addr} {fd : FuncData} {ps ks : List Str} {x m : Str} {p pos apos : Pos} {e o : Expr} {es : List Expr} {kws : List Keyword} {dvs : List V} {dds : List D} {ds : List Value} {g : List Value → List Value → List Value} {gV : List V → List V → List V}
  {Fm : List D → MR} {ga gk gl : Env → Res (List D)} {gp : GP}
end
section
variable {X : Cx} {c : Cc} {pos : Pos} {e : Expr} {gm : Env → MRes} {i : Nat} {x : Str}
def exprSM (g : Env → MRes) : Env → Out := fun E => match g E with
  | .ok _ E => .nx E
  | .ex e E => .ex e E
  | .bad => .bad
theorem js_exprM (h : JM X c e gm) (hs : swapsWith e none pos.line X.env = pure false := by rfl) : JS X c (.Expr e pos) (exprSM gm) := ⟨PS.weak (ps_expr h.pe hs) fun D σ H ⟨E, W, s, q⟩ => by
  unfold exprSM at q
  refine ⟨E, W, s, ?_⟩
  cases e1 : gm E with
  | ok d E1 =>
    rw [e1] at q
    intro v H' W' F st s2 r
    exact q σ H' W' ⟨st.1, st.2.1, fun a z => st.2.2 a (.inl z)⟩ (Sat.unaside s.sb s2)
  | ex x E1 =>
    rw [e1] at q
    exact fun u dd H' W' st s2 er => q u dd σ H' W' st s2 er
  | bad => rw [e1] at q; exact q⟩
end
inductive TO where
  | ok (b : Bool) (E : Env)
  | ex (e : Exc) (E : Env)
  | bad
def resMT (K : PySem.W.Frag) (c : Cc) (W : AS) (σ : St) (H : Hp) (o : TO) (Q : Bool → Hp → Prop) : Prop := match o with
  | .ok b E => ∀ H' W', Step H W H' W' → Sat K c E σ H' W' → Q b H'
  | .ex e E => ∀ u dd H' W', Step H W H' W' → Sat K c E σ H' W' → ERep K c.cl H' (c.I W') e u dd → c.Wx u dd σ H'
  | .bad => False
def tMT (K : PySem.W.Frag) (c : Cc) (g : Env → TO) : TT := fun σ H Q => ∃ E W, Sat K c E σ H W ∧ resMT K c W σ H (g E) Q
structure JMT (X : Cx) (c : Cc) (e : Expr) (g : Env → TO) : Prop where pt : PT X e (tMT X.K c g)
structure JMW (X : Cx) (c : Cc) (e : Expr) (g : Env → TO) : Prop where pw : PW X e (tMT X.K c g)
section
variable {X : Cx} {c : Cc} {pos : Pos} {a b e : Expr} {gm : Env → MRes} {g : Env → Res D} {gt : Env → Res Bool} {gx gy : Env → TO} {rest : List Expr} {K : PySem.W.Frag} {W W' : AS} {σ : St} {H H' : Hp} {E : Env}
end
end PD
namespace PD
open PySem L2

/-- a built-in function of one thing that it looks at -/
def Un1 (K : PySem.W.Frag) (k : V → Hp → VK → Prop) (f : D → Res D) : Prop := ∀ (cl : Tb) (H : Hp) (I M F : AS) (d : D) (v : V) (Q : VK) (res : D), (∀ a, I a → H a ≠ none) → Rep K cl H I M d v F → f d = .ok res →
  (∀ w H' F', Same H H' → (∀ a, F' a → H a = none ∧ H' a ≠ none) → Rep K cl H' (fun a => I a ∨ F' a) (fun _ => True) res w F' → Q w H') → k v H Q
def NoX1 (f : D → Res D) : Prop := ∀ d e, f d ≠ .ex e
theorem CallR.or2 {X : Cx} {f : Value} {r1 r2 : List V → Hp → VK → Prop} (h1 : CallR X f r1) (h2 : CallR X f r2) : CallR X f (fun vs H Q => r1 vs H Q ∨ r2 vs H Q) := fun pins s σ H xs us Q I r h => h.elim (h1 pins s σ H xs us Q I r) (h2 pins s σ H xs us Q I r)
section
variable {X : Cx} {c : Cc} {pos p apos : Pos} {a b e o : Expr} {ga gb g : Env → Res D} {x : Str} {id T : String} {r : List V → Hp → VK → Prop} {k : V → Hp → VK → Prop} {f : D → Res D}
theorem unsem {W : AS} {σ : St} {H : Hp} {E : Env} {Q : VK} (u : Un1 X.K k f) (nx : NoX1 f) (s : Sat X.K c E σ H W) (q : resN X.K c W σ H (gUn f g E) Q) : tV X.K c g σ H fun v H1 => k v H1 Q := by
  unfold gUn at q
  refine tV_use s (fun e e1 => by rw [e1] at q; exact q) (fun e1 => by rw [e1] at q; exact q) fun d e1 v H1 F sm s1 fF rr => ?_
  rw [e1] at q
  simp only [res_bind_ok] at q
  cases e2 : f d with
  | ex x => exact absurd e2 (nx _ _)
  | bad => rw [e2] at q; exact q.elim
  | ok res =>
    rw [e2] at q
    exact u c.cl H1 (c.I W) (c.M W) F d v Q res s1.ih rr e2 fun w H2 F2 sm2 f2 r2 => q w H2 F2 (sm.trans sm2) (fun a z => ⟨sm.free (f2 a z).1, (f2 a z).2⟩) r2
/-- f(e): a built-in function -/
theorem jn_b1 (hc : CallR X (.builtin id) r) (hk : ∀ v H Q, k v H Q → r [v] H Q) (u : Un1 X.K k f) (nx : NoX1 f) (hg : Gl X x) (hm : X.mg x = none) (hv : bootBuiltins x = some (.builtin id)) (ha : JV X c a g)
    (h1 : x ≠ ("__name__" : Str) := by decide) (h2 : (x == ("__debug__" : Str)) = false := by decide) (h3 : starEach [a] X.env = (false, eval a X.env) :: starEach [] X.env := by rfl) (h4 : (backTo pos (starEach [] X.env)).any (·.1) = false := by rfl) :
    JN X c (.Call (.Name x p) [a] [] pos) (gUn f g) := ⟨PE.weak (pe_callB hc hg hm hv (pa_cons ha.pe pa_nil h3) h1 h2 h3 h4) fun σ H Q ⟨E, W, s, q⟩ => by
  have := unsem u nx s q
  obtain ⟨E1, W1, s1, q1⟩ := this
  refine ⟨E1, W1, s1, ?_⟩
  cases e : g E1 with
  | ok d => rw [e] at q1; exact fun v H' sm hr => hk v H' Q (q1 v H' sm hr)
  | ex x => rw [e] at q1; exact q1
  | bad => rw [e] at q1; exact q1⟩
theorem jn_t1 (hc : CallR X (.type T) r) (hk : ∀ v H Q, k v H Q → r [v] H Q) (u : Un1 X.K k f) (nx : NoX1 f) (hg : Gl X x) (hm : X.mg x = none) (hv : bootBuiltins x = some (.type T)) (ha : JV X c a g)
    (h1 : x ≠ ("__name__" : Str) := by decide) (h2 : (x == ("__debug__" : Str)) = false := by decide) (h3 : starEach [a] X.env = (false, eval a X.env) :: starEach [] X.env := by rfl) (h4 : (backTo pos (starEach [] X.env)).any (·.1) = false := by rfl) :
    JN X c (.Call (.Name x p) [a] [] pos) (gUn f g) := ⟨PE.weak (pe_callTy hc hg hm hv (pa_cons ha.pe pa_nil h3) h1 h2 h3 h4) fun σ H Q ⟨E, W, s, q⟩ => by
  have := unsem u nx s q
  obtain ⟨E1, W1, s1, q1⟩ := this
  refine ⟨E1, W1, s1, ?_⟩
  cases e : g E1 with
  | ok d => rw [e] at q1; exact fun v H' sm hr => hk v H' Q (q1 v H' sm hr)
  | ex x => rw [e] at q1; exact q1
  | bad => rw [e] at q1; exact q1⟩
end
theorem scal {K : PySem.W.Frag} {cl : Tb} {H : Hp} {I : AS} {Q : VK} {res : D} {w : V} (q : ∀ w H' F', Same H H' → (∀ a, F' a → H a = none ∧ H' a ≠ none) → Rep K cl H' (fun a => I a ∨ F' a) (fun _ => True) res w F' → Q w H') (r : Rep K cl H (fun a => I a ∨ none_ a) (fun _ => True) res w none_) : Q w H := q w H none_ same_refl (fun _ z => z.elim) r
def lenD : D → Res D
  | .lst _ xs => .ok (.int xs.length)
  | .tup xs => .ok (.int xs.length)
  | .ktup xs => .ok (.int xs.length)
  | .str s => if s.length ≤ sizeLine then .ok (.int s.length) else .bad
  | .dk f ks _ => if f = .frz then .bad else .ok (.int ks.length)
  | .dt f ks _ => if f = .frz then .bad else .ok (.int ks.length)
  | _ => .bad
theorem nx_len : NoX1 lenD := fun d e h => by
  unfold lenD at h
  repeat' split at h
  all_goals cases h
def kLen (K : PySem.W.Frag) : V → Hp → VK → Prop := fun x H Q => (∃ n, LenV K x H n ∧ Q (.int n) H) ∨ (∃ a kvs, x = V.ref a ∧ H a = some (.dK kvs) ∧ Q (.int kvs.length) H) ∨ ∃ (p : Addr) (kvs : List (List Key × V)), x = .ref p ∧ H p = some (.dT kvs) ∧ Q (.int ((kvs.length : Nat) : Int)) H
theorem un_len {K : PySem.W.Frag} : Un1 K (kLen K) lenD := fun cl H I M F d v Q res hi r e q => by
  unfold lenD at e
  split at e
  · cases e
    obtain ⟨p, vs, rfl, cc, rr⟩ := r
    exact .inl ⟨_, .inl ⟨vs, cell_sql cc, rfl⟩, by rw [rr.length]; exact scal q rfl⟩
  · cases e
    obtain ⟨p, vs, rfl, cc, rr⟩ := r
    exact .inl ⟨_, .inr ⟨vs, .inl (.inl cc.1), rfl⟩, by rw [rr.length]; exact scal q rfl⟩
  · cases e
    obtain ⟨p, vs, rfl, cc, rr⟩ := r
    exact .inl ⟨_, .inr ⟨vs, .inr cc, rfl⟩, by rw [rr.length]; exact scal q rfl⟩
  · split at e
    · rename_i hz
      cases e
      have r : v = .str _ := r
      subst r
      exact .inl ⟨_, ⟨hz, rfl⟩, scal q rfl⟩
    · cases e
  · split at e
    · cases e
    · rename_i hf
      cases e
      obtain ⟨p, vs, rfl, hl, cc, rr⟩ := r
      refine .inr (.inl ⟨p, _, rfl, cell_some cc hf, ?_⟩)
      rw [List.length_zip, rr.length, hl, Nat.min_self]
      rw [hl] at q
      exact scal q rfl
  · split at e
    · cases e
    · rename_i hf
      cases e
      obtain ⟨p, vs, rfl, hl, cc, rr⟩ := r
      refine .inr (.inr ⟨p, _, rfl, cell_some cc hf, ?_⟩)
      rw [List.length_zip, rr.length, hl, Nat.min_self]
      rw [hl] at q
      exact scal q rfl
  · cases e
section
variable {X : Cx} {c : Cc} {pos p apos : Pos} {a b e o : Expr} {ga gb g : Env → Res D}
theorem jn_len (hg : Gl X "len") (hm : X.mg "len" = none) (ha : JV X c a g) (h3 : starEach [a] X.env = (false, eval a X.env) :: starEach [] X.env := by rfl) (h4 : (backTo pos (starEach [] X.env)).any (·.1) = false := by rfl) : JN X c (.Call (.Name "len" p) [a] [] pos) (gUn lenD g) :=
  jn_b1 (CallR.or2 call_len (CallR.or2 call_lenD call_len_dT)) (fun v H Q h => by
    rcases h with ⟨n, h1, h2⟩ | ⟨a, kvs, rfl, h1, h2⟩ | ⟨a, kvs, rfl, h1, h2⟩
    · exact .inl ⟨v, n, rfl, h1, h2⟩
    · exact .inr (.inl ⟨a, kvs, rfl, h1, h2⟩)
    · exact .inr (.inr ⟨a, kvs, rfl, h1, h2⟩)) un_len nx_len hg hm (by decide +kernel) ha (by decide) (by decide) h3 h4
def intD : D → Res D
  | .int i => .ok (.int i)
  | .bl k => .ok (.int (if k then 1 else 0))
  | _ => .bad
theorem nx_int : NoX1 intD := fun d e h => by
  unfold intD at h
  split at h <;> cases h
theorem jn_intOf (hg : Gl X "int") (hm : X.mg "int" = none) (ha : JV X c a g) (h3 : starEach [a] X.env = (false, eval a X.env) :: starEach [] X.env := by rfl) (h4 : (backTo pos (starEach [] X.env)).any (·.1) = false := by rfl) : JN X c (.Call (.Name "int" p) [a] [] pos) (gUn intD g) :=
  jn_t1 (k := fun x H Q => (∃ i, x = .int i ∧ Q (.int i) H) ∨ ∃ k, x = .bl k ∧ Q (.int (if k then 1 else 0)) H) call_int1 (fun v H Q h => by
    rcases h with ⟨n, rfl, h2⟩ | ⟨n, rfl, h2⟩
    · exact .inl ⟨n, rfl, h2⟩
    · exact .inr ⟨n, rfl, h2⟩) (fun cl H I M F d v Q res hi r e q => by
      unfold intD at e
      split at e
      · cases e
        exact .inl ⟨_, r, scal q rfl⟩
      · cases e
        exact .inr ⟨_, r, scal q rfl⟩
      · cases e) nx_int hg hm (by decide +kernel) ha (by decide) (by decide) h3 h4
def absD : D → Res D
  | .int i => .ok (.int (if i < 0 then -i else i))
  | _ => .bad
theorem nx_abs : NoX1 absD := fun d e h => by
  unfold absD at h
  split at h <;> cases h
theorem jn_abs (hg : Gl X "abs") (hm : X.mg "abs" = none) (ha : JV X c a g) (h3 : starEach [a] X.env = (false, eval a X.env) :: starEach [] X.env := by rfl) (h4 : (backTo pos (starEach [] X.env)).any (·.1) = false := by rfl) : JN X c (.Call (.Name "abs" p) [a] [] pos) (gUn absD g) :=
  jn_b1 (k := fun x H Q => (∃ i, x = .int i ∧ Q (.int (if i < 0 then -i else i)) H)) call_abs (fun v H Q h => by
    obtain ⟨n, rfl, h2⟩ := h
    exact ⟨n, rfl, h2⟩) (fun cl H I M F d v Q res hi r e q => by
      unfold absD at e
      split at e
      · cases e
        exact ⟨_, r, scal q rfl⟩
      · cases e) nx_abs hg hm (by decide +kernel) ha (by decide) (by decide) h3 h4
def kD : Key → D
  | .inl i => .int i
  | .inr s => .str s
theorem immL_keys : ∀ ks : List Key, immL (ks.map kD) = true
  | [] => rfl
  | .inl _ :: ks => immL_keys ks
  | .inr _ :: ks => immL_keys ks
theorem repL_keys {K : PySem.W.Frag} {cl : Tb} {H : Hp} {I M : AS} : ∀ ks : List Key, RepL K cl H I M (ks.map kD) (ks.map kV) none_
  | [] => rfl
  | .inl i :: ks => RepL.none_cons (d := .int i) (v := .int i) rfl (repL_keys ks)
  | .inr s :: ks => RepL.none_cons (d := .str s) (v := .str s) rfl (repL_keys ks)
theorem zip_keys {ks : List Key} {ws : List V} (h : ks.length = ws.length) : (List.zip ks ws).map (fun kv => kV kv.1) = ks.map kV := by
  rw [show (fun kv : Key × V => kV kv.1) = kV ∘ Prod.fst from rfl, ← List.map_map, List.map_fst_zip (by omega)]
def listD : D → Res D
  | .lst f xs => if immL xs = true then .ok (.lst .own xs) else .bad
  | .tup xs => if immL xs = true then .ok (.lst .own xs) else .bad
  | .ktup xs => if immL xs = true then .ok (.lst .own xs) else .bad
  | .dk f ks _ => if f = .frz then .bad else .ok (.lst .own (ks.map kD))
  | _ => .bad
theorem nx_list : NoX1 listD := fun d e h => by
  unfold listD at h
  repeat' split at h
  all_goals cases h
theorem jn_listOf (hcalm : X.calm = true) (hg : Gl X "list") (hm : X.mg "list" = none) (ha : JV X c a g) (h3 : starEach [a] X.env = (false, eval a X.env) :: starEach [] X.env := by rfl) (h4 : (backTo pos (starEach [] X.env)).any (·.1) = false := by rfl) : JN X c (.Call (.Name "list" p) [a] [] pos) (gUn listD g) :=
  jn_t1 (k := fun x H Q => (∃ p ys, x = .ref p ∧ (SqL X.K H p ys ∨ SqT X.K H p ys) ∧ ∀ l, H l = none → Q (.ref l) (upd H l (.lst ys))) ∨ ∃ p kvs, x = .ref p ∧ Rd H p (.dK kvs) ∧ ∀ l, H l = none → Q (.ref l) (upd H l (.lst (kvs.map fun kv => kV kv.1)))) (CallR.or2 call_list_of (call_listD hcalm)) (fun v H Q h => by
    rcases h with ⟨p, ys, rfl, h2⟩ | ⟨p, kvs, rfl, h2⟩
    · exact .inl ⟨p, ys, rfl, h2⟩
    · exact .inr ⟨p, kvs, rfl, h2⟩) (fun cl H I M F d v Q res hi r e q => by
      have fin : ∀ {xs : List D} {p : Addr} {vs : List V} {G : AS}, immL xs = true → res = .lst .own xs → RepL X.K cl H I M xs vs G → ∀ l, H l = none → Q (.ref l) (upd H l (.lst vs)) := fun {xs p vs G} hm er rr l hl => by
        subst er
        exact q _ _ _ (Same.new hl) (new_own hl) (rep_lst hl rr hm)
      unfold listD at e
      split at e
      · split at e
        · rename_i hm
          cases e
          obtain ⟨p, vs, rfl, cc, rr⟩ := r
          exact .inl ⟨p, vs, rfl, .inl (cell_sql cc), fin (p := p) hm rfl rr⟩
        · cases e
      · split at e
        · rename_i hm
          cases e
          obtain ⟨p, vs, rfl, cc, rr⟩ := r
          exact .inl ⟨p, vs, rfl, .inr (.inl (.inl cc.1)), fin (p := p) hm rfl rr⟩
        · cases e
      · split at e
        · rename_i hm
          cases e
          obtain ⟨p, vs, rfl, cc, rr⟩ := r
          exact .inl ⟨p, vs, rfl, .inr (.inr cc), fin (p := p) hm rfl rr⟩
        · cases e
      · split at e
        · cases e
        · rename_i hf
          cases e
          obtain ⟨p, ws, rfl, hl, cc, rr⟩ := r
          have hl2 := hl.trans rr.length.symm
          refine .inr ⟨p, _, rfl, .inl (cell_some cc hf), fun l hl0 => ?_⟩
          rw [zip_keys hl2]
          exact q _ _ _ (Same.new hl0) (new_own hl0) (rep_lst hl0 (repL_keys (M := M) _) (immL_keys _))
      · cases e) nx_list hg hm (by decide +kernel) ha (by decide) (by decide) h3 h4
def boolsOf : List D → Option (List Bool)
  | [] => some []
  | .bl k :: r => (boolsOf r).map (k :: ·)
  | _ => none
theorem boolsOf_rep {K : PySem.W.Frag} {cl : Tb} {H : Hp} {I M : AS} : ∀ {xs : List D} {ns : List Bool} {vs : List V} {F : AS}, boolsOf xs = some ns → RepL K cl H I M xs vs F → vs = ns.map V.bl
  | [], ns, vs, F, e, r => by
    cases e
    exact r
  | .bl i :: xs, ns, vs, F, e, r => by
    simp only [boolsOf] at e
    cases e1 : boolsOf xs with
    | none => rw [e1] at e; cases e
    | some ms =>
      rw [e1] at e
      cases e
      obtain ⟨v, ws, F1, F2, rfl, r1, r2, _⟩ := r
      have r1 : v = .bl i := r1
      rw [r1, boolsOf_rep e1 r2]
      rfl
  | .non :: xs, _, _, _, e, _ => by cases e
  | .int _ :: xs, _, _, _, e, _ => by cases e
  | .str _ :: xs, _, _, _, e, _ => by cases e
  | .tup _ :: xs, _, _, _, e, _ => by cases e
  | .ktup _ :: xs, _, _, _, e, _ => by cases e
  | .lst _ _ :: xs, _, _, _, e, _ => by cases e
  | .dk _ _ _ :: xs, _, _, _, e, _ => by cases e
  | .dt _ _ _ :: xs, _, _, _, e, _ => by cases e
  | .obj _ _ _ _ :: xs, _, _, _, e, _ => by cases e
def allD : D → Res D
  | .lst _ xs => match boolsOf xs with
    | some bs => .ok (.bl (bs.all id))
    | none => .bad
  | _ => .bad
theorem nx_all : NoX1 allD := fun d e h => by
  unfold allD at h
  repeat' split at h
  all_goals cases h
theorem jn_all (hcalm : X.calm = true) (hg : Gl X "all") (hm : X.mg "all" = none) (ha : JV X c a g) (h3 : starEach [a] X.env = (false, eval a X.env) :: starEach [] X.env := by rfl) (h4 : (backTo pos (starEach [] X.env)).any (·.1) = false := by rfl) : JN X c (.Call (.Name "all" p) [a] [] pos) (gUn allD g) :=
  jn_b1 (k := fun v H Q => rAll X.K [v] H Q) (cr_all hcalm) (fun v H Q h => h) (fun cl H I M F d v Q res hi r e q => by
      unfold allD at e
      split at e
      · split at e
        · rename_i bs e1
          cases e
          obtain ⟨p, vs, rfl, cc, rr⟩ := r
          have := boolsOf_rep e1 rr
          subst this
          exact ⟨p, bs, rfl, cell_sql cc, scal q rfl⟩
        · cases e
      · cases e) nx_all hg hm (by decide +kernel) ha (by decide) (by decide) h3 h4
def tyOf : D → Option String
  | .non => some "NoneType"
  | .bl _ => some "bool"
  | .int _ => some "int"
  | .str _ => some "str"
  | .tup _ => some "tuple"
  | .ktup _ => some "tuple"
  | .lst _ _ => some "list"
  | .dk f _ _ => if f = .frz then none else some "dict"
  | .dt f _ _ => if f = .frz then none else some "dict"
  | .obj _ _ _ _ => none
theorem tyOf_rep {K : PySem.W.Frag} {cl : Tb} {H : Hp} {I M F : AS} {d : D} {v : V} {T : String} (h : tyOf d = some T) (r : Rep K cl H I M d v F) : TyX K H v (.type T) := by
  cases d with
  | non => cases h; have r : v = .non := r; subst r; exact .base .non
  | bl b => cases h; have r : v = .bl b := r; subst r; exact .base (.bl b)
  | int i => cases h; have r : v = .int i := r; subst r; exact .base (.int i)
  | str s => cases h; have r : v = .str s := r; subst r; exact .base (.str s)
  | tup xs => cases h; obtain ⟨p, vs, rfl, cc, _⟩ := r; exact .base (.tup cc.1)
  | ktup xs =>
    cases h
    obtain ⟨p, vs, rfl, ⟨o, its, n, h1, h2, _⟩, _⟩ := r
    exact .kTuple h1 h2
  | lst f xs =>
    cases h
    obtain ⟨p, vs, rfl, cc, _⟩ := r
    rcases cc with cc | ⟨_, o, its, n, h1, h2, _⟩
    · cases f with
      | frz =>
        rcases cc.1 with z | ⟨o, z⟩
        · exact .base (.lst z)
        · exact .base (.frz z)
      | imm => exact .base (.lst cc.1)
      | bor => exact .base (.lst cc.1)
      | own => exact .base (.lst cc.1)
    · exact .kList h1 h2
  | dk f ks xs =>
    simp only [tyOf] at h
    split at h
    · cases h
    · rename_i hf
      cases h
      obtain ⟨p, vs, rfl, hl, cc, _⟩ := r
      exact .base (.dK (cell_some cc hf))
  | dt f ks xs =>
    simp only [tyOf] at h
    split at h
    · cases h
    · rename_i hf
      cases h
      obtain ⟨p, vs, rfl, hl, cc, _⟩ := r
      exact .base (.dT (cell_some cc hf))
  | obj f c ns xs => cases h
def isiD (T : String) (d : D) : Res D := match tyOf d with
  | some t => match kitB t T with
    | some b => .ok (.bl b)
    | none => .bad
  | none => .bad
theorem jn_isi {T : String} {y : Str} {py : Pos} (hg : Gl X "isinstance") (hm : X.mg "isinstance" = none) (hg2 : Gl X y) (hm2 : X.mg y = none) (hv : bootBuiltins y = some (.type T)) (ha : JV X c a g) (hd : (y == ("__debug__" : Str)) = false := by decide) (hn : y ≠ ("__name__" : Str) := by decide)
    (h3 : starEach [a, .Name y py] X.env = [(false, eval a X.env), (false, eval (.Name y py) X.env)] := by rfl) (h5 : starEach [.Name y py] X.env = [(false, eval (.Name y py) X.env)] := by rfl) (h4 : (backTo pos (starEach [.Name y py] X.env)).any (·.1) = false := by rfl) :
    JN X c (.Call (.Name "isinstance" p) [a, .Name y py] [] pos) (gUn (isiD T) g) := ⟨PE.weak (pe_callB call_isi hg hm (by decide +kernel) (pa_cons ha.pe (pa_cons (pe_bltn (v := .ty T) hg2 hm2 hv rfl hn hd) pa_nil h5) (by rw [h3, h5])) (by decide) (by decide) (by rw [h3, h5]) h4) fun σ H Q ⟨E, W, s, q⟩ => by
  unfold gUn at q
  refine tV_use s (fun e e1 => by rw [e1] at q; exact q) (fun e1 => by rw [e1] at q; exact q) fun d e1 v H1 F sm s1 f rr => ?_
  rw [e1] at q
  simp only [res_bind_ok, isiD] at q
  cases e2 : tyOf d with
  | none => rw [e2] at q; exact q.elim
  | some t =>
    rw [e2] at q
    simp only at q
    cases e3 : kitB t T with
    | none => rw [e3] at q; exact q.elim
    | some b =>
      rw [e3] at q
      exact ⟨v, .ty T, .type t, .type T, b, rfl, .ty T, tyOf_rep e2 rr, kit_ty e3, q _ _ none_ sm (fun _ z => z.elim) rfl⟩⟩
end
end PD
namespace PD
open PySem L2

def repS (s : Str) (n : Int) : Str := ⟨(List.replicate n.toNat s.cps).foldl (· ++ ·) #[]⟩
theorem foldl_empty : ∀ (n : Nat) (a : Array Nat), (List.replicate n (#[] : Array Nat)).foldl (· ++ ·) a = a
  | 0, a => rfl
  | n + 1, a => by
    rw [List.replicate_succ, List.foldl_cons, Array.append_empty]
    exact foldl_empty n a
theorem op_mul_str {X : Cx} : OpR X (binaryOp .Mult) (fun x y H Q => ∃ s n, x = .str s ∧ y = .int n ∧ -(2 ^ 63) ≤ n ∧ n < 2 ^ 63 ∧ s.length * n.toNat ≤ sizeLine ∧ Q (.str (repS s n)) H) := by
  intro pins s σ H x y v u Q I rx ry h
  obtain ⟨z, n, rfl, rfl, h1, h2, hz, q⟩ := h
  obtain ⟨t, rfl⟩ := rx
  obtain ⟨t', rfl⟩ := ry
  have e1 : n < 1 → Str.empty = repS z n := fun hn => by
    unfold repS
    have : n.toNat = 0 := by omega
    rw [this]
    rfl
  have e2 : (n == 1 || z.length == 0) = true → z = repS z n := fun hn => by
    unfold repS
    rw [Bool.or_eq_true] at hn
    rcases hn with hn | hn
    · have : n.toNat = 1 := by
        have := beq_iff_eq.mp hn
        omega
      rw [this]
      simp
    · have hl : z.cps.size = 0 := beq_iff_eq.mp hn
      have h0 : z.cps = #[] := Array.eq_empty_of_size_eq_zero hl
      rw [h0, foldl_empty]
      cases z
      simp at h0
      rw [h0]
  refine PySem.P.mul_str (t := t) ?_ (fun hn _ => ?_) (fun _ _ => ?_) ?_
  · rw [decide_eq_false (by omega), decide_eq_false (by omega)]
    rfl
  · have h3 : ((z.length * n.toNat : Nat) : Int) ≤ 16777216 := by
      have : sizeLine = 16777216 := rfl
      omega
    have h4 : ((n.toNat : Nat) : Int) = n := Int.toNat_of_nonneg (by omega)
    have h5 : (z.length : Int) * n ≤ 2 ^ 63 - 1 := by
      rw [← h4, ← Int.natCast_mul]
      omega
    have := Int.le_ediv_of_mul_le (by omega : (0 : Int) < n) h5
    omega
  · simp [Builtin.Str.tooLong, hz]
  · by_cases hn : n < 1
    · rw [if_pos hn]
      exact ⟨by decide, .str _, H, I.tok _, ⟨_, by rw [e1 hn]⟩, q⟩
    · rw [if_neg hn]
      by_cases hc : (n == 1 || z.length == 0) = true
      · rw [if_pos hc]
        exact ⟨.str _, H, I, ⟨t, by rw [← e2 hc]⟩, q⟩
      · rw [if_neg hc]
        exact ⟨PySem.fits_reps (by simp [Builtin.Str.tooLong, hz]), .str _, H, I.tok _, ⟨_, rfl⟩, q⟩
def mulA (x y : D) : Res D := match x with
  | .str s => match y with
    | .int n => if -(2 ^ 63) ≤ n ∧ n < 2 ^ 63 ∧ s.length * n.toNat ≤ sizeLine then .ok (.str (repS s n)) else .bad
    | _ => .bad
  | _ => mulD x y
theorem nx_mulA : NoX mulA := fun a b e h => by
  unfold mulA at h
  split at h
  · repeat' split at h
    all_goals cases h
  · exact nx_ii _ _ _ h
theorem op2_mulA {K : PySem.W.Frag} : Op2 K (fun x y H Q => (∃ s n, x = .str s ∧ y = .int n ∧ -(2 ^ 63) ≤ n ∧ n < 2 ^ 63 ∧ s.length * n.toNat ≤ sizeLine ∧ Q (.str (repS s n)) H) ∨ rI CMul (fun i j => V.int (i * j)) x y H Q) mulA := fun cl I M H da db d x y Fa Fb Q hi hm ra rb e q => by
  unfold mulA at e
  split at e
  · rename_i s
    split at e
    · rename_i n
      split at e
      · rename_i hz
        cases e
        have ra : x = .str s := ra
        have rb : y = .int n := rb
        subst ra rb
        exact .inl ⟨_, _, rfl, rfl, hz.1, hz.2.1, hz.2.2, q _ H none_ same_refl (fun _ z => z.elim) rfl⟩
      · cases e
    · cases e
  · exact .inr (op2_ii (fun i j h => by
    simp only [Bool.or_eq_true, Bool.and_eq_true, decide_eq_true_eq] at h
    exact h) cl I M H da db d x y Fa Fb Q hi hm ra rb e q)
section
variable {X : Cx} {c : Cc} {pos p apos : Pos} {a b e o : Expr} {ga gb g go : Env → Res D}
theorem jn_mulA (ha : JV X c a ga) (hb : JV X c b gb) : JN X c (.BinOp a .Mult b pos) (gBin mulA ga gb) := jn_op (OpR.or op_mul_str op_mul) op2_mulA nx_mulA ha hb
def gOrT (ga gb : Env → Res D) : Env → Res D := fun E => ga E >>= fun d => truD d >>= fun k => if k = true then .ok d else gb E
theorem jv_one {op : BoolOp} (ha : JV X c a ga) : JV X c (.BoolOp op [a] pos) ga := ⟨pe_one ha.pe⟩
theorem jv_or {rest : List Expr} (ha : JV X c a ga) (hb : JV X c (.BoolOp .Or (b :: rest) pos) gb) : JV X c (.BoolOp .Or (a :: b :: rest) pos) (gOrT ga gb) := ⟨PE.weak (pe_orT ha.pe hb.pe) fun σ H Q ⟨E, W, s, q⟩ => by
  unfold gOrT at q
  refine tV_use s (fun e e1 => by rw [e1] at q; exact q) (fun e1 => by rw [e1] at q; exact q) fun d e1 v H1 F sm s1 f r => ?_
  rw [e1] at q
  simp only [res_bind_ok] at q
  cases e2 : truD d with
  | ex x => exact absurd e2 (truD_nx d x)
  | bad => rw [e2] at q; exact q.elim
  | ok k =>
    rw [e2] at q
    refine ⟨k, tru_rep r e2, ?_⟩
    cases k with
    | true => exact q v H1 sm ⟨F, f, r⟩
    | false => exact ⟨E, W, s1, resV_back sm q⟩⟩
def maxD : D → D → Res D := ii (fun _ _ => true) fun i j => .int (if j > i then j else i)
theorem jn_b2 {id : String} {x : Str} {r : List V → Hp → VK → Prop} {k : R2} {f : D → D → Res D} (hc : CallR X (.builtin id) r) (hk : ∀ x y H Q, k x y H Q → r [x, y] H Q) (ho : Op2 X.K k f) (nx : NoX f) (hg : Gl X x) (hm : X.mg x = none) (hv : bootBuiltins x = some (.builtin id)) (ha : JV X c a ga) (hb : JV X c b gb)
    (h1 : x ≠ ("__name__" : Str) := by decide) (h2 : (x == ("__debug__" : Str)) = false := by decide) (h3 : starEach [a, b] X.env = (false, eval a X.env) :: starEach [b] X.env := by rfl) (h5 : starEach [b] X.env = (false, eval b X.env) :: starEach [] X.env := by rfl) (h4 : (backTo pos (starEach [b] X.env)).any (·.1) = false := by rfl) :
    JN X c (.Call (.Name x p) [a, b] [] pos) (gBin f ga gb) := ⟨PE.weak (pe_callB hc hg hm hv (pa_cons ha.pe (pa_cons hb.pe pa_nil h5) h3) h1 h2 h3 h4) fun σ H Q ⟨E, W, s, q⟩ => by
  unfold gBin at q
  refine tV_use s (fun e e1 => by rw [e1] at q; exact q) (fun e1 => by rw [e1] at q; exact q) fun da e1 x H1 Fa sm1 s1 fa ra => ?_
  rw [e1] at q
  simp only [res_bind_ok] at q
  refine tV_use s1 (fun e e2 => by rw [e2] at q; exact fun u dd H' sm => q u dd H' (sm1.trans sm)) (fun e2 => by rw [e2] at q; exact q) fun db e2 y H2 Fb sm2 s2 fb rb => ?_
  rw [e2] at q
  simp only [res_bind_ok] at q
  cases e3 : f da db with
  | ex x => exact absurd e3 (nx _ _ _)
  | bad => rw [e3] at q; exact q.elim
  | ok d =>
    rw [e3] at q
    refine hk _ _ _ _ (ho c.cl (c.I W) (c.M W) H2 da db d x y Fa Fb Q s2.ih s2.mi (ra.same sm2) rb e3 fun v H3 F sm3 f3 r3 => ?_)
    exact q v H3 F ((sm1.trans sm2).trans sm3) (fun a z => ⟨(sm1.trans sm2).free (f3 a z).1, (f3 a z).2⟩) r3⟩
theorem jn_max (hcalm : X.calm = true) (hg : Gl X "max") (hm : X.mg "max" = none) (ha : JV X c a ga) (hb : JV X c b gb) (h3 : starEach [a, b] X.env = (false, eval a X.env) :: starEach [b] X.env := by rfl) (h5 : starEach [b] X.env = (false, eval b X.env) :: starEach [] X.env := by rfl) (h4 : (backTo pos (starEach [b] X.env)).any (·.1) = false := by rfl) :
    JN X c (.Call (.Name "max" p) [a, b] [] pos) (gBin maxD ga gb) := jn_b2 (k := rI (fun _ _ => True) fun i j => .int (if j > i then j else i)) (call_max2 hcalm) (fun x y H Q ⟨i, j, e1, e2, _, q⟩ => ⟨i, j, by rw [e1, e2], q⟩) (op2_ii fun _ _ _ => trivial) nx_ii hg hm (by decide +kernel) ha hb (by decide) (by decide) h3 h5 h4
def strsOf : List D → Option (List Str)
  | [] => some []
  | .str k :: r => (strsOf r).map (k :: ·)
  | _ => none
theorem strsOf_rep {K : PySem.W.Frag} {cl : Tb} {H : Hp} {I M : AS} : ∀ {xs : List D} {ns : List Str} {vs : List V} {F : AS}, strsOf xs = some ns → RepL K cl H I M xs vs F → vs = ns.map V.str
  | [], ns, vs, F, e, r => by
    cases e
    exact r
  | .str i :: xs, ns, vs, F, e, r => by
    simp only [strsOf] at e
    cases e1 : strsOf xs with
    | none => rw [e1] at e; cases e
    | some ms =>
      rw [e1] at e
      cases e
      obtain ⟨v, ws, F1, F2, rfl, r1, r2, _⟩ := r
      have r1 : v = .str i := r1
      rw [r1, strsOf_rep e1 r2]
      rfl
  | .non :: xs, _, _, _, e, _ => by cases e
  | .int _ :: xs, _, _, _, e, _ => by cases e
  | .bl _ :: xs, _, _, _, e, _ => by cases e
  | .tup _ :: xs, _, _, _, e, _ => by cases e
  | .ktup _ :: xs, _, _, _, e, _ => by cases e
  | .lst _ _ :: xs, _, _, _, e, _ => by cases e
  | .dk _ _ _ :: xs, _, _, _, e, _ => by cases e
  | .dt _ _ _ :: xs, _, _, _, e, _ => by cases e
  | .obj _ _ _ _ :: xs, _, _, _, e, _ => by cases e
def joinD (x y : D) : Res D := match x with
  | .str a => match (match y with
    | .lst _ xs => strsOf xs
    | .tup xs => strsOf xs
    | _ => none) with
    | some ys => if (ys.map (·.length)).sum + ys.length * a.length ≤ 16777216 then .ok (.str (Txt.join a ys)) else .bad
    | none => .bad
  | _ => .bad
theorem nx_join : NoX joinD := fun a b e h => by
  unfold joinD at h
  split at h
  · split at h
    · split at h <;> cases h
    · cases h
  · cases h
/-- a text's method of one argument -/
def gBinS (f : D → D → Res D) (ga gb : Env → Res D) : Env → Res D := fun E => ga E >>= fun x => match x with
  | .str _ => gb E >>= fun y => f x y
  | _ => .bad
theorem jn_sm1 {id : String} {name : Str} {r : V → List V → Hp → VK → Prop} {k : R2} {f : D → D → Res D} (hsl : Slot "str" name id) (hty : typeOf (.builtin id) = pure (.type "method_descriptor")) (hm : MtR X id r) (hk : ∀ x y H Q, k x y H Q → r x [y] H Q) (ho : Op2 X.K k f) (nx : NoX f) (ha : JV X c a ga) (hb : JV X c b gb)
    (h1 : starEach [b] X.env = [(false, eval b X.env)] := by rfl) (h2 : attributeBase a name X.env (eval a X.env) = eval a X.env := by rfl) (h3 : (apos.endLine == pos.line) = true := by rfl) :
    JN X c (.Call (.Attribute a name apos) [b] [] pos) (gBinS f ga gb) := ⟨PE.weak (pe_m1 hsl hty hm ha.pe hb.pe h1 h2 h3) fun σ H Q ⟨E, W, s, q⟩ => by
  unfold gBinS at q
  refine tV_use s (fun e e1 => by rw [e1] at q; exact q) (fun e1 => by rw [e1] at q; exact q) fun da e1 x H1 Fa sm1 s1 fa ra => ?_
  rw [e1] at q
  simp only [res_bind_ok] at q
  cases da with
  | str z =>
    refine ⟨⟨z, ra⟩, tV_use s1 (fun e e2 => by rw [e2] at q; exact fun u dd H' sm => q u dd H' (sm1.trans sm)) (fun e2 => by rw [e2] at q; exact q) fun db e2 y H2 Fb sm2 s2 fb rb => ?_⟩
    rw [e2] at q
    simp only [res_bind_ok] at q
    cases e3 : f (.str z) db with
    | ex x => exact absurd e3 (nx _ _ _)
    | bad => rw [e3] at q; exact q.elim
    | ok d =>
      rw [e3] at q
      refine hk _ _ _ _ (ho c.cl (c.I W) (c.M W) H2 (.str z) db d x y Fa Fb Q s2.ih s2.mi (ra.same sm2) rb e3 fun v H3 F sm3 f3 r3 => ?_)
      exact q v H3 F ((sm1.trans sm2).trans sm3) (fun a z => ⟨(sm1.trans sm2).free (f3 a z).1, (f3 a z).2⟩) r3
  | _ => exact q.elim⟩
theorem op2_join {K : PySem.W.Frag} : Op2 K (fun x y H Q => ∃ a p, ∃ ys : List Str, x = .str a ∧ y = .ref p ∧ (SqL K H p (ys.map V.str) ∨ SqT K H p (ys.map V.str)) ∧ (ys.map (·.length)).sum + ys.length * a.length ≤ 16777216 ∧ Q (.str (Txt.join a ys)) H) joinD := fun cl I M H da db d x y Fa Fb Q hi hm ra rb e q => by
  unfold joinD at e
  split at e
  · rename_i a
    have ra : x = .str a := ra
    subst ra
    split at e
    · rename_i ys e1
      split at e
      · rename_i hz
        cases e
        split at e1
        · obtain ⟨p, vs, rfl, cc, rr⟩ := rb
          have := strsOf_rep e1 rr
          subst this
          exact ⟨a, p, ys, rfl, rfl, .inl (cell_sql cc), hz, q _ H none_ same_refl (fun _ z => z.elim) rfl⟩
        · obtain ⟨p, vs, rfl, cc, rr⟩ := rb
          have := strsOf_rep e1 rr
          subst this
          exact ⟨a, p, ys, rfl, rfl, .inr (.inl (.inl cc.1)), hz, q _ H none_ same_refl (fun _ z => z.elim) rfl⟩
        · cases e1
      · cases e
    · cases e
  · cases e
theorem jn_join (ha : JV X c a ga) (hb : JV X c b gb) (h1 : starEach [b] X.env = [(false, eval b X.env)] := by rfl) (h2 : attributeBase a "join" X.env (eval a X.env) = eval a X.env := by rfl) (h3 : (apos.endLine == pos.line) = true := by rfl) :
    JN X c (.Call (.Attribute a "join" apos) [b] [] pos) (gBinS joinD ga gb) := jn_sm1 PySem.F.slot_str_join PySem.F.type_str_join mt_join (fun x y H Q ⟨a, p, ys, e1, e2, h1, h2, q⟩ => ⟨a, p, ys, e1, by rw [e2], h1, h2, q⟩) op2_join nx_join ha hb h1 h2 h3
def gBinL (f : D → D → Res D) (ga gb : Env → Res D) : Env → Res D := fun E => ga E >>= fun x => match x with
  | .lst _ _ => gb E >>= fun y => f x y
  | _ => .bad
theorem jn_lm1 {id : String} {name : Str} {r : V → List V → Hp → VK → Prop} {k : R2} {f : D → D → Res D} (hsl : Slot "list" name id) (hty : typeOf (.builtin id) = pure (.type "method_descriptor")) (hm : MtR X id r) (hk : ∀ x y H Q, k x y H Q → r x [y] H Q) (ho : Op2 X.K k f) (nx : NoX f) (ha : JV X c a ga) (hb : JV X c b gb)
    (h2 : attributeBase a name X.env (eval a X.env) = eval a X.env := by rfl)
    (h4 : ((backTo pos (starEach [b] X.env)).all (!·.1) && (backToKw pos (keywordEach [] X.env)).all (·.1.isSome) && decide (([b] : List Expr).length + ([] : List Keyword).length + (if ([] : List Keyword).isEmpty = true then 0 else 1) < 30)) = true := by rfl)
    (h3 : (apos.endLine == pos.line) = true := by rfl) (h1 : starEach [b] X.env = [(false, eval b X.env)] := by rfl) :
    JN X c (.Call (.Attribute a name apos) [b] [] pos) (gBinL f ga gb) := ⟨PE.weak (pe_bm PySem.F.plainAttrs_list hsl hty hm ha.pe (pa_cons hb.pe pa_nil h1) h2 h4 h3 h1 rfl) fun σ H Q ⟨E, W, s, q⟩ => by
  unfold gBinL at q
  refine tV_use s (fun e e1 => by rw [e1] at q; exact q) (fun e1 => by rw [e1] at q; exact q) fun da e1 x H1 Fa sm1 s1 fa ra => ?_
  rw [e1] at q
  simp only [res_bind_ok] at q
  cases da with
  | lst fl z =>
    refine ⟨?_, tV_use s1 (fun e e2 => by rw [e2] at q; exact fun u dd H' sm => q u dd H' (sm1.trans sm)) (fun e2 => by rw [e2] at q; exact q) fun db e2 y H2 Fb sm2 s2 fb rb => ?_⟩
    · obtain ⟨p, vs, rfl, cc, _⟩ := ra
      exact .inl ⟨rfl, vs, cell_sql cc⟩
    rw [e2] at q
    simp only [res_bind_ok] at q
    cases e3 : f (.lst fl z) db with
    | ex x => exact absurd e3 (nx _ _ _)
    | bad => rw [e3] at q; exact q.elim
    | ok d =>
      rw [e3] at q
      refine hk _ _ _ _ (ho c.cl (c.I W) (c.M W) H2 (.lst fl z) db d x y Fa Fb Q s2.ih s2.mi (ra.same sm2) rb e3 fun v H3 F sm3 f3 r3 => ?_)
      exact q v H3 F ((sm1.trans sm2).trans sm3) (fun a z => ⟨(sm1.trans sm2).free (f3 a z).1, (f3 a z).2⟩) r3
  | _ => exact q.elim⟩
def indexD (x y : D) : Res D := match x with
  | .lst _ xs => match flatD y with
    | some vy => match flatL xs with
      | some vs => match vs.findIdx? (fun z => eqV z vy) with
        | some j => .ok (.int j)
        | none => .bad
      | none => .bad
    | none => .bad
  | _ => .bad
theorem nx_index : NoX indexD := fun a b e h => by
  unfold indexD at h
  repeat' split at h
  all_goals cases h
theorem op2_index {K : PySem.W.Frag} : Op2 K (fun x y H Q => rIndex K x [y] H Q) indexD := fun cl I M H da db d x y Fa Fb Q hi hm ra rb e q => by
  unfold indexD at e
  split at e
  · split at e
    · rename_i vy e1
      split at e
      · rename_i vs e2
        split at e
        · rename_i j e3
          cases e
          obtain ⟨p, ws, rfl, cc, rr⟩ := ra
          obtain ⟨rfl, g1⟩ := flat_rep e1 rb
          obtain ⟨rfl, g2⟩ := flat_repL e2 rr
          rw [List.findIdx?_eq_some_iff_getElem] at e3
          obtain ⟨hj, k1, k2⟩ := e3
          refine ⟨p, ws, y, j, ws[j], rfl, rfl, cell_sql cc, g1, g2, List.getElem?_eq_getElem hj, k1, fun m z hmj hz => ?_, q _ H none_ same_refl (fun _ z => z.elim) rfl⟩
          obtain ⟨h1, h2⟩ := List.getElem?_eq_some_iff.mp hz
          have := k2 m hmj
          rw [h2] at this
          simpa using this
        · cases e
      · cases e
    · cases e
  · cases e
theorem jn_index (ha : JV X c a ga) (hb : JV X c b gb) (h2 : attributeBase a "index" X.env (eval a X.env) = eval a X.env := by rfl)
    (h4 : ((backTo pos (starEach [b] X.env)).all (!·.1) && (backToKw pos (keywordEach [] X.env)).all (·.1.isSome) && decide (([b] : List Expr).length + ([] : List Keyword).length + (if ([] : List Keyword).isEmpty = true then 0 else 1) < 30)) = true := by rfl)
    (h3 : (apos.endLine == pos.line) = true := by rfl) (h1 : starEach [b] X.env = [(false, eval b X.env)] := by rfl) : JN X c (.Call (.Attribute a "index" apos) [b] [] pos) (gBinL indexD ga gb) := jn_lm1 PySem.F.slot_list_index PySem.F.type_list_index mt_index (fun x y H Q h => h) op2_index nx_index ha hb h2 h4 h3 h1
end
end PD
namespace PD
open PySem L2

section
variable {X : Cx} {c : Cc} {pos : Pos} {a b e : Expr} {ga gb g : Env → Res D} {st : Stmt}
def negD : D → Res D
  | .int i => .ok (.int (-i))
  | _ => .bad
theorem jn_neg (ha : JV X c a ga) : JN X c (.UnaryOp .USub a pos) (gUn negD ga) := ⟨PE.weak (pe_un un_neg ha.pe) fun σ H Q ⟨E, W, s, q⟩ => by
  unfold gUn at q
  refine tV_use s (fun e e1 => by rw [e1] at q; exact q) (fun e1 => by rw [e1] at q; exact q) fun d e1 v H1 F sm s1 f r => ?_
  rw [e1] at q
  simp only [res_bind_ok] at q
  cases d with
  | int i => exact ⟨i, r, q _ _ none_ sm (fun _ z => z.elim) rfl⟩
  | _ => exact q.elim⟩
/-- things of the module's text -/
def TxtRep (K : PySem.W.Frag) (T : Tb) (d : D) (v : V) : Prop := ∀ (H : Hp) (I M F : AS), Rep K T H I M d v F
theorem txt_ktup {K : PySem.W.Frag} {T : Tb} {a : Addr} {ds : List D} {vs : List V} (h : KT K a vs) (r : ∀ H I M, RepL K T H I M ds vs none_) : TxtRep K T (.ktup ds) (.ref a) := fun H I M F => ⟨a, vs, rfl, h, r H I M⟩
theorem jn_gtxt {x : Str} {d : D} {v : V} {u : Value} (hg : Gl X x) (hm : X.mg x = some u) (hv : RelV v u) (hr : TxtRep X.K c.cl d v) (hd : (x == ("__debug__" : Str)) = false := by decide) : JN X c (.Name x pos) (gC d) := ⟨PE.weak (pe_glob hg hm hv hd) fun σ H Q ⟨E, W, s, q⟩ => q _ H none_ same_refl (fun _ z => z.elim) (hr _ _ _ _)⟩
theorem jn_gref {x : Str} {d : D} {p : Addr} {T : Tb} (hg : Gl X x) (hm : X.mg x = some (.ref p)) (hT : c.cl = T) (hr : TxtRep X.K T d (.ref p)) (hd : (x == ("__debug__" : Str)) = false := by decide) : JN X c (.Name x pos) (gC d) := by
  subst hT
  exact jn_gtxt hg hm (v := .ref p) rfl hr hd
/-- a dict of the module, its keys texts -/
structure KTab (K : PySem.W.Frag) (w : World) (T : Tb) (d : Addr) (tab : List (Str × D)) : Prop where
  kd : ∃ es n, KDict K w d es n
  at_ : ∀ z, match tab.lookup z with
    | some dd => ∃ u0 v0, PySem.W.nsIn K d z = some (some u0) ∧ RelV v0 u0 ∧ TxtRep K T dd v0
    | none => PySem.W.nsIn K d z = some none
end
theorem tk_blk {X : Cx} {c : Cc} {s : Shared} {H : Hp} {scope : Scope} {cenv : PySem.Env} {fp : List Addr} {d : Addr} : Takes (X.blk s H scope cenv fp) (c.blk d).Wx := fun u s' ⟨_, _, _, _, _, _, _, _, _, _, _, _, _, _, _, _, q⟩ => q.elim
theorem ru {k : Nat} {A : Around} (r : Room k A) : A.units + 65 < cLine := by have := r.un; omega
theorem ru1 {k : Nat} {A : Around} (r : Room k A) : A.units + 1 < cLine := by have := r.un; omega
end PD
namespace PD
open PySem PySem.Spec PyProof.Rows L2

/-- names by number: those given, then signs that no name has -/
def nmOf (names : List Str) (i : Nat) : Str := match names[i]? with
  | some x => x
  | none => ⟨(List.replicate (i + 1) 35).toArray⟩
def nmOk (names : List Str) : Bool := decide names.Nodup && names.all fun x => x.cps.toList.head? != some 35
theorem nmOf_inj {names : List Str} (h : nmOk names = true) (i j : Nat) (e : nmOf names i = nmOf names j) : i = j := by
  unfold nmOk at h
  rw [Bool.and_eq_true] at h
  obtain ⟨h1, h2⟩ := h
  have h1 := of_decide_eq_true h1
  rw [List.all_eq_true] at h2
  unfold nmOf at e
  have hh : ∀ k : Nat, (Str.mk (List.replicate (k + 1) 35).toArray).cps.toList.head? = some 35 := fun k => rfl
  cases hi : names[i]? with
  | some x =>
    rw [hi] at e
    obtain ⟨li, gi⟩ := List.getElem?_eq_some_iff.mp hi
    cases hj : names[j]? with
    | some y =>
      rw [hj] at e
      obtain ⟨lj, gj⟩ := List.getElem?_eq_some_iff.mp hj
      have e : x = y := e
      have pw := List.pairwise_iff_getElem.mp h1
      rcases Nat.lt_trichotomy i j with q | q | q
      · exact absurd (by rw [gi, gj, e]) (pw i j li lj q)
      · exact q
      · exact absurd (by rw [gi, gj, e]) (pw j i lj li q)
    | none =>
      rw [hj] at e
      have e : x = ⟨(List.replicate (j + 1) 35).toArray⟩ := e
      have := h2 _ (gi ▸ List.getElem_mem li)
      rw [e, hh] at this
      simp at this
  | none =>
    rw [hi] at e
    cases hj : names[j]? with
    | some y =>
      rw [hj] at e
      obtain ⟨lj, gj⟩ := List.getElem?_eq_some_iff.mp hj
      have e : ⟨(List.replicate (i + 1) 35).toArray⟩ = y := e
      have := h2 _ (gj ▸ List.getElem_mem lj)
      rw [← e, hh] at this
      simp at this
    | none =>
      rw [hj] at e
      have e2 := congrArg (fun s : Str => s.cps.size) e
      simp at e2
      exact e2
def mkTb (cl : Nat → Addr) (names : List Str) (h : nmOk names = true) : Tb := ⟨cl, nmOf names, nmOf_inj h⟩
def dvD : He.Dv → D
  | .bl b => .bl b
  | .int i => .int i
  | .str x => .str x
  | _ => .non
def dvOk : He.Dv → Bool
  | .bl _ => true
  | .int _ => true
  | .str _ => true
  | .non => true
  | _ => false
theorem dv_txt {K : PySem.W.Frag} {T : Tb} {d : He.Dv} (h : dvOk d = true) : TxtRep K T (dvD d) (d.v K) := by
  intro H I M F
  cases d with
  | non => rfl
  | bl b => rfl
  | int i => rfl
  | str x => rfl
  | _ => cases h
theorem dv_repL {K : PySem.W.Frag} {T : Tb} : ∀ {ds : List He.Dv}, ds.all dvOk = true → ∀ H I M, RepL K T H I M (ds.map dvD) (ds.map (He.Dv.v K)) none_
  | [], _, _, _, _ => rfl
  | d :: ds, h, H, I, M => by
    rw [List.all_cons, Bool.and_eq_true] at h
    exact RepL.none_cons (dv_txt h.1 H I M none_) (dv_repL h.2 H I M)
theorem ktup_ok {K : PySem.W.Frag} {T : Tb} {x : Str} {ds : List He.Dv} (h : He.tupB K x ds = true) (ho : ds.all dvOk = true) : TxtRep K T (.ktup (ds.map dvD)) (.ref (He.ga K x)) := by
  have := He.tupB_ok h (fun _ => none)
  rcases this with (z | ⟨o, z⟩) | z
  · cases z
  · cases z
  · exact txt_ktup z (dv_repL ho)
def spLaw (K : PySem.W.Frag) : Sp := fun vs H Q _ => ∃ (a : Addr) (ns : List Int), ns.length ≤ 63 ∧ vs = [.ref a] ∧ SqL K H a (ns.map V.int) ∧ ∀ H', Q (.bl true) H'
end PD
namespace PD
open PySem L2

section
variable {X : Cx} {c : Cc} {pos : Pos} {e : Expr} {es : List Expr} {g : Env → Res D} {gs : Env → Res (List D)}
def resO (K : PySem.W.Frag) (c : Cc) (W : AS) (σ : St) (H : Hp) (r : Res (List D)) (Q : List V → Hp → Prop) : Prop := match r with
  | .ok ds => ∀ vs H' F, Same H H' → (∀ a, F a → H a = none ∧ H' a ≠ none) → RepL K c.cl H' (fun a => c.I W a ∨ F a) (fun _ => True) ds vs F → Q vs H'
  | .ex e => ∀ u dd H', Same H H' → ERep K c.cl H' (c.I W) e u dd → c.Wx u dd σ H'
  | .bad => False
def tOw (K : PySem.W.Frag) (c : Cc) (g : Env → Res (List D)) : TA := fun σ H Q => ∃ E W, Sat K c E σ H W ∧ resO K c W σ H (g E) Q
structure JO2 (X : Cx) (c : Cc) (es : List Expr) (g : Env → Res (List D)) : Prop where pa : PA X es (tOw X.K c g)
theorem jo2_nil : JO2 X c [] gNil := ⟨PA.weak pa_nil fun σ H Q ⟨E, W, s, q⟩ => q [] H none_ same_refl (fun _ z => z.elim) rfl⟩
theorem jo2_cons (h : JN X c e g) (hr : ∀ F, JO2 X (c.aside F) es gs) (hs : starEach (e :: es) X.env = (false, eval e X.env) :: starEach es X.env := by rfl) : JO2 X c (e :: es) (gCons g gs) := by
  have hx : PA X es (fun σ H Q => ∃ F, tOw X.K (c.aside F) gs σ H Q) := ⟨fun pos pins s σ H Q I ⟨i, q⟩ => (hr i).pa.run pos pins s σ H Q I q⟩
  refine ⟨PA.weak (pa_cons h.pe hx hs) fun σ H Q ⟨E, W, s, q⟩ => ?_⟩
  unfold gCons at q
  refine tN_use s (fun x e1 => by rw [e1] at q; exact q) (fun e1 => by rw [e1] at q; exact q) fun d e1 v H1 F sm s1 f r => ?_
  rw [e1] at q
  simp only [res_bind_ok] at q
  refine ⟨F, E, W, s.asideF sm f, ?_⟩
  cases e2 : gs E with
  | ex x => rw [e2] at q; exact fun u dd H' sm2 er => q u dd H' (sm.trans sm2) (er.mono fun a z => z.imp id .inl)
  | bad => rw [e2] at q; exact q
  | ok ds =>
    rw [e2] at q
    intro vs H2 F2 sm2 f2 r2
    have hd : ∀ a, F a → ¬ F2 a := fun a z y => (f a z).2 (f2 a y).1
    refine q (v :: vs) H2 (fun a => F a ∨ F2 a) (sm.trans sm2) (fun a z => z.elim (fun y => ⟨(f a y).1, Same.some_ sm2 (f a y).2⟩) fun y => ⟨sm.free (f2 a y).1, (f2 a y).2⟩) ?_
    refine ⟨v, vs, F, F2, rfl, ?_, ?_, fun a z => .inl z, fun a z => .inr z, hd⟩
    · refine Rep.mono (fun a o q n => ⟨sm2 a o q, fun y => ?_⟩) (fun a o q n => absurd trivial n) d v F F (fun a o q _ => sm2 a o q) (fun _ z => z) r
      rcases y with y | y | y
      · exact n (.inl y)
      · exact n (.inr y)
      · rw [(f2 a y).1] at q; cases q
    · refine RepL.mono (fun a o q n => ⟨q, fun y => n ?_⟩) (fun a o q n => ⟨q, n⟩) ds vs F2 F2 (fun _ _ q _ => q) (fun _ z => z) r2
      rcases y with y | y | y
      · exact .inl (y.imp id .inl)
      · exact .inl (.inr (.inr y))
      · exact .inr y
def gLstO (gs : Env → Res (List D)) : Env → Res D := fun E => gs E >>= fun ds => if ds.length ≤ sizeLine then .ok (.lst .own ds) else .bad
theorem jn_lstO (h : JO2 X c es gs) : JN X c (.List es pos) (gLstO gs) := ⟨PE.weak (pe_lst h.pa) fun σ H Q ⟨E, W, s, q⟩ => by
  unfold gLstO at q
  refine ⟨E, W, s, ?_⟩
  cases e : gs E with
  | ex x => rw [e] at q; exact q
  | bad => rw [e] at q; exact q
  | ok ds =>
    rw [e] at q
    simp only [res_bind_ok] at q
    by_cases hz : ds.length ≤ sizeLine
    · rw [if_pos hz] at q
      intro vs H1 F sm f r
      refine ⟨by rw [r.length]; exact hz, fun n hn => ?_⟩
      have hFn : ∀ a, F a → a ≠ n := fun a z y => (f a z).2 (by rw [y]; exact hn)
      refine q _ _ (fun a => F a ∨ a = n) (sm.trans (Same.new hn)) (fun a z => ?_) ⟨n, vs, rfl, .inl ⟨upd_same, .inr rfl⟩, ?_⟩
      · rcases z with z | z
        · refine ⟨(f a z).1, ?_⟩
          rw [upd_ne (hFn a z)]
          exact (f a z).2
        · rw [z]
          refine ⟨sm.free hn, ?_⟩
          rw [upd_same]
          exact fun y => nomatch y
      · refine RepL.mono (fun a o q k => ?_) (fun a o q k => absurd trivial k) ds vs F _ (fun a o q z => ?_) (fun a z => ⟨.inl z, hFn a z⟩) r
        · have hne : a ≠ n := ne_of_none q hn
          rw [upd_ne hne]
          refine ⟨q, fun z => k ?_⟩
          rcases z with z | z | z
          · exact .inl z
          · exact .inr z
          · exact absurd z hne
        · rw [upd_ne (hFn a z)]
          exact q
    · rw [if_neg hz] at q; exact q.elim⟩
end
end PD
namespace PD
open PySem L2
section
variable {X : Cx} {c : Cc} {pos apos : Pos} {a b e e1 e2 : Expr} {i : Nat} {ga gb g g1 g2 : Env → Res D} {gs : Env → Res (List D)} {gp : GP} {gm : Env → MRes} {W W' : AS} {σ : St} {H H' : Hp} {E : Env} {r : V → List V → Hp → VK → Prop} {f : D → List D → Res (D × D)} {name : Str} {id : String}
end
section
variable {K : PySem.W.Frag} {cl : Tb} {H : Hp} {I M : AS}
theorem RepL.put : ∀ {xs : List D} {vs : List V} {F G : AS} {j : Nat} {x : D} {w : V}, RepL K cl H I M xs vs F → Rep K cl H I M x w G → (∀ a, F a → ¬ G a) → RepL K cl H I M (xs.set j x) (vs.set j w) (fun a => F a ∨ G a)
  | [], vs, F, G, j, x, w, r, _, _ => by
    rw [show vs = [] from r]
    exact rfl
  | d :: ds, vs, F, G, 0, x, w, r, rx, hd => by
    obtain ⟨v, ws, F1, F2, rfl, r1, r2, a1, a2, a3⟩ := r
    exact ⟨w, ws, G, F2, rfl, rx, r2, fun a z => .inr z, fun a z => .inl (a2 a z), fun a z y => hd a (a2 a y) z⟩
  | d :: ds, vs, F, G, j + 1, x, w, r, rx, hd => by
    obtain ⟨v, ws, F1, F2, rfl, r1, r2, a1, a2, a3⟩ := r
    refine ⟨v, ws.set j w, F1, fun a => F2 a ∨ G a, rfl, r1, RepL.put r2 rx (fun a z => hd a (a2 a z)), fun a z => .inl (a1 a z), fun a z => z.elim (fun y => .inl (a2 a y)) .inr, fun a z y => ?_⟩
    rcases y with y | y
    · exact a3 a z y
    · exact hd a (a1 a z) y
end
section
variable {X : Cx} {c : Cc} {pos pos' : Pos} {o value : Expr} {i : Nat} {g : Env → Res D} {gp : GP}
end
end PD
namespace PySem
open Sem (wp)
open AutoSeq1 (wpAny_loadPart')
section
variable {prog : Program} {w : World} {A : Around} {E : Value → Shared → Prop} {s : Shared}
end
end PySem
namespace PD
open PySem PySem.Spec PyProof.Rows L2
/-- a source of items: a list, a tuple -/
structure Src (K : PySem.W.Frag) where
  at_ : Hp → Addr → List V → Prop
  it : Addr → Addr → Nat → Heap → Prop
  ob : Addr → Obj
  cls : String
  inv : ∀ {X : Cx} {pins : List (Addr × Obj)} {σ : L2.St} {H : Hp} {s : Shared} {a : Addr} {xs : List V}, X.K = K → Inv X pins σ H s → at_ H a xs → ∃ (its : List Value) (o : Obj), Vals xs its ∧ s.heap.get? a = some o ∧ o.cls = .type cls ∧ (∃ n, o.data = .seq its.toArray n) ∧
    (∀ (prog : Program) (w : World) (A : Around), A.handled = none → ∀ i, a ≠ i → ∃ St : Nat → Heap → Prop, Draws prog w A i [i, a] its.length (fun k v => its[k]? = some v) St ∧ (∀ k, it i a k s.heap → St k s.heap) ∧ ∀ k h, St k h → it i a k h) ∧
    ∃ (Hb : Heap → Prop), Begins (.ref a) (ob a) Hb ∧ Hb s.heap
  new : ∀ a i h, h.get? i = some (ob a) → it i a 0 h
  frm : ∀ i a k h, it i a k h → ∃ o, h.get? i = some o ∧ (∃ vs, o.data = .fields vs) ∧ ∀ h', h'.get? i = some o → it i a k h'
theorem Src.inj {K : PySem.W.Frag} (S : Src K) {X : Cx} {pins : List (Addr × Obj)} {σ : L2.St} {H : Hp} {s : Shared} {a : Addr} {xs ys : List V} (hK : X.K = K) (I : Inv X pins σ H s) (h : S.at_ H a xs) (h' : S.at_ H a ys) : xs = ys := by
  obtain ⟨its, o, r, e, _, ⟨n, d⟩, _⟩ := S.inv hK I h
  obtain ⟨its', o', r', e', _, ⟨n', d'⟩, _⟩ := S.inv hK I h'
  rw [e] at e'; cases e'
  rw [d] at d'
  injection d' with d1 _
  have : its = its' := by simpa using congrArg Array.toList d1
  subst this
  exact r.inj r'
section
variable {X : Cx} {e e2 : Expr} {te : TE} {ta : TA} {p pos tpos : Pos} {elts : List Expr} {kk : Nat}
end
section
variable {K : PySem.W.Frag} {c : Cc} {strong : Bool} {W : AS} {H : Hp}
end
section
variable {X : Cx} {c : Cc} {strong : Bool} {e e2 : Expr} {g g2 : Env → Res D} {p pos tpos : Pos} {elts : List Expr} {kk : Nat}
end
section
variable {X : Cx} {c : Cc} {e : Expr} {es : List Expr} {g : Env → Res D} {gs : Env → Res (List D)} {p : Pos}
end
section
variable {X : Cx} {c : Cc} {T : Tb} {k n : Nat} {f C : Addr} {fd : FuncData} {ps ks : List Str} {x : Str} {p pos : Pos} {kws : List Keyword} {g : List Value → List Value → List Value} {gV : List V → List V → List V}
  {Fm : List D → MR} {gk : Env → Res (List D)}
end
end PD
namespace PD
open PySem L2
section
variable {X : Cx} {c : Cc} {pos pos' : Pos} {o k value : Expr} {i : Nat} {gi g : Env → Res D} {gp : GP}
end
end PD
namespace PD
open PySem PySem.Spec PyProof.Rows L2
structure GetD where
  cl : Str
  nm : Str
  d : He.DefD
def pAd (K : PySem.W.Frag) (g : GetD) : Addr := He.ma K (He.ga K g.cl) g.nm
def gAd (K : PySem.W.Frag) (g : GetD) : Addr := match PySem.W.recIn K (pAd K g) "property" with
  | some (.ref a :: _) => a
  | _ => 0
def gW (K : PySem.W.Frag) (g : GetD) : He.FnW := match K.lookup (gAd K g) with
  | some ⟨_, _, .func fd, _⟩ => some (fd.name, fd.qualname, fd.params, fd.body, fd.scope, fd.globals, fd.closure, fd.builtins)
  | _ => none
def GetD.ok (K : PySem.W.Frag) (g : GetD) : Bool := He.eqO (PySem.W.findIn K (.ref (He.ga K g.cl)) g.nm) (some (some (.ref (pAd K g)))) && (He.eqO (PySem.W.specialIn K (.ref (pAd K g)) "__get__") (some (some (.builtin "property.__get__"))) &&
  (decide (PySem.W.takesIn K (.ref (pAd K g)) = some true) && ((match PySem.W.recIn K (pAd K g) "property" with
    | some (.ref _ :: _) => true
    | _ => false) && (PySem.W.keepIn K (.ref (gAd K g)) && (match K.lookup (gAd K g) with
  | some ⟨_, _, .func fd, _⟩ => PySem.W.codeIn K fd.code g.d.qual && (He.dflB K fd.defaults [] && He.kwdB K fd.kwdefaults [])
  | _ => false)))))
abbrev AlP : Type := He.AlX × (Bool × List He.FnW)
section
variable (n : Nat) (fa : List He.Fa) (fn : List He.DefD) (ts : List He.Tab) (tf : List He.Defn) (ex : PySem.W.Frag → Bool) (gs : List GetD)
def valP (w : World) : AlP := (He.valX fn ts w, (true, gs.map fun q => q.d.val))
structure SaysP (w : World) (h : Heap) (K : PySem.W.Frag) : Prop where
  x : He.SaysX fa fn ts tf ex w h K
  ok : (gs.all fun q => q.ok K) = true
  dv : (gs.map fun q => gW K q) = gs.map fun q => q.d.val
end
section
variable {n : Nat} {fa : List He.Fa} {fn : List He.DefD} {ts : List He.Tab} {tf : List He.Defn} {ex : PySem.W.Frag → Bool} {gs : List GetD} {w : World} {h : Heap} {K : PySem.W.Frag}
theorem SaysP.get (c : SaysP fa fn ts tf ex gs w h K) (i : Nat) {g : GetD} (e : gs[i]? = some g) : g.ok K = true ∧ gW K g = g.d.val := by
  have hm : g ∈ gs := List.mem_of_getElem? e
  refine ⟨List.all_eq_true.mp c.ok g hm, ?_⟩
  have := congrArg (fun l => l[i]?) c.dv
  simp only [List.getElem?_map, e, Option.map_some] at this
  exact Option.some.inj this
end
section
variable {X : Cx} {c : Cc} {T : Tb} {pos pos' apos : Pos} {a o e value : Expr} {es : List Expr} {f m : Str} {cs : List Nat} {n i cid mid k : Nat} {ga g go : Env → Res D} {gs : Env → Res (List D)} {gp : GP} {C fa pA : Addr} {fd : FuncData} {ps : List Str} {Ff : List D → Res D} {ds : List Value} {dvs : List V} {dds : List D}
end
end PD
namespace PD
open PySem L2
end PD
namespace PD
open PySem L2
section
variable {X : Cx} {c : Cc} {pos : Pos} {a : Expr} {ga : Env → Res D}
end
end PD
namespace PD
open PySem L2
section
variable {X : Cx} {c : Cc} {pos : Pos} {a : Expr} {ga : Env → Res D}
end
end PD
namespace PD
open PySem L2
section
variable {X : Cx} {c : Cc} {pos : Pos} {a b : Expr} {gs : Env → Res (List D)}
end
end PD
namespace PD
open PySem L2
def udLst (uds : List D → Env → Res Env) (d : D) (E : Env) : Res Env := match d with
  | .lst f ds => if f ≠ .own ∧ noOwnL ds then uds ds E else .bad
  | _ => .bad
theorem chk_lst {uds : List D → Env → Res Env} : udChk (udLst uds) := fun d E E' h => by
  cases d with
  | lst f ds =>
    simp only [udLst] at h
    split at h
    · rename_i hh
      simp only [D.noOwn, hh.2, Bool.and_true, decide_eq_true_eq]
      exact hh.1
    · cases h
  | _ => cases h
section
variable {K : PySem.W.Frag} {X : Cx} {c : Cc} {pos : Pos}
theorem jg_lst {es : List Expr} {k n : Nat} {idx : List Nat} {uds : List D → Env → Res Env} (hcalm : X.calm = true) (h : JGs X c es idx uds) (hn : ∀ ds E E', uds ds E = .ok E' → ds.length = n) (hl : (assignEach es X.env).length = n := by rfl) (hst : (assignEach es X.env).findIdx? (·.1) = none := by rfl) :
    JG X c (.Tuple es k pos) idx (udLst uds) :=
  ⟨PG.weak (pg_unl hcalm h.pg hl hst) fun v σ H Q ⟨E, W, d, s, r, q⟩ => by
  cases d with
  | lst f ds =>
    simp only [udLst] at q
    by_cases hh : f ≠ .own ∧ noOwnL ds = true
    · rw [if_pos hh] at q
      cases e1 : uds ds E with
      | ok E1 =>
        rw [e1] at q
        obtain ⟨p, vs, rfl, cc, rr⟩ := r (by simp only [D.noOwn, hh.2, Bool.and_true, decide_eq_true_eq]; exact hh.1)
        have rr : RepL X.K c.cl H (c.I W) (c.M W) ds vs none_ := by
          have : sub none_ f p = none_ := by cases f <;> first | rfl | exact absurd rfl hh.1
          rw [this] at rr
          exact rr
        refine ⟨p, vs, rfl, cell_sql cc, by rw [rr.length, hn ds E E1 e1], E, W, ds, s, fun _ => rr, ?_⟩
        rw [e1]
        exact q
      | ex x => rw [e1] at q; exact q.elim
      | bad => rw [e1] at q; exact q.elim
    · rw [if_neg hh] at q
      exact q.elim
  | _ => exact q.elim⟩
end
end PD
namespace PySem.W
open PySem PySem.Spec PySem.Calls PyProof.Rows
section
variable {prog : Program} {w : World} {A : Around} {E : Value → Shared → Prop} {s : Shared}
end
end PySem.W
namespace PD
open PySem PySem.Spec PyProof.Rows L2
section
variable {X : Cx} {c : Cc} {pos : Pos} {e : Expr} {g : Env → Res D}
end
end PD
namespace PD
open PySem PySem.Spec PyProof.Rows L2
section
variable {X : Cx} {c : Cc} {strong : Bool} {e e2 : Expr} {g g2 : Env → Res D} {p pos tpos : Pos} {elts : List Expr} {kk : Nat}
end
end PD
namespace PD
open PySem L2
theorem PG.or {X : Cx} {e : Expr} {t t' : TG} (h : PG X e t) (h' : PG X e t') : PG X e (fun v σ H Q => t v σ H Q ∨ t' v σ H Q) := ⟨fun pins s σ H v u Q I r q => q.elim (h.run pins s σ H v u Q I r) (h'.run pins s σ H v u Q I r)⟩
/-- a target over a tuple or a list -/
def udSeq (uds : List D → Env → Res Env) (d : D) (E : Env) : Res Env := match d with
  | .lst f ds => udLst uds (.lst f ds) E
  | d => udTup uds d E
theorem chk_seq {uds : List D → Env → Res Env} : udChk (udSeq uds) := fun d E E' h => by
  cases d with
  | lst f ds => exact chk_lst (uds := uds) _ E E' h
  | _ => exact chk_tup (uds := uds) _ E E' h
theorem jg_seq {X : Cx} {c : Cc} {pos : Pos} {es : List Expr} {k n : Nat} {idx : List Nat} {uds : List D → Env → Res Env} (hcalm : X.calm = true) (h : JGs X c es idx uds) (hn : ∀ ds E E', uds ds E = .ok E' → ds.length = n) (hl : (assignEach es X.env).length = n := by rfl) (hst : (assignEach es X.env).findIdx? (·.1) = none := by rfl) :
    JG X c (.Tuple es k pos) idx (udSeq uds) := ⟨PG.weak (PG.or (jg_tup hcalm h hn hl hst).pg (jg_lst hcalm h hn hl hst).pg) fun v σ H Q ⟨E, W, d, s, r, q⟩ => by
  cases d with
  | lst f ds => exact .inr ⟨E, W, _, s, r, q⟩
  | _ => exact .inl ⟨E, W, _, s, r, q⟩⟩
end PD
namespace PD
open PySem PySem.Spec PyProof.Rows L2
end PD
namespace PD
open PySem PySem.Spec PyProof.Rows L2

section
variable {X : Cx} {pins : List (Addr × Obj)} {σ : L2.St} {H H' : Hp} {s : Shared}
end
section
variable {X : Cx}
end
section
variable {κ : Type} [DecidableEq κ] {β γ : Type}
end
section
variable {K : PySem.W.Frag} {cl : Tb} {H : Hp} {I M : AS}
end
/-- the dict at a, its values of nothing that changes -/
def Dic (K : PySem.W.Frag) (cl : Tb) (H : Hp) (I : AS) (a : Addr) (d : D) : Prop := match d with
  | .dk .own ks vs => ks.length = vs.length ∧ ∃ ws, H a = some (.dK (ks.zip ws)) ∧ RepL K cl H I (fun _ => True) vs ws none_
  | .dt .own ks vs => ks.length = vs.length ∧ ∃ ws, H a = some (.dT (ks.zip ws)) ∧ RepL K cl H I (fun _ => True) vs ws none_
  | _ => False
section
variable {K : PySem.W.Frag} {cl : Tb} {H H' : Hp} {I M M2 : AS} {a : Addr}
theorem Dic.same {d : D} (sm : Same H H') (h : Dic K cl H I a d) : Dic K cl H' I a d := by
  cases d with
  | dk f ks vs =>
    cases f with
    | own =>
      obtain ⟨h1, ws, h2, h3⟩ := h
      exact ⟨h1, ws, sm _ _ h2, h3.same sm⟩
    | _ => exact h.elim
  | dt f ks vs =>
    cases f with
    | own =>
      obtain ⟨h1, ws, h2, h3⟩ := h
      exact ⟨h1, ws, sm _ _ h2, h3.same sm⟩
    | _ => exact h.elim
  | _ => exact h.elim
theorem Dic.some_ {d : D} (h : Dic K cl H I a d) : H a ≠ none := by
  unfold Dic at h
  split at h
  · obtain ⟨h1, ws, h2, h3⟩ := h
    exact ne_of_some h2
  · obtain ⟨h1, ws, h2, h3⟩ := h
    exact ne_of_some h2
  · exact h.elim
end
section
variable {K : PySem.W.Frag} {X : Cx} {c : Cc} {pos : Pos}
end
end PD
namespace PD
open PySem PySem.Spec PyProof.Rows L2
section
variable {K : PySem.W.Frag} {cl : Tb} {H : Hp} {I M : AS}
end
section
variable {X : Cx} {c : Cc} {pos pos' : Pos} {o k value : Expr} {i : Nat} {gi g : Env → Res D} {gp : GP}
end
end PD
namespace PD
open PySem PySem.Spec PyProof.Rows L2
section
variable {K : PySem.W.Frag} {T : Tb} {n m : Nat} {dms : List D} {vms : List V}
end
section
variable {X : Cx} {c : Cc} {T : Tb} {pos pos' apos p : Pos} {a o e value : Expr} {es : List Expr} {f m x : Str} {cs : List Nat} {n i cid mid k : Nat} {ga g go : Env → Res D} {gs gk : Env → Res (List D)} {gp : GP} {C fa pA : Addr} {fd : FuncData} {ps ks : List Str} {Ff : List D → Res D} {Fm : List D → MR} {ds : List Value} {dvs : List V} {dds : List D}
  {kws : List Keyword} {gg : List Value → List Value → List Value} {gV : List V → List V → List V} {gD : List D → List D → List D}
end
end PD
namespace PD
open PySem PySem.Spec PyProof.Rows L2
end PD
namespace PD
open PySem L2
section
variable {K : PySem.W.Frag} {X : Cx} {c : Cc} {W W' : AS} {σ : St} {H H' : Hp} {E : Env} {i j k : Nat} {v : V} {d : D}
end
section
variable {X : Cx} {c : Cc} {pos : Pos} {a b : Expr} {gm : Env → MRes} {gb : Env → Res D}
end
end PD
namespace PD
open PySem L2
section
open Classical in
variable {X : Cx} {c : Cc} {i : Nat}
open Classical in
end
end PD
namespace PD
open PySem PySem.Spec L2
/-- a clause: the class, the name's slot, what its suite does with an exception -/
structure Cl where
  c : Value
  o : Option Nat
  ts : Addr → Value → Option Addr → TS
def setO (o : Option Nat) (τ : L2.St) (a : Addr) : L2.St := match o with
  | none => τ
  | some i => τ.set i (some (.ref a))
/-- the name of a clause -/
def NmOk (X : Cx) (n : Option Str) (o : Option Nat) : Prop := (n = none ∧ o = none) ∨ ∃ y i, n = some y ∧ o = some i ∧ X.N[i]? = some y ∧ X.env.kindOf y = some .local
inductive ClsOk (X : Cx) : List ExceptHandler → List Cl → Prop
  | nil : ClsOk X [] []
  | cons {x : Str} {q : Cl} {n : Option Str} {b₀ : Stmt} {suite : List Stmt} {np hp : Pos} {hds : List ExceptHandler} {l : List Cl} (hc : Names X x q.c) (hn : NmOk X n q.o)
      (hsu : ∀ (a : Addr) (oe : Obj) (kl : Value) (d : Option Addr) (pn : List (Addr × Obj)), Zc kl d oe → (∃ vs, oe.data = .fields vs) → PSs (X.suite a ((a, oe) :: pn)) (b₀ :: suite) (q.ts a kl d)) (r : ClsOk X hds l) :
      ClsOk X (.ExceptHandler (some (.Name x np)) n (b₀ :: suite) hp :: hds) (q :: l)
section
variable {X : Cx} {body : List Stmt} {h₀ : ExceptHandler} {hds : List ExceptHandler} {l : List Cl} {pos : Pos} {tb : WX → TS} {W0 : WX}
end
end PD
namespace PySem.W
open PySem PySem.Spec PySem.Calls PyProof.Rows
section
variable {P : Program} {w : World} {A : Around} {Ex : Value → Shared → Prop} {z : Shared} {K : Frag} {a C : Addr} {ob : Obj} {dict : Option Obj}
end
end PySem.W
namespace PD
open PySem PySem.Spec L2
section
variable {X : Cx} {c : Cc} {T : Tb} {pos rpos p : Pos} {x : Str} {e : Expr} {g : Env → Res D} {cid : Nat} {C : Addr}
/-- an exception class without its own __init__ -/
structure ExN (K : PySem.W.Frag) (C : Addr) : Prop where
  a : PySem.W.excIn K C He.veBase "ValueError.__new__" = true
  b : PySem.W.keepIn K (.ref C) = true
  c : PySem.W.subIn K (.ref C) (.type "BaseException") = some true
  d : PySem.W.typeIn K (.ref C) = some (.type "type")
end
end PD
namespace PD
open PySem PySem.Spec L2
/-- a clause: the classes looked at, those taken, the name's slot, the suite -/
structure Hd where
  all : List Nat
  take : List Nat
  o : Option Nat
  h : Exc → Env → Out
def inO (o : Option Nat) (E : Env) : Env := match o with
  | none => E
  | some i => E.set i none
theorem ERep.step {K : PySem.W.Frag} {c : Cc} {W W' : AS} {H H' : Hp} {x : Exc} {u : Value} {d : Option Addr} (st : Step H W H' W') (r : ERep K c.cl H (c.I W) x u d) : ERep K c.cl H' (c.I W') x u d := by
  obtain ⟨r1, r2⟩ := r
  refine ⟨r1, r2.imp id ?_⟩
  rintro ⟨dd, vs, e1, e2, e3, e4, e5⟩
  obtain ⟨a1, a2⟩ := ws_m0 st dd _ e2 e3
  exact ⟨dd, vs, e1, a1, a2, e4, RepL.mono (ws_m0 st) (fun a o q n => absurd trivial n) _ _ _ _ (fun _ _ _ z => z.elim) (fun _ z => z) e5⟩
def pinO (p : Nat → Option V) (o : Option Nat) (a : Addr) : Nat → Option V := fun z => match o with
  | none => p z
  | some i => if z = i then some (.ref a) else p z
/-- the context of a clause's suite: x is the exception, at a, its dict d -/
abbrev cS (K : PySem.W.Frag) (c : Cc) (o : Option Nat) (x : Exc) (a : Addr) (d : Option Addr) : Cc := { cl := c.cl, B := c.B, Z := fun W H => c.Z W H ∧ ERep K c.cl H (c.I W) x (.ref (c.cl.cl x.c)) d, zs := fun H W H' W' st z => ⟨c.zs _ _ _ _ st z.1, z.2.step (c := c) st⟩, Wx := fun _ _ _ _ => False, p0 := pinO c.p0 o a, S := c.S }
section
variable {K : PySem.W.Frag} {X : Cx} {c : Cc} {T : Tb} {W W' : AS} {σ : L2.St} {H H' : Hp} {E : Env} {i : Nat} {pos : Pos}
theorem Sat.out (s : Sat K c E σ H W) (u : Option V) (h0 : c.p0 i = none) : Sat K c (E.set i none) (σ.set i u) H W := by
  obtain ⟨w1, ws, sb, w2, w3, wz, wp, w4, fp, f1, f2, f3⟩ := s
  refine ⟨w1, ws, sb, w2, w3, wz, fun j v e => ?_, by simp [w4], fp, f1, f2, fun j d e => ?_⟩
  · by_cases hj : j = i
    · rw [hj, h0] at e; cases e
    · rw [List.getElem?_set_ne (Ne.symm hj)]; exact wp j v e
  · by_cases hj : j = i
    · subst hj
      rw [List.getElem?_set] at e
      simp only [if_true] at e
      split at e <;> cases e
    · rw [List.getElem?_set_ne (Ne.symm hj)] at e
      obtain ⟨v, q, r⟩ := f3 j d e
      exact ⟨v, by rw [List.getElem?_set_ne (Ne.symm hj)]; exact q, r⟩
theorem Sat.suite {o : Option Nat} {x : Exc} {a : Addr} {d : Option Addr} (s : Sat K c E σ H W) (er : ERep K c.cl H (c.I W) x (.ref (c.cl.cl x.c)) d) (h0 : ∀ i, o = some i → c.p0 i = none ∧ i < E.length) : Sat K (cS K c o x a d) (inO o E) (setO o σ a) H W := by
  cases o with
  | none => exact ⟨s.wb, s.ws, s.sb, s.wh, s.bh, ⟨s.z, er⟩, s.p0, s.len, s.at_⟩
  | some i =>
    obtain ⟨h1, h2⟩ := h0 i rfl
    have t := s.out (some (.ref a)) h1
    refine ⟨t.wb, t.ws, t.sb, t.wh, t.bh, ⟨t.z, er⟩, fun j v e => ?_, t.len, t.at_⟩
    have e : (if j = i then some (V.ref a) else c.p0 j) = some v := e
    split at e
    · rename_i hj
      cases e
      rw [hj]
      have hl := s.len
      show (σ.set i (some (.ref a)))[i]? = _
      exact List.getElem?_set_self (by omega)
    · exact t.p0 j v e
/-- the clauses' derivations -/
inductive HJ (X : Cx) (c : Cc) : List ExceptHandler → List Hd → List Cl → Prop
  | nil : HJ X c [] [] []
  | cons {x : Str} {C : Value} {q : Hd} {n : Option Str} {b₀ : Stmt} {suite : List Stmt} {np hp : Pos} {hds : List ExceptHandler} {l : List Hd} {m : List Cl} (hc : Names X x C) (hn : NmOk X n q.o) (h0 : ∀ i, q.o = some i → c.p0 i = none)
      (hm : ∀ k ∈ q.all, PySem.W.exmOne X.K (.ref (c.cl.cl k)) C = some (decide (k ∈ q.take)))
      (hsu : ∀ (x : Exc) (a : Addr) (oe : Obj) (d : Option Addr) (pn : List (Addr × Obj)), x.c ∈ q.take → Zc (.ref (c.cl.cl x.c)) d oe → (∃ vs, oe.data = .fields vs) → JSs (X.suite a ((a, oe) :: pn)) (cS X.K c q.o x a d) (b₀ :: suite) (q.h x)) (r : HJ X c hds l m) :
      HJ X c (.ExceptHandler (some (.Name x np)) n (b₀ :: suite) hp :: hds) (q :: l) (⟨C, q.o, fun a kl d N τ G => ∃ x : Exc, (x.c ∈ q.take ∧ kl = .ref (c.cl.cl x.c)) ∧ tS X.K (cS X.K c q.o x a d) (q.h x) N τ G⟩ :: m)
theorem HJ.ok {hds : List ExceptHandler} {l : List Hd} {m : List Cl} (h : HJ X c hds l m) : ClsOk X hds m := by
  induction h with
  | nil => exact .nil
  | cons hc hn h0 hm hsu r ih =>
    refine .cons hc hn (fun a oe kl d pn hz hf => ⟨fun pins s σ H D I h => ?_⟩) ih
    obtain ⟨x, ⟨h1, rfl⟩, q⟩ := h
    exact (hsu x a oe d pn h1 hz hf).ps.run pins s σ H D I q
end
end PD
namespace PD
open PySem PySem.Spec L2
section
variable {X : Cx} {c : Cc} {T : Tb} {x : Exc} {a : Addr} {oe : Obj} {d : Option Addr} {pn : List (Addr × Obj)} {i : Nat} {ks tks : List Nat} {y f : Str} {p py pos apos : Pos}
end
end PD
namespace PD
open PySem PySem.Spec L2
section
variable {X : Cx} {c : Cc} {pos : Pos} {a b : Expr} {g1 : Env → Res D} {gm : Env → MRes}
end
end PD
namespace PD
open PySem PySem.Spec PySem.W PySem.Calls PyProof.Rows L2
section
variable {P : Program} {W0 : World} {Ar : Around} {Ex : Value → Shared → Prop} {hp : Heap} {gn : Array GenState} {dr : Drawn} {tk : Nat} {os : OsState}
variable {nm q : Str} {C N : Addr} {bs bm : List Value} {hdct : Bool} {sn : List Str} {sub : List Value} {ab : Bool} {col : Option Bool} {dd : Option Addr} {k0 k1 k2 k3 k5 : Option Value}
end
/-- what the head says of a class and its init -/
structure IniC (P : Program) (K : PySem.W.Frag) (mg : Str → Option Value) (C fI : Addr) (nm qual : Str) (params : Arguments) (body : List Stmt) (scope : Scope) : Prop where
  cls : OexC K C
  ini : findIn K (.ref C) "__init__" = some (some (.ref fI))
  typ : typeIn K (.ref fI) = some (.type "function")
  sup : mg "super" = none
  top : (P.main.scope.names.lookup ("super" : Str)).isSome = false
  opq : nsIn K cStatics "thirdparty.any" = some none
  along : ks_superIn K C C "__init__" = some (some (.builtin "ValueError.__init__"))
  isV : subIn K (.ref C) (.type "ValueError") = some true
  fn : ∃ (oc : Value) (od : Option Addr) (kV doc pm : Value) (an : Option Addr) (cda : Addr) (ct : Value) (cc : Addr) (osl : Array (Option Value)) (cl : Value) (cld : Option Addr) (csl : Array (Option Value)) (ccl : Value) (cdd : Option Addr) (vs : Array Value) (ccs : Array (Option Value)) (file : Str) (tf : Tok),
    K.lookup fI = some ⟨oc, od, .func (ksFn nm qual params body scope .none kV doc pm an (.ref cda) ct cc), osl⟩ ∧ codeIn K (.ref cda) qual = true ∧ K.lookup cc = some ⟨cl, cld, .cell (some (.ref C)), csl⟩ ∧ K.lookup cda = some ⟨ccl, cdd, .fields vs, ccs⟩ ∧
    vs[2]? = some (.str file tf) ∧ ((P.main.file : Str) == file) = true

section
variable {P : Program} {W0 : World} {Ar : Around} {K : PySem.W.Frag} {mg mb : Str → Option Value} {hp : Heap} {gn : Array GenState} {dr : Drawn} {tk : Nat} {os : OsState} {R : Result → Shared → Prop}
variable {nm qual x f txt : Str} {params : Arguments} {scope : Scope} {C fI e t0 : Addr} {u : Value} {p0 p1 p2 p3 p4 p5 q0 q1 q2 q3 : Pos} {k : Nat} {ar : Arg}
end

/-- the program's side of such an init, by rfl at a given text -/
structure IniT (nm qual x f : Str) (params : Arguments) (body : List Stmt) (scope : Scope) : Prop where
  run : ∀ {P : Program} {W0 : World} {Ar : Around} {K : PySem.W.Frag} {mg mb : Str → Option Value} {hp : Heap} {gn : Array GenState} {dr : Drawn} {tk : Nat} {os : OsState} {R : Result → Shared → Prop} {C fI e t0 : Addr} {u : Value}, IniC P K mg C fI nm qual params body scope → K.In hp → hp.NoLimit → hp.Ns mainGlobals mg → hp.Ns builtinsNs mb → mb "super" = some (.type "super") →
    hp.get? e = some (HandSPX.excO C t0) → Ar.depth < recursionLimit → (∀ b o, K.lookup b = some o → b ≠ e) → findIn K (.ref C) f = some none →
    (∀ h' tk' dx t1, (∀ b o, b ≠ e → hp.get? b = some o → h'.get? b = some o) → hp.objs.size ≤ dx → dx ≠ e → h'.get? e = some ({ cls := .ref C, dict := some dx, data := .fields #[.ref t1, .none, .none, .none, .bool false, .none] } : Obj) →
      h'.Ns1 dx (fun y => if y = f then some u else none) → R (.ok (.ret .none)) ⟨h', gn, dr, tk', os⟩) → codeAny (model P W0) Ar (.call (.ref fI) ⟨[.ref e, u], []⟩) R ⟨hp, gn, dr, tk, os⟩
section
variable {X : Cx} {nm qual x f xc : Str} {params : Arguments} {body : List Stmt} {scope : Scope} {C fI : Addr} {ex : Expr} {te : TE} {p pos : Pos}
end
section
variable {X : Cx} {c : Cc} {T : Tb} {nm qual x f xc : Str} {params : Arguments} {body : List Stmt} {scope : Scope} {C fI : Addr} {e : Expr} {g : Env → Res D} {cid n : Nat} {p pos rpos : Pos}
end
end PD
namespace PD
open PySem PySem.Spec PySem.W PySem.Calls PyProof.Rows L2
structure InD where
  cl : Str
  f : Str
  d : He.DefD
abbrev InD.C (i : InD) (K : PySem.W.Frag) : Addr := He.ga K i.cl
abbrev InD.fI (i : InD) (K : PySem.W.Frag) : Addr := He.fAd K (i.cl, some "__init__")
def fileOf (K : PySem.W.Frag) (cd : Value) : Option Str := match cd with
  | .ref c => (match K.lookup c with
    | some ⟨_, _, .fields vs, _⟩ => (match (vs[2]? : Option Value) with
      | some (.str file _) => some file
      | _ => none)
    | _ => none)
  | _ => none
def InD.w (i : InD) (K : PySem.W.Frag) : He.FnW × Option Str := match K.lookup (i.fI K) with
  | some ⟨_, _, .func fd, _⟩ => (some (fd.name, fd.qualname, fd.params, fd.body, fd.scope, fd.globals, fd.closure.map fun p => (p.1, 0), fd.builtins), fileOf K fd.code)
  | _ => (none, none)
def InD.val (i : InD) (pf : Str) : He.FnW × Option Str := (some (i.d.name, i.d.qual, i.d.params, FuncBody.stmts i.d.body, i.d.scope, mainGlobals, [("__class__", 0)], builtinsNs), some pf)
def veCls (K : PySem.W.Frag) (C : Addr) : Bool := match K.lookup C with
  | some ⟨.type t, _, .cls cd, sl⟩ => decide (t = "type") && (match cd.mro, sl.toList with
    | .ref C' :: bm, [_, _, _, _, some (.builtin n), _] => decide (C' = C) && (decide (n = "ValueError.__new__") && (cd.hasDict && (!cd.hasDel && PySem.HandSPX.refsVE bm)))
    | _, _ => false)
  | _ => false
theorem veCls_ok {K : PySem.W.Frag} {C : Addr} (h : veCls K C = true) : ∃ nm q N bs bm sn sub ab col dd k0 k1 k2 k3 k5, K.lookup C = some (excClassObj nm q C N bs bm true sn sub ab col dd k0 k1 k2 k3 k5 "ValueError.__new__") ∧ PySem.HandSPX.refsVE bm = true := by
  unfold veCls at h
  split at h
  · rename_i t dd cd sl ho
    obtain ⟨h0, h⟩ := Bool.and_eq_true_iff.mp h
    split at h
    · rename_i C' bm k0 k1 k2 k3 n k5 hm hs
      obtain ⟨h1, h⟩ := Bool.and_eq_true_iff.mp h
      obtain ⟨h2, h⟩ := Bool.and_eq_true_iff.mp h
      obtain ⟨h3, h⟩ := Bool.and_eq_true_iff.mp h
      obtain ⟨h4, h5⟩ := Bool.and_eq_true_iff.mp h
      have e0 := of_decide_eq_true h0
      have e1 := of_decide_eq_true h1
      have e2 := of_decide_eq_true h2
      subst e0 e1 e2
      obtain ⟨cn, bs, mro, ns, qn, hd, sn, sub, ab, col, del⟩ := cd
      dsimp only at hm h3 h4
      have h4 : del = false := by simpa using h4
      subst hm h3 h4
      obtain ⟨l⟩ := sl
      have hs : l = [k0, k1, k2, k3, some (.builtin "ValueError.__new__"), k5] := hs
      subst hs
      exact ⟨cn, qn, ns, bs, bm, sn, sub, ab, col, dd, k0, k1, k2, k3, k5, ho, h5⟩
    · cases h
  · cases h
def celB (K : PySem.W.Frag) (C : Addr) : List (Str × Addr) → Bool
  | [p] => (match K.lookup p.2 with
      | some ⟨_, _, .cell (some (.ref D)), _⟩ => decide (D = C)
      | _ => false)
  | _ => false
def InD.fnB (i : InD) (K : PySem.W.Frag) : Bool := match K.lookup (i.fI K) with
  | some ⟨_, _, .func fd, _⟩ => codeIn K fd.code i.d.qual && (decide (fd.defaults = .none) && celB K (i.C K) fd.closure)
  | _ => false
def InD.ok (i : InD) (K : PySem.W.Frag) : Bool := veCls K (i.C K) && (decide (findIn K (.ref (i.C K)) "__setattr__" = some (some (.builtin "object.__setattr__"))) && (decide (subIn K (.ref (i.C K)) (.type "BaseException") = some true) && (decide (typeIn K (.ref (i.C K)) = some (.type "type")) &&
  (keepIn K (.ref (i.C K)) && (decide (findIn K (.ref (i.C K)) "__init__" = some (some (.ref (i.fI K)))) && (decide (typeIn K (.ref (i.fI K)) = some (.type "function")) && (decide (nsIn K cStatics "thirdparty.any" = some none) &&
  (decide (ks_superIn K (i.C K) (i.C K) "__init__" = some (some (.builtin "ValueError.__init__"))) && (decide (subIn K (.ref (i.C K)) (.type "ValueError") = some true) && (decide (findIn K (.ref (i.C K)) i.f = some none) && i.fnB K))))))))))
theorem InD.ini {P : Program} {K : PySem.W.Frag} {mg : Str → Option Value} {i : InD} (h : i.ok K = true) (hv : i.w K = i.val P.main.file) (hs : mg "super" = none) (ht : (P.main.scope.names.lookup ("super" : Str)).isSome = false) :
    IniC P K mg (i.C K) (i.fI K) i.d.name i.d.qual i.d.params i.d.body i.d.scope ∧ findIn K (.ref (i.C K)) i.f = some none := by
  unfold InD.ok at h
  obtain ⟨a1, h⟩ := Bool.and_eq_true_iff.mp h
  obtain ⟨a2, h⟩ := Bool.and_eq_true_iff.mp h
  obtain ⟨a3, h⟩ := Bool.and_eq_true_iff.mp h
  obtain ⟨a4, h⟩ := Bool.and_eq_true_iff.mp h
  obtain ⟨a5, h⟩ := Bool.and_eq_true_iff.mp h
  obtain ⟨a6, h⟩ := Bool.and_eq_true_iff.mp h
  obtain ⟨a7, h⟩ := Bool.and_eq_true_iff.mp h
  obtain ⟨a8, h⟩ := Bool.and_eq_true_iff.mp h
  obtain ⟨a9, h⟩ := Bool.and_eq_true_iff.mp h
  obtain ⟨b1, h⟩ := Bool.and_eq_true_iff.mp h
  obtain ⟨b2, h⟩ := Bool.and_eq_true_iff.mp h
  refine ⟨⟨⟨veCls_ok a1, of_decide_eq_true a2, of_decide_eq_true a3, of_decide_eq_true a4, a5⟩, of_decide_eq_true a6, of_decide_eq_true a7, hs, ht, of_decide_eq_true a8, of_decide_eq_true a9, of_decide_eq_true b1, ?_⟩, of_decide_eq_true b2⟩
  unfold InD.fnB at h
  unfold InD.w InD.val at hv
  cases q : K.lookup (i.fI K) with
  | none => rw [q] at h; cases h
  | some o =>
    obtain ⟨oc, od, dt, osl⟩ := o
    rw [q] at h hv
    cases dt with
    | func fd =>
      obtain ⟨n1, n2, n3, n4, n5, n6, n7, n8, n9, n10, n11, n12, n13, n14, n15⟩ := fd
      have e1 : (some (n1, n2, n3, n4, n5, n6, n7.map fun p => (p.1, 0), n15) : He.FnW) = some (i.d.name, i.d.qual, i.d.params, FuncBody.stmts i.d.body, i.d.scope, mainGlobals, [(("__class__" : Str), 0)], builtinsNs) := congrArg Prod.fst hv
      have e2 : fileOf K n13 = some P.main.file := congrArg Prod.snd hv
      simp only [Option.some.injEq, Prod.mk.injEq] at e1
      obtain ⟨g1, g2, g3, g4, g5, g6, g7, g8⟩ := e1
      have h : (codeIn K n13 i.d.qual && (decide (n8 = .none) && celB K (i.C K) n7)) = true := h
      obtain ⟨c1, y1⟩ := Bool.and_eq_true_iff.mp h
      obtain ⟨c2, hz⟩ := Bool.and_eq_true_iff.mp y1
      clear h y1
      have c2 := of_decide_eq_true c2
      subst c2
      unfold fileOf at e2
      split at e2
      · rename_i cda
        split at e2
        · rename_i ccl cdd vs ccs hcode
          split at e2
          · rename_i file tf hvs
            cases e2
            unfold celB at hz
            split at hz
            · rename_i p
              split at hz
              · rename_i cl cld D csl hcell
                have hD := of_decide_eq_true hz
                subst hD
                obtain ⟨pn, cc⟩ := p
                have hp : pn = "__class__" := by simpa using g7
                subst hp g1 g2 g3 g4 g5 g6 g8
                exact ⟨oc, od, n9, n10, n11, n12, cda, n14, cc, osl, cl, cld, csl, ccl, cdd, vs, ccs, _, tf, rfl, c1, hcell, hcode, hvs, by simp⟩
              · cases hz
            · cases hz
          · cases e2
        · cases e2
      · cases e2
    | _ => cases h

abbrev AlI : Type := AlP × (Bool × List (He.FnW × Option Str))
section
variable (n : Nat) (fa : List He.Fa) (fn : List He.DefD) (ts : List He.Tab) (ex : PySem.W.Frag → Bool) (gs : List GetD) (is : List InD) (pf : Str)
def obsK (K : PySem.W.Frag) : AlI := ((((He.obsT fa fn ts K, ex K) : He.AlX), (gs.all fun q => q.ok K, gs.map fun q => gW K q)), (is.all fun q => q.ok K, is.map fun q => q.w K))
def valI (w : World) : AlI := (valP fn ts gs w, (true, is.map fun q => q.val pf))
structure SaysI (w : World) (h : Heap) (K : PySem.W.Frag) : Prop where
  p : SaysP fa fn ts [] ex gs w h K
  ok : (is.all fun q => q.ok K) = true
  dv : (is.map fun q => q.w K) = is.map fun q => q.val pf
end
section
variable {n : Nat} {fa : List He.Fa} {fn : List He.DefD} {ts : List He.Tab} {ex : PySem.W.Frag → Bool} {gs : List GetD} {is : List InD} {pf : Str} {w : World} {h : Heap} {K : PySem.W.Frag}
theorem SaysI.get (c : SaysI fa fn ts ex gs is pf w h K) (i : Nat) {g : InD} (e : is[i]? = some g) : g.ok K = true ∧ g.w K = g.val pf := by
  have hm : g ∈ is := List.mem_of_getElem? e
  refine ⟨List.all_eq_true.mp c.ok g hm, ?_⟩
  have := congrArg (fun l => l[i]?) c.dv
  simp only [List.getElem?_map, e, Option.map_some] at this
  exact Option.some.inj this
end
end PD
namespace PD
open PySem PySem.Spec PySem.W PySem.Calls PyProof.Rows L2
section
variable (as : List Addr) (fa : List He.Fa) (fn : List He.DefD) (ts : List He.Tab) (ex : PySem.W.Frag → Bool) (gs : List GetD) (is : List InD) (pf : Str)
def obsL (g : Addr → Option Obj) : AlI := obsK fa fn ts ex gs is (He.frT g as)
def hookL : PySem.W.Hook where
  α := AlI
  obs := fun s => obsL as fa fn ts ex gs is s.heap.get?
  val := fun w => valI fn ts gs is pf w
  says := fun w h => ∃ K : PySem.W.Frag, K.In h ∧ SaysI fa fn ts ex gs is pf w h K
  of := fun w h e => by
    have e0 : He.obsT fa fn ts (He.frT h.heap.get? as) = He.valT fn ts w := congrArg (fun z : AlI => z.1.1.1) e
    have e1 : ex (He.frT h.heap.get? as) = true := congrArg (fun z : AlI => z.1.1.2) e
    have e2 : (gs.all fun q => q.ok (He.frT h.heap.get? as)) = true := congrArg (fun z : AlI => z.1.2.1) e
    have e3 : (gs.map fun q => gW (He.frT h.heap.get? as) q) = gs.map fun q => q.d.val := congrArg (fun z : AlI => z.1.2.2) e
    have e4 : (is.all fun q => q.ok (He.frT h.heap.get? as)) = true := congrArg (fun z : AlI => z.2.1) e
    have e5 : (is.map fun q => q.w (He.frT h.heap.get? as)) = is.map fun q => q.val pf := congrArg (fun z : AlI => z.2.2) e
    exact ⟨_, He.frT_in, ⟨⟨⟨e0, e1, (fun _ hp => nomatch hp), (fun _ hp => nomatch hp), (fun _ hp => nomatch hp)⟩, e2, e3⟩, e4, e5⟩⟩
  keeps := fun _ _ _ ⟨K, hK, c⟩ k => ⟨K, PySem.W.Frag.In.keeps hK k, ⟨⟨⟨c.p.x.t, c.p.x.more, c.p.x.hd, c.p.x.out, fun p hp => k _ _ (c.p.x.empty p hp)⟩, c.p.ok, c.p.dv⟩, c.ok, c.dv⟩⟩
end
section
variable {as : List Addr} {fa : List He.Fa} {fn : List He.DefD} {ts : List He.Tab} {ex : PySem.W.Frag → Bool} {gs : List GetD} {is : List InD} {pf : Str}
theorem obsL_eq {g : Addr → Option Obj} {s : Shared} (h : ∀ a, g a = s.heap.get? a) : obsL as fa fn ts ex gs is g = (hookL as fa fn ts ex gs is pf).obs s := by
  have e : g = s.heap.get? := funext h
  rw [e] <;> rfl
end
end PD
noncomputable section
namespace K61
open PySem PySem.Spec PyProof.Rows L2 PD
abbrev Env := PD.Env
def top (i : Nat) : Stmt := PySem.Challenge.pw_whoevermay_k61_words_of_goals.main.body.getD i (.Pass ⟨0, 0, 0, 0⟩)
abbrev st__law_row : Stmt := top 11
abbrev st__law_numbers : Stmt := top 12
abbrev st__law_word : Stmt := top 13
abbrev st__law_is_name : Stmt := top 14
abbrev st__law_formed : Stmt := top 19
abbrev st__law_turned : Stmt := top 20
abbrev st_parted : Stmt := top 7
abbrev st_is_name : Stmt := top 3
abbrev st_are_names : Stmt := top 6
abbrev st_demand_of : Stmt := top 8
abbrev st_goal_of : Stmt := top 9
abbrev st__law_split : Stmt := top 16
abbrev st__law_all_names : Stmt := top 15
abbrev st__law_demand : Stmt := top 17
abbrev st__law_goal_of : Stmt := top 18
abbrev st_law : Stmt := top 21
end K61
end
namespace K61
open PySem PySem.Spec PyProof.Rows L2 PD
def dd__law_row : He.DefD := ⟨("_law_row", none), "_law_row", "_law_row", defArgs st__law_row, defBody st__law_row, defScope st__law_row, [], []⟩
def dd__law_numbers : He.DefD := ⟨("_law_numbers", none), "_law_numbers", "_law_numbers", defArgs st__law_numbers, defBody st__law_numbers, defScope st__law_numbers, [], []⟩
def dd__law_word : He.DefD := ⟨("_law_word", none), "_law_word", "_law_word", defArgs st__law_word, defBody st__law_word, defScope st__law_word, [], []⟩
def dd__law_is_name : He.DefD := ⟨("_law_is_name", none), "_law_is_name", "_law_is_name", defArgs st__law_is_name, defBody st__law_is_name, defScope st__law_is_name, [], []⟩
def dd__law_formed : He.DefD := ⟨("_law_formed", none), "_law_formed", "_law_formed", defArgs st__law_formed, defBody st__law_formed, defScope st__law_formed, [], []⟩
def dd__law_turned : He.DefD := ⟨("_law_turned", none), "_law_turned", "_law_turned", defArgs st__law_turned, defBody st__law_turned, defScope st__law_turned, [], []⟩
def dd_parted : He.DefD := ⟨("parted", none), "parted", "parted", defArgs st_parted, defBody st_parted, defScope st_parted, [], []⟩
def dd_is_name : He.DefD := ⟨("is_name", none), "is_name", "is_name", defArgs st_is_name, defBody st_is_name, defScope st_is_name, [], []⟩
def dd_are_names : He.DefD := ⟨("are_names", none), "are_names", "are_names", defArgs st_are_names, defBody st_are_names, defScope st_are_names, [], []⟩
def dd_demand_of : He.DefD := ⟨("demand_of", none), "demand_of", "demand_of", defArgs st_demand_of, defBody st_demand_of, defScope st_demand_of, [], []⟩
def dd_goal_of : He.DefD := ⟨("goal_of", none), "goal_of", "goal_of", defArgs st_goal_of, defBody st_goal_of, defScope st_goal_of, [], []⟩
def dd__law_split : He.DefD := ⟨("_law_split", none), "_law_split", "_law_split", defArgs st__law_split, defBody st__law_split, defScope st__law_split, [], []⟩
def dd__law_all_names : He.DefD := ⟨("_law_all_names", none), "_law_all_names", "_law_all_names", defArgs st__law_all_names, defBody st__law_all_names, defScope st__law_all_names, [], []⟩
def dd__law_demand : He.DefD := ⟨("_law_demand", none), "_law_demand", "_law_demand", defArgs st__law_demand, defBody st__law_demand, defScope st__law_demand, [], []⟩
def dd__law_goal_of : He.DefD := ⟨("_law_goal_of", none), "_law_goal_of", "_law_goal_of", defArgs st__law_goal_of, defBody st__law_goal_of, defScope st__law_goal_of, [], []⟩
def dd_law : He.DefD := ⟨("law", none), "law", "law", defArgs st_law, defBody st_law, defScope st_law, [], []⟩
def fnL : List He.DefD := [dd__law_row, dd__law_numbers, dd__law_word, dd__law_is_name, dd__law_formed, dd__law_turned, dd_parted, dd_is_name, dd_are_names, dd_demand_of, dd_goal_of, dd__law_split, dd__law_all_names, dd__law_demand, dd__law_goal_of, dd_law]
def faL : List He.Fa := [.glo "_law_row", .glo "_law_numbers", .glo "_law_word", .glo "_law_is_name", .glo "_law_formed", .glo "_law_turned", .glo "parted", .glo "is_name", .glo "are_names", .glo "demand_of", .glo "goal_of", .glo "_law_split", .glo "_law_all_names", .glo "_law_demand", .glo "_law_goal_of", .glo "law", .free "abs", .free "all", .free "int", .free "isinstance", .free "len", .free "list", .free "max", .free "range", .free "repr", .free "tuple", .glo "MARKS", .int "MOST_NAME_CHARS" 12, .str "NAME_CHARS" "abcdefghijklmnopqrstuvwxyz0123456789"]
def tsL : List He.Tab := []
theorem nm_ok : nmOk [] = true := by decide +kernel
def tbK (K : PySem.W.Frag) : Tb := mkTb (fun i => ([] : List Addr).getD i 0) [] nm_ok
def exB (K : PySem.W.Frag) : Bool := He.tupB K "MARKS" [.str "and", .str "with", .str "without", .str "trusting", .str "anybody"] && (true)
abbrev R : PySem.W.OpenRow := PySem.W.OpenLaw.row PySem.Challenge.rw_whoevermay_k61_words_of_goals
def gsL : List GetD := []
def isL : List InD := []
def asL : List Addr := ([3, 19, 20, 25, 32, 39, 46, 53, 60, 65, 72, 79, 86, 93, 98, 103, 110, 115, 18, 24, 31, 38, 45, 52, 59, 64, 71, 78, 85, 92] : List Addr) ++ ([97, 102, 109, 114] : List Addr)
abbrev hk : PySem.W.Hook := hookL asL faL fnL tsL exB gsL isL R.prog.main.file
def ob (s : PySem.W.SharedT) : AlI := obsL asL faL fnL tsL exB gsL isL (HandSHeadRun.getT s)
theorem ob_eq (s : PySem.W.SharedT) : ob s = hk.obs s.abs := obsL_eq (HandSHeadRun.getT_eq s)
def loose : List Str := (["NAME_CHARS", "MOST_NAME_CHARS", "is_name", "MARKS", "are_names", "parted", "demand_of", "goal_of", "_law_row", "_law_numbers", "_law_word", "_law_is_name", "_law_all_names", "_law_split", "_law_demand", "_law_goal_of", "_law_formed", "_law_turned"] : List Str)
theorem run1 (w : World) : HandSHeadRun.RunEq R (PySem.W.view R.prog [21]) hk ob 6000 loose (w.withFollow "special-get-raises" false) := fun os => by kernel_rfl
theorem run2 (w : World) : HandSHeadRun.RunEq R (PySem.W.view R.prog [21]) hk ob 6000 loose (w.withFollow "special-get-raises" true) := fun os => by kernel_rfl
theorem run (w : World) : HandSHeadRun.RunEq R (PySem.W.view R.prog [21]) hk ob 6000 loose w :=
  PySem.W.byRow2 "special-get-raises" (P := fun w => HandSHeadRun.RunEq R (PySem.W.view R.prog [21]) hk ob 6000 loose w) run1 run2 w
end K61
namespace PD
open PySem L2 PySem.Spec PyProof.Rows
def ins {α : Type} (j : Nat) (a : α) (l : List α) : List α := l.take j ++ a :: l.drop j
section
variable {α β : Type} {j : Nat} {a : α} {l : List α}
end
section
variable {P : Program} {w : World} {K : PySem.W.Frag} {mg : Str → Option Value} {base : Heap} {T : Tb}
end
end PD
namespace PD
open PySem L2 PySem.Spec PyProof.Rows
/-- arguments with slot i's thing in place j -/
def tAH (K : PySem.W.Frag) (c : Cc) (i j : Nat) (g : Env → Res (List D)) : TA := fun σ H Q => ∃ E W, Sat K c E σ H W ∧ ∃ v, σ[i]? = some (some v) ∧ match g E with
  | .ok ds => ∀ vs H', Same H H' → vs.length = ds.length → RepL K c.cl H' (c.I W) c.S ds vs none_ → Q (ins j v vs) H'
  | .ex e => ∀ u dd H', Same H H' → ERep K c.cl H' (c.I W) e u dd → c.Wx u dd σ H'
  | .bad => False
structure JAH (X : Cx) (c : Cc) (i j : Nat) (es : List Expr) (g : Env → Res (List D)) : Prop where pa : PA X es (tAH X.K c i j g)
section
variable {X : Cx} {c : Cc} {pos p : Pos} {e : Expr} {es : List Expr} {i j k : Nat} {x : Str} {g : Env → Res D} {gs : Env → Res (List D)} {T : Tb}
end
end PD
namespace PD
open PySem L2 PySem.Spec PyProof.Rows
section
variable {K : PySem.W.Frag}
end
section
variable {X : Cx} {c : Cc} {pos apos : Pos} {a e : Expr} {i : Nat} {g : Env → Res D} {gp : GP}
end
end PD
namespace PD
open PySem L2 PySem.Spec PyProof.Rows
section
variable {X : Cx} {c : Cc} {pos apos px : Pos} {a : Expr} {i k cid mid : Nat} {m x : Str} {gm : Env → MRes} {T : Tb} {C f : Addr} {fd : FuncData} {ps : List Str} {Fm : List D → MR}
end
end PD
namespace PD
open PySem L2 PySem.Spec PyProof.Rows
section
variable {K : PySem.W.Frag}
end
section
variable {X : Cx} {c : Cc} {pos apos : Pos} {a e : Expr} {i : Nat} {g : Env → Res D} {gp : GP}
end
end PD
namespace PD
open PySem L2 PySem.Spec PyProof.Rows
section
variable {X : Cx} {c : Cc} {pos p : Pos} {a : Expr} {g : Env → Res D}
end
end PD
namespace PD
open PySem L2 PySem.Spec PyProof.Rows
section
variable {X : Cx} {c : Cc} {pos tpos p0 : Pos} {o : Expr} {i n j : Nat} {f : Str} {cs : List Nat} {gp : GP} {k : Int}
end
end PD
namespace PD
open PySem PySem.Spec PyProof.Rows L2
section
variable {M : Model} {A : Around} {E : Value → Shared → Prop} {s : Shared} {env : PySem.Env}
end

section
variable {M : Model} {A : Around} {E : Value → Shared → Prop} {s : Shared} {B : Heap} {l : List PySem.Env} {a L L' : Addr} {Z : Obj → Prop}
end
section
variable {X : Cx} {pins : List (Addr × Obj)} {σ : L2.St} {H : Hp} {s : Shared}
end
end PD
namespace PD
open PySem PySem.Spec PyProof.Rows L2
section
variable {X : Cx}
end

section
variable {X : Cx} {c : Cc} {pos : Pos}
end
end PD
namespace PD
open PySem L2
section
variable {K : PySem.W.Frag} {T : Tb} {n m : Nat} {dms : List D} {vms : List V}
end
end PD
namespace PD
open PySem PySem.Spec PyProof.Rows L2
section
variable {K : PySem.W.Frag} {cl : Tb} {H : Hp} {I M F : AS} {p : Addr} {ks : List Key} {xs : List D} {vs : List V}
end
section
variable {X : Cx} {c : Cc} {pos p : Pos} {a : Expr} {g : Env → Res D}
end
end PD
namespace PD
open PySem PySem.Spec PyProof.Rows L2
abbrev RoomN := L2H.RoomH
/-- what a def promises whatever is handled -/
structure FnN (P : Program) (w : World) (K : PySem.W.Frag) (mg : Str → Option Value) (base : Heap) (CX : CXT) (k : Nat) (f : Addr) (fd : FuncData) (ps : List Str) (sp : Sp) : Prop where
  len : ∀ vs H Q E, sp vs H Q E → vs.length = ps.length
  run : ∀ (A : Around) (outer : List PySem.Env) (s : Shared) (H : Hp) (args : Args) (us : List Value) (vs : List V) (Q : VK) (E : XK), RoomN k A → Env0 P w K mg base A outer s H → BindsTo s fd args (ps.zip us) → Vals vs us → sp vs H Q E →
    codeAny (model P w) A (.call (.ref f) args) (CR CX outer P w H s Q E) s
section
variable {CX : CXT} {P : Program} {w : World} {K : PySem.W.Frag} {mg : Str → Option Value} {base : Heap} {N ps : List Str} {qual : Str} {scope : Scope} {f : Addr} {cd : Value} {A : Around} {outer : List PySem.Env} {s s1 : Shared} {H : Hp} {E : XK} {us : List Value} {vs : List V}
end
section
variable {X : Cx} {CX : CXT} {c : Cc} {T : Tb} {k n : Nat} {f : Addr} {fd : FuncData} {ps : List Str} {sp : Sp} {E : L2.St → XK} {x : Str} {p pos : Pos} {e : Expr} {es : List Expr} {t : TA} {dvs : List V} {ds : List Value} {dds : List D} {Ff : List D → Res D} {ga : PD.Env → Res (List D)}
end
section
variable {P : Program} {w : World} {K : PySem.W.Frag} {mg : Str → Option Value} {base : Heap} {T : Tb}
end
end PD
namespace PD
open PySem PySem.Spec PyProof.Rows L2
section
variable {P : Program} {w : World} {A : Around} {R : Result → Shared → Prop} {it : Addr} {fp wr : List Addr} {G : Array GenState → Array GenState → Prop} {n : Nat} {Pv : Nat → Value → Prop} {St : Nat → Shared → Prop}
end
section
variable {P : Program} {w : World} {A : Around} {E : Value → Shared → Prop} {s : Shared}
end
section
variable {X : Cx} {c : Cc} {pos p p2 q : Pos} {a : Expr} {ta : TE} {g : Env → Res D}
end
end PD
namespace PD
open PySem PySem.Spec PyProof.Rows L2
mutual
/-- no dict of text keys in it -/
def D.noDk : D → Bool
  | .tup xs => noDkL xs
  | .ktup xs => noDkL xs
  | .lst _ xs => noDkL xs
  | .dk _ _ _ => false
  | .dt _ _ vs => noDkL vs
  | .obj _ _ _ vs => noDkL vs
  | _ => true
def noDkL : List D → Bool
  | [] => true
  | d :: ds => d.noDk && noDkL ds
end
section
variable {K : PySem.W.Frag} {cl : Tb} {H : Hp} {I M : AS} {p0 : Addr} {kvs : List (Key × V)} {od : Obj}
end
section
variable {K : PySem.W.Frag} {X : Cx} {c : Cc} {pos : Pos} {W : AS} {σ : L2.St} {H H' : Hp} {E : Env} {p0 : Addr} {kvs : List (Key × V)} {od : Obj}
open Classical in
end
end PD
noncomputable section
namespace PD
open PySem L2
section
variable {X : L2.Cx}
variable {c : Cc} {a b : Expr} {ga gb : Env → Res D} {pos apos : Pos}
end
end PD
namespace PD
open PySem PySem.Spec PyProof.Rows L2
/-- what a def promises where no repr is under way -/
structure FnG (P : Program) (w : World) (K : PySem.W.Frag) (mg : Str → Option Value) (base : Heap) (CX : CXT) (k : Nat) (f : Addr) (fd : FuncData) (ps : List Str) (sp : Sp) : Prop where
  len : ∀ vs H Q E, sp vs H Q E → vs.length = ps.length
  run : ∀ (A : Around) (outer : List PySem.Env) (s : Shared) (H : Hp) (args : Args) (us : List Value) (vs : List V) (Q : VK) (E : XK), A.guards = some [] → Room k A → Env0 P w K mg base A outer s H → BindsTo s fd args (ps.zip us) → Vals vs us → sp vs H Q E →
    codeAny (model P w) A (.call (.ref f) args) (CR CX outer P w H s Q E) s
section
variable {CX : CXT} {P : Program} {w : World} {K : PySem.W.Frag} {mg : Str → Option Value} {base : Heap} {N ps : List Str} {qual : Str} {scope : Scope} {f : Addr}
theorem okG {k : Nat} {x : Str} {params : Arguments} {body : List Stmt} {dvs : List V} {kws : List (Str × V)} {fd : FuncData} {sp : Sp} (F : FunD K x qual params body scope dvs kws f fd) (S : FnScope N ps scope) (len : ∀ vs H Q E, sp vs H Q E → vs.length = ps.length)
    (hbody : ∀ (cdv : Value) (A : Around) (outer : List PySem.Env) (s : Shared) (H : Hp) (vs : List V) (Q : VK) (E : XK), A.guards = some [] → Room k (A.deeper (envOfC qual scope s.heap.objs.size f cdv)) → sp vs H Q E →
      ∃ t, PSs (cxOf CX P w K mg base N qual scope f cdv A outer s H E) body t ∧ t { nx := fun _ H' => Q .non H', rt := Q } (start N vs) H) : FnG P w K mg base CX (k + 1) f fd ps sp := by
  obtain ⟨_, _, _, _, _, _, _, cdv, _, _, rfl, look, code, _, _⟩ := F.ex
  refine ⟨len, fun A outer s H args us vs Q E hg room e0 bind rel hsp => ?_⟩
  have hl := len _ _ _ _ hsp
  have inK : K.In s.heap := e0.mod.kin.keeps fun b o e => (e0.bs b o e).1
  have kinds : ∀ y ∈ ps.zip us, scope.names.lookup y.1 = some .local ∨ (scope.names.lookup y.1 = some .cell ∧ ((cellsFrom (s.heap.objs.size + 1) scope.names []).lookup y.1).isSome = true) := by
    rintro ⟨y, u⟩ hy
    exact (S.par y (List.of_mem_zip hy).1).imp id fun z => ⟨z, PySem.W.cellsFrom_some _ _ _ (.inl z)⟩
  refine codeAny_call_function room.depth (inK _ _ look) rfl S.co S.gen rfl (PySem.W.codeRec_of inK code) (bind _ _ _ _ (wpAny_newFunctionEnv_cells S.kind kinds fun env he s1 x => ?_))
  subst he
  have nolim : s.heap.NoLimit := e0.mod.nolimit.keeps fun b o e => (e0.bs b o e).1
  obtain ⟨t, pss, want⟩ := hbody cdv A outer s H vs Q E hg (room.deeper _) hsp
  have I : Inv (cxOf CX P w K mg base N qual scope f cdv A outer s H E) [] (start N vs) H s1 := inv_start S room.hd e0 hl rel x
  refine ⟨nolim.keeps x.toInCall.keep, codeAny_func (wpAny_mono (pss.run [] s1 (start N vs) H _ I want) (fun fl s2 done => ?_) fun _ _ z => z)⟩
  have fin : ∀ {τ : L2.St} {G : Hp} {v : V} {u : Value}, Inv (cxOf CX P w K mg base N qual scope f cdv A outer s H E) [] τ G s2 → RelV v u → Q v G → CE outer P w H s Q u s2 := fun {_ G v _} J rv q => ⟨v, G, J.os, J.bare, J.base, J.hok, rv, q⟩
  cases fl with
  | next =>
    obtain ⟨_, _, J, q⟩ := done
    exact fin (v := .non) (u := .none) J rfl q
  | ret u =>
    obtain ⟨_, _, _, J, rv, q⟩ := done
    exact fin J rv q
  | brk => exact done.elim fun _ z => z.elim fun _ z => z.2.elim
  | cont => exact done.elim fun _ z => z.elim fun _ z => z.2.elim
end
section
variable {P : Program} {w : World} {K : PySem.W.Frag} {mg : Str → Option Value} {base : Heap} {T : Tb}
theorem fn_pureG {k n : Nat} {x qual : Str} {params : Arguments} {body : List Stmt} {scope : Scope} {dvs : List V} {kws : List (Str × V)} {f : Addr} {fd : FuncData} {N ps : List Str} {s : Env → Out} (F : FunD K x qual params body scope dvs kws f fd) (S : FnScope N ps scope) (hn : ps.length = n)
    (hb : ∀ (cdv : Value) (A : Around) (outer : List PySem.Env) (s0 : Shared) (H : Hp) (E : XK) (c : Cc), A.guards = some [] → Room k (A.deeper (envOfC qual scope s0.heap.objs.size f cdv)) → c.cl = T → (∀ i, c.p0 i = none) → Takes (cxOf (L2.CX P w) P w K mg base N qual scope f cdv A outer s0 H E) c.Wx →
      JSs (cxOf (L2.CX P w) P w K mg base N qual scope f cdv A outer s0 H E) c body s) : FnG P w K mg base (L2.CX P w) (k + 1) f fd ps (spF K T (bodyF n N.length s)) := by
  refine okG F S (fun vs H Q E h => ?_) (fun cdv A outer s0 H vs Q E hg hr h => ?_)
  · obtain ⟨ds, I, _, r, q⟩ := h
    unfold bodyF at q
    split at q
    · rename_i d e
      split at e
      · rename_i hl
        rw [r.length, hn, hl]
      · cases e
    · rename_i d e
      split at e
      · rename_i hl
        rw [r.length, hn, hl]
      · cases e
    · exact q.elim
  · obtain ⟨ds, I, hI, r, q⟩ := h
    have J := hb cdv A outer s0 H E (cc0 T I E fun _ => none) hg hr rfl (fun _ => rfl) (takes_of rfl rfl rfl rfl)
    refine ⟨_, J.ps, startE N.length ds, none_, ⟨fun _ z => z.elim, fun _ z => z.elim, fun _ z => z.elim, fun _ z => z.elim, hI, trivial, fun _ v e => (by cases e), start_len r.length, fun _ => none_, fun _ _ z => z.elim, fun _ _ _ _ z => z.elim, fun i d e => ?_⟩, ?_⟩
    · obtain ⟨v, g, rr⟩ := r.get0 (startE_get e)
      exact ⟨v, start_get g, Rep.mono (fun a o q n => ⟨q, fun z => n (z.elim (fun y => y.elim) id)⟩) (fun a o q n => ⟨q, fun z => z.elim (fun y => y) fun y => y⟩) d v _ _ (fun _ _ _ z => z.elim) (fun _ z => z) rr⟩
    · unfold bodyF at q
      by_cases hl : ds.length = n
      · rw [if_pos hl] at q
        cases e : s (startE N.length ds) with
        | nx E1 =>
          rw [e] at q
          exact fun σ' H' W' t s2 => q .non H' none_ (fun a o z => t.1 a o z fun y => y) (fun _ z => z.elim) rfl
        | rt d E1 =>
          rw [e] at q
          refine fun v σ' H' W' F' t s2 rr => q v H' F' (fun a o z => t.1 a o z fun y => y) (fun a z => ⟨(t.2.2 a (.inr z)).resolve_left fun y => y, s2.bh a (.inr z)⟩) (Rep.mono (fun a o q n => ⟨q, fun z => n (.inr z)⟩) (fun a o q n => ⟨q, n⟩) d v _ _ (fun _ _ q _ => q) (fun _ z => z) rr)
        | ex x E1 =>
          rw [e] at q
          refine fun u dd σ' H' W' t s2 er => q u dd H' (fun a o z => t.1 a o z fun y => y) ?_
          obtain ⟨e1, e2⟩ := er
          refine ⟨e1, e2.imp id ?_⟩
          rintro ⟨dx, vs2, h1, h2, h3, h4, h5⟩
          exact ⟨dx, vs2, h1, h2, fun z => h3 (.inr z), h4, RepL.mono (fun a o q n => ⟨q, fun z => n (.inr z)⟩) (fun a o q n => ⟨q, n⟩) _ _ _ _ (fun _ _ _ z => z.elim) (fun _ z => z) h5⟩
        | bk E1 => rw [e] at q; exact q.elim
        | ct E1 => rw [e] at q; exact q.elim
        | bad => rw [e] at q; exact q.elim
      · rw [if_neg hl] at q; exact q.elim
theorem law_okG {k : Nat} {f : Addr} {fd : FuncData} {ps : List Str} {F : List D → Res D} (h : FnG P w K mg base (L2.CX P w) k f fd ps (spF K T F))
    (hF : ∀ ns : List Int, ns.length ≤ 63 → F [.lst .frz (ns.map D.int)] = .ok (.bl true)) : FnG P w K mg base CX0 k f fd ps (spLaw K) := by
  have key : ∀ vs H Q E, spLaw K vs H Q E → spF K T F vs H Q (fun _ _ _ => False) := by
    rintro vs H Q E ⟨a, ns, hl, rfl, hS, hQ⟩
    refine ⟨[.lst .frz (ns.map D.int)], none_, fun _ z => z.elim, RepL.none_cons ⟨a, ns.map V.int, rfl, ?_, rep_ints⟩ rfl, ?_⟩
    · rcases hS with z | z
      · exact .inl ⟨z, fun y => y⟩
      · exact .inr ⟨rfl, z⟩
    · rw [hF ns hl]
      rintro v H' F' _ _ rfl
      exact hQ H'
  refine ⟨fun vs H Q E q => h.len vs H Q _ (key vs H Q E q), fun A outer s H args us vs Q E hg hr he hb hv hs => ?_⟩
  refine codeAny_mono (h.run A outer s H args us vs Q (fun _ _ _ => False) hg hr he hb hv (key vs H Q E hs)) fun r s' q => ?_
  cases r with
  | error e =>
    obtain ⟨_, _, _, _, _, _, _, _, _, _, _, _, z⟩ := q
    exact z.elim
  | ok fl =>
    cases fl with
    | ret u => exact q
    | _ => exact q
end
/-- the law called from outside: nothing but the script may be tracked, and no repr is under way -/
theorem law_callG {P : Program} {w : World} {K : PySem.W.Frag} {mg mb : Str → Option Value} {k : Nat} {fa a : Addr} {fd : FuncData} {x : Str} {s₁ : Shared} {vs : List Value} {ns : List Int}
    (KX : K.In s₁.heap) (hns : s₁.heap.Ns mainGlobals mg) (hb : s₁.heap.Ns builtinsNs mb) (hbb : ∀ x : Str, x ≠ "__name__" → mb x = bootBuiltins x) (hlim : s₁.heap.NoLimit) (hg : s₁.gens = #[])
    (ha : s₁.heap.get? a = some { cls := .type "list", data := .seq vs.toArray }) (hi : IntsAre vs ns) (hl : ns.length ≤ 63) (hr : Room k callerA)
    (F : ∀ base : Heap, K.In base → base.Ns mainGlobals mg → FnG P w K mg base CX0 k fa fd [x] (spLaw K)) (hbind : ∀ (s : Shared) (u : Value), BindsTo s fd ⟨[u], []⟩ [(x, u)]) :
    codeAny (model P w) callerA (.call (.ref fa) ⟨[.ref a], []⟩) (fun r s' => r = .ok (.ret (.bool true)) ∧ OldK s₁.heap s'.heap ∧ s'.os = s₁.os ∧ AllBare s'.gens) s₁ := by
  have rv := vals_ints hi
  have lenV := hi.length
  have hl2 : ns.length ≤ sizeLine := Nat.le_trans hl (by decide)
  have main : ∀ H : Hp, Only H → SqL K H a (ns.map V.int) → HOk P w H s₁.heap → (∀ b, H b ≠ none → b = a) → (H a ≠ none → K.lookup a = none) →
      codeAny (model P w) callerA (.call (.ref fa) ⟨[.ref a], []⟩) (fun r s' => r = .ok (.ret (.bool true)) ∧ OldK s₁.heap s'.heap ∧ s'.os = s₁.os ∧ AllBare s'.gens) s₁ := by
    intro H only sq hok one out
    have up : ∀ {b : Addr} {o : Obj}, s₁.heap.get? b = some o → H b = none → (hidT s₁.heap H).get? b = some o := fun e n => hidT_get e n
    have hid : ∀ {b : Addr} {u : HO}, H b = some u → b = a := fun {b u} q => one b (by rw [q]; simp)
    have dict : ∀ {b : Addr} {o : Obj} {es : Array DictEntry} {ep : Nat}, s₁.heap.get? b = some o → o.data = .dict es ep → H b = none := fun {b o es ep} e d => by
      cases q : H b with
      | none => rfl
      | some u =>
        obtain rfl := hid q
        rw [ha] at e
        cases e
        cases (show Data.seq vs.toArray _ = Data.dict es ep from d)
    have spaces : ∀ {b : Addr} {m : Str → Option Value}, s₁.heap.Ns b m → (hidT s₁.heap H).Ns b m := fun {b m} ⟨o, es, ep, e, d, r⟩ => ⟨o, es, ep, up e (dict e d), d, r⟩
    have kin : K.In (hidT s₁.heap H) := fun b o e => up (KX b o e) (by
      cases q : H b with
      | none => rfl
      | some u =>
        obtain rfl := hid q
        rw [out (by rw [q]; simp)] at e
        cases e)
    have md : Mod K mg (hidT s₁.heap H) := ⟨kin, spaces hns, ⟨mb, spaces hb, hbb⟩, hlim.elim fun mc z => ⟨mc, spaces z.1, z.2⟩⟩
    have e0 : Env0 P w K mg (hidT s₁.heap H) callerA [] s₁ H := ⟨rfl, md, fun b o e => of_hidT e, Nat.le_of_eq (hidT_size _ _), trivial, fun b hb => absurd (show b ∈ ([] : List Addr) from hb) (by simp), hok, .of_eq hg⟩
    refine codeAny_mono ((F _ kin (spaces hns)).run callerA [] s₁ H ⟨[.ref a], []⟩ [.ref a] [.ref a] (fun v _ => v = .bl true) (fun _ _ _ => False) rfl hr e0 (hbind s₁ (.ref a)) (.cons rfl .nil) ⟨a, ns, hl, rfl, sq, fun _ => rfl⟩) fun r s' h => ?_
    cases r with
    | error e => exact False.elim h
    | ok fl =>
      cases fl with
      | next => exact False.elim h
      | brk => exact False.elim h
      | cont => exact False.elim h
      | ret u =>
        obtain ⟨v, H', os, bare, un, hok', rel, q⟩ := h
        obtain rfl : v = .bl true := q
        obtain rfl : u = Value.bool true := rel
        refine ⟨rfl, OldK.of_keep fun b o e => ?_, os, bare⟩
        rcases only b with z | ⟨ob, xs, z⟩
        · exact un.keep b o e z (by intro y; exact absurd (show b ∈ ([] : List Addr) from y) (by simp)) (by simp)
        · obtain ⟨e1, _⟩ := hok b _ z
          obtain ⟨e2, _⟩ := hok' b _ (un.frzs b ob _ z)
          rw [e] at e1
          cases e1
          exact e2
  cases hk : K.lookup a with
  | some o =>
    have e := KX a o hk
    rw [ha] at e
    cases e
    exact main (fun _ => none) (fun _ => .inl rfl) (.inr ⟨_, vs.toArray, _, hk, rfl, rfl, rfl, by rw [List.size_toArray, lenV]; exact hl2, by simpa using rv⟩) (fun b u z => by cases (show (none : Option HO) = some u from z)) (fun b z => absurd rfl z) fun z => absurd rfl z
  | none =>
    refine main (fun b => if b = a then some (.frz { cls := .type "list", data := .seq vs.toArray } (.lst (ns.map V.int))) else none) (fun b => ?_) (.inl (.inr ⟨{ cls := .type "list", data := .seq vs.toArray }, if_pos rfl⟩)) (fun b u z => ?_) (fun b z => ?_) fun _ => hk
    · by_cases h : b = a
      · exact .inr ⟨_, _, if_pos h⟩
      · exact .inl (if_neg h)
    · by_cases h : b = a
      · cases (if_pos h).symm.trans z
        subst h
        exact ⟨ha, by rw [List.length_map]; exact hl2, vs, _, rv, ha⟩
      · cases (if_neg h).symm.trans z
    · by_cases h : b = a
      · exact h
      · exact absurd (if_neg h) z
theorem walk_ofG {l : PySem.W.OpenLaw} {k : Nat} {q : Program} {loose : List Str} {XP : (Str → Option Value) → Heap → Prop} {YP : World → Heap → Prop} {d : DefRec} {x : Str} (hn : l.most = some 63) (hdf : d.params.defaults = []) (hr : Room k callerA)
    (F : ∀ (w : World) (mg : Str → Option Value) (fa : Addr) (h : Heap), YP w h → h.Ns mainGlobals mg → mg d.name = some (.ref fa) →
      ∃ (K : PySem.W.Frag) (fd : FuncData), K.In h ∧ (∀ (s : Shared) (u : Value), BindsTo s fd ⟨[u], []⟩ [(x, u)]) ∧ ∀ base : Heap, K.In base → base.Ns mainGlobals mg → FnG l.prog w K mg base CX0 k fa fd [x] (spLaw K)) :
    PySem.W.WalkO q loose XP YP l.row.toRowW d [] (fun f vs => PySem.call f vs) := by
  refine Att.attach_call hn hdf fun w s₀ s₁ mg mb fa o pm cd doc a vs ns G Y ho hd hcd hmg hobj hints hlen hg => ?_
  obtain ⟨K, fd, KX, hb, hF⟩ := F w mg fa _ Y G.T.g hmg
  exact law_callG KX G.T.g G.T.b G.T.builtins G.T.nolimit hg hobj hints hlen hr hF hb
section
variable {X : Cx}
def rRepr (K : PySem.W.Frag) : List V → Hp → VK → Prop := fun xs H Q => ∃ (a : Addr) (d : PyData), xs = [.ref a] ∧ Dp K H (.ref a) d ∧ d.showable = true ∧ d.hasDict = false ∧ d.depth ≤ 40 ∧ d.shown.length ≤ sizeLine ∧ Q (.str d.shown) H
theorem cr_repr (hg : X.A.guards = some []) (hu : X.A.units + 64 < cLine) : CallR X (.builtin "repr") (rRepr X.K) := by
  intro pins s σ H xs us Q I r h
  obtain ⟨a, d, rfl, hd, hs, hn, hp, hz, q⟩ := h
  rw [Vals.ref1 r]
  obtain ⟨as, rd⟩ := Dp.reads I d (.ref a) (.ref a) hd rfl
  refine repr_of_reads' rd hs (PyData.noDict_hsm hn) hg (by omega) (fun b o e => e) (fun h' u tk hk => ?_) hz
  exact ⟨.str d.shown, H, I.kept hk, ⟨u, rfl⟩, q⟩
end
def reprD (d : D) : Res D := match d with
  | .tup _ => (match d.py with
    | some p => if p.showable = true ∧ p.hasDict = false ∧ p.depth ≤ 40 ∧ p.shown.length ≤ sizeLine then .ok (.str p.shown) else .bad
    | none => .bad)
  | .lst _ _ => (match d.py with
    | some p => if p.showable = true ∧ p.hasDict = false ∧ p.depth ≤ 40 ∧ p.shown.length ≤ sizeLine then .ok (.str p.shown) else .bad
    | none => .bad)
  | _ => .bad
theorem nx_repr : NoX1 reprD := fun d e h => by
  unfold reprD at h
  repeat' split at h
  all_goals cases h
section
variable {X : Cx} {c : Cc} {a : Expr} {g : Env → Res D} {pos p : Pos}
theorem jn_repr (hgd : X.A.guards = some []) (hu : X.A.units + 65 < cLine) (hg : Gl X "repr") (hm : X.mg "repr" = none) (ha : JV X c a g) (h3 : starEach [a] X.env = (false, eval a X.env) :: starEach [] X.env := by rfl) (h4 : (backTo pos (starEach [] X.env)).any (·.1) = false := by rfl) : JN X c (.Call (.Name "repr" p) [a] [] pos) (gUn reprD g) :=
  jn_b1 (k := fun v H Q => rRepr X.K [v] H Q) (cr_repr hgd (by omega)) (fun v H Q h => h) (fun cl H I M F d v Q res hi r e q => by
      unfold reprD at e
      split at e
      · split at e
        · rename_i pd e1
          split at e
          · rename_i hc
            cases e
            have dp := rep_dp _ _ _ _ r e1
            obtain ⟨pa, vs, rfl, _⟩ := r
            exact ⟨pa, pd, rfl, dp, hc.1, hc.2.1, hc.2.2.1, hc.2.2.2, scal q rfl⟩
          · cases e
        · cases e
      · split at e
        · rename_i pd e1
          split at e
          · rename_i hc
            cases e
            have dp := rep_dp _ _ _ _ r e1
            obtain ⟨pa, vs, rfl, _⟩ := r
            exact ⟨pa, pd, rfl, dp, hc.1, hc.2.1, hc.2.2.1, hc.2.2.2, scal q rfl⟩
          · cases e
        · cases e
      · cases e) nx_repr hg hm (by decide +kernel) ha (by decide) (by decide) h3 h4
def eqS : D → D → Res D
  | .str a, .str b => .ok (.bl (decide (a = b)))
  | _, _ => .bad
theorem nx_eqS : NoX eqS := fun a b e h => by
  unfold eqS at h
  split at h <;> cases h
theorem op2_eqS {K : PySem.W.Frag} : Op2 K L2.rEq eqS := fun cl I M H da db d x y Fa Fb Q hi hm ra rb e q => by
  unfold eqS at e
  split at e
  · rename_i s t
    cases e
    obtain rfl : x = .str s := ra
    obtain rfl : y = .str t := rb
    refine ⟨rfl, ?_⟩
    rw [show decide (V.str s = V.str t) = decide (s = t) by simp]
    exact scal_ok q rfl
  · cases e
variable {b : Expr} {ga gb : Env → Res D}
theorem jn_eqS (ha : JV X c a ga) (hb : JV X c b gb) : JN X c (.Compare a [.Eq] [b] pos) (gBin eqS ga gb) := jn_cmp L2.op_eq op2_eqS nx_eqS ha hb (nomark _)
end
end PD
noncomputable section
namespace PD
open PySem L2

abbrev Tx := List Char
def sT (t : Tx) : Str := ⟨(t.map Char.toNat).toArray⟩
theorem sT_toList (t : Tx) : (sT t).cps.toList = t.map Char.toNat := by simp [sT]
theorem char_inj {a b : Char} (h : a.toNat = b.toNat) : a = b := Char.toNat_inj.mp h
theorem sT_inj {a b : Tx} (h : sT a = sT b) : a = b := by
  have h1 : a.map Char.toNat = b.map Char.toNat := by rw [← sT_toList, ← sT_toList, h]
  exact (List.map_inj_right (fun _ _ => char_inj)).mp h1
theorem sT_len (t : Tx) : (sT t).length = t.length := by
  show (sT t).cps.size = _
  rw [← Array.length_toList, sT_toList, List.length_map]
theorem sT_app (a b : Tx) : sT a ++ sT b = sT (a ++ b) := by
  show Str.append _ _ = _
  simp [Str.append, sT]
def eI : Int → D := .int
def eB : Bool → D := .bl
def eS (t : Tx) : D := .str (sT t)
def eN (_ : Unit) : D := .non
def eL0 (f : Fl) (_ : Unit) : D := .lst f []
section
variable {α β γ δ : Type}
def eL (f : Fl) (e : α → D) (xs : List α) : D := .lst f (xs.map e)
def eTL (e : α → D) (xs : List α) : D := .tup (xs.map e)
def eKL (e : α → D) (xs : List α) : D := .ktup (xs.map e)
def eT (es : α → List D) (a : α) : D := .tup (es a)
def pn (_ : Unit) : List D := []
def p1 (e : α → D) (a : α) : List D := [e a]
def pc (e : α → D) (es : β → List D) (p : α × β) : List D := e p.1 :: es p.2
def eO (e : α → D) : Option α → D
  | none => .non
  | some a => e a
class Imm (e : α → D) : Prop where h : ∀ a, (e a).imm = true
class ImmL (e : α → List D) : Prop where h : ∀ a, immL (e a) = true
class Dm (e : α → D) (e' : outParam (α → D)) : Prop where h : ∀ a, (e a).dm = e' a
class DmL (e : α → List D) (e' : outParam (α → List D)) : Prop where h : ∀ a, dmL (e a) = e' a
class Fr (e : α → D) (e' : outParam (α → D)) : Prop where h : ∀ a, (e a).fr = e' a
class FrL (e : α → List D) (e' : outParam (α → List D)) : Prop where h : ∀ a, frL (e a) = e' a
class NoOw (e : α → D) : Prop where h : ∀ a, (e a).noOwn = true
class NoBo (e : α → D) : Prop where h : ∀ a, (e a).noBor = true
class NoOwL (e : α → List D) : Prop where h : ∀ a, noOwnL (e a) = true
class NoBoL (e : α → List D) : Prop where h : ∀ a, noBorL (e a) = true
theorem immL_map {e : α → D} (h : ∀ a, (e a).imm = true) : ∀ xs : List α, immL (xs.map e) = true
  | [] => rfl
  | x :: xs => by simp only [List.map_cons, immL, h x, immL_map h xs, Bool.and_self]
theorem noOwnL_map {e : α → D} (h : ∀ a, (e a).noOwn = true) : ∀ xs : List α, noOwnL (xs.map e) = true
  | [] => rfl
  | x :: xs => by simp only [List.map_cons, noOwnL, h x, noOwnL_map h xs, Bool.and_self]
theorem noBorL_map {e : α → D} (h : ∀ a, (e a).noBor = true) : ∀ xs : List α, noBorL (xs.map e) = true
  | [] => rfl
  | x :: xs => by simp only [List.map_cons, noBorL, h x, noBorL_map h xs, Bool.and_self]
theorem dmL_map {e e' : α → D} (h : ∀ a, (e a).dm = e' a) : ∀ xs : List α, dmL (xs.map e) = xs.map e'
  | [] => rfl
  | x :: xs => by simp only [List.map_cons, dmL, h x, dmL_map h xs]
theorem frL_map {e e' : α → D} (h : ∀ a, (e a).fr = e' a) : ∀ xs : List α, frL (xs.map e) = xs.map e'
  | [] => rfl
  | x :: xs => by simp only [List.map_cons, frL, h x, frL_map h xs]
variable {e e' : α → D} {es es' : β → List D} {f : Fl}
instance : Imm eI := ⟨fun _ => rfl⟩
instance : Imm eB := ⟨fun _ => rfl⟩
instance : Imm eS := ⟨fun _ => rfl⟩
instance : Imm eN := ⟨fun _ => rfl⟩
instance : Imm (eL0 .imm) := ⟨fun _ => rfl⟩
instance [Imm e] : Imm (eL .imm e) := ⟨fun a => by simp only [eL, D.imm, immL_map Imm.h, decide_true, Bool.and_self]⟩
instance [Imm e] : Imm (eTL e) := ⟨fun a => by simp only [eTL, D.imm, immL_map Imm.h]⟩
instance [Imm e] : Imm (eKL e) := ⟨fun a => by simp only [eKL, D.imm, immL_map Imm.h]⟩
instance : ImmL pn := ⟨fun _ => rfl⟩
instance [Imm e] : ImmL (p1 e) := ⟨fun a => by simp only [p1, immL, Imm.h a, Bool.and_self]⟩
instance [Imm e] [ImmL es] : ImmL (pc e es) := ⟨fun a => by simp only [pc, immL, Imm.h a.1, ImmL.h a.2, Bool.and_self]⟩
instance [ImmL es] : Imm (eT es) := ⟨fun a => by simp only [eT, D.imm, ImmL.h a]⟩
instance [Imm e] : Imm (eO e) := ⟨fun a => by cases a with | none => rfl | some a => exact Imm.h a⟩
instance immNoOw [Imm e] : NoOw e := ⟨fun a => by
  have := (Imm.h (e := e) a)
  exact (by
    have key : ∀ d : D, d.imm = true → d.noOwn = true := by
      intro d h
      induction d using D.rec (motive_2 := fun ds => immL ds = true → noOwnL ds = true) with
      | non => rfl
      | bl b => rfl
      | int i => rfl
      | str s => rfl
      | tup xs ih => simp only [D.imm] at h; simp only [D.noOwn]; exact ih h
      | ktup xs ih => simp only [D.imm] at h; simp only [D.noOwn]; exact ih h
      | lst f xs ih => simp only [D.imm, Bool.and_eq_true, decide_eq_true_eq] at h; simp only [D.noOwn, ih h.2, h.1]; rfl
      | dk f ks xs ih => simp only [D.imm, Bool.and_eq_true, decide_eq_true_eq] at h; simp only [D.noOwn, ih h.2, h.1]; rfl
      | dt f ks xs ih => simp only [D.imm, Bool.and_eq_true, decide_eq_true_eq] at h; simp only [D.noOwn, ih h.2, h.1]; rfl
      | obj f c ns xs ih => simp only [D.imm, Bool.and_eq_true, decide_eq_true_eq] at h; simp only [D.noOwn, ih h.2, h.1]; rfl
      | nil => rfl
      | cons d ds i1 i2 => rename_i hh; simp only [immL, Bool.and_eq_true] at hh; simp only [noOwnL, i1 hh.1, i2 hh.2, Bool.and_self]
    exact key _ this)⟩
instance immNoBo [Imm e] : NoBo e := ⟨fun a => by
  have := (Imm.h (e := e) a)
  exact (by
    have key : ∀ d : D, d.imm = true → d.noBor = true := by
      intro d h
      induction d using D.rec (motive_2 := fun ds => immL ds = true → noBorL ds = true) with
      | non => rfl
      | bl b => rfl
      | int i => rfl
      | str s => rfl
      | tup xs ih => simp only [D.imm] at h; simp only [D.noBor]; exact ih h
      | ktup xs ih => simp only [D.imm] at h; simp only [D.noBor]; exact ih h
      | lst f xs ih => simp only [D.imm, Bool.and_eq_true, decide_eq_true_eq] at h; simp only [D.noBor, ih h.2, h.1]; rfl
      | dk f ks xs ih => simp only [D.imm, Bool.and_eq_true, decide_eq_true_eq] at h; simp only [D.noBor, ih h.2, h.1]; rfl
      | dt f ks xs ih => simp only [D.imm, Bool.and_eq_true, decide_eq_true_eq] at h; simp only [D.noBor, ih h.2, h.1]; rfl
      | obj f c ns xs ih => simp only [D.imm, Bool.and_eq_true, decide_eq_true_eq] at h; simp only [D.noBor, ih h.2, h.1]; rfl
      | nil => rfl
      | cons d ds i1 i2 => rename_i hh; simp only [immL, Bool.and_eq_true] at hh; simp only [noBorL, i1 hh.1, i2 hh.2, Bool.and_self]
    exact key _ this)⟩
instance [NoOw e] : NoOw (eL .bor e) := ⟨fun a => by simp only [eL, D.noOwn, noOwnL_map NoOw.h]; rfl⟩
instance [NoOw e] : NoOw (eL .frz e) := ⟨fun a => by simp only [eL, D.noOwn, noOwnL_map NoOw.h]; rfl⟩
instance : NoOw (eL0 .bor) := ⟨fun _ => rfl⟩
instance : NoOwL pn := ⟨fun _ => rfl⟩
instance [NoOw e] : NoOwL (p1 e) := ⟨fun a => by simp only [p1, noOwnL, NoOw.h a, Bool.and_self]⟩
instance [NoOw e] [NoOwL es] : NoOwL (pc e es) := ⟨fun a => by simp only [pc, noOwnL, NoOw.h a.1, NoOwL.h a.2, Bool.and_self]⟩
instance [NoOwL es] : NoOw (eT es) := ⟨fun a => by simp only [eT, D.noOwn, NoOwL.h a]⟩
instance [NoOw e] : NoOw (eO e) := ⟨fun a => by cases a with | none => rfl | some a => exact NoOw.h a⟩
instance [NoBo e] : NoBo (eL .own e) := ⟨fun a => by simp only [eL, D.noBor, noBorL_map NoBo.h]; rfl⟩
instance : NoBo (eL0 .own) := ⟨fun _ => rfl⟩
instance : NoBoL pn := ⟨fun _ => rfl⟩
instance [NoBo e] : NoBoL (p1 e) := ⟨fun a => by simp only [p1, noBorL, NoBo.h a, Bool.and_self]⟩
instance [NoBo e] [NoBoL es] : NoBoL (pc e es) := ⟨fun a => by simp only [pc, noBorL, NoBo.h a.1, NoBoL.h a.2, Bool.and_self]⟩
instance [NoBoL es] : NoBo (eT es) := ⟨fun a => by simp only [eT, D.noBor, NoBoL.h a]⟩
instance [NoBo e] : NoBo (eO e) := ⟨fun a => by cases a with | none => rfl | some a => exact NoBo.h a⟩
instance : Dm eI eI := ⟨fun _ => rfl⟩
instance : Dm eB eB := ⟨fun _ => rfl⟩
instance : Dm eS eS := ⟨fun _ => rfl⟩
instance : Dm eN eN := ⟨fun _ => rfl⟩
instance : Dm (eL0 .own) (eL0 .bor) := ⟨fun _ => rfl⟩
instance : Dm (eL0 .imm) (eL0 .imm) := ⟨fun _ => rfl⟩
instance : Dm (eL0 .bor) (eL0 .bor) := ⟨fun _ => rfl⟩
instance [Dm e e'] : Dm (eL .own e) (eL .bor e') := ⟨fun a => by simp only [eL, D.dm, dmL_map Dm.h, Fl.dm]⟩
instance [Dm e e'] : Dm (eL .imm e) (eL .imm e') := ⟨fun a => by simp only [eL, D.dm, dmL_map Dm.h, Fl.dm]⟩
instance [Dm e e'] : Dm (eL .bor e) (eL .bor e') := ⟨fun a => by simp only [eL, D.dm, dmL_map Dm.h, Fl.dm]⟩
instance [Dm e e'] : Dm (eL .frz e) (eL .frz e') := ⟨fun a => by simp only [eL, D.dm, dmL_map Dm.h, Fl.dm]⟩
instance [Dm e e'] : Dm (eTL e) (eTL e') := ⟨fun a => by simp only [eTL, D.dm, dmL_map Dm.h]⟩
instance [Dm e e'] : Dm (eKL e) (eKL e') := ⟨fun a => by simp only [eKL, D.dm, dmL_map Dm.h]⟩
instance : DmL pn pn := ⟨fun _ => rfl⟩
instance [Dm e e'] : DmL (p1 e) (p1 e') := ⟨fun a => by simp only [p1, dmL, Dm.h (e := e)]⟩
instance [Dm e e'] [DmL es es'] : DmL (pc e es) (pc e' es') := ⟨fun a => by simp only [pc, dmL, Dm.h (e := e), DmL.h (e := es)]⟩
instance [DmL es es'] : Dm (eT es) (eT es') := ⟨fun a => by simp only [eT, D.dm, DmL.h (e := es)]⟩
instance [Dm e e'] : Dm (eO e) (eO e') := ⟨fun a => by cases a with | none => rfl | some a => exact Dm.h (e := e) a⟩
instance : Fr eI eI := ⟨fun _ => rfl⟩
instance : Fr eB eB := ⟨fun _ => rfl⟩
instance : Fr eS eS := ⟨fun _ => rfl⟩
instance : Fr eN eN := ⟨fun _ => rfl⟩
instance : Fr (eL0 .own) (eL0 .imm) := ⟨fun _ => rfl⟩
instance : Fr (eL0 .imm) (eL0 .imm) := ⟨fun _ => rfl⟩
instance : Fr (eL0 .bor) (eL0 .bor) := ⟨fun _ => rfl⟩
instance [Fr e e'] : Fr (eL .own e) (eL .imm e') := ⟨fun a => by simp only [eL, D.fr, frL_map Fr.h, Fl.fr]⟩
instance [Fr e e'] : Fr (eL .imm e) (eL .imm e') := ⟨fun a => by simp only [eL, D.fr, frL_map Fr.h, Fl.fr]⟩
instance [Fr e e'] : Fr (eL .bor e) (eL .bor e') := ⟨fun a => by simp only [eL, D.fr, frL_map Fr.h, Fl.fr]⟩
instance [Fr e e'] : Fr (eL .frz e) (eL .frz e') := ⟨fun a => by simp only [eL, D.fr, frL_map Fr.h, Fl.fr]⟩
instance [Fr e e'] : Fr (eTL e) (eTL e') := ⟨fun a => by simp only [eTL, D.fr, frL_map Fr.h]⟩
instance [Fr e e'] : Fr (eKL e) (eKL e') := ⟨fun a => by simp only [eKL, D.fr, frL_map Fr.h]⟩
instance : FrL pn pn := ⟨fun _ => rfl⟩
instance [Fr e e'] : FrL (p1 e) (p1 e') := ⟨fun a => by simp only [p1, frL, Fr.h (e := e)]⟩
instance [Fr e e'] [FrL es es'] : FrL (pc e es) (pc e' es') := ⟨fun a => by simp only [pc, frL, Fr.h (e := e), FrL.h (e := es)]⟩
instance [FrL es es'] : Fr (eT es) (eT es') := ⟨fun a => by simp only [eT, D.fr, FrL.h (e := es)]⟩
instance [Fr e e'] : Fr (eO e) (eO e') := ⟨fun a => by cases a with | none => rfl | some a => exact Fr.h (e := e) a⟩
def Ev (r : Res β) (g : α → β) (t : Res α) : Prop := match t with
  | .ok a => r = .ok (g a)
  | .ex x => r = .ex x
  | .bad => True
theorem Ev.bind {r : Res β} {g : α → β} {t : Res α} {k : β → Res δ} {g' : γ → δ} {kt : α → Res γ} (h : Ev r g t) (hk : ∀ a, Ev (k (g a)) g' (kt a)) : Ev (r >>= k) g' (t >>= kt) := by
  cases t with
  | ok a =>
    have h : r = .ok (g a) := h
    rw [h]
    exact hk a
  | ex x =>
    have h : r = .ex x := h
    rw [h]
    exact rfl
  | bad => exact trivial
theorem Ev.ok {g : α → β} {a : α} : Ev (.ok (g a)) g (.ok a) := rfl
theorem Ev.of {r : Res β} {g : α → β} {a : α} (h : r = .ok (g a)) : Ev r g (.ok a) := h
theorem Ev.get {r : Res β} {g : α → β} {t : Res α} {a : α} (h : Ev r g t) (e : t = .ok a) : r = .ok (g a) := by
  subst e
  exact h
/-- as something else -/
theorem Ev.co {r : Res β} {g : α → β} {g' : γ → β} {t : Res α} (c : α → γ) (hc : ∀ a, g a = g' (c a)) (h : Ev r g t) : Ev r g' (t >>= fun a => .ok (c a)) := by
  cases t with
  | ok a => exact Eq.trans (show r = .ok (g a) from h) (congrArg Res.ok (hc a))
  | ex x => exact h
  | bad => exact trivial
theorem Ev.coP {r : Res β} {g : α → β} {g' : γ → β} {a : α} (c : α → γ) (hc : ∀ a, g a = g' (c a)) (h : Ev r g (.ok a)) : Ev r g' (.ok (c a)) := Ev.co c hc h
/-- back from a tree -/
def un (g : α → β) (d : β) : Res α := open Classical in if h : ∃ a, g a = d then .ok h.choose else .bad
theorem Ev.un {r : Res β} {g : α → β} {t : Res β} (h : Ev r id t) : Ev r g (t >>= un g) := by
  cases t with
  | ok d =>
    have h : r = .ok d := h
    subst h
    show Ev _ _ (PD.un g d)
    unfold PD.un
    split
    · rename_i q
      exact congrArg Res.ok q.choose_spec.symm
    · trivial
  | ex x => exact h
  | bad => trivial
end
end PD
noncomputable section
namespace PD
open PySem L2
section
variable {α β γ δ : Type} {E : Env} {i : Nat} {g ga gb gd : Env → Res D} {e e' e1 e2 e3 : α → D} {a : α} {t : Res α}
/-- under a condition (never decided by computing) -/
def grd {α : Type} (p : Prop) (x : Res α) : Res α := @ite _ p (Classical.propDecidable p) x .bad
theorem grd_ok {α : Type} {p : Prop} {x : Res α} (h : p) : grd p x = x := if_pos h
theorem grd_bad {α : Type} {p : Prop} {x : Res α} (h : ¬ p) : grd p x = .bad := if_neg h
theorem ev_grd {α β : Type} {r : Res β} {g : α → β} {p : Prop} {t : Res α} (h : p → Ev r g t) : Ev r g (grd p t) := by
  by_cases hp : p
  · rw [grd_ok hp]; exact h hp
  · rw [grd_bad hp]; trivial
/-- values in limits -/
def lim {α : Type} (xs : List α) : Res (List α) := grd (xs.length ≤ 16777216) (.ok xs)
theorem lim_ok {xs : List α} (h : xs.length ≤ 16777216) : lim xs = .ok xs := grd_ok h
theorem ev_var (h : E[i]? = some (some (e a))) : Ev (gVar i E) e (.ok a) := by
  unfold gVar Ev
  rw [h]
theorem ev_c {d : D} (h : d = e a) : Ev (gC d E) e (.ok a) := congrArg Res.ok h
theorem ev_dm [Dm e e'] (h : Ev (g E) e t) : Ev (gDm g E) e' t := by
  cases t with
  | ok a =>
    have h : g E = .ok (e a) := h
    show (g E >>= _) = _
    rw [h]
    exact congrArg Res.ok (Dm.h (e := e) a)
  | ex x =>
    have h : g E = .ex x := h
    show (g E >>= _) = _
    rw [h]
    rfl
  | bad => trivial
theorem ev_fr [Fr e e'] (h : Ev (g E) e t) : Ev (gFr g E) e' t := by
  cases t with
  | ok a =>
    have h : g E = .ok (e a) := h
    show (g E >>= _) = _
    rw [h]
    exact congrArg Res.ok (Fr.h (e := e) a)
  | ex x =>
    have h : g E = .ex x := h
    show (g E >>= _) = _
    rw [h]
    rfl
  | bad => trivial
theorem ev_chk [Imm e] (h : Ev (g E) e t) : Ev (gChk g E) e t := by
  cases t with
  | ok a =>
    have h : g E = .ok (e a) := h
    show (g E >>= _) = _
    rw [h]
    show chk (e a) = _
    unfold chk
    rw [if_pos (Imm.h a)]
  | ex x =>
    have h : g E = .ex x := h
    show (g E >>= _) = _
    rw [h]
    rfl
  | bad => trivial
end
section
variable {α β γ δ : Type} {E : Env} {ga gb gd : Env → Res D} {e1 : α → D} {e2 : β → D} {e3 : γ → D}
theorem ev_bin {f : D → D → Res D} {ta : Res α} {tb : Res β} {ft : α → β → Res γ} (hf : ∀ a b, Ev (f (e1 a) (e2 b)) e3 (ft a b)) (ha : Ev (ga E) e1 ta) (hb : Ev (gb E) e2 tb) : Ev (gBin f ga gb E) e3 (ta >>= fun a => tb >>= fun b => ft a b) :=
  ha.bind fun a => hb.bind fun b => hf a b
theorem ev_binp {f : D → D → Res D} {a : α} {b : β} {ft : α → β → Res γ} (hf : ∀ a b, Ev (f (e1 a) (e2 b)) e3 (ft a b)) (ha : Ev (ga E) e1 (.ok a)) (hb : Ev (gb E) e2 (.ok b)) : Ev (gBin f ga gb E) e3 (ft a b) :=
  Ev.bind (kt := fun a => ft a b) ha fun a => Ev.bind (kt := fun b => ft a b) hb fun b => hf a b
theorem ev_un {e2 : β → D} {f : D → Res D} {ta : Res α} {ft : α → Res β} (hf : ∀ a, Ev (f (e1 a)) e2 (ft a)) (ha : Ev (ga E) e1 ta) : Ev (gUn f ga E) e2 (ta >>= fun a => ft a) := ha.bind hf
theorem ev_unp {e2 : β → D} {f : D → Res D} {a : α} {ft : α → Res β} (hf : ∀ a, Ev (f (e1 a)) e2 (ft a)) (ha : Ev (ga E) e1 (.ok a)) : Ev (gUn f ga E) e2 (ft a) := Ev.bind (kt := ft) ha hf
theorem ev_tru {ta : Res α} {ft : α → Res Bool} (hf : ∀ a, Ev (truD (e1 a)) id (ft a)) (ha : Ev (ga E) e1 ta) : Ev (gTru ga E) id (ta >>= fun a => ft a) := ha.bind hf
theorem ev_b {ta : Res Bool} (ha : Ev (ga E) eB ta) : Ev (gB ga E) id ta := by
  cases ta with
  | ok a => have ha : ga E = .ok (.bl a) := ha; show (ga E >>= asB) = _; rw [ha]; rfl
  | ex x => have ha : ga E = .ex x := ha; show (ga E >>= asB) = _; rw [ha]; rfl
  | bad => trivial
def kAnd (a b : Res Bool) : Res Bool := a >>= fun k => if k = true then b else .ok false
def kOr (a b : Res Bool) : Res Bool := a >>= fun k => if k = true then .ok true else b
def kNot (a : Res Bool) : Res Bool := a >>= fun k => .ok (!k)
variable {gt gt2 : Env → Res Bool} {ta tb : Res Bool} {a b : Bool}
theorem ev_ite {β' : Type} {g : β → β'} {k : Bool} {r1 r2 : Res β'} {t1 t2 : Res β} (h1 : Ev r1 g t1) (h2 : Ev r2 g t2) : Ev (if k = true then r1 else r2) g (if k = true then t1 else t2) := by
  cases k
  · exact h2
  · exact h1
theorem ev_and (ha : Ev (gt E) id ta) (hb : Ev (gt2 E) id tb) : Ev (gAnd gt gt2 E) id (kAnd ta tb) := Ev.bind ha fun k => ev_ite hb (Ev.ok (g := id) (a := false))
theorem ev_or (ha : Ev (gt E) id ta) (hb : Ev (gt2 E) id tb) : Ev (gOr gt gt2 E) id (kOr ta tb) := Ev.bind ha fun k => ev_ite (Ev.ok (g := id) (a := true)) hb
theorem ev_not (ha : Ev (gt E) id ta) : Ev (gNot gt E) id (kNot ta) := Ev.bind ha fun k => Ev.ok (g := id) (a := !k)
theorem kAnd_ok : kAnd (.ok a) (.ok b) = .ok (a && b) := by cases a <;> rfl
theorem kOr_ok : kOr (.ok a) (.ok b) = .ok (a || b) := by cases a <;> rfl
theorem asB_eB (k : Bool) : asB (eB k) = .ok k := rfl
theorem ev_andV (ha : Ev (ga E) eB ta) (hb : Ev (gb E) eB tb) : Ev (gAndV ga gb E) eB (kAnd ta tb) := Ev.bind ha fun k => by
  rw [asB_eB]
  exact ev_ite hb (Ev.ok (g := eB) (a := false))
theorem ev_if {g : β → D} {t1 t2 : Res β} (hc : Ev (gt E) id ta) (h1 : Ev (ga E) g t1) (h2 : Ev (gb E) g t2) : Ev (gIf gt ga gb E) g (ta >>= fun k => if k = true then t1 else t2) := Ev.bind hc fun k => ev_ite h1 h2
/-- a <= b <= c -/
theorem ev_chain {x y z : Res Int} (ha : Ev (ga E) eI x) (hb : Ev (gb E) eI y) (hd : Ev (gd E) eI z) : Ev (gChain leD leD ga gb gd E) eB (x >>= fun i => y >>= fun j => if (decide (i ≤ j)) = true then z >>= fun k => .ok (decide (j ≤ k)) else .ok false) :=
  Ev.bind ha fun i => Ev.bind hb fun j => by
    show Ev (Res.ok (D.bl (decide (i ≤ j))) >>= _) _ _
    rw [res_bind_ok, show asB (.bl (decide (i ≤ j))) = .ok (decide (i ≤ j)) from rfl, res_bind_ok]
    exact ev_ite (Ev.bind hd fun k => Ev.ok (g := eB) (a := decide (j ≤ k))) (Ev.ok (g := eB) (a := false))
end
def getO {α : Type} (a : Option α) : Res α := match a with
  | some a => .ok a
  | none => .bad
@[simp] theorem getO_some {α : Type} {a : α} : getO (some a) = .ok a := rfl
theorem ev_orTO {α : Type} {E : Env} {ga gb : Env → Res D} {g : α → D} {f : Option α → Bool} {x : Res (Option α)} {y : Res α} (hf : ∀ a, Ev (truD (eO g a)) id (.ok (f a))) (ha : Ev (ga E) (eO g) x) (hb : Ev (gb E) g y) : Ev (gOrT ga gb E) g (x >>= fun a => if f a = true then getO a else y) := Ev.bind ha fun a => by
  have h : truD (eO g a) = .ok (f a) := hf a
  rw [h, res_bind_ok]
  refine ev_ite ?_ hb
  cases a with
  | none => trivial
  | some a => rfl
section
variable {α β : Type} {e : α → D} {f f' : Fl}
theorem q_mulR {x y : Int} (h : -18446744073709551616 < y ∧ y < 18446744073709551616) : mulA (.int x) (.int y) = .ok (.int (x * y)) := by
  unfold mulA mulD ii
  simp only
  rw [if_pos]
  simp only [Bool.or_eq_true, Bool.and_eq_true, decide_eq_true_eq]
  exact .inr h
theorem q_mulL {x y : Int} (h : -18446744073709551616 < x ∧ x < 18446744073709551616) : mulA (.int x) (.int y) = .ok (.int (x * y)) := by
  unfold mulA mulD ii
  simp only
  rw [if_pos]
  simp only [Bool.or_eq_true, Bool.and_eq_true, decide_eq_true_eq]
  exact .inl h
theorem q_mod {x y : Int} (h : 0 < y) : modD (.int x) (.int y) = .ok (.int (x % y)) := by
  unfold modD ii
  simp only [h, decide_true, if_true]
theorem q_fdiv {x y : Int} (h : 0 < y ∧ y < 1073741824) : fdivD (.int x) (.int y) = .ok (.int (x / y)) := by
  unfold fdivD ii
  simp only [h.1, h.2, decide_true, Bool.and_self, if_true]
theorem op_addI (a b : Int) : Ev (addD (eI a) (eI b)) eI (.ok (a + b)) := rfl
def addS (a b : Tx) : Res Tx := grd (a.length + b.length ≤ 16777216) (.ok (a ++ b))
theorem op_addS (a b : Tx) : Ev (addD (eS a) (eS b)) eS (addS a b) := by
  unfold addS
  refine ev_grd fun h => ?_
  · skip
    refine Eq.trans (if_pos ?_) ?_
    · rw [sT_len, sT_len]; exact h
    · rw [sT_app]; rfl
theorem op_addL [Imm e] (hf : f ≠ .frz) (hf' : f' ≠ .frz) (a b : List α) : Ev (addD (eL f e a) (eL f' e b)) (eL .own e) (lim (a ++ b)) := by
  unfold lim
  refine ev_grd fun h => ?_
  · skip
    have hh : (a.map e).length + (b.map e).length ≤ sizeLine := by simpa [sizeLine] using h
    refine Eq.trans (if_pos ⟨hf, hf', immL_map Imm.h a, immL_map Imm.h b, hh⟩) ?_
    simp only [eL, List.map_append]
theorem op_addTL [Imm e] (a b : List α) : Ev (addD (eTL e a) (eTL e b)) (eTL e) (lim (a ++ b)) := by
  unfold lim
  refine ev_grd fun h => ?_
  · skip
    have hh : (a.map e).length + (b.map e).length ≤ sizeLine := by simpa [sizeLine] using h
    refine Eq.trans (if_pos ⟨immL_map Imm.h a, immL_map Imm.h b, hh⟩) ?_
    simp only [eTL, List.map_append]
/-- a product: one of the two is small -/
def mulI (a b : Int) : Res Int := grd ((-18446744073709551616 < a ∧ a < 18446744073709551616) ∨ (-18446744073709551616 < b ∧ b < 18446744073709551616)) (.ok (a * b))
theorem op_mulI (a b : Int) : Ev (mulA (eI a) (eI b)) eI (mulI a b) := by
  unfold mulI
  refine ev_grd fun h => ?_
  · skip
    refine if_pos ?_
    simp only [Bool.or_eq_true, Bool.and_eq_true, decide_eq_true_eq]
    exact h
/-- by a small number of the text -/
theorem op_mulIc (c : Int) (h : (decide (-18446744073709551616 < c) && decide (c < 18446744073709551616)) = true) (a : Int) : Ev (mulA (eI a) (eI c)) eI (.ok (a * c)) := by
  rw [Bool.and_eq_true, decide_eq_true_eq, decide_eq_true_eq] at h
  exact q_mulR h
theorem op_mulcI (c : Int) (h : (decide (-18446744073709551616 < c) && decide (c < 18446744073709551616)) = true) (a : Int) : Ev (mulA (eI c) (eI a)) eI (.ok (c * a)) := by
  rw [Bool.and_eq_true, decide_eq_true_eq, decide_eq_true_eq] at h
  exact q_mulL h
def modI (a b : Int) : Res Int := grd (0 < b) (.ok (a % b))
def divI (a b : Int) : Res Int := grd (0 < b ∧ b < 1073741824) (.ok (a / b))
theorem op_modI (a b : Int) : Ev (modD (eI a) (eI b)) eI (modI a b) := by
  unfold modI
  refine ev_grd fun h => ?_
  · exact q_mod h
theorem op_modIc (c : Int) (h : decide (0 < c) = true) (a : Int) : Ev (modD (eI a) (eI c)) eI (.ok (a % c)) := q_mod (of_decide_eq_true h)
theorem op_divI (a b : Int) : Ev (fdivD (eI a) (eI b)) eI (divI a b) := by
  unfold divI
  refine ev_grd fun h => ?_
  · exact q_fdiv h
theorem op_divIc (c : Int) (h : (decide (0 < c) && decide (c < 1073741824)) = true) (a : Int) : Ev (fdivD (eI a) (eI c)) eI (.ok (a / c)) := by
  rw [Bool.and_eq_true, decide_eq_true_eq, decide_eq_true_eq] at h
  exact q_fdiv h
theorem op_lt (a b : Int) : Ev (ltD (eI a) (eI b)) eB (.ok (decide (a < b))) := rfl
theorem op_le (a b : Int) : Ev (leD (eI a) (eI b)) eB (.ok (decide (a ≤ b))) := rfl
theorem op_gt (a b : Int) : Ev (gtD (eI a) (eI b)) eB (.ok (decide (a > b))) := rfl
theorem op_ge (a b : Int) : Ev (geD (eI a) (eI b)) eB (.ok (decide (a ≥ b))) := rfl
theorem op_abs (a : Int) : Ev (absD (eI a)) eI (.ok (if a < 0 then -a else a)) := rfl
theorem op_int (a : Int) : Ev (intD (eI a)) eI (.ok a) := rfl
theorem op_neg (a : Int) : Ev (negD (eI a)) eI (.ok (-a)) := rfl
theorem op_max (a b : Int) : Ev (maxD (eI a) (eI b)) eI (.ok (if b > a then b else a)) := rfl
theorem tru_B (a : Bool) : Ev (truD (eB a)) id (.ok a) := rfl
theorem tru_L (a : List α) : Ev (truD (eL f e a)) id (.ok (!a.isEmpty)) := by
  show Res.ok (!(a.map e).isEmpty) = _
  rw [List.isEmpty_map]
  rfl
theorem tru_OL (a : Option (List α)) : Ev (truD (eO (eL f e) a)) id (.ok (!(a.getD []).isEmpty)) := by
  cases a with
  | none => rfl
  | some a => exact tru_L a
theorem op_lenL (a : List α) : Ev (lenD (eL f e a)) eI (.ok (a.length : Int)) := by
  show Res.ok (D.int ((a.map e).length : Int)) = _
  rw [List.length_map]
  rfl
class LenL (es : α → List D) (n : outParam Nat) : Prop where h : ∀ a, (es a).length = n
instance : LenL pn 0 := ⟨fun _ => rfl⟩
instance : LenL (p1 e) 1 := ⟨fun _ => rfl⟩
instance {es : β → List D} {n : Nat} [LenL es n] : LenL (pc e es) (n + 1) := ⟨fun a => congrArg (· + 1) (LenL.h (es := es) a.2)⟩
def lenS (t : Tx) : Res Int := grd (t.length ≤ 16777216) (.ok t.length)
theorem op_lenS (t : Tx) : Ev (lenD (eS t)) eI (lenS t) := by
  unfold lenS
  refine ev_grd fun h => ?_
  · skip
    refine Eq.trans (if_pos ?_) ?_
    · rw [sT_len]; exact h
    · rw [sT_len]; rfl
def ixL (xs : List α) (i : Int) : Res α := atR (atI xs i)
theorem atI_map {γ : Type} (h : α → γ) (xs : List α) (i : Int) : atI (xs.map h) i = (atI xs i).map h := by
  unfold atI
  rw [List.length_map]
  cases ixN xs.length i with
  | none => rfl
  | some j => simp
theorem ev_at {γ : Type} (h : α → γ) (xs : List α) (i : Int) : Ev (atR (atI (xs.map h) i)) h (ixL xs i) := by
  rw [atI_map]
  unfold ixL
  cases atI xs i with
  | none => trivial
  | some a => rfl
theorem op_ixL (xs : List α) (i : Int) : Ev (ixD (eL f e xs) (eI i)) e (ixL xs i) := ev_at e xs i
theorem op_ixTL (xs : List α) (i : Int) : Ev (ixD (eTL e xs) (eI i)) e (ixL xs i) := ev_at e xs i
def ixS (t : Tx) (i : Int) : Res Tx := grd (t.length ≤ 16777216) (ixL t i >>= fun c => .ok [c])
theorem op_ixS (t : Tx) (i : Int) : Ev (ixD (eS t) (eI i)) eS (ixS t i) := by
  unfold ixS
  refine ev_grd fun h => ?_
  · skip
    have e1 : ixD (eS t) (eI i) = (atR (atI (sT t).cps.toList i) >>= fun k => .ok (.str ⟨#[k]⟩)) := if_pos (by rw [sT_len]; exact h)
    rw [e1, sT_toList]
    exact Ev.bind (ev_at Char.toNat t i) fun c => rfl
def cutL (xs : List α) (lo hi : Option Int) : List α := (xs.drop (HT.sIx xs.length 0 lo)).take (HT.sIx xs.length xs.length hi - HT.sIx xs.length 0 lo)
theorem cutD_map (xs : List α) (lo hi : Option Int) : cutD (xs.map e) lo hi = (cutL xs lo hi).map e := by
  unfold cutD cutL
  simp only [List.length_map, List.map_take, List.map_drop]
theorem op_slL [Imm e] (xs : List α) (lo hi : Option Int) : Ev (slD (eL f e xs) lo hi) (eL .own e) (.ok (cutL xs lo hi)) := by
  refine Eq.trans (if_pos (immL_map Imm.h xs)) ?_
  rw [cutD_map]
  rfl
def slS (t : Tx) (lo hi : Option Int) : Res Tx := grd (t.length ≤ 16777216) (.ok (cutL t lo hi))
theorem op_slS (t : Tx) (lo hi : Option Int) : Ev (slD (eS t) lo hi) eS (slS t lo hi) := by
  unfold slS
  refine ev_grd fun h => ?_
  · skip
    refine Eq.trans (if_pos (by rw [sT_len]; exact h)) ?_
    have : cutS (sT t) lo hi = sT (cutL t lo hi) := by
      unfold cutS cutL
      rw [sT_len, sT_toList]
      simp only [sT, List.map_take, List.map_drop]
    rw [this]
    rfl
theorem cutL_take (xs : List α) (n : Nat) : cutL xs none (some (n : Int)) = xs.take n := by
  unfold cutL
  rw [HT.sIx_none, HT.sIx_nat]
  simp only [List.drop_zero, Nat.sub_zero]
  rcases Nat.le_total n xs.length with h | h
  · rw [Nat.min_eq_left h]
  · rw [Nat.min_eq_right h, List.take_length, List.take_of_length_le h]
theorem cutL_drop (xs : List α) (n : Nat) : cutL xs (some (n : Int)) none = xs.drop n := by
  unfold cutL
  rw [HT.sIx_none, HT.sIx_nat]
  rcases Nat.le_total n xs.length with h | h
  · rw [Nat.min_eq_left h, List.take_of_length_le (by simp)]
  · rw [Nat.min_eq_right h, List.drop_length, List.drop_eq_nil_of_le h]
    simp
theorem cutL_mid (xs : List α) (a b : Nat) : cutL xs (some (a : Int)) (some (b : Int)) = (xs.drop a).take (b - a) := by
  unfold cutL
  rw [HT.sIx_nat, HT.sIx_nat]
  rcases Nat.le_total a xs.length with h | h
  · rw [Nat.min_eq_left h]
    rcases Nat.le_total b xs.length with h2 | h2
    · rw [Nat.min_eq_left h2]
    · rw [Nat.min_eq_right h2, List.take_of_length_le (by simp), List.take_of_length_le (by simp; omega)]
  · rw [Nat.min_eq_right h, List.drop_length, List.drop_eq_nil_of_le h]
    simp
variable {E : Env} {ga : Env → Res D} {γ : Type}
theorem ev_o {t : Res Int} (h : Ev (ga E) eI t) : Ev (gO ga E) id (t >>= fun i => .ok (some i)) := Ev.bind h fun i => rfl
theorem ev_op {i : Int} (h : Ev (ga E) eI (.ok i)) : Ev (gO ga E) id (.ok (some i)) := ev_o h
theorem ev_o0 : Ev (gO0 E) id (.ok none) := rfl
theorem ev_sl {gl gh : GO} {e1 : α → D} {e2 : γ → D} {ta : Res α} {tl th : Res (Option Int)} {ft : α → Option Int → Option Int → Res γ} (hf : ∀ a lo hi, Ev (slD (e1 a) lo hi) e2 (ft a lo hi)) (ha : Ev (ga E) e1 ta) (hl : Ev (gl E) id tl) (hh : Ev (gh E) id th) :
    Ev (gSl ga gl gh E) e2 (ta >>= fun a => tl >>= fun lo => th >>= fun hi => ft a lo hi) := Ev.bind ha fun a => Ev.bind hl fun lo => Ev.bind hh fun hi => hf a lo hi
theorem ev_nil : Ev (gNil E) (List.map e) (.ok []) := rfl
theorem ev_cons {gs : Env → Res (List D)} {ta : Res α} {ts : Res (List α)} (ha : Ev (ga E) e ta) (hs : Ev (gs E) (List.map e) ts) : Ev (gCons ga gs E) (List.map e) (ta >>= fun a => ts >>= fun s => .ok (a :: s)) := Ev.bind ha fun a => Ev.bind hs fun s => rfl
theorem ev_consp {gs : Env → Res (List D)} {a : α} {s : List α} (ha : Ev (ga E) e (.ok a)) (hs : Ev (gs E) (List.map e) (.ok s)) : Ev (gCons ga gs E) (List.map e) (.ok (a :: s)) := ev_cons ha hs
theorem ev_tone {ta : Res α} (ha : Ev (ga E) e ta) : Ev (gCons ga gNil E) (p1 e) ta := by
  have := Ev.bind (k := fun d => Res.ok (d :: [])) (g' := p1 e) (kt := fun a => .ok a) ha fun a => rfl
  cases ta <;> exact this
theorem ev_tcons {gs : Env → Res (List D)} {es : β → List D} {ta : Res α} {ts : Res β} (ha : Ev (ga E) e ta) (hs : Ev (gs E) es ts) : Ev (gCons ga gs E) (pc e es) (ta >>= fun a => ts >>= fun s => .ok (a, s)) := Ev.bind ha fun a => Ev.bind hs fun s => rfl
theorem ev_tconsp {gs : Env → Res (List D)} {es : β → List D} {a : α} {s : β} (ha : Ev (ga E) e (.ok a)) (hs : Ev (gs E) es (.ok s)) : Ev (gCons ga gs E) (pc e es) (.ok (a, s)) := ev_tcons ha hs
theorem ev_one {ta : Res α} (ha : Ev (ga E) e ta) : Ev (gOne ga E) (p1 e) ta := ev_tone ha
theorem ev_tup {gs : Env → Res (List D)} {es : α → List D} {n : Nat} [ImmL es] [LenL es n] {ta : Res α} (h : Ev (gs E) es ta) (hn : Nat.ble n 1000 = true) : Ev (gTup gs E) (eT es) ta := by
  have := Ev.bind (k := fun ds => if immL ds ∧ ds.length ≤ sizeLine then .ok (.tup ds) else .bad) (g' := eT es) (kt := fun a => .ok a) h fun a => Ev.of <| if_pos ⟨ImmL.h a, by
    rw [LenL.h a]
    have := Nat.le_of_ble_eq_true hn
    have : sizeLine = 16777216 := rfl
    omega⟩
  cases ta <;> exact this
theorem ev_lst {gs : Env → Res (List D)} [Imm e] {t : Res (List α)} (h : Ev (gs E) (List.map e) t) : Ev (gLst gs E) (eL .own e) (t >>= lim) := Ev.bind h fun a => by
  by_cases hl : a.length ≤ 16777216
  · rw [lim_ok hl]
    exact Ev.of <| if_pos ⟨immL_map Imm.h a, by rw [List.length_map]; exact hl⟩
  · rw [show lim a = .bad from grd_bad hl]
    trivial
/-- a display of known length -/
theorem ev_lstp {gs : Env → Res (List D)} [Imm e] {s : List α} (h : Ev (gs E) (List.map e) (.ok s)) (hn : Nat.ble s.length 1000 = true) : Ev (gLst gs E) (eL .own e) (.ok s) := by
  have := ev_lst h
  rw [res_bind_ok, lim_ok (by have := Nat.le_of_ble_eq_true hn; omega)] at this
  exact this
theorem lst_nil : gLst gNil E = .ok (.lst .own []) := by
  show (if immL [] = true ∧ ([] : List D).length ≤ sizeLine then Res.ok (D.lst .own []) else Res.bad) = _
  rw [if_pos ⟨rfl, Nat.zero_le _⟩]
theorem ev_lst0 : Ev (gLst gNil E) (eL .own e) (.ok []) := lst_nil
theorem ev_lst00 : Ev (gLst gNil E) (eL0 .own) (.ok ()) := lst_nil
theorem ev_lstO {gs : Env → Res (List D)} {t : Res (List α)} (h : Ev (gs E) (List.map e) t) : Ev (gLstO gs E) (eL .own e) (t >>= lim) := Ev.bind h fun a => by
  by_cases hl : a.length ≤ 16777216
  · rw [lim_ok hl]
    exact Ev.of <| if_pos (by rw [List.length_map]; exact hl)
  · rw [show lim a = .bad from grd_bad hl]
    trivial
theorem ev_lstOp {gs : Env → Res (List D)} {s : List α} (h : Ev (gs E) (List.map e) (.ok s)) (hn : Nat.ble s.length 1000 = true) : Ev (gLstO gs E) (eL .own e) (.ok s) := by
  have := ev_lstO h
  rw [res_bind_ok, lim_ok (by have := Nat.le_of_ble_eq_true hn; omega)] at this
  exact this
theorem op_it {st : Bool} [NoOw e] (h : f ≠ .own ∨ st = false) (xs : List α) : Ev (itD st (eL f e xs)) (List.map e) (.ok xs) := Ev.of <| if_pos ⟨h, noOwnL_map NoOw.h xs⟩
theorem op_itTL {st : Bool} [NoOw e] (xs : List α) : Ev (itD st (eTL e xs)) (List.map e) (.ok xs) := Ev.of <| if_pos (noOwnL_map NoOw.h xs)
def chT (t : Tx) : List Tx := t.map fun c => [c]
theorem op_itS {st : Bool} (t : Tx) : Ev (itD st (eS t)) (List.map eS) (.ok (chT t)) := by
  show Res.ok (chars (sT t)) = _
  unfold chars chT
  rw [sT_toList, List.map_map, List.map_map]
  rfl
theorem ev_it {st : Bool} {e1 : α → D} {ta : Res α} {ft : α → Res (List β)} {e2 : β → D} (hf : ∀ a, Ev (itD st (e1 a)) (List.map e2) (ft a)) (ha : Ev (ga E) e1 ta) : Ev (gIt st ga E) (List.map e2) (ta >>= fun a => ft a) := Ev.bind ha hf
theorem ev_itp {st : Bool} {e1 : α → D} {a : α} {ft : α → Res (List β)} {e2 : β → D} (hf : ∀ a, Ev (itD st (e1 a)) (List.map e2) (ft a)) (ha : Ev (ga E) e1 (.ok a)) : Ev (gIt st ga E) (List.map e2) (ft a) := Ev.bind (kt := ft) ha hf
/-- range -/
def rngL (lo : Int) (n : Nat) : List Int := (List.range n).map fun (i : Nat) => lo + i
def rng1 (j : Int) : Res (List Int) := grd (-4611686018427387904 ≤ j ∧ j < 4611686018427387904) (.ok (rngL 0 j.toNat))
theorem intsD_rng (lo : Int) (n : Nat) : intsD lo n = (rngL lo n).map eI := by
  unfold intsD rngL
  rw [List.map_map]
  rfl
theorem rngOk_of {i : Int} (h : -4611686018427387904 ≤ i ∧ i < 4611686018427387904) : rngOk i = true := by
  unfold rngOk
  exact @decide_eq_true _ (Classical.propDecidable _) h
theorem ev_rng1 {t : Res Int} (h : Ev (ga E) eI t) : Ev (gRng1 ga E) (List.map eI) (t >>= rng1) := Ev.bind h fun j => by
  unfold rng1
  refine ev_grd fun hj => ?_
  · skip
    show (asI (.int j) >>= _) = _
    simp only [asI, res_bind_ok, rngOk_of hj, if_true, intsD_rng]
theorem ev_rng1p {j : Int} (h : Ev (ga E) eI (.ok j)) : Ev (gRng1 ga E) (List.map eI) (rng1 j) := ev_rng1 h
def lcT (c : α → Res Bool) (b : α → Res β) : List α → Res (List β)
  | [] => .ok []
  | x :: xs => match c x with
    | .ok k => if k = true then (match b x with
        | .ok y => lcT c b xs >>= fun ys => .ok (y :: ys)
        | _ => .bad) else lcT c b xs
    | _ => .bad
def kLc (xs : List α) (c : α → Res Bool) (b : α → Res β) : Res (List β) := lcT c b xs >>= lim
theorem lcT_pure (c : α → Bool) (b : α → β) : ∀ xs : List α, lcT (fun x => .ok (c x)) (fun x => .ok (b x)) xs = .ok ((xs.filter c).map b)
  | [] => rfl
  | x :: xs => by
    unfold lcT
    rw [lcT_pure c b xs]
    cases h : c x with
    | true => simp [h]
    | false => simp [h]
theorem kLc_pure (c : α → Bool) (b : α → β) (xs : List α) : kLc xs (fun x => .ok (c x)) (fun x => .ok (b x)) = lim ((xs.filter c).map b) := by
  unfold kLc
  rw [lcT_pure]
  rfl
theorem kLc_map (b : α → β) (xs : List α) : kLc xs (fun _ => .ok true) (fun x => .ok (b x)) = lim (xs.map b) := by
  have := kLc_pure (fun _ => true) b xs
  rw [List.filter_eq_self.mpr (fun _ _ => rfl)] at this
  exact this
theorem kLc_of {c : α → Res Bool} {b : α → Res β} {c' : α → Bool} {b' : α → β} {xs : List α} (hc : ∀ x ∈ xs, c x = .ok (c' x)) (hb : ∀ x ∈ xs, c' x = true → b x = .ok (b' x)) : kLc xs c b = lim ((xs.filter c').map b') := by
  unfold kLc
  have : lcT c b xs = .ok ((xs.filter c').map b') := by
    induction xs with
    | nil => rfl
    | cons x xs ih =>
      unfold lcT
      rw [hc x List.mem_cons_self, ih (fun y hy => hc y (List.mem_cons_of_mem _ hy)) (fun y hy => hb y (List.mem_cons_of_mem _ hy))]
      cases h : c' x with
      | true => simp [h, hb x List.mem_cons_self h]
      | false => simp [h]
  rw [this]
  rfl
theorem ev_lcS {ud : D → Env → Res Env} {gt : Env → Res Bool} {ge : Env → Res D} {e2 e3 : β → D} [Fr e2 e3] {tc : α → Res Bool} {tb : α → Res β} (h : ∀ x, ∃ E2, ud (e x) E = .ok E2 ∧ Ev (gt E2) id (tc x) ∧ Ev (ge E2) e2 (tb x)) : ∀ xs : List α, Ev (lcS ud gt ge E (xs.map e)) (List.map e3) (lcT tc tb xs)
  | [] => rfl
  | x :: xs => by
    obtain ⟨E2, h1, h2, h3⟩ := h x
    have ih := ev_lcS h xs
    rw [List.map_cons]
    unfold lcS lcT
    rw [h1]
    cases hc : tc x with
    | ok k =>
      rw [hc] at h2
      have h2 : gt E2 = .ok k := h2
      simp only [h2]
      cases k with
      | true =>
        simp only [if_true]
        cases hb : tb x with
        | ok y =>
          rw [hb] at h3
          have h3 : ge E2 = .ok (e2 y) := h3
          simp only [h3]
          exact Ev.bind ih fun ys => congrArg (fun z => Res.ok (z :: ys.map e3)) (Fr.h (e := e2) y)
        | ex _ => trivial
        | bad => trivial
      | false =>
        simp only [Bool.false_eq_true, if_false]
        exact ih
    | ex _ => trivial
    | bad => trivial
theorem ev_lc {gi : Env → Res (List D)} {vs : List Nat} {ud : D → Env → Res Env} {gt : Env → Res Bool} {ge : Env → Res D} {e2 e3 : β → D} [Fr e2 e3] [Imm e3] {txs : Res (List α)} {tc : α → Res Bool} {tb : α → Res β} (hi : Ev (gi E) (List.map e) txs)
    (h : ∀ x, ∃ E2, ud (e x) (wipeE E vs) = .ok E2 ∧ Ev (gt E2) id (tc x) ∧ Ev (ge E2) e2 (tb x)) : Ev (gLc gi vs ud gt ge E) (eL .own e3) (txs >>= fun xs => kLc xs tc tb) := Ev.bind hi fun xs => Ev.bind (ev_lcS h xs) fun ys => by
  by_cases hl : ys.length ≤ 16777216
  · rw [lim_ok hl]
    exact Ev.of <| if_pos ⟨immL_map Imm.h ys, by rw [List.length_map]; exact hl⟩
  · rw [show lim ys = .bad from grd_bad hl]
    trivial
theorem ev_lcp {gi : Env → Res (List D)} {vs : List Nat} {ud : D → Env → Res Env} {gt : Env → Res Bool} {ge : Env → Res D} {e2 e3 : β → D} [Fr e2 e3] [Imm e3] {xs : List α} {tc : α → Res Bool} {tb : α → Res β} (hi : Ev (gi E) (List.map e) (.ok xs))
    (h : ∀ x, ∃ E2, ud (e x) (wipeE E vs) = .ok E2 ∧ Ev (gt E2) id (tc x) ∧ Ev (ge E2) e2 (tb x)) : Ev (gLc gi vs ud gt ge E) (eL .own e3) (kLc xs tc tb) := ev_lc hi h
theorem ev_yes : Ev (gYes E) id (.ok true) := rfl
theorem ud_name {i : Nat} [NoOw e] {x : α} (h : Nat.ble (i + 1) E.length = true) : udName i (e x) E = .ok (E.set i (some (e x))) := if_pos ⟨Nat.le_of_ble_eq_true h, NoOw.h x⟩
theorem ud_one {ud : D → Env → Res Env} {x : α} {E1 : Env} (h : ud (e x) E = .ok E1) : udCons ud udNil (p1 e x) E = .ok E1 := by
  show (ud (e x) E >>= _) = _
  rw [h]
  rfl
theorem ud_cons {ud : D → Env → Res Env} {uds : List D → Env → Res Env} {es : β → List D} {x : α × β} {E1 E2 : Env} (h : ud (e x.1) E = .ok E1) (h2 : uds (es x.2) E1 = .ok E2) : udCons ud uds (pc e es x) E = .ok E2 := by
  show (ud (e x.1) E >>= _) = _
  rw [h]
  exact h2
theorem ud_tup {uds : List D → Env → Res Env} {es : α → List D} [NoOwL es] {x : α} {E1 : Env} (h : uds (es x) E = .ok E1) : udTup uds (eT es x) E = .ok E1 := Eq.trans (if_pos (NoOwL.h x)) h
end
end PD
noncomputable section
namespace PD
open PySem L2
inductive TR (σ lam ρ : Type) where
  | nx (s : σ) | rt (r : ρ) | bk (s : lam) | ct (s : lam) | ex (e : Exc) | bad
section
variable {α β γ δ σ τ lam ρ : Type}
def SR (o : Out) (Rn : σ → Env → Prop) (Rl : lam → Env → Prop) (X : Option ρ → Env → Prop) (er : ρ → D) (t : TR σ lam ρ) : Prop := match t with
  | .nx s => ∃ E, o = .nx E ∧ Rn s E
  | .rt r => ∃ E, o = .rt (er r) E ∧ X (some r) E
  | .bk s => ∃ E, o = .bk E ∧ Rl s E
  | .ct s => ∃ E, o = .ct E ∧ Rl s E
  | .ex x => ∃ E, o = .ex x E ∧ X none E
  | .bad => True
def kLet (t : Res α) (k : α → TR σ lam ρ) : TR σ lam ρ := match t with
  | .ok a => k a
  | .ex x => .ex x
  | .bad => .bad
def kIf (t : Res Bool) (x y : TR σ lam ρ) : TR σ lam ρ := kLet t fun k => if k = true then x else y
def kSeq (t : TR σ lam ρ) (k : σ → TR τ lam ρ) : TR τ lam ρ := match t with
  | .nx s => k s
  | .rt r => .rt r
  | .bk s => .bk s
  | .ct s => .ct s
  | .ex x => .ex x
  | .bad => .bad
def kRet (t : Res ρ) : TR σ lam ρ := kLet t .rt
def kFor (body : α → σ → TR σ σ ρ) : List α → σ → TR σ lam ρ
  | [], s => .nx s
  | x :: xs, s => match body x s with
    | .nx s => kFor body xs s
    | .ct s => kFor body xs s
    | .bk s => .nx s
    | .rt r => .rt r
    | .ex x => .ex x
    | .bad => .bad
def kWhile (c : σ → Res Bool) (body : σ → TR σ σ ρ) : Nat → σ → TR σ lam ρ
  | 0, _ => .bad
  | n + 1, s => match c s with
    | .ok true => match body s with
      | .nx s => kWhile c body n s
      | .ct s => kWhile c body n s
      | .bk s => .nx s
      | .rt r => .rt r
      | .ex x => .ex x
      | .bad => .bad
    | .ok false => .nx s
    | .ex x => .ex x
    | .bad => .bad
def kEnd (t : TR ρ Empty ρ) : Res ρ := match t with
  | .nx r => .ok r
  | .rt r => .ok r
  | .ex x => .ex x
  | _ => .bad
@[simp] theorem kLet_ok {a : α} {k : α → TR σ lam ρ} : kLet (.ok a) k = k a := rfl
@[simp] theorem kLet_ex {x : Exc} {k : α → TR σ lam ρ} : kLet (.ex x) k = .ex x := rfl
@[simp] theorem kLet_bad {k : α → TR σ lam ρ} : kLet .bad k = .bad := rfl
@[simp] theorem kIf_ok {b : Bool} {x y : TR σ lam ρ} : kIf (.ok b) x y = if b = true then x else y := rfl
@[simp] theorem kSeq_nx {s : σ} {k : σ → TR τ lam ρ} : kSeq (.nx s) k = k s := rfl
@[simp] theorem kSeq_rt {r : ρ} {k : σ → TR τ lam ρ} : kSeq (.rt r) k = .rt r := rfl
@[simp] theorem kSeq_ex {x : Exc} {k : σ → TR τ lam ρ} : kSeq (.ex x) k = .ex x := rfl
@[simp] theorem kSeq_bk {s : lam} {k : σ → TR τ lam ρ} : kSeq (.bk s) k = .bk s := rfl
@[simp] theorem kSeq_ct {s : lam} {k : σ → TR τ lam ρ} : kSeq (.ct s) k = .ct s := rfl
@[simp] theorem kSeq_if {b : Bool} {x y : TR σ lam ρ} {k : σ → TR τ lam ρ} : kSeq (if b = true then x else y) k = if b = true then kSeq x k else kSeq y k := by cases b <;> rfl
@[simp] theorem kRet_ok {r : ρ} : (kRet (.ok r) : TR σ lam ρ) = .rt r := rfl
@[simp] theorem kRet_ex {x : Exc} : (kRet (.ex x) : TR σ lam ρ) = .ex x := rfl
@[simp] theorem kFor_nil {body : α → σ → TR σ σ ρ} {s : σ} : (kFor body [] s : TR σ lam ρ) = .nx s := rfl
theorem kFor_cons {body : α → σ → TR σ σ ρ} {x : α} {xs : List α} {s s' : σ} (h : body x s = .nx s') : (kFor body (x :: xs) s : TR σ lam ρ) = kFor body xs s' := by rw [kFor, h]
theorem kFor_cons_ct {body : α → σ → TR σ σ ρ} {x : α} {xs : List α} {s s' : σ} (h : body x s = .ct s') : (kFor body (x :: xs) s : TR σ lam ρ) = kFor body xs s' := by rw [kFor, h]
theorem kFor_cons_rt {body : α → σ → TR σ σ ρ} {x : α} {xs : List α} {s : σ} {r : ρ} (h : body x s = .rt r) : (kFor body (x :: xs) s : TR σ lam ρ) = .rt r := by rw [kFor, h]
theorem kFor_cons_ex {body : α → σ → TR σ σ ρ} {x : α} {xs : List α} {s : σ} {r : Exc} (h : body x s = .ex r) : (kFor body (x :: xs) s : TR σ lam ρ) = .ex r := by rw [kFor, h]
theorem kFor_cons_bk {body : α → σ → TR σ σ ρ} {x : α} {xs : List α} {s s' : σ} (h : body x s = .bk s') : (kFor body (x :: xs) s : TR σ lam ρ) = .nx s' := by rw [kFor, h]
@[simp] theorem kEnd_nx {r : ρ} : kEnd (.nx r) = .ok r := rfl
@[simp] theorem kEnd_rt {r : ρ} : kEnd (.rt r) = .ok r := rfl
@[simp] theorem kEnd_ex {x : Exc} : (kEnd (.ex x) : Res ρ) = .ex x := rfl
@[simp] theorem kEnd_if {b : Bool} {x y : TR ρ Empty ρ} : kEnd (if b = true then x else y) = if b = true then kEnd x else kEnd y := by cases b <;> rfl

variable {E : Env} {i : Nat} {Rn : σ → Env → Prop} {Rl : lam → Env → Prop} {X : Option ρ → Env → Prop} {er : ρ → D} {r : Env → Out} {e : α → D} {t : Res α} {k : α → TR σ lam ρ} {g : Env → Res D}
/-- nothing is wished of the environment at an exception -/
def XT {ρ : Type} : Option ρ → Env → Prop := fun _ _ => True
theorem xt {ρ : Type} {o : Option ρ} {E : Env} : XT o E := trivial
theorem seq_nil (s : Env → Out) : seqS s nilS E = s E := by
  unfold seqS nilS
  cases s E <;> rfl
theorem sr_last {s : Env → Out} {t : TR σ lam ρ} (h : SR (seqS s nilS E) Rn Rl X er t) : SR (s E) Rn Rl X er t := by
  rw [← seq_nil s]
  exact h
theorem seq_assoc (a b c : Env → Out) : seqS (seqS a b) c E = seqS a (seqS b c) E := by
  unfold seqS
  cases a E <;> rfl
theorem sr_assoc {a b : Env → Out} {t : TR σ lam ρ} (h : SR (seqS a (seqS b r) E) Rn Rl X er t) : SR (seqS (seqS a b) r E) Rn Rl X er t := by
  rw [seq_assoc]
  exact h
theorem sr_nil {s : σ} (h : Rn s E) : SR (nilS E) Rn Rl X er (.nx s) := ⟨E, rfl, h⟩
/-- behind a statement that does nothing -/
theorem sr_pass {t : TR σ lam ρ} (h : SR (r E) Rn Rl X er t) : SR (seqS nilS r E) Rn Rl X er t := h
theorem seq_nx {s : Env → Out} {E1 : Env} (h : s E = .nx E1) : seqS s r E = r E1 := by unfold seqS; rw [h]
theorem seq_ex {s : Env → Out} {E1 : Env} {x : Exc} (h : s E = .ex x E1) : seqS s r E = .ex x E1 := by unfold seqS; rw [h]
theorem sr_asg (hx : X none E) (hg : Ev (g E) e t) (hl : Nat.ble (i + 1) E.length = true) (hk : ∀ a, SR (r (E.set i (some (e a)))) Rn Rl X er (k a)) : SR (seqS (asgS i g) r E) Rn Rl X er (kLet t k) := by
  have hl := Nat.le_of_ble_eq_true hl
  cases t with
  | ok a =>
    have hg : g E = .ok (e a) := hg
    rw [seq_nx (show asgS i g E = .nx (E.set i (some (e a))) by unfold asgS; rw [hg]; exact if_pos hl)]
    exact hk a
  | ex x =>
    have hg : g E = .ex x := hg
    rw [seq_ex (show asgS i g E = .ex x E by unfold asgS; rw [hg])]
    exact ⟨E, rfl, hx⟩
  | bad => trivial
theorem sr_asgV [NoOw e] (hx : X none E) (hg : Ev (g E) e t) (hl : Nat.ble (i + 1) E.length = true) (hk : ∀ a, SR (r (E.set i (some (e a)))) Rn Rl X er (k a)) : SR (seqS (asgVS i g) r E) Rn Rl X er (kLet t k) := by
  have hl := Nat.le_of_ble_eq_true hl
  unfold seqS asgVS
  cases t with
  | ok a =>
    have hg : g E = .ok (e a) := hg
    simp only [hg, if_pos (show i < E.length ∧ (e a).noOwn = true from ⟨hl, NoOw.h a⟩)]
    exact hk a
  | ex x =>
    have hg : g E = .ex x := hg
    simp only [hg]
    exact ⟨E, rfl, hx⟩
  | bad => trivial
theorem sr_unp {ud : D → Env → Res Env} {Ex : α → Env} (hx : X none E) (hg : Ev (g E) e t) (hu : ∀ a, ud (e a) E = .ok (Ex a)) (hk : ∀ a, SR (r (Ex a)) Rn Rl X er (k a)) : SR (seqS (unpS ud g) r E) Rn Rl X er (kLet t k) := by
  unfold seqS unpS
  cases t with
  | ok a =>
    have hg : g E = .ok (e a) := hg
    simp only [hg, hu a]
    exact hk a
  | ex x =>
    have hg : g E = .ex x := hg
    simp only [hg]
    exact ⟨E, rfl, hx⟩
  | bad => trivial
theorem sr_ret {t : Res ρ} (hx : X none E) (hr : ∀ b, X (some b) E) (hg : Ev (g E) er t) : SR (seqS (retS g) r E) Rn Rl X er (kRet t) := by
  unfold seqS retS
  cases t with
  | ok a =>
    have hg : g E = .ok (er a) := hg
    simp only [hg]
    exact ⟨E, rfl, hr a⟩
  | ex x =>
    have hg : g E = .ex x := hg
    simp only [hg]
    exact ⟨E, rfl, hx⟩
  | bad => trivial
theorem sr_retV [NoBo e] {a : α} {b : ρ} (h : E[i]? = some (some (e a))) (hb : e a = er b) (hr : X (some b) (E.set i none)) : SR (seqS (retVS i) r E) Rn Rl X er (.rt b) := by
  unfold seqS retVS
  rw [h]
  simp only [NoBo.h a, if_true]
  exact ⟨_, by rw [hb], hr⟩
theorem sr_frz [Fr e e'] {s : Env → Out} {a : α} {t : TR σ lam ρ} (h : E[i]? = some (some (e a))) (hk : SR (seqS s r (E.set i (some (e' a)))) Rn Rl X er t) : SR (seqS (frS i s) r E) Rn Rl X er t := by
  have e1 : frzE i E = E.set i (some (e' a)) := by
    unfold frzE
    rw [h, ← Fr.h (e := e) (e' := e') a]
  show SR (seqS s r (frzE i E)) Rn Rl X er t
  rw [e1]
  exact hk
/-- each way goes on by itself -/
theorem sr_if {gt : Env → Res Bool} {a b : Env → Out} {c : Res Bool} {x y : TR σ lam ρ} (hx : X none E) (hc : Ev (gt E) id c) (ha : SR (seqS a r E) Rn Rl X er x) (hb : SR (seqS b r E) Rn Rl X er y) : SR (seqS (ifS gt a b) r E) Rn Rl X er (kIf c x y) := by
  unfold seqS ifS
  cases c with
  | ok k =>
    have hc : gt E = .ok k := hc
    simp only [hc]
    cases k with
    | true => exact ha
    | false => exact hb
  | ex z =>
    have hc : gt E = .ex z := hc
    simp only [hc]
    exact ⟨E, rfl, hx⟩
  | bad => trivial
theorem sr_ifp {gt : Env → Res Bool} {a b : Env → Out} {c : Bool} {x y : TR σ lam ρ} (hc : Ev (gt E) id (.ok c)) (ha : SR (seqS a r E) Rn Rl X er x) (hb : SR (seqS b r E) Rn Rl X er y) : SR (seqS (ifS gt a b) r E) Rn Rl X er (if c = true then x else y) := by
  unfold seqS ifS
  have hc : gt E = .ok c := hc
  simp only [hc]
  cases c with
  | true => exact ha
  | false => exact hb
/-- both ways meet -/
theorem sr_join {s : Env → Out} {Rm : τ → Env → Prop} {t : TR τ lam ρ} {k : τ → TR σ lam ρ} (h : SR (s E) Rm Rl X er t) (hk : ∀ u E', Rm u E' → SR (r E') Rn Rl X er (k u)) : SR (seqS s r E) Rn Rl X er (kSeq t k) := by
  unfold seqS
  cases t with
  | nx u =>
    obtain ⟨E', h1, h2⟩ := h
    rw [h1]
    exact hk u E' h2
  | rt u => obtain ⟨E', h1, h2⟩ := h; rw [h1]; exact ⟨E', rfl, h2⟩
  | bk u => obtain ⟨E', h1, h2⟩ := h; rw [h1]; exact ⟨E', rfl, h2⟩
  | ct u => obtain ⟨E', h1, h2⟩ := h; rw [h1]; exact ⟨E', rfl, h2⟩
  | ex u => obtain ⟨E', h1, h2⟩ := h; rw [h1]; exact ⟨E', rfl, h2⟩
  | bad => trivial
theorem sr_forS {R : σ → Env → Prop} {ud : D → Env → Res Env} {body : Env → Out} {tb : α → σ → TR σ σ ρ} (hb : ∀ x s E, R s E → ∃ E1, ud (e x) E = .ok E1 ∧ SR (body E1) R R X er (tb x s)) :
    ∀ (xs : List α) (s : σ) (E : Env), R s E → SR (forS ud body (xs.map e) E) R Rl X er (kFor tb xs s)
  | [], s, E, h => ⟨E, rfl, h⟩
  | x :: xs, s, E, h => by
    obtain ⟨E1, h1, h2⟩ := hb x s E h
    rw [List.map_cons]
    unfold forS kFor
    rw [h1]
    cases hc : tb x s with
    | nx u =>
      rw [hc] at h2
      obtain ⟨E2, q1, q2⟩ := h2
      simp only [q1]
      exact sr_forS hb xs u E2 q2
    | ct u =>
      rw [hc] at h2
      obtain ⟨E2, q1, q2⟩ := h2
      simp only [q1]
      exact sr_forS hb xs u E2 q2
    | bk u =>
      rw [hc] at h2
      obtain ⟨E2, q1, q2⟩ := h2
      simp only [q1]
      exact ⟨E2, rfl, q2⟩
    | rt u =>
      rw [hc] at h2
      obtain ⟨E2, q1, q2⟩ := h2
      simp only [q1]
      exact ⟨E2, rfl, q2⟩
    | ex u =>
      rw [hc] at h2
      obtain ⟨E2, q1, q2⟩ := h2
      simp only [q1]
      exact ⟨E2, rfl, q2⟩
    | bad => trivial
theorem sr_for {R : τ → Env → Prop} {gi : Env → Res (List D)} {ud : D → Env → Res Env} {body : Env → Out} {txs : Res (List α)} {tb : α → τ → TR τ τ ρ} {s0 : τ} {k : τ → TR σ lam ρ} (hx : X none E) (hi : Ev (gi E) (List.map e) txs) (h0 : R s0 E)
    (hb : ∀ x s E, R s E → ∃ E1, ud (e x) E = .ok E1 ∧ SR (body E1) R R X er (tb x s)) (hk : ∀ u E', R u E' → SR (r E') Rn Rl X er (k u)) : SR (seqS (gFor gi ud body) r E) Rn Rl X er (kLet txs fun xs => kSeq (kFor tb xs s0) k) := by
  unfold seqS gFor
  cases txs with
  | ok xs =>
    have hi : gi E = .ok (xs.map e) := hi
    simp only [hi]
    exact sr_join (s := fun E => forS ud body (xs.map e) E) (sr_forS hb xs s0 E h0) hk
  | ex x =>
    have hi : gi E = .ex x := hi
    simp only [hi]
    exact ⟨E, rfl, hx⟩
  | bad => trivial
theorem sr_whileS {R : σ → Env → Prop} {gt : Env → Res Bool} {body : Env → Out} {c : σ → Res Bool} {tb : σ → TR σ σ ρ} (hx : ∀ s E, R s E → X none E) (hc : ∀ s E, R s E → Ev (gt E) id (c s)) (hb : ∀ s E, R s E → SR (body E) R R X er (tb s)) :
    ∀ (n : Nat) (s : σ) (E : Env), R s E → SR (whileS gt body n E) R Rl X er (kWhile c tb n s)
  | 0, s, E, h => trivial
  | n + 1, s, E, h => by
    have h1 := hc s E h
    have h2 := hb s E h
    unfold whileS kWhile
    cases hcs : c s with
    | ok b =>
      rw [hcs] at h1
      have h1 : gt E = .ok b := h1
      rw [h1]
      cases b with
      | false => exact ⟨E, rfl, h⟩
      | true =>
        cases hbs : tb s with
        | nx u =>
          rw [hbs] at h2
          obtain ⟨E2, q1, q2⟩ := h2
          simp only [q1]
          exact sr_whileS hx hc hb n u E2 q2
        | ct u =>
          rw [hbs] at h2
          obtain ⟨E2, q1, q2⟩ := h2
          simp only [q1]
          exact sr_whileS hx hc hb n u E2 q2
        | bk u =>
          rw [hbs] at h2
          obtain ⟨E2, q1, q2⟩ := h2
          simp only [q1]
          exact ⟨E2, rfl, q2⟩
        | rt u =>
          rw [hbs] at h2
          obtain ⟨E2, q1, q2⟩ := h2
          simp only [q1]
          exact ⟨E2, rfl, q2⟩
        | ex u =>
          rw [hbs] at h2
          obtain ⟨E2, q1, q2⟩ := h2
          simp only [q1]
          exact ⟨E2, rfl, q2⟩
        | bad => trivial
    | ex z =>
      rw [hcs] at h1
      have h1 : gt E = .ex z := h1
      rw [h1]
      exact ⟨E, rfl, hx s E h⟩
    | bad => trivial
theorem sr_while {R : τ → Env → Prop} {gt : Env → Res Bool} {body : Env → Out} {n : Nat} {c : τ → Res Bool} {tb : τ → TR τ τ ρ} {s0 : τ} {k : τ → TR σ lam ρ} (hx : ∀ s E, R s E → X none E) (h0 : R s0 E) (hc : ∀ s E, R s E → Ev (gt E) id (c s))
    (hb : ∀ s E, R s E → SR (body E) R R X er (tb s)) (hk : ∀ u E', R u E' → SR (r E') Rn Rl X er (k u)) : SR (seqS (whileS gt body n) r E) Rn Rl X er (kSeq (kWhile c tb n s0) k) := sr_join (s := fun E => whileS gt body n E) (sr_whileS hx hc hb n s0 E h0) hk
def appL (xs : List α) (a : α) : Res (List α) := grd (xs.length < 16777216) (.ok (xs ++ [a]))
theorem appL_ok {xs : List α} {a : α} (h : xs.length < 16777216) : appL xs a = .ok (xs ++ [a]) := grd_ok h
theorem sr_app {xs : List α} {k : List α → TR σ lam ρ} (hx : X none E) (hv : E[i]? = some (some (eL .own e xs))) (hg : Ev (g E) e t) (hk : ∀ ys, SR (r (E.set i (some (eL .own e ys)))) Rn Rl X er (k ys)) :
    SR (seqS (exprSM (gMut i fApp (gP0 i) (gOne g))) r E) Rn Rl X er (kLet (t >>= fun a => appL xs a) k) := by
  have hp : gP0 i E = .ok [] := by unfold gP0; rw [hv]
  have hq : partOf E i [] = some (.lst .own (xs.map e)) := by unfold partOf; rw [hv]; rfl
  unfold seqS exprSM gMut
  rw [hp]
  simp only [toM, hq]
  cases t with
  | ok a =>
    have h1 : gOne g E = .ok [e a] := ev_one hg
    rw [h1]
    simp only [fApp, List.length_map, res_bind_ok]
    by_cases h : xs.length < 16777216
    · rw [appL_ok h, kLet_ok, if_pos (show xs.length < sizeLine from h)]
      have : updE E i [] (.lst .own (xs.map e ++ [e a])) = E.set i (some (eL .own e (xs ++ [a]))) := by
        unfold updE
        rw [hv]
        simp only [setP, eL, List.map_append, List.map_cons, List.map_nil]
      simp only [this]
      exact hk _
    · rw [show appL xs a = .bad from grd_bad h]
      trivial
  | ex x =>
    have h1 : gOne g E = .ex x := ev_one hg
    rw [h1]
    exact ⟨E, rfl, hx⟩
  | bad => trivial
/-- appending to a list that is the part of a list -/
def app1 (xss : List (List α)) (j : Int) (t : Res α) : Res (List (List α)) := atR (atI xss j) >>= fun xs => t >>= fun a => appL xs a >>= fun ys => .ok (xss.set ((ixN xss.length j).getD 0) ys)
theorem ixN_lt {n : Nat} {j : Int} {m : Nat} (h : ixN n j = some m) : m < n := by
  unfold ixN at h
  split at h
  · split at h
    · cases h; omega
    · cases h
  · split at h
    · cases h; omega
    · cases h
theorem sr_app1 {xss : List (List α)} {gi : Env → Res D} {tj : Res Int} {k : List (List α) → TR σ lam ρ} (hx : X none E) (hv : E[i]? = some (some (eL .own (eL .own e) xss))) (hj : Ev (gi E) eI tj) (hg : Ev (g E) e t) (hk : ∀ ys, SR (r (E.set i (some (eL .own (eL .own e) ys)))) Rn Rl X er (k ys)) :
    SR (seqS (exprSM (gMut i fApp (gPI i ixIx (gP0 i) gi) (gOne g))) r E) Rn Rl X er (kLet (tj >>= fun j => app1 xss j t) k) := by
  have hp : gP0 i E = .ok [] := by unfold gP0; rw [hv]
  have hq : partOf E i [] = some (.lst .own (xss.map (eL .own e))) := by unfold partOf; rw [hv]; rfl
  unfold seqS exprSM gMut gPI
  rw [hp]
  simp only [res_bind_ok, hq]
  cases tj with
  | bad => trivial
  | ex x =>
    have hj : gi E = .ex x := hj
    simp only [hj, toM]
    exact ⟨E, rfl, hx⟩
  | ok j =>
    have hj : gi E = .ok (.int j) := hj
    simp only [hj, res_bind_ok, ixIx, List.length_map]
    cases hn : ixN xss.length j with
    | none =>
      have hb : app1 xss j t = .bad := by
        unfold app1 atI
        rw [hn]
        rfl
      rw [hb]
      trivial
    | some m =>
      have hm := ixN_lt hn
      have hm2 : m < (kids (D.lst Fl.own (List.map (eL Fl.own e) xss))).length := by simpa [kids] using hm
      simp only [if_pos hm2, toM, List.nil_append]
      have hpart : partOf E i [m] = some (eL .own e xss[m]) := by
        unfold partOf
        rw [hv]
        simp only [getP, kids, eL, List.getElem?_map, List.getElem?_eq_getElem hm, Option.map_some, Option.bind_some]
      have hat : atI xss j = some xss[m] := by
        unfold atI
        rw [hn]
        exact List.getElem?_eq_getElem hm
      rw [hpart]
      simp only [eL]
      cases t with
      | bad =>
        have hb : app1 xss j (Res.bad : Res α) = .bad := by unfold app1; rw [hat]; rfl
        rw [hb]
        trivial
      | ex x =>
        have hb : app1 xss j (Res.ex x : Res α) = .ex x := by unfold app1; rw [hat]; rfl
        rw [hb]
        have h1 : gOne g E = .ex x := ev_one hg
        rw [h1]
        exact ⟨E, rfl, hx⟩
      | ok a =>
        have h1 : gOne g E = .ok [e a] := ev_one hg
        rw [h1]
        simp only [fApp, List.length_map, res_bind_ok, app1, hat, atR]
        by_cases h : xss[m].length < 16777216
        · rw [appL_ok h, res_bind_ok, kLet_ok, if_pos (show xss[m].length < sizeLine from h)]
          have : updE E i [m] (.lst .own (xss[m].map e ++ [e a])) = E.set i (some (eL .own (eL .own e) (xss.set ((ixN xss.length j).getD 0) (xss[m] ++ [a])))) := by
            unfold updE
            rw [hv, hn]
            simp only [setP, eL, kids, List.getElem?_map, List.getElem?_eq_getElem hm, Option.map_some, setK, Option.getD_some, List.map_set]
            congr 4
            rw [List.map_append]
            rfl
          simp only [this]
          exact hk _
        · rw [show appL xss[m] a = .bad from grd_bad h]
          trivial
theorem fr_body {n m : Nat} {s : Env → Out} {ds : List D} {Rn : ρ → Env → Prop} {Rl : Empty → Env → Prop} {t : TR ρ Empty ρ} (hl : ds.length = n) (hn : ∀ r E, Rn r E → er r = .non) (h : SR (s (startE m ds)) Rn Rl XT er t) : Ev (bodyF n m s ds) er (kEnd t) := by
  unfold bodyF
  rw [if_pos hl]
  cases t with
  | nx r => obtain ⟨E, h1, h2⟩ := h; rw [h1]; exact congrArg Res.ok (hn r E h2).symm
  | rt r => obtain ⟨E, h1, _⟩ := h; rw [h1]; rfl
  | ex x => obtain ⟨E, h1, _⟩ := h; rw [h1]; rfl
  | bk r => trivial
  | ct r => trivial
  | bad => trivial
theorem ev_args {F : List D → Res D} {gs : Env → Res (List D)} {es : α → List D} {e2 : β → D} {ta : Res α} {ft : α → Res β} (hf : ∀ a, Ev (F (es a ++ [])) e2 (ft a)) (ha : Ev (gs E) es ta) : Ev (gCall F [] gs E) e2 (ta >>= fun a => ft a) := Ev.bind ha hf
theorem ev_argsp {F : List D → Res D} {gs : Env → Res (List D)} {es : α → List D} {e2 : β → D} {a : α} {ft : Res β} (hf : Ev (F (es a ++ [])) e2 ft) (ha : Ev (gs E) es (.ok a)) : Ev (gCall F [] gs E) e2 ft := by
  have ha : gs E = .ok (es a) := ha
  show Ev (gs E >>= _) _ _
  rw [ha]
  exact hf
end
end PD
noncomputable section
namespace PD
open PySem L2
section
variable {α β γ : Type} {e e' : α → D} {f f' : Fl}
def eqB {α : Type} [DecidableEq α] (a b : α) : Bool := decide (a = b)
def memB {α : Type} [DecidableEq α] (a : α) (xs : List α) : Bool := decide (a ∈ xs)
@[simp] theorem eqB_iff {α : Type} [DecidableEq α] {a b : α} : eqB a b = true ↔ a = b := decide_eq_true_iff
@[simp] theorem memB_iff {α : Type} [DecidableEq α] {a : α} {xs : List α} : memB a xs = true ↔ a ∈ xs := decide_eq_true_iff
@[simp] theorem eqB_false {α : Type} [DecidableEq α] {a b : α} : eqB a b = false ↔ a ≠ b := decide_eq_false_iff_not
@[simp] theorem memB_false {α : Type} [DecidableEq α] {a : α} {xs : List α} : memB a xs = false ↔ a ∉ xs := decide_eq_false_iff_not
class PyE (e : α → D) (n : outParam Nat) : Prop where h : ∀ a, ∃ p, (e a).py = some p ∧ p.canLay0 = true ∧ p.depth ≤ n
class PyL (es : α → List D) (n : outParam Nat) : Prop where h : ∀ a, ∃ p, pyL (es a) = some p ∧ PyData.canLayAll0 p = true ∧ PyData.depthAll p ≤ n
class EqE [DecidableEq α] (e e' : α → D) : Prop where h : ∀ a b p q, (e a).py = some p → (e' b).py = some q → PyData.eqv p q = decide (a = b)
class EqL [DecidableEq α] (es es' : α → List D) : Prop where h : ∀ a b p q, pyL (es a) = some p → pyL (es' b) = some q → PyData.eqvAll p q = decide (a = b)
instance : PyE eI 0 := ⟨fun a => ⟨_, rfl, rfl, Nat.le_refl _⟩⟩
instance : PyE eB 0 := ⟨fun a => ⟨_, rfl, rfl, Nat.le_refl _⟩⟩
instance : PyE eN 0 := ⟨fun a => ⟨_, rfl, rfl, Nat.le_refl _⟩⟩
theorem sT_ok (t : Tx) : PyData.strOk (sT t) = true := by
  show (sT t).cps.all _ = true
  rw [← Array.all_toList, sT_toList, List.all_map, List.all_eq_true]
  intro c _
  have h := c.valid
  have : c.toNat < 1114112 := by
    rcases h with h | h
    · have : c.val.toNat < 55296 := h
      show c.val.toNat < _
      omega
    · exact h.2
  exact decide_eq_true this
instance : PyE eS 0 := ⟨fun a => ⟨_, rfl, sT_ok a, Nat.le_refl _⟩⟩
theorem pyL_map {n : Nat} (h : ∀ a, ∃ p, (e a).py = some p ∧ p.canLay0 = true ∧ p.depth ≤ n) : ∀ xs : List α, ∃ p, pyL (xs.map e) = some p ∧ PyData.canLayAll0 p = true ∧ PyData.depthAll p ≤ n
  | [] => ⟨[], rfl, rfl, Nat.zero_le _⟩
  | x :: xs => by
    obtain ⟨p, h1, h2, h3⟩ := h x
    obtain ⟨ps, g1, g2, g3⟩ := pyL_map h xs
    refine ⟨p :: ps, ?_, ?_, ?_⟩
    · simp only [List.map_cons, pyL, h1, g1]
    · simp only [PyData.canLayAll0, h2, g2, Bool.and_self]
    · simp only [PyData.depthAll]; exact Nat.max_le.mpr ⟨h3, g3⟩
instance {n : Nat} [PyE e n] : PyE (eL f e) (n + 1) := ⟨fun a => by
  obtain ⟨p, h1, h2, h3⟩ := pyL_map (PyE.h (e := e)) a
  exact ⟨.list p, by simp only [eL, D.py, h1, Option.map_some], h2, Nat.succ_le_succ h3⟩⟩
instance : PyE (eL0 f) 1 := ⟨fun a => ⟨.list [], rfl, rfl, by decide⟩⟩
instance {n : Nat} [PyE e n] : PyE (eTL e) (n + 1) := ⟨fun a => by
  obtain ⟨p, h1, h2, h3⟩ := pyL_map (PyE.h (e := e)) a
  exact ⟨.tuple p, by simp only [eTL, D.py, h1, Option.map_some], h2, Nat.succ_le_succ h3⟩⟩
instance {n : Nat} [PyE e n] : PyE (eKL e) (n + 1) := ⟨fun a => by
  obtain ⟨p, h1, h2, h3⟩ := pyL_map (PyE.h (e := e)) a
  exact ⟨.tuple p, by simp only [eKL, D.py, h1, Option.map_some], h2, Nat.succ_le_succ h3⟩⟩
instance : PyL pn 0 := ⟨fun a => ⟨[], rfl, rfl, Nat.le_refl _⟩⟩
instance {n : Nat} [PyE e n] : PyL (p1 e) n := ⟨fun a => pyL_map (PyE.h (e := e)) [a]⟩
instance {n m : Nat} {es : β → List D} [PyE e n] [PyL es m] : PyL (pc e es) (max n m) := ⟨fun a => by
  obtain ⟨p, h1, h2, h3⟩ := PyE.h (e := e) a.1
  obtain ⟨ps, g1, g2, g3⟩ := PyL.h (es := es) a.2
  refine ⟨p :: ps, ?_, ?_, ?_⟩
  · simp only [pc, pyL, h1, g1]
  · simp only [PyData.canLayAll0, h2, g2, Bool.and_self]
  · simp only [PyData.depthAll]; omega⟩
instance {n : Nat} {es : α → List D} [PyL es n] : PyE (eT es) (n + 1) := ⟨fun a => by
  obtain ⟨p, h1, h2, h3⟩ := PyL.h (es := es) a
  exact ⟨.tuple p, by simp only [eT, D.py, h1, Option.map_some], h2, Nat.succ_le_succ h3⟩⟩
instance {n : Nat} [PyE e n] : PyE (eO e) n := ⟨fun a => by
  cases a with
  | none => exact ⟨.none, rfl, rfl, Nat.zero_le _⟩
  | some a => exact PyE.h (e := e) a⟩
instance : EqE eI eI := ⟨fun a b p q h1 h2 => by
  cases h1; cases h2
  show (a == b) = _
  by_cases h : a = b <;> simp [h]⟩
instance : EqE eB eB := ⟨fun a b p q h1 h2 => by
  cases h1; cases h2
  show (a == b) = _
  by_cases h : a = b <;> simp [h]⟩
instance : EqE eN eN := ⟨fun a b p q h1 h2 => by
  cases h1; cases h2
  rfl⟩
instance : EqE eS eS := ⟨fun a b p q h1 h2 => by
  cases h1; cases h2
  show (sT a == sT b) = _
  by_cases h : a = b
  · rw [h]; simp
  · have : sT a ≠ sT b := fun z => h (sT_inj z)
    simp [h, this]⟩
theorem eqv_map [DecidableEq α] (h : ∀ a b p q, (e a).py = some p → (e' b).py = some q → PyData.eqv p q = decide (a = b)) : ∀ (xs ys : List α) (ps qs : List PyData), pyL (xs.map e) = some ps → pyL (ys.map e') = some qs → PyData.eqvAll ps qs = decide (xs = ys)
  | [], [], ps, qs, h1, h2 => by cases h1; cases h2; rfl
  | [], y :: ys, ps, qs, h1, h2 => by
    cases h1
    simp only [List.map_cons, pyL] at h2
    split at h2
    · cases h2; rfl
    · cases h2
  | x :: xs, [], ps, qs, h1, h2 => by
    cases h2
    simp only [List.map_cons, pyL] at h1
    split at h1
    · cases h1; rfl
    · cases h1
  | x :: xs, y :: ys, ps, qs, h1, h2 => by
    simp only [List.map_cons, pyL] at h1 h2
    split at h1
    · rename_i p ps' a1 a2
      cases h1
      split at h2
      · rename_i q qs' b1 b2
        cases h2
        simp only [PyData.eqvAll, h x y p q a1 b1, eqv_map h xs ys ps' qs' a2 b2, List.cons.injEq]
        by_cases hxy : x = y <;> simp [hxy]
      · cases h2
    · cases h1
theorem map_some' {α β : Type} {g : α → β} {o : Option α} {b : β} (h : o.map g = some b) : ∃ a, o = some a ∧ b = g a := by
  cases o with
  | none => cases h
  | some a => cases h; exact ⟨a, rfl, rfl⟩
instance [DecidableEq α] [EqE e e'] : EqE (eL f e) (eL f' e') := ⟨fun a b p q h1 h2 => by
  obtain ⟨ps, k1, rfl⟩ := map_some' (show (pyL (a.map e)).map .list = some p from h1)
  obtain ⟨qs, k2, rfl⟩ := map_some' (show (pyL (b.map e')).map .list = some q from h2)
  exact eqv_map (EqE.h (e := e) (e' := e')) a b ps qs k1 k2⟩
instance [DecidableEq α] [EqE e e'] : EqE (eTL e) (eTL e') := ⟨fun a b p q h1 h2 => by
  obtain ⟨ps, k1, rfl⟩ := map_some' (show (pyL (a.map e)).map .tuple = some p from h1)
  obtain ⟨qs, k2, rfl⟩ := map_some' (show (pyL (b.map e')).map .tuple = some q from h2)
  exact eqv_map (EqE.h (e := e) (e' := e')) a b ps qs k1 k2⟩
instance [DecidableEq α] [EqE e e'] : EqE (eTL e) (eKL e') := ⟨fun a b p q h1 h2 => by
  obtain ⟨ps, k1, rfl⟩ := map_some' (show (pyL (a.map e)).map .tuple = some p from h1)
  obtain ⟨qs, k2, rfl⟩ := map_some' (show (pyL (b.map e')).map .tuple = some q from h2)
  exact eqv_map (EqE.h (e := e) (e' := e')) a b ps qs k1 k2⟩
instance : EqL pn pn := ⟨fun a b p q h1 h2 => by cases h1; cases h2; rfl⟩
instance [DecidableEq α] [EqE e e'] : EqL (p1 e) (p1 e') := ⟨fun a b p q h1 h2 => by
  have := eqv_map (EqE.h (e := e) (e' := e')) [a] [b] p q h1 h2
  rw [this]
  simp⟩
instance {es es' : β → List D} [DecidableEq α] [DecidableEq β] [EqE e e'] [EqL es es'] : EqL (pc e es) (pc e' es') := ⟨fun a b p q h1 h2 => by
  obtain ⟨a1, a2⟩ := a
  obtain ⟨b1, b2⟩ := b
  simp only [pc, pyL] at h1 h2
  split at h1
  · rename_i p ps' c1 c2
    cases h1
    split at h2
    · rename_i q qs' d1 d2
      cases h2
      simp only [PyData.eqvAll, EqE.h (e := e) (e' := e') a1 b1 p q c1 d1, EqL.h (es := es) (es' := es') a2 b2 ps' qs' c2 d2, Prod.mk.injEq]
      by_cases hxy : a1 = b1 <;> simp [hxy]
    · cases h2
  · cases h1⟩
instance {es es' : α → List D} [DecidableEq α] [EqL es es'] : EqE (eT es) (eT es') := ⟨fun a b p q h1 h2 => by
  obtain ⟨ps, k1, rfl⟩ := map_some' (show (pyL (es a)).map .tuple = some p from h1)
  obtain ⟨qs, k2, rfl⟩ := map_some' (show (pyL (es' b)).map .tuple = some q from h2)
  exact EqL.h (es := es) (es' := es') a b ps qs k1 k2⟩
/-- never None -/
class NotNon (e : α → D) : Prop where h : ∀ a p, (e a).py = some p → ∀ q, PyData.eqv .none p = q → q = false
theorem eqv_sym_none {p : PyData} (h : PyData.eqv .none p = false) : PyData.eqv p .none = false := by
  cases p <;> first | rfl | exact h
instance : NotNon eI := ⟨fun a p h q e => by cases h; exact e.symm⟩
instance : NotNon eB := ⟨fun a p h q e => by cases h; exact e.symm⟩
instance : NotNon eS := ⟨fun a p h q e => by cases h; exact e.symm⟩
instance : NotNon (eL f e) := ⟨fun a p h q e => by
  obtain ⟨ps, k1, rfl⟩ := map_some' (show (pyL _).map .list = some p from h)
  exact e.symm⟩
instance : NotNon (eTL e) := ⟨fun a p h q e => by
  obtain ⟨ps, k1, rfl⟩ := map_some' (show (pyL _).map .tuple = some p from h)
  exact e.symm⟩
instance {es : α → List D} : NotNon (eT es) := ⟨fun a p h q e => by
  obtain ⟨ps, k1, rfl⟩ := map_some' (show (pyL _).map .tuple = some p from h)
  exact e.symm⟩
instance [DecidableEq α] [EqE e e'] [NotNon e] [NotNon e'] : EqE (eO e) (eO e') := ⟨fun a b p q h1 h2 => by
  cases a with
  | none =>
    cases h1
    cases b with
    | none => cases h2; rfl
    | some b =>
      rw [NotNon.h (e := e') b q h2 _ rfl]
      exact (decide_eq_false (fun z => nomatch z)).symm
  | some a =>
    cases b with
    | none =>
      cases h2
      rw [eqv_sym_none (NotNon.h (e := e) a p h1 _ rfl)]
      exact (decide_eq_false (fun z => nomatch z)).symm
    | some b =>
      rw [EqE.h (e := e) (e' := e') a b p q h1 h2]
      by_cases h : a = b <;> simp [h]⟩
theorem shp_of {p : PyData} (h1 : p.canLay0 = true) (h2 : p.depth ≤ 64) : shp p = true := by
  unfold shp SeqAt.shaped
  rw [h1, decide_eq_true h2]
  rfl
theorem op_eq [DecidableEq α] {n m : Nat} [PyE e n] [PyE e' m] [EqE e e'] (hn : Nat.ble n 60 = true) (hm : Nat.ble m 60 = true) (a b : α) : Ev (eqD (e a) (e' b)) eB (.ok (eqB a b)) := by
  have hn := Nat.le_of_ble_eq_true hn
  have hm := Nat.le_of_ble_eq_true hm
  obtain ⟨p, h1, h2, h3⟩ := PyE.h (e := e) a
  obtain ⟨q, g1, g2, g3⟩ := PyE.h (e := e') b
  show eqD (e a) (e' b) = _
  unfold eqD
  simp only [h1, g1, shp_of h2 (by omega), shp_of g2 (by omega), Bool.and_self, if_true, EqE.h (e := e) (e' := e') a b p q h1 g1]
  rfl
theorem op_ne [DecidableEq α] {n m : Nat} [PyE e n] [PyE e' m] [EqE e e'] (hn : Nat.ble n 60 = true) (hm : Nat.ble m 60 = true) (a b : α) : Ev (neD (e a) (e' b)) eB (.ok (!eqB a b)) := by
  have hn := Nat.le_of_ble_eq_true hn
  have hm := Nat.le_of_ble_eq_true hm
  obtain ⟨p, h1, h2, h3⟩ := PyE.h (e := e) a
  obtain ⟨q, g1, g2, g3⟩ := PyE.h (e := e') b
  show neD (e a) (e' b) = _
  unfold neD
  simp only [h1, g1, shp_of h2 (by omega), shp_of g2 (by omega), Bool.and_self, if_true, EqE.h (e := e) (e' := e') a b p q h1 g1]
  rfl
theorem any_map [DecidableEq α] (h : ∀ a b p q, (e a).py = some p → (e' b).py = some q → PyData.eqv p q = decide (a = b)) (x : α) (px : PyData) (hx : (e' x).py = some px) : ∀ (xs : List α) (ps : List PyData), pyL (xs.map e) = some ps → (ps.any fun z => PyData.eqv z px) = decide (x ∈ xs)
  | [], ps, h1 => by cases h1; simp
  | y :: ys, ps, h1 => by
    simp only [List.map_cons, pyL] at h1
    split at h1
    · rename_i p ps' a1 a2
      cases h1
      rw [List.any_cons, h y x p px a1 hx, any_map h x px hx ys ps' a2]
      by_cases hxy : x = y
      · simp [hxy]
      · have : ¬ y = x := fun z => hxy z.symm
        simp [hxy, this]
    · cases h1
theorem op_inL [DecidableEq α] {n m : Nat} [PyE e n] [PyE e' m] [EqE e' e] (hn : Nat.ble n 60 = true) (hm : Nat.ble m 50 = true) (a : α) (xs : List α) : Ev (inD (e a) (eL f e' xs)) eB (.ok (memB a xs)) := by
  have hn := Nat.le_of_ble_eq_true hn
  have hm := Nat.le_of_ble_eq_true hm
  obtain ⟨p, h1, h2, h3⟩ := PyE.h (e := e) a
  obtain ⟨q, g1, g2, g3⟩ := pyL_map (PyE.h (e := e')) xs
  have hq : shp (.list q) = true := shp_of g2 (show PyData.depthAll q + 1 ≤ 64 by omega)
  show (inB (e a) (.lst f (xs.map e')) >>= _) = _
  unfold inB
  simp only [h1, g1, shp_of h2 (by omega), hq, Bool.and_self, if_true, any_map (EqE.h (e := e') (e' := e)) a p h1 xs q g1]
  rfl
theorem nin_of {a b : D} {k : Bool} (h : Ev (inD a b) eB (.ok k)) : Ev (ninD a b) eB (.ok (!k)) := by
  have h : (inB a b >>= fun k => Res.ok (D.bl k)) = .ok (.bl k) := h
  show (inB a b >>= fun k => Res.ok (D.bl (!k))) = .ok (.bl (!k))
  cases e : inB a b with
  | ok z => rw [e] at h; cases h; rfl
  | ex x => rw [e] at h; cases h
  | bad => rw [e] at h; cases h
theorem op_ninL [DecidableEq α] {n m : Nat} [PyE e n] [PyE e' m] [EqE e' e] (hn : Nat.ble n 60 = true) (hm : Nat.ble m 50 = true) (a : α) (xs : List α) : Ev (ninD (e a) (eL f e' xs)) eB (.ok (!memB a xs)) := nin_of (op_inL hn hm a xs)
/-- flat things -/
class FlatE [DecidableEq α] (e : α → D) (v : outParam (α → V)) : Prop where
  h : ∀ a, flatD (e a) = some (v a)
  eq : ∀ a b, eqV (v a) (v b) = decide (a = b)
instance : FlatE eI V.int := ⟨fun _ => rfl, fun a b => by
  show (a == b) = _
  by_cases h : a = b <;> simp [h]⟩
instance : FlatE eS (fun t => V.str (sT t)) := ⟨fun _ => rfl, fun a b => by
  show (sT a == sT b) = _
  by_cases h : a = b
  · rw [h]; simp
  · have : sT a ≠ sT b := fun z => h (sT_inj z)
    simp [h, this]⟩
instance : FlatE (eO eS) (fun o => match o with | none => V.non | some t => V.str (sT t)) := ⟨fun o => by cases o <;> rfl, fun a b => by
  cases a with
  | none => cases b with
    | none => rfl
    | some b => exact (decide_eq_false (fun z => nomatch z)).symm
  | some a => cases b with
    | none => exact (decide_eq_false (fun z => nomatch z)).symm
    | some b =>
      show (sT a == sT b) = _
      by_cases h : a = b
      · rw [h]; simp
      · have : sT a ≠ sT b := fun z => h (sT_inj z)
        simp [h, this]⟩
theorem flatL_map [DecidableEq α] {v : α → V} (h : ∀ a, flatD (e a) = some (v a)) : ∀ xs : List α, flatL (xs.map e) = some (xs.map v)
  | [] => rfl
  | x :: xs => by simp only [List.map_cons, flatL, h x, flatL_map h xs]
theorem inV_map [DecidableEq α] {v : α → V} (h : ∀ a b, eqV (v a) (v b) = decide (a = b)) (x : α) : ∀ xs : List α, inV (v x) (xs.map v) = decide (x ∈ xs)
  | [] => rfl
  | y :: ys => by
    have ih := inV_map h x ys
    unfold inV at ih ⊢
    rw [List.map_cons, List.any_cons, ih, h y x]
    by_cases hxy : x = y
    · simp [hxy]
    · have : ¬ y = x := fun z => hxy z.symm
      simp [hxy, this]
theorem op_inTL [DecidableEq α] {v : α → V} [FlatE e v] (a : α) (xs : List α) : Ev (inD (e a) (eTL e xs)) eB (.ok (memB a xs)) := by
  show (inB (e a) (.tup (xs.map e)) >>= _) = _
  unfold inB
  simp only [FlatE.h (e := e) a, flatL_map (FlatE.h (e := e)) xs, inV_map (FlatE.eq (e := e)) a xs]
  rfl
theorem op_inKL [DecidableEq α] {v : α → V} [FlatE e v] (a : α) (xs : List α) : Ev (inD (e a) (eKL e xs)) eB (.ok (memB a xs)) := by
  show (inB (e a) (.ktup (xs.map e)) >>= _) = _
  unfold inB
  simp only [FlatE.h (e := e) a, flatL_map (FlatE.h (e := e)) xs, inV_map (FlatE.eq (e := e)) a xs]
  rfl
theorem op_ninTL [DecidableEq α] {v : α → V} [FlatE e v] (a : α) (xs : List α) : Ev (ninD (e a) (eTL e xs)) eB (.ok (!memB a xs)) := nin_of (op_inTL a xs)
theorem op_ninKL [DecidableEq α] {v : α → V} [FlatE e v] (a : α) (xs : List α) : Ev (ninD (e a) (eKL e xs)) eB (.ok (!memB a xs)) := nin_of (op_inKL a xs)
def inS (a b : Tx) : Bool := match a with
  | [c] => decide (c ∈ b)
  | _ => strIn (sT a) (sT b)
theorem op_inS (a b : Tx) : Ev (inD (eS a) (eS b)) eB (.ok (inS a b)) := by
  show Res.ok (D.bl (strIn (sT a) (sT b))) = .ok (.bl (inS a b))
  congr 2
  unfold inS
  split
  · rename_i c
    unfold strIn
    simp only [sT_toList, List.map_cons, List.map_nil]
    by_cases h : c ∈ b
    · rw [decide_eq_true h, decide_eq_true (List.mem_map.mpr ⟨c, h, rfl⟩)]
    · rw [decide_eq_false h, decide_eq_false]
      intro z
      obtain ⟨d, hd, hc⟩ := List.mem_map.mp z
      exact h (char_inj hc ▸ hd)
  · rfl
theorem op_ninS (a b : Tx) : Ev (ninD (eS a) (eS b)) eB (.ok (!inS a b)) := nin_of (op_inS a b)
theorem op_isO (hn : ∀ a, ∃ b, isnD (e a) .non = .ok (.bl b) ∧ b = false) (a : Option α) (u : Unit) : Ev (isnD (eO e a) (eN u)) eB (.ok a.isNone) := by
  cases a with
  | none => rfl
  | some a =>
    obtain ⟨b, h, rfl⟩ := hn a
    exact h
theorem op_notO (hn : ∀ a, ∃ b, isnD (e a) .non = .ok (.bl b) ∧ b = false) (a : Option α) (u : Unit) : Ev (notnD (eO e a) (eN u)) eB (.ok a.isSome) := by
  cases a with
  | none => rfl
  | some a =>
    obtain ⟨b, h, rfl⟩ := hn a
    show notnD (e a) .non = _
    cases e1 : e a <;> first | rfl | (rw [e1] at h; cases h)
class SomeE (e : α → D) : Prop where h : ∀ a, ∃ b, isnD (e a) .non = .ok (.bl b) ∧ b = false
instance : SomeE eI := ⟨fun _ => ⟨_, rfl, rfl⟩⟩
instance : SomeE eB := ⟨fun _ => ⟨_, rfl, rfl⟩⟩
instance : SomeE eS := ⟨fun _ => ⟨_, rfl, rfl⟩⟩
instance : SomeE (eL f e) := ⟨fun _ => ⟨_, rfl, rfl⟩⟩
instance : SomeE (eTL e) := ⟨fun _ => ⟨_, rfl, rfl⟩⟩
instance {es : α → List D} : SomeE (eT es) := ⟨fun _ => ⟨_, rfl, rfl⟩⟩
theorem op_is [SomeE e] (a : Option α) (u : Unit) : Ev (isnD (eO e a) (eN u)) eB (.ok a.isNone) := op_isO SomeE.h a u
theorem op_not [SomeE e] (a : Option α) (u : Unit) : Ev (notnD (eO e a) (eN u)) eB (.ok a.isSome) := op_notO SomeE.h a u
/-- what is not None -/
theorem Ev.getO {r : Res D} {t : Res (Option α)} (h : Ev r (eO e) t) : Ev r e (t >>= PD.getO) := by
  cases t with
  | ok a =>
    cases a with
    | none => trivial
    | some a => exact h
  | ex x => exact h
  | bad => trivial
variable {E : Env} {ga gb : Env → Res D}
def joinT (sep : Tx) : List Tx → Tx
  | [] => []
  | [w] => w
  | w :: v :: r => w ++ (sep ++ joinT sep (v :: r))
def joinG (sep : Tx) (ws : List Tx) : Res Tx := grd ((ws.map List.length).sum + ws.length * sep.length ≤ 16777216) (.ok (joinT sep ws))
theorem strsOf_map : ∀ ws : List Tx, strsOf (ws.map eS) = some (ws.map sT)
  | [] => rfl
  | w :: ws => by
    show (strsOf (ws.map eS)).map _ = _
    rw [strsOf_map ws]
    rfl
theorem joinL_T (sep : Tx) : ∀ ws : List Tx, TL.joinL (sep.map Char.toNat) (ws.map (List.map Char.toNat)) = (joinT sep ws).map Char.toNat
  | [] => rfl
  | [w] => rfl
  | w :: v :: r => by
    have ih := joinL_T sep (v :: r)
    simp only [List.map_cons] at ih ⊢
    rw [TL.joinL, ih, joinT]
    simp
theorem join_sT (sep : Tx) (ws : List Tx) : Txt.join (sT sep) (ws.map sT) = sT (joinT sep ws) := by
  have h := SX.join_S (sep.map Char.toNat) (ws.map (List.map Char.toNat))
  rw [joinL_T, List.map_map] at h
  exact h
theorem op_join0 (sep : Tx) (ws : List Tx) (d : D) (hd : d = .lst f (ws.map eS) ∨ d = .tup (ws.map eS)) : Ev (joinD (eS sep) d) eS (joinG sep ws) := by
  unfold joinG
  refine ev_grd fun h => ?_
  · skip
    have hs : ((ws.map sT).map (·.length)).sum + (ws.map sT).length * (sT sep).length ≤ 16777216 := by
      rw [List.map_map, List.length_map, sT_len]
      have : ((fun x : Str => x.length) ∘ sT) = (List.length : Tx → Nat) := funext fun t => sT_len t
      rw [this]
      exact h
    rcases hd with rfl | rfl
    · show joinD (.str (sT sep)) _ = .ok (.str (sT (joinT sep ws)))
      unfold joinD
      simp only [strsOf_map]
      rw [if_pos hs, join_sT]
    · show joinD (.str (sT sep)) _ = .ok (.str (sT (joinT sep ws)))
      unfold joinD
      simp only [strsOf_map]
      rw [if_pos hs, join_sT]
theorem op_join (sep : Tx) (ws : List Tx) : Ev (joinD (eS sep) (eL f eS ws)) eS (joinG sep ws) := op_join0 sep ws _ (.inl rfl)
theorem ev_binS {e1 : β → D} {e2 : γ → D} {fn : D → D → Res D} {ta : Res Tx} {tb : Res β} {ft : Tx → β → Res γ} (hf : ∀ a b, Ev (fn (eS a) (e1 b)) e2 (ft a b)) (ha : Ev (ga E) eS ta) (hb : Ev (gb E) e1 tb) : Ev (gBinS fn ga gb E) e2 (ta >>= fun a => tb >>= fun b => ft a b) :=
  Ev.bind ha fun a => Ev.bind hb fun b => hf a b
theorem ev_binL {α' : Type} {e0 : α' → D} {fl : Fl} {e1 : β → D} {e2 : γ → D} {fn : D → D → Res D} {ta : Res (List α')} {tb : Res β} {ft : List α' → β → Res γ} (hf : ∀ a b, Ev (fn (eL fl e0 a) (e1 b)) e2 (ft a b)) (ha : Ev (ga E) (eL fl e0) ta) (hb : Ev (gb E) e1 tb) : Ev (gBinL fn ga gb E) e2 (ta >>= fun a => tb >>= fun b => ft a b) :=
  Ev.bind ha fun a => Ev.bind hb fun b => hf a b
/-- where a word stands -/
def idxG [DecidableEq α] (xs : List α) (a : α) : Res Int := match xs.findIdx? (fun z => decide (z = a)) with
  | some j => .ok (j : Int)
  | none => .bad
theorem findIdx_map {v : α → V} [DecidableEq α] (h : ∀ a b, eqV (v a) (v b) = decide (a = b)) (x : α) (xs : List α) : (xs.map v).findIdx? (fun z => eqV z (v x)) = xs.findIdx? (fun z => decide (z = x)) := by
  rw [List.findIdx?_map]
  congr 1
  exact funext fun z => h z x
theorem op_index [DecidableEq α] {v : α → V} [FlatE e v] (xs : List α) (a : α) : Ev (indexD (eL f e xs) (e a)) eI (idxG xs a) := by
  unfold idxG
  split
  · rename_i j hj
    show indexD (.lst f (xs.map e)) (e a) = .ok (.int j)
    unfold indexD
    simp only [FlatE.h (e := e) a, flatL_map (FlatE.h (e := e)) xs, findIdx_map (FlatE.eq (e := e)) a xs, hj]
  · trivial
theorem boolsOf_map : ∀ bs : List Bool, boolsOf (bs.map eB) = some bs
  | [] => rfl
  | b :: bs => by
    show (boolsOf (bs.map eB)).map _ = _
    rw [boolsOf_map bs]
    rfl
theorem op_all (bs : List Bool) : Ev (allD (eL f eB bs)) eB (.ok (bs.all id)) := by
  show allD (.lst f (bs.map eB)) = _
  unfold allD
  simp only [boolsOf_map]
  rfl
theorem op_listL [Imm e] (xs : List α) : Ev (listD (eL f e xs)) (eL .own e) (.ok xs) := Ev.of (if_pos (immL_map Imm.h xs))
class TyE (e : α → D) (s : outParam String) : Prop where h : ∀ a, tyOf (e a) = some s
instance : TyE eI "int" := ⟨fun _ => rfl⟩
instance : TyE eB "bool" := ⟨fun _ => rfl⟩
instance : TyE eS "str" := ⟨fun _ => rfl⟩
instance : TyE eN "NoneType" := ⟨fun _ => rfl⟩
instance : TyE (eL f e) "list" := ⟨fun _ => rfl⟩
instance : TyE (eL0 f) "list" := ⟨fun _ => rfl⟩
instance : TyE (eTL e) "tuple" := ⟨fun _ => rfl⟩
instance : TyE (eKL e) "tuple" := ⟨fun _ => rfl⟩
instance {es : α → List D} : TyE (eT es) "tuple" := ⟨fun _ => rfl⟩
theorem op_isi {s T : String} {b : Bool} [TyE e s] (hb : kitB s T = some b) (a : α) : Ev (isiD T (e a)) eB (.ok b) := by
  show isiD T (e a) = _
  unfold isiD
  rw [TyE.h (e := e) a]
  simp only [hb]
  rfl
end
end PD
noncomputable section
namespace PD
open PySem L2
section
variable {α β γ : Type} {e1 : α → D} {e2 : β → D} {e3 : γ → D} {E : Env} {ga gb : Env → Res D}
theorem ev_binc {f : D → D → Res D} {ta : Res α} {c : β} {ft : α → Res γ} (hf : ∀ a, Ev (f (e1 a) (e2 c)) e3 (ft a)) (ha : Ev (ga E) e1 ta) (hb : Ev (gb E) e2 (.ok c)) : Ev (gBin f ga gb E) e3 (ta >>= fun a => ft a) := ha.bind fun a => by
  have hb : gb E = .ok (e2 c) := hb
  rw [hb]
  exact hf a
theorem ev_bincp {f : D → D → Res D} {a : α} {c : β} {ft : α → Res γ} (hf : ∀ a, Ev (f (e1 a) (e2 c)) e3 (ft a)) (ha : Ev (ga E) e1 (.ok a)) (hb : Ev (gb E) e2 (.ok c)) : Ev (gBin f ga gb E) e3 (ft a) := ev_binc hf ha hb
theorem ev_bincl {f : D → D → Res D} {tb : Res β} {c : α} {ft : β → Res γ} (hf : ∀ b, Ev (f (e1 c) (e2 b)) e3 (ft b)) (ha : Ev (ga E) e1 (.ok c)) (hb : Ev (gb E) e2 tb) : Ev (gBin f ga gb E) e3 (tb >>= fun b => ft b) := by
  have ha : ga E = .ok (e1 c) := ha
  show Ev (ga E >>= _) _ _
  rw [ha]
  exact hb.bind hf
theorem ev_bincpl {f : D → D → Res D} {b : β} {c : α} {ft : β → Res γ} (hf : ∀ b, Ev (f (e1 c) (e2 b)) e3 (ft b)) (ha : Ev (ga E) e1 (.ok c)) (hb : Ev (gb E) e2 (.ok b)) : Ev (gBin f ga gb E) e3 (ft b) := ev_bincl hf ha hb
theorem ev_powc (x y : Int) (n : Nat) (h : (decide (0 ≤ y) && (decide (y ≤ 1000000) && decide (x.natAbs < 2 ^ 64))) = true) (hn : y.toNat = n) (ha : Ev (ga E) eI (.ok x)) (hb : Ev (gb E) eI (.ok y)) : Ev (gBin powD ga gb E) eI (.ok (x ^ n)) := by
  have ha : ga E = .ok (.int x) := ha
  have hb : gb E = .ok (.int y) := hb
  show (ga E >>= _) = _
  rw [ha, res_bind_ok, hb, res_bind_ok]
  subst hn
  exact if_pos h
theorem ev_slp {gl gh : GO} {a : α} {lo hi : Option Int} {ft : α → Option Int → Option Int → Res γ} (hf : ∀ a lo hi, Ev (slD (e1 a) lo hi) e3 (ft a lo hi)) (ha : Ev (ga E) e1 (.ok a)) (hl : Ev (gl E) id (.ok lo)) (hh : Ev (gh E) id (.ok hi)) : Ev (gSl ga gl gh E) e3 (ft a lo hi) := ev_sl hf ha hl hh
theorem sr_env {σ lam ρ : Type} {r : Env → Out} {E E' : Env} {Rn : σ → Env → Prop} {Rl : lam → Env → Prop} {X : Option ρ → Env → Prop} {er : ρ → D} {t : TR σ lam ρ} (hE : E = E') (h : SR (r E') Rn Rl X er t) : SR (r E) Rn Rl X er t := hE ▸ h
/-- the environment as a function of the state and of what is not followed -/
def RF {σ ω : Type} (f : σ → ω → Env) : σ → Env → Prop := fun s E => ∃ o, E = f s o
section
variable {σ τ lam ρ ω : Type} {E : Env} {Rn : σ → Env → Prop} {Rl : lam → Env → Prop} {X : Option ρ → Env → Prop} {er : ρ → D} {r : Env → Out} {e : α → D}
theorem sr_nilF {f : σ → ω → Env} {s : σ} (o : ω) (h : E = f s o) : SR (nilS E) (RF f) Rl X er (.nx s) := sr_nil ⟨o, h⟩
theorem sr_joinF (f : τ → ω → Env) {s : Env → Out} {t : TR τ lam ρ} {k : τ → TR σ lam ρ} (h : SR (s E) (RF f) Rl X er t) (hk : ∀ u o, SR (r (f u o)) Rn Rl X er (k u)) : SR (seqS s r E) Rn Rl X er (kSeq t k) := sr_join (Rm := RF f) h fun u E' ⟨o, h⟩ => h ▸ hk u o
theorem sr_forF (f : τ → ω → Env) {gi : Env → Res (List D)} {ud : D → Env → Res Env} {body : Env → Out} {txs : Res (List α)} {tb : α → τ → TR τ τ ρ} {s0 : τ} {k : τ → TR σ lam ρ} (o : ω) (hx : X none E) (hi : Ev (gi E) (List.map e) txs) (h0 : E = f s0 o)
    (hb : ∀ x s o, ∃ E1, ud (e x) (f s o) = .ok E1 ∧ SR (body E1) (RF f) (RF f) X er (tb x s)) (hk : ∀ u o, SR (r (f u o)) Rn Rl X er (k u)) : SR (seqS (gFor gi ud body) r E) Rn Rl X er (kLet txs fun xs => kSeq (kFor tb xs s0) k) :=
  sr_for (R := RF f) hx hi ⟨o, h0⟩ (fun x s E ⟨o, h⟩ => h ▸ hb x s o) fun u E' ⟨o, h⟩ => h ▸ hk u o
theorem sr_whileF (f : τ → ω → Env) {gt : Env → Res Bool} {body : Env → Out} {n : Nat} {c : τ → Res Bool} {tb : τ → TR τ τ ρ} {s0 : τ} {k : τ → TR σ lam ρ} (o : ω) (hx : ∀ s o, X none (f s o)) (h0 : E = f s0 o) (hc : ∀ s o, Ev (gt (f s o)) id (c s))
    (hb : ∀ s o, SR (body (f s o)) (RF f) (RF f) X er (tb s)) (hk : ∀ u o, SR (r (f u o)) Rn Rl X er (k u)) : SR (seqS (whileS gt body n) r E) Rn Rl X er (kSeq (kWhile c tb n s0) k) :=
  sr_while (R := RF f) (fun s E ⟨o, h⟩ => h ▸ hx s o) ⟨o, h0⟩ (fun s E ⟨o, h⟩ => h ▸ hc s o) (fun s E ⟨o, h⟩ => h ▸ hb s o) fun u E' ⟨o, h⟩ => h ▸ hk u o
end
/-- operations that leave the value -/
theorem ev_unI {α : Type} {E : Env} {ga : Env → Res D} {e1 e2 : α → D} {f : D → Res D} {t : Res α} (hf : ∀ a, Ev (f (e1 a)) e2 (.ok a)) (ha : Ev (ga E) e1 t) : Ev (gUn f ga E) e2 t := by
  have := ev_un (ft := fun a => .ok a) hf ha
  cases t <;> exact this
theorem ev_itI {α : Type} {E : Env} {ga : Env → Res D} {st : Bool} {e2 : α → D} {g : List α → D} {t : Res (List α)} (hf : ∀ a, Ev (itD st (g a)) (List.map e2) (.ok a)) (ha : Ev (ga E) g t) : Ev (gIt st ga E) (List.map e2) t := by
  have := ev_it (ft := fun a => .ok a) hf ha
  cases t <;> exact this
theorem ev_truI {E : Env} {ga : Env → Res D} {t : Res Bool} (ha : Ev (ga E) eB t) : Ev (gTru ga E) id t := by
  have := ev_tru (ft := fun a => .ok a) tru_B ha
  cases t <;> exact this
end
end PD
noncomputable section
namespace PD
open PySem L2
section
variable {α β γ σ τ lam ρ : Type}
@[simp] theorem res_assoc {t : Res α} {k : α → Res β} {l : β → Res γ} : (t >>= k) >>= l = t >>= fun a => k a >>= l := by cases t <;> rfl
@[simp] theorem kAnd_tt {b : Res Bool} : kAnd (.ok true) b = b := by unfold kAnd; rfl
@[simp] theorem kAnd_ff {b : Res Bool} : kAnd (.ok false) b = .ok false := by unfold kAnd; rfl
@[simp] theorem kOr_tt {b : Res Bool} : kOr (.ok true) b = .ok true := by unfold kOr; rfl
@[simp] theorem kOr_ff {b : Res Bool} : kOr (.ok false) b = b := by unfold kOr; rfl
@[simp] theorem kAnd_oo {a b : Bool} : kAnd (.ok a) (.ok b) = .ok (a && b) := kAnd_ok
@[simp] theorem kOr_oo {a b : Bool} : kOr (.ok a) (.ok b) = .ok (a || b) := kOr_ok
@[simp] theorem kNot_ok {a : Bool} : kNot (.ok a) = .ok (!a) := rfl
def wpR (t : Res α) (Q : α → Prop) (X : Exc → Prop) : Prop := match t with
  | .ok a => Q a
  | .ex x => X x
  | .bad => False
def wpT (t : TR σ lam ρ) (N : σ → Prop) (C B : lam → Prop) (Rt : ρ → Prop) (X : Exc → Prop) : Prop := match t with
  | .nx s => N s
  | .rt r => Rt r
  | .bk s => B s
  | .ct s => C s
  | .ex x => X x
  | .bad => False
section
variable {N : σ → Prop} {C B : lam → Prop} {Rt : ρ → Prop} {X : Exc → Prop} {Q : α → Prop}
@[simp] theorem wpR_ok {a : α} : wpR (.ok a) Q X = Q a := rfl
@[simp] theorem wpR_ex {x : Exc} : wpR (.ex x) Q X = X x := rfl
@[simp] theorem wpR_bad : wpR (.bad : Res α) Q X = False := rfl
@[simp] theorem wpR_bind {t : Res β} {k : β → Res α} : wpR (t >>= k) Q X = wpR t (fun b => wpR (k b) Q X) X := by cases t <;> rfl
@[simp] theorem wpR_ite {c : Prop} [Decidable c] {t u : Res α} : wpR (if c then t else u) Q X = if c then wpR t Q X else wpR u Q X := by split <;> rfl
@[simp] theorem wpT_nx {s : σ} : wpT (.nx s) N C B Rt X = N s := rfl
@[simp] theorem wpT_rt {s : ρ} : wpT (.rt s) N C B Rt X = Rt s := rfl
@[simp] theorem wpT_bk {s : lam} : wpT (.bk s) N C B Rt X = B s := rfl
@[simp] theorem wpT_ct {s : lam} : wpT (.ct s) N C B Rt X = C s := rfl
@[simp] theorem wpT_ex {x : Exc} : wpT (.ex x) N C B Rt X = X x := rfl
@[simp] theorem wpT_let {t : Res β} {k : β → TR σ lam ρ} : wpT (kLet t k) N C B Rt X = wpR t (fun b => wpT (k b) N C B Rt X) X := by cases t <;> rfl
@[simp] theorem wpT_ite {c : Prop} [Decidable c] {t u : TR σ lam ρ} : wpT (if c then t else u) N C B Rt X = if c then wpT t N C B Rt X else wpT u N C B Rt X := by split <;> rfl
@[simp] theorem wpT_if {t : Res Bool} {x y : TR σ lam ρ} : wpT (kIf t x y) N C B Rt X = wpR t (fun c => if c = true then wpT x N C B Rt X else wpT y N C B Rt X) X := by
  unfold kIf
  rw [wpT_let]
  congr 1
  exact funext fun c => by simp
@[simp] theorem wpT_seq {t : TR τ lam ρ} {k : τ → TR σ lam ρ} : wpT (kSeq t k) N C B Rt X = wpT t (fun s => wpT (k s) N C B Rt X) C B Rt X := by cases t <;> rfl
@[simp] theorem wpT_ret {t : Res ρ} : wpT (kRet t : TR σ lam ρ) N C B Rt X = wpR t Rt X := by cases t <;> rfl
@[simp] theorem wpR_end {t : TR ρ Empty ρ} : wpR (kEnd t) Rt X = wpT t Rt (fun _ => False) (fun _ => False) Rt X := by cases t <;> rfl
theorem wpR_mono {t : Res α} {Q' : α → Prop} (h : wpR t Q X) (hq : ∀ a, Q a → Q' a) : wpR t Q' X := by cases t <;> first | exact hq _ h | exact h
@[simp] theorem wpR_andR {a : Res Bool} {b : Res Bool} {Q : Bool → Prop} : wpR (kAnd a b) Q X = wpR a (fun k => if k = true then wpR b Q X else Q false) X := by cases a with
  | ok a => cases a <;> rfl
  | ex x => rfl
  | bad => rfl
@[simp] theorem wpR_orR {a : Res Bool} {b : Res Bool} {Q : Bool → Prop} : wpR (kOr a b) Q X = wpR a (fun k => if k = true then Q true else wpR b Q X) X := by cases a with
  | ok a => cases a <;> rfl
  | ex x => rfl
  | bad => rfl
@[simp] theorem wpR_not {a : Res Bool} {Q : Bool → Prop} : wpR (kNot a) Q X = wpR a (fun k => Q (!k)) X := by cases a <;> rfl
/-- from what is brought about to the value -/
theorem wpR_eq {t : Res α} {a : α} (h : wpR t (fun b => b = a) fun _ => False) : t = .ok a := by
  cases t with
  | ok b => exact congrArg Res.ok h
  | ex x => exact h.elim
  | bad => exact h.elim
theorem wpR_get {t : Res α} (h : wpR t Q fun _ => False) : ∃ a, t = .ok a ∧ Q a := by
  cases t with
  | ok b => exact ⟨b, rfl, h⟩
  | ex x => exact h.elim
  | bad => exact h.elim
theorem wpT_mono {t : TR σ lam ρ} {N' : σ → Prop} (h : wpT t N C B Rt X) (hq : ∀ a, N a → N' a) : wpT t N' C B Rt X := by cases t <;> first | exact hq _ h | exact h
theorem wpT_for {body : α → σ → TR σ σ ρ} {xs : List α} {s : σ} (I : List α → σ → Prop) (h0 : I [] s) (hb : ∀ p x q s, xs = p ++ x :: q → I p s → wpT (body x s) (I (p ++ [x])) (I (p ++ [x])) N Rt X) (hn : ∀ s, I xs s → N s) : wpT (kFor body xs s : TR σ lam ρ) N C B Rt X := by
  have key : ∀ (ys pre : List α) (s : σ), xs = pre ++ ys → I pre s → wpT (kFor body ys s : TR σ lam ρ) N C B Rt X := by
    intro ys
    induction ys with
    | nil =>
      intro pre s e h
      rw [List.append_nil] at e
      subst e
      exact hn s h
    | cons y ys ih =>
      intro pre s e h
      have hy := hb pre y ys s e h
      cases hc : body y s with
      | nx t =>
        rw [hc] at hy
        rw [kFor_cons hc]
        exact ih (pre ++ [y]) t (by rw [e]; simp) hy
      | ct t =>
        rw [hc] at hy
        rw [kFor_cons_ct hc]
        exact ih (pre ++ [y]) t (by rw [e]; simp) hy
      | bk t => rw [hc] at hy; rw [kFor_cons_bk hc]; exact hy
      | rt t => rw [hc] at hy; rw [kFor_cons_rt hc]; exact hy
      | ex t => rw [hc] at hy; rw [kFor_cons_ex hc]; exact hy
      | bad => rw [hc] at hy; exact hy.elim
  exact key xs [] s rfl h0
theorem wpT_while {c : σ → Res Bool} {body : σ → TR σ σ ρ} {n : Nat} {s : σ} (I : σ → Prop) (m : σ → Nat) (h0 : I s) (hm : m s < n) (hb : ∀ s, I s → wpR (c s) (fun b => if b = true then wpT (body s) (fun t => I t ∧ m t < m s) (fun t => I t ∧ m t < m s) N Rt X else N s) X) : wpT (kWhile c body n s : TR σ lam ρ) N C B Rt X := by
  induction n generalizing s with
  | zero => omega
  | succ n ih =>
    have h := hb s h0
    unfold kWhile
    cases hc : c s with
    | bad => rw [hc] at h; exact h.elim
    | ex x => rw [hc] at h; exact h
    | ok b =>
      rw [hc] at h
      cases b with
      | false => exact h
      | true =>
        have h : wpT (body s) (fun t => I t ∧ m t < m s) (fun t => I t ∧ m t < m s) N Rt X := h
        cases hs : body s with
        | nx t => rw [hs] at h; exact ih h.1 (Nat.lt_of_lt_of_le h.2 (by omega))
        | ct t => rw [hs] at h; exact ih h.1 (Nat.lt_of_lt_of_le h.2 (by omega))
        | bk t => rw [hs] at h; exact h
        | rt t => rw [hs] at h; exact h
        | ex t => rw [hs] at h; exact h
        | bad => rw [hs] at h; exact h.elim
/-- a loop that only looks -/
theorem wpT_look {body : α → Unit → TR Unit Unit ρ} {xs : List α} {N : Unit → Prop} (p : α → Bool) (r : ρ) (hb : ∀ x ∈ xs, wpT (body x ()) (fun _ => p x = true) (fun _ => p x = true) (fun _ => False) (fun z => p x = false ∧ z = r) (fun _ => False)) (h1 : xs.all p = true → N ()) (h2 : xs.all p = false → Rt r) : wpT (kFor body xs () : TR Unit lam ρ) N C B Rt X := by
  refine wpT_for (fun q _ => q.all p = true) rfl (fun q x q2 s e h => ?_) (fun s h => h1 h)
  have hx := hb x (by rw [e]; simp)
  cases hc : body x () with
  | nx t => rw [hc] at hx; show (q ++ [x]).all p = true; rw [List.all_append, h]; simpa using (show p x = true from hx)
  | ct t => rw [hc] at hx; show (q ++ [x]).all p = true; rw [List.all_append, h]; simpa using (show p x = true from hx)
  | rt t =>
    rw [hc] at hx
    obtain ⟨g1, g2⟩ : p x = false ∧ t = r := hx
    show Rt t
    rw [g2]
    refine h2 ?_
    rw [e, List.all_append, List.all_cons, g1]
    simp
  | _ => rw [hc] at hx; exact hx.elim
end
theorem wpR_lc {X : Exc → Prop} {c : α → Res Bool} {b : α → Res β} (c' : α → Bool) (b' : α → β) {xs : List α} {Q : List β → Prop} (hc : ∀ x ∈ xs, c x = .ok (c' x)) (hb : ∀ x ∈ xs, c' x = true → b x = .ok (b' x)) (hl : xs.length ≤ 16777216) (hq : Q ((xs.filter c').map b')) : wpR (kLc xs c b) Q X := by
  rw [kLc_of hc hb, lim_ok (by rw [List.length_map]; exact Nat.le_trans (List.length_filter_le _ _) hl)]
  exact hq
theorem wpR_lcP {X : Exc → Prop} {c : α → Res Bool} {b : α → Res β} (P : β → Prop) {xs : List α} {Q : List β → Prop} (hc : ∀ x ∈ xs, ∃ k, c x = .ok k) (hb : ∀ x ∈ xs, c x = .ok true → ∃ y, b x = .ok y ∧ P y) (hl : xs.length ≤ 16777216) (hq : ∀ ys : List β, ys.length ≤ xs.length → (∀ y ∈ ys, P y) → Q ys) : wpR (kLc xs c b) Q X := by
  have key : ∀ zs : List α, (∀ x ∈ zs, x ∈ xs) → ∃ ys, lcT c b zs = .ok ys ∧ ys.length ≤ zs.length ∧ ∀ y ∈ ys, P y := by
    intro zs
    induction zs with
    | nil => exact fun _ => ⟨[], rfl, Nat.le_refl _, fun _ h => by cases h⟩
    | cons z zs ih =>
      intro hz
      obtain ⟨ys, h1, h2, h3⟩ := ih fun x hx => hz x (List.mem_cons_of_mem _ hx)
      obtain ⟨k, hk⟩ := hc z (hz z List.mem_cons_self)
      unfold lcT
      rw [hk, h1]
      cases k with
      | false => exact ⟨ys, rfl, Nat.le_succ_of_le h2, h3⟩
      | true =>
        obtain ⟨y, hy, hp⟩ := hb z (hz z List.mem_cons_self) hk
        rw [hy]
        refine ⟨y :: ys, rfl, Nat.succ_le_succ h2, fun w hw => ?_⟩
        rcases List.mem_cons.mp hw with rfl | hw
        · exact hp
        · exact h3 w hw
  obtain ⟨ys, h1, h2, h3⟩ := key xs fun _ h => h
  unfold kLc
  rw [h1, res_bind_ok, lim_ok (Nat.le_trans h2 hl)]
  exact hq ys h2 h3
/-- one for each -/
theorem wpR_lcM {X : Exc → Prop} {b : α → Res β} (P : β → Prop) {xs : List α} {Q : List β → Prop} (hb : ∀ x ∈ xs, ∃ y, b x = .ok y ∧ P y) (hl : xs.length ≤ 16777216) (hq : ∀ ys : List β, ys.length = xs.length → (∀ y ∈ ys, P y) → Q ys) : wpR (kLc xs (fun _ => .ok true) b) Q X := by
  have key : ∀ zs : List α, (∀ x ∈ zs, x ∈ xs) → ∃ ys, lcT (fun _ => .ok true) b zs = .ok ys ∧ ys.length = zs.length ∧ ∀ y ∈ ys, P y := by
    intro zs
    induction zs with
    | nil => exact fun _ => ⟨[], rfl, rfl, fun _ h => by cases h⟩
    | cons z zs ih =>
      intro hz
      obtain ⟨ys, h1, h2, h3⟩ := ih fun x hx => hz x (List.mem_cons_of_mem _ hx)
      unfold lcT
      rw [h1]
      obtain ⟨y, hy, hp⟩ := hb z (hz z List.mem_cons_self)
      rw [hy]
      refine ⟨y :: ys, rfl, congrArg (· + 1) h2, fun w hw => ?_⟩
      rcases List.mem_cons.mp hw with rfl | hw
      · exact hp
      · exact h3 w hw
  obtain ⟨ys, h1, h2, h3⟩ := key xs fun _ h => h
  unfold kLc
  rw [h1, res_bind_ok, lim_ok (by omega)]
  exact hq ys h2 h3
/-- a filter -/
theorem wpR_lcF {X : Exc → Prop} {c : α → Res Bool} (c' : α → Bool) {xs : List α} {Q : List α → Prop} (hc : ∀ x ∈ xs, c x = .ok (c' x)) (hl : xs.length ≤ 16777216) (hq : Q (xs.filter c')) : wpR (kLc xs c fun x => .ok x) Q X := by
  refine wpR_lc c' id hc (fun _ _ _ => rfl) hl ?_
  rw [List.map_id]
  exact hq
theorem range_at {n : Nat} {p q : List Int} {x : Int} (e : (List.range n).map Int.ofNat = p ++ x :: q) : x = (p.length : Int) ∧ p.length < n := by
  have hl := congrArg List.length e
  simp at hl
  have h : ((List.range n).map Int.ofNat)[p.length]? = (p ++ x :: q)[p.length]? := congrArg (fun l : List Int => l[p.length]?) e
  rw [List.getElem?_append_right (Nat.le_refl _), Nat.sub_self, List.getElem?_map, List.getElem?_range (by omega)] at h
  simp at h
  exact ⟨h.symm, by omega⟩
theorem ixL_nat {xs : List α} {i : Nat} {a : α} (h : xs[i]? = some a) : ixL xs (i : Int) = .ok a := by
  unfold ixL atI ixN
  have hl := (List.getElem?_eq_some_iff.mp h).1
  rw [if_pos (by omega), if_pos (by omega)]
  simp only [Int.toNat_natCast, Option.bind_some, h, atR]
theorem ixL_int {xs : List α} {i : Int} {a : α} (h0 : 0 ≤ i) (h : xs[i.toNat]? = some a) : ixL xs i = .ok a := by
  have := ixL_nat h
  rwa [Int.toNat_of_nonneg h0] at this
theorem ixL_get {xs : List α} {i : Int} (h0 : 0 ≤ i) (h : i.toNat < xs.length) : ixL xs i = .ok xs[i.toNat] := ixL_int h0 (List.getElem?_eq_getElem h)
@[simp] theorem ixL_zero {x : α} {xs : List α} : ixL (x :: xs) 0 = .ok x := ixL_nat (i := 0) rfl
@[simp] theorem ixL_one {x y : α} {xs : List α} : ixL (x :: y :: xs) 1 = .ok y := ixL_nat (i := 1) rfl
@[simp] theorem ixL_two {x y z : α} {xs : List α} : ixL (x :: y :: z :: xs) 2 = .ok z := ixL_nat (i := 2) rfl
@[simp] theorem ixL_three {x y z w : α} {xs : List α} : ixL (x :: y :: z :: w :: xs) 3 = .ok w := ixL_nat (i := 3) rfl
theorem ixL_last {xs : List α} {x : α} : ixL (xs ++ [x]) (-1) = .ok x := by
  unfold ixL atI ixN
  rw [if_neg (by omega), if_pos (by simp; omega)]
  have : (-1 + ((xs ++ [x]).length : Int)).toNat = xs.length := by simp; omega
  rw [this]
  simp [atR]
theorem ixS_of {t : Tx} {i : Int} {c : Char} (hl : t.length ≤ 16777216) (h : ixL t i = .ok c) : ixS t i = .ok [c] := by
  unfold ixS
  rw [grd_ok hl, h]
  rfl
theorem lenS_of {t : Tx} (h : t.length ≤ 16777216) : lenS t = .ok t.length := grd_ok h
theorem addS_of {a b : Tx} (h : a.length + b.length ≤ 16777216) : addS a b = .ok (a ++ b) := grd_ok h
theorem slS_of {t : Tx} {lo hi : Option Int} (h : t.length ≤ 16777216) : slS t lo hi = .ok (cutL t lo hi) := grd_ok h
theorem mulI_r {a b : Int} (h : -18446744073709551616 < b ∧ b < 18446744073709551616) : mulI a b = .ok (a * b) := grd_ok (.inr h)
theorem modI_of {a b : Int} (h : 0 < b) : modI a b = .ok (a % b) := grd_ok h
theorem divI_of {a b : Int} (h : 0 < b ∧ b < 1073741824) : divI a b = .ok (a / b) := grd_ok h
theorem rng1_nat {n : Nat} (h : n < 1000000000) : rng1 (n : Int) = .ok ((List.range n).map Int.ofNat) := by
  unfold rng1
  rw [grd_ok (by omega)]
  unfold rngL
  rw [Int.toNat_natCast]
  congr 1
  exact List.map_congr_left fun i _ => by simp
theorem joinG_of {sep : Tx} {ws : List Tx} (h : (ws.map List.length).sum + ws.length * sep.length ≤ 16777216) : joinG sep ws = .ok (joinT sep ws) := grd_ok h
theorem idxG_of [DecidableEq α] {xs : List α} {a : α} {j : Nat} (h : xs.findIdx? (fun z => decide (z = a)) = some j) : idxG xs a = .ok (j : Int) := by
  unfold idxG
  rw [h]
theorem app1_last {xss : List (List α)} {xs : List α} {a : α} (h : xs.length < 16777216) : app1 (xss ++ [xs]) (-1) (.ok a) = .ok (xss ++ [xs ++ [a]]) := by
  have hat : atI (xss ++ [xs]) (-1) = some xs := by
    have := ixL_last (xs := xss) (x := xs)
    unfold ixL at this
    cases e : atI (xss ++ [xs]) (-1) with
    | none => rw [e] at this; cases this
    | some y => rw [e] at this; cases this; rfl
  have hix : ixN (xss ++ [xs]).length (-1) = some xss.length := by
    unfold ixN
    rw [if_neg (by omega), if_pos (by simp; omega)]
    simp
    omega
  unfold app1
  rw [hat, hix]
  simp only [atR, res_bind_ok, appL_ok h, Option.getD_some]
  rw [List.set_append_right _ _ (Nat.le_refl _), Nat.sub_self]
  rfl
theorem cutL_drop' {xs : List α} {i : Int} (h : 0 ≤ i) : cutL xs (some i) none = xs.drop i.toNat := by
  have := cutL_drop xs i.toNat
  rwa [Int.toNat_of_nonneg h] at this
theorem cutL_mid' {xs : List α} {i j : Int} (h : 0 ≤ i) (h2 : 0 ≤ j) : cutL xs (some i) (some j) = (xs.drop i.toNat).take (j.toNat - i.toNat) := by
  have := cutL_mid xs i.toNat j.toNat
  rwa [Int.toNat_of_nonneg h, Int.toNat_of_nonneg h2] at this
theorem joinT_nil : ∀ ws : List Tx, joinT [] ws = ws.flatten
  | [] => rfl
  | [w] => by simp [joinT]
  | w :: v :: r => by
    have ih := joinT_nil (v :: r)
    rw [joinT, ih]
    simp
/-- numbers of a script: from 0 to 1008 -/
def Small (ns : List Int) : Prop := ∀ n ∈ ns, 0 ≤ n ∧ n < 1009
theorem Small.snoc {ns : List Int} {n : Int} (h : Small ns) (h1 : 0 ≤ n) (h2 : n < 1009) : Small (ns ++ [n]) := fun m hm => by
  rcases List.mem_append.mp hm with q | q
  · exact h m q
  · rw [List.mem_singleton.mp q]
    exact ⟨h1, h2⟩
/-- the number at a place -/
def nth (ns : List Int) (i : Nat) : Int := ns.getD i 0
theorem Small.nth {ns : List Int} (h : Small ns) (i : Nat) : 0 ≤ nth ns i ∧ nth ns i < 1009 := by
  unfold PD.nth
  rw [List.getD_eq_getElem?_getD]
  cases e : ns[i]? with
  | none => simp
  | some a => exact h a (List.mem_of_getElem? e)
theorem ixL_nth {ns : List Int} {i : Nat} (h : i < ns.length) : ixL ns (i : Int) = .ok (nth ns i) := ixL_nat (by unfold PD.nth; rw [List.getD_eq_getElem?_getD, List.getElem?_eq_getElem h]; rfl)
end
end PD
noncomputable section
namespace PD
open PySem L2
section
variable {α β γ δ σ τ lam ρ : Type} {E : Env} {i : Nat} {g ga gb go : Env → Res D} {gs : Env → Res (List D)} {e e' e1 e2 e3 : α → D} {f f' : Fl} {X : Option ρ → Env → Prop} {Rn : σ → Env → Prop} {Rl : lam → Env → Prop} {er : ρ → D} {r : Env → Out}
end
end PD
noncomputable section
namespace PD
open PySem L2
section
variable {α β γ : Type} {E : Env} {ga gb : Env → Res D} {gs : Env → Res (List D)} {e e' : α → D} {f f' : Fl}
/-- data of a list or a tuple -/
class SeqE (e : α → D) (b : α → Bool) : Prop where h : ∀ a p, (e a).py = some p → ∃ ps, p = (if b a = true then .tuple ps else .list ps)
instance : SeqE (eL f e) (fun _ => false) := ⟨fun a p h => by obtain ⟨ps, k1, rfl⟩ := map_some' (show (pyL _).map .list = some p from h); exact ⟨ps, rfl⟩⟩
instance : SeqE (eTL e) (fun _ => true) := ⟨fun a p h => by obtain ⟨ps, k1, rfl⟩ := map_some' (show (pyL _).map .tuple = some p from h); exact ⟨ps, rfl⟩⟩
end
inductive Part where
  | s (t : Tx)
  | q (b : Bool) (xs : List Tx)
  deriving DecidableEq
section
end
end PD
noncomputable section
namespace PD
open PySem L2
section
variable {α β γ σ τ lam ρ : Type} {E : Env} {i j : Nat} {g : Env → Res D} {ga gk : Env → Res (List D)} {e : α → D} {f : Fl} {X : Option ρ → Env → Prop} {Rn : σ → Env → Prop} {Rl : lam → Env → Prop} {er : ρ → D} {r : Env → Out}
end
end PD
noncomputable section
namespace PD
open PySem L2
section
variable {α β γ δ σ τ lam ρ ω κ : Type} {E : Env} {i j : Nat} {g ga gb gd gi : Env → Res D} {gs gk : Env → Res (List D)} {e e' e1 e2 e3 : α → D} {f f' : Fl} {X : Option ρ → Env → Prop} {Rn : σ → Env → Prop} {Rl : lam → Env → Prop} {er : ρ → D} {r : Env → Out} {gp : GP} {gm : Env → MRes}
structure Pl (gp : GP) (i : Nat) (E : Env) (e : α → D) (a : α) (eo : ω → D) (up : α → ω) : Prop where
  h : ∃ p, gp E = .ok p ∧ partOf E i p = some (e a) ∧ ∀ b, updE E i p (e b) = E.set i (some (eo (up b)))
  id_ : E[i]? = some (some (eo (up a)))
end
end PD
noncomputable section
namespace PD
open PySem L2
section
variable {α β γ δ σ τ lam ρ ω κ : Type} {E : Env} {i j : Nat} {g ga gb gd gi : Env → Res D} {gs gk : Env → Res (List D)} {e e' e1 e2 e3 : α → D} {f f' : Fl} {X : Option ρ → Env → Prop} {Rn : σ → Env → Prop} {Rl : lam → Env → Prop} {er : ρ → D} {r : Env → Out} {gp : GP} {gm : Env → MRes}
def k2 (p : Tx × Tx) : List Key := [.inr (sT p.1), .inr (sT p.2)]
def k1 (p : Tx) : Key := .inr (sT p)
section
variable {K : Type} [DecidableEq K] [DecidableEq κ] {kk : κ → K}
end
open Classical in
end
end PD
noncomputable section
namespace PD
open PySem L2
section
variable {α β γ δ σ τ lam ρ ω κ : Type} {E : Env} {i j : Nat} {g ga gb gd gi g1 : Env → Res D} {e e' e1 e2 e3 : α → D} {X : Option ρ → Env → Prop} {Rn : σ → Env → Prop} {Rl : lam → Env → Prop} {er : ρ → D} {r : Env → Out} {gm : Env → MRes}
section
variable {N : σ → Prop} {C B : lam → Prop} {Rt : ρ → Prop} {Xw : Exc → Prop} {Q : α → Prop}
end
end
end PD
noncomputable section
namespace PD
open PySem L2
section
variable {α σ lam ρ : Type} {E : Env} {g : Env → Res D} {e : α → D} {X : Option ρ → Env → Prop} {Rn : σ → Env → Prop} {Rl : lam → Env → Prop} {er : ρ → D} {r : Env → Out}
end
end PD
noncomputable section
namespace PD
open PySem L2
section
variable {α β γ δ : Type} {e e1 e1' : α → D} {e2 e2' : β → D} {f : Fl}
/-- one of two kinds -/
def eU (e1 : α → D) (e2 : β → D) : α ⊕ β → D
  | .inl a => e1 a
  | .inr b => e2 b
def asL : α ⊕ β → Res α
  | .inl a => .ok a
  | .inr _ => .bad
@[simp] theorem asL_l {a : α} : asL (.inl a : α ⊕ β) = .ok a := rfl
theorem Ev.asL {r : Res D} {t : Res (α ⊕ β)} (h : Ev r (eU e1 e2) t) : Ev r e1 (t >>= asL) := by
  cases t with
  | ok p => cases p with
    | inl a => exact h
    | inr b => trivial
  | ex x => exact h
  | bad => trivial
instance [Imm e1] [Imm e2] : Imm (eU e1 e2) := ⟨fun p => by cases p with | inl a => exact Imm.h (e := e1) a | inr b => exact Imm.h (e := e2) b⟩
instance [Dm e1 e1'] [Dm e2 e2'] : Dm (eU e1 e2) (eU e1' e2') := ⟨fun p => by cases p with | inl a => exact Dm.h (e := e1) a | inr b => exact Dm.h (e := e2) b⟩
instance [Fr e1 e1'] [Fr e2 e2'] : Fr (eU e1 e2) (eU e1' e2') := ⟨fun p => by cases p with | inl a => exact Fr.h (e := e1) a | inr b => exact Fr.h (e := e2) b⟩
instance [NoOw e1] [NoOw e2] : NoOw (eU e1 e2) := ⟨fun p => by cases p with | inl a => exact NoOw.h (e := e1) a | inr b => exact NoOw.h (e := e2) b⟩
instance [NoBo e1] [NoBo e2] : NoBo (eU e1 e2) := ⟨fun p => by cases p with | inl a => exact NoBo.h (e := e1) a | inr b => exact NoBo.h (e := e2) b⟩
instance [SomeE e1] [SomeE e2] : SomeE (eU e1 e2) := ⟨fun p => by cases p with | inl a => exact SomeE.h (e := e1) a | inr b => exact SomeE.h (e := e2) b⟩
instance [NotNon e1] [NotNon e2] : NotNon (eU e1 e2) := ⟨fun p => by cases p with | inl a => exact NotNon.h (e := e1) a | inr b => exact NotNon.h (e := e2) b⟩
instance {n m : Nat} [PyE e1 n] [PyE e2 m] : PyE (eU e1 e2) (max n m) := ⟨fun p => by
  cases p with
  | inl a => obtain ⟨p, h1, h2, h3⟩ := PyE.h (e := e1) a; exact ⟨p, h1, h2, Nat.le_trans h3 (Nat.le_max_left _ _)⟩
  | inr b => obtain ⟨p, h1, h2, h3⟩ := PyE.h (e := e2) b; exact ⟨p, h1, h2, Nat.le_trans h3 (Nat.le_max_right _ _)⟩⟩
/-- never equal -/
class Disj (e1 : α → D) (e2 : β → D) : Prop where
  l : ∀ a b p q, (e1 a).py = some p → (e2 b).py = some q → PyData.eqv p q = false
  r : ∀ a b p q, (e1 a).py = some p → (e2 b).py = some q → PyData.eqv q p = false
instance : Disj eS eI := ⟨fun a b p q h1 h2 => by cases h1; cases h2; rfl, fun a b p q h1 h2 => by cases h1; cases h2; rfl⟩
instance : Disj eS eB := ⟨fun a b p q h1 h2 => by cases h1; cases h2; rfl, fun a b p q h1 h2 => by cases h1; cases h2; rfl⟩
instance [DecidableEq α] [DecidableEq β] [EqE e1 e1] [EqE e2 e2] [Disj e1 e2] : EqE (eU e1 e2) (eU e1 e2) := ⟨fun a b p q h1 h2 => by
  cases a with
  | inl a => cases b with
    | inl b => rw [EqE.h (e := e1) (e' := e1) a b p q h1 h2]; by_cases h : a = b <;> simp [h]
    | inr b => rw [Disj.l (e1 := e1) (e2 := e2) a b p q h1 h2]; simp
  | inr a => cases b with
    | inl b => rw [Disj.r (e1 := e1) (e2 := e2) b a q p h2 h1]; simp
    | inr b => rw [EqE.h (e := e2) (e' := e2) a b p q h1 h2]; by_cases h : a = b <;> simp [h]⟩
variable {es es' : α → List D}
variable {σ lam ρ : Type} {Rn : σ → Env → Prop} {Rl : lam → Env → Prop} {er : ρ → D} {X : Option ρ → Env → Prop} {E : Env}
end
end PD
noncomputable section
namespace PD
open PySem L2
section
variable {α β γ δ σ τ lam ρ ω : Type} {E : Env} {i j : Nat} {g : Env → Res D} {gs : Env → Res (List D)} {gp : GP} {gm : Env → MRes} {e : α → D} {Rn : σ → Env → Prop} {Rl : lam → Env → Prop}
end
end PD
noncomputable section
namespace PD
open PySem L2
section
variable {α ω : Type} {E : Env} {i : Nat} {g : Env → Res D} {gp : GP} {e : α → D}
end
end PD
noncomputable section
namespace PD
open PySem L2
end PD
noncomputable section
namespace PD
open PySem L2
section
variable {α σ lam ρ : Type} {E : Env} {i : Nat} {X : Option ρ → Env → Prop} {Rn : σ → Env → Prop} {Rl : lam → Env → Prop} {er : ρ → D} {r : Env → Out}
end
end PD
namespace PD
open PySem L2
section
variable {α β : Type}
inductive All2 (P : α → β → Prop) : List α → List β → Prop
  | nil : All2 P [] []
  | cons {x : α} {y : β} {xs : List α} {ys : List β} (h : P x y) (r : All2 P xs ys) : All2 P (x :: xs) (y :: ys)
end
end PD
noncomputable section
namespace PD
open PySem L2
section
variable {α β γ : Type} {e e' : α → D} {es es' : α → List D} {f f' : Fl}
instance : Disj eS (eL f e) := ⟨fun a b p q h1 h2 => by
  obtain ⟨qs, k2, rfl⟩ := map_some' (show (pyL (b.map e)).map .list = some q from h2)
  cases h1
  rfl, fun a b p q h1 h2 => by
  obtain ⟨qs, k2, rfl⟩ := map_some' (show (pyL (b.map e)).map .list = some q from h2)
  cases h1
  rfl⟩
instance {e1 e1' : α → D} {e2 e2' : β → D} [DecidableEq α] [DecidableEq β] [EqE e1 e1'] [EqE e2 e2'] [Disj e1 e2'] [Disj e1' e2] : EqE (eU e1 e2) (eU e1' e2') := ⟨fun a b p q h1 h2 => by
  cases a with
  | inl a => cases b with
    | inl b => rw [EqE.h (e := e1) (e' := e1') a b p q h1 h2]; by_cases h : a = b <;> simp [h]
    | inr b => rw [Disj.l (e1 := e1) (e2 := e2') a b p q h1 h2]; simp
  | inr a => cases b with
    | inl b => rw [Disj.r (e1 := e1') (e2 := e2) b a q p h2 h1]; simp
    | inr b => rw [EqE.h (e := e2) (e' := e2') a b p q h1 h2]; by_cases h : a = b <;> simp [h]⟩
end
end PD
noncomputable section
namespace PD
open PySem L2
section
variable {α β κ : Type} {e : α → D} {es : α → List D} {f : Fl}
end
end PD
noncomputable section
namespace PD
open PySem L2
section
variable {α : Type} {e e' : α → D}
end
end PD
noncomputable section
namespace PD
open PySem L2
class NoDk (e : α → D) : Prop where h : ∀ a, (e a).noDk = true
class NoDkL (e : α → List D) : Prop where h : ∀ a, noDkL (e a) = true
section
variable {α β : Type} {e e1 : α → D} {e2 : β → D} {es : α → List D} {f : Fl}
theorem noDkL_map (h : ∀ a, (e a).noDk = true) : ∀ xs : List α, noDkL (xs.map e) = true
  | [] => rfl
  | x :: xs => by
    show ((e x).noDk && noDkL (xs.map e)) = true
    rw [h x, noDkL_map h xs]
    rfl
instance : NoDk eI := ⟨fun _ => rfl⟩
instance : NoDk eB := ⟨fun _ => rfl⟩
instance : NoDk eS := ⟨fun _ => rfl⟩
instance : NoDk eN := ⟨fun _ => rfl⟩
instance : NoDk (eL0 f) := ⟨fun _ => rfl⟩
instance [NoDk e] : NoDk (eL f e) := ⟨fun a => noDkL_map NoDk.h a⟩
instance [NoDk e] : NoDk (eTL e) := ⟨fun a => noDkL_map NoDk.h a⟩
instance [NoDk e] : NoDk (eKL e) := ⟨fun a => noDkL_map NoDk.h a⟩
instance : NoDkL pn := ⟨fun _ => rfl⟩
instance [NoDk e] : NoDkL (p1 e) := ⟨fun a => by
  show ((e a).noDk && noDkL []) = true
  rw [NoDk.h a]
  rfl⟩
instance [NoDk e2] [NoDkL es] : NoDkL (pc e2 es) := ⟨fun a => by
  show ((e2 a.1).noDk && noDkL (es a.2)) = true
  rw [NoDk.h a.1, NoDkL.h a.2]
  rfl⟩
instance [NoDkL es] : NoDk (eT es) := ⟨fun a => NoDkL.h a⟩
instance [NoDk e] : NoDk (eO e) := ⟨fun a => by cases a with | none => rfl | some a => exact NoDk.h a⟩
instance [NoDk e1] [NoDk e2] : NoDk (eU e1 e2) := ⟨fun p => by cases p with | inl a => exact NoDk.h (e := e1) a | inr b => exact NoDk.h (e := e2) b⟩
end
section
variable {α β : Type} {E E2 : Env} {f : Fl} {e : α → D}
end
section
variable {α : Type} {e : α → D}
theorem op_isiO1 {s T : String} [TyE e s] (hb : kitB s T = some true) (h0 : kitB "NoneType" T = some false) (a : Option α) : Ev (isiD T (eO e a)) eB (.ok a.isSome) := by
  cases a with
  | none => exact op_isi (e := eN) h0 ()
  | some a => exact op_isi (e := e) hb a
end
end PD
noncomputable section
namespace PD
open PySem L2
section
variable {α : Type} {e : α → D} {f : Fl}
end
end PD
noncomputable section
namespace PD
open PySem L2
def eZ (s : Str) : D := .str s
instance : Imm eZ := ⟨fun _ => rfl⟩
instance : Dm eZ eZ := ⟨fun _ => rfl⟩
instance : Fr eZ eZ := ⟨fun _ => rfl⟩
instance : NoOw eZ := ⟨fun _ => rfl⟩
instance : NoDk eZ := ⟨fun _ => rfl⟩
section
variable {α β : Type} {e : α → D}
def reprT (e : α → D) (a : α) : Res Str := match reprD (e a) with
  | .ok (.str s) => .ok s
  | _ => .bad
theorem op_repr (a : α) : Ev (reprD (e a)) eZ (reprT e a) := by
  unfold reprT
  cases h : reprD (e a) with
  | ok d =>
    cases d with
    | str s => rfl
    | _ => trivial
  | ex x => trivial
  | bad => trivial
theorem op_eqZ (a b : Str) : Ev (eqS (eZ a) (eZ b)) eB (.ok (decide (a = b))) := rfl
/-- what is told of data -/
def ShowOk (p : PyData) : Prop := p.showable = true ∧ p.hasDict = false ∧ p.depth ≤ 40 ∧ p.shown.length ≤ sizeLine
theorem reprT_tup {xs : List D} {a : α} {ps : List PyData} (h : e a = .tup xs) (h2 : pyL xs = some ps) (ok : ShowOk (.tuple ps)) : reprT e a = .ok (PyData.tuple ps).shown := by
  unfold reprT
  rw [h]
  have : reprD (.tup xs) = .ok (.str (PyData.tuple ps).shown) := by
    unfold reprD
    simp only [D.py, h2, Option.map_some]
    exact if_pos ok
  rw [this]
end
end PD
noncomputable section
namespace K61
open PySem PySem.Spec PyProof.Rows L2 PD
structure Facts (w : World) (K : PySem.W.Frag) (mg : Str → Option Value) (T : Tb) where
  f__law_row : Addr
  d__law_row : FuncData
  F__law_row : FunD K "_law_row" "_law_row" (defArgs st__law_row) (defBody st__law_row) (defScope st__law_row) [] [] f__law_row d__law_row
  g__law_row : mg "_law_row" = some (.ref f__law_row)
  f__law_numbers : Addr
  d__law_numbers : FuncData
  F__law_numbers : FunD K "_law_numbers" "_law_numbers" (defArgs st__law_numbers) (defBody st__law_numbers) (defScope st__law_numbers) [] [] f__law_numbers d__law_numbers
  g__law_numbers : mg "_law_numbers" = some (.ref f__law_numbers)
  f__law_word : Addr
  d__law_word : FuncData
  F__law_word : FunD K "_law_word" "_law_word" (defArgs st__law_word) (defBody st__law_word) (defScope st__law_word) [] [] f__law_word d__law_word
  g__law_word : mg "_law_word" = some (.ref f__law_word)
  f__law_is_name : Addr
  d__law_is_name : FuncData
  F__law_is_name : FunD K "_law_is_name" "_law_is_name" (defArgs st__law_is_name) (defBody st__law_is_name) (defScope st__law_is_name) [] [] f__law_is_name d__law_is_name
  g__law_is_name : mg "_law_is_name" = some (.ref f__law_is_name)
  f__law_formed : Addr
  d__law_formed : FuncData
  F__law_formed : FunD K "_law_formed" "_law_formed" (defArgs st__law_formed) (defBody st__law_formed) (defScope st__law_formed) [] [] f__law_formed d__law_formed
  g__law_formed : mg "_law_formed" = some (.ref f__law_formed)
  f__law_turned : Addr
  d__law_turned : FuncData
  F__law_turned : FunD K "_law_turned" "_law_turned" (defArgs st__law_turned) (defBody st__law_turned) (defScope st__law_turned) [] [] f__law_turned d__law_turned
  g__law_turned : mg "_law_turned" = some (.ref f__law_turned)
  f_parted : Addr
  d_parted : FuncData
  F_parted : FunD K "parted" "parted" (defArgs st_parted) (defBody st_parted) (defScope st_parted) [] [] f_parted d_parted
  g_parted : mg "parted" = some (.ref f_parted)
  f_is_name : Addr
  d_is_name : FuncData
  F_is_name : FunD K "is_name" "is_name" (defArgs st_is_name) (defBody st_is_name) (defScope st_is_name) [] [] f_is_name d_is_name
  g_is_name : mg "is_name" = some (.ref f_is_name)
  f_are_names : Addr
  d_are_names : FuncData
  F_are_names : FunD K "are_names" "are_names" (defArgs st_are_names) (defBody st_are_names) (defScope st_are_names) [] [] f_are_names d_are_names
  g_are_names : mg "are_names" = some (.ref f_are_names)
  f_demand_of : Addr
  d_demand_of : FuncData
  F_demand_of : FunD K "demand_of" "demand_of" (defArgs st_demand_of) (defBody st_demand_of) (defScope st_demand_of) [] [] f_demand_of d_demand_of
  g_demand_of : mg "demand_of" = some (.ref f_demand_of)
  f_goal_of : Addr
  d_goal_of : FuncData
  F_goal_of : FunD K "goal_of" "goal_of" (defArgs st_goal_of) (defBody st_goal_of) (defScope st_goal_of) [] [] f_goal_of d_goal_of
  g_goal_of : mg "goal_of" = some (.ref f_goal_of)
  f__law_split : Addr
  d__law_split : FuncData
  F__law_split : FunD K "_law_split" "_law_split" (defArgs st__law_split) (defBody st__law_split) (defScope st__law_split) [] [] f__law_split d__law_split
  g__law_split : mg "_law_split" = some (.ref f__law_split)
  f__law_all_names : Addr
  d__law_all_names : FuncData
  F__law_all_names : FunD K "_law_all_names" "_law_all_names" (defArgs st__law_all_names) (defBody st__law_all_names) (defScope st__law_all_names) [] [] f__law_all_names d__law_all_names
  g__law_all_names : mg "_law_all_names" = some (.ref f__law_all_names)
  f__law_demand : Addr
  d__law_demand : FuncData
  F__law_demand : FunD K "_law_demand" "_law_demand" (defArgs st__law_demand) (defBody st__law_demand) (defScope st__law_demand) [] [] f__law_demand d__law_demand
  g__law_demand : mg "_law_demand" = some (.ref f__law_demand)
  f__law_goal_of : Addr
  d__law_goal_of : FuncData
  F__law_goal_of : FunD K "_law_goal_of" "_law_goal_of" (defArgs st__law_goal_of) (defBody st__law_goal_of) (defScope st__law_goal_of) [] [] f__law_goal_of d__law_goal_of
  g__law_goal_of : mg "_law_goal_of" = some (.ref f__law_goal_of)
  f_law : Addr
  d_law : FuncData
  F_law : FunD K "law" "law" (defArgs st_law) (defBody st_law) (defScope st_law) [] [] f_law d_law
  g_law : mg "law" = some (.ref f_law)
  b_abs : mg "abs" = none
  b_all : mg "all" = none
  b_int : mg "int" = none
  b_isinstance : mg "isinstance" = none
  b_len : mg "len" = none
  b_list : mg "list" = none
  b_max : mg "max" = none
  b_range : mg "range" = none
  b_repr : mg "repr" = none
  b_tuple : mg "tuple" = none
  a_MARKS : Addr
  m_MARKS : mg "MARKS" = some (.ref a_MARKS)
  t_MARKS : TxtRep K T (D.ktup [(D.str "and"), (D.str "with"), (D.str "without"), (D.str "trusting"), (D.str "anybody")]) (.ref a_MARKS)
  c_MOST_NAME_CHARS : ∃ t, mg "MOST_NAME_CHARS" = some (.int 12 t)
  c_NAME_CHARS : ∃ t, mg "NAME_CHARS" = some (.str "abcdefghijklmnopqrstuvwxyz0123456789" t)
section
variable {P : Program} {w : World} {K : PySem.W.Frag} {mg : Str → Option Value} {base : Heap} {T : Tb}
def L__law_row_1 : Env → Out := (seqS (asgS 4 (gBin modD (gDm (gUn intD (gDm (gBin addD (gDm (gBin mulA (gVar 4) (gDm (gC (.int 16807))))) (gDm (gBin mulA (gDm (gC (.int 271))) (gDm (gBin addD (gVar 5) (gDm (gC (.int 3))))))))))) (gDm (gC (.int 2147483629)))))
  (ifS (gB (gBin geD (gDm (gUn absD (gVar 0))) (gDm (gBin powD (gDm (gC (.int 10))) (gDm (gC (.int 18))))))) (seqS (exprSM (gMut 2 fApp (gP0 2) (gOne (gBin modD (gDm (gUn intD (gVar 3))) (gDm (gC (.int 1009)))))))
  (asgS 3 (gBin fdivD (gVar 3) (gDm (gC (.int 1009)))))) (exprSM (gMut 2 fApp (gP0 2) (gOne (gBin modD (gDm (gUn intD (gDm (gBin fdivD (gVar 4) (gDm (gC (.int 7))))))) (gDm (gC (.int 1009)))))))))
def S__law_row : Env → Out := (seqS (asgS 2 (gLst gNil))
  (seqS (asgS 3 (gUn absD (gVar 0)))
  (seqS (asgS 4 (gBin modD (gDm (gUn intD (gDm (gBin addD (gDm (gBin mulA (gVar 3) (gDm (gC (.int 48271))))) (gDm (gC (.int 69621))))))) (gDm (gC (.int 2147483647)))))
  (seqS (gFor (gRng1 (gVar 1)) (udName 5) L__law_row_1)
  (retVS 2)))))
def F__law_row : List D → Res D := bodyF 2 6 S__law_row
theorem sc__law_row : FnScope ["_law_cell", "_law_many", "_law_row_here", "_law_rest", "_law_mixed", "_law_k"] ["_law_cell", "_law_many"] (defScope st__law_row) := ⟨rfl, rfl, rfl, by decide +kernel, rfl, by decide +kernel, by decide +kernel⟩
theorem bd__law_row (Fc : Facts w K mg T) : Binds K Fc.d__law_row ["_law_cell", "_law_many"] [] := Fc.F__law_row.bindsN fun _ _ _ _ _ _ us hl => match us, hl with | [_, _], _ => rfl
theorem ok__law_row (Fc : Facts w K mg T) : FnOk P w K mg base (L2.CX P w) 1 Fc.f__law_row Fc.d__law_row ["_law_cell", "_law_many"] (spF K T F__law_row) := fn_pure Fc.F__law_row sc__law_row rfl fun cdv A outer s0 H E c hr hT h0 tk =>
  (jss_cons (js_set (i := 2) sc__law_row.nd rfl (Or.inl rfl) (jn_lst jl_nil) (h0 2))
  (jss_cons (js_set (i := 3) sc__law_row.nd rfl (Or.inl rfl) (jn_abs rfl Fc.b_abs (jv_var (pv 0))) (h0 3))
  (jss_cons (js_set (i := 4) sc__law_row.nd rfl (Or.inl rfl) (jn_mod (jv_of_jn (jn_intOf rfl Fc.b_int (jv_of_jn (jn_add (jv_of_jn (jn_mulA (jv_var (pv 3)) (jv_of_jn jn_int))) (jv_of_jn jn_int))))) (jv_of_jn jn_int)) (h0 4))
  (jss_cons (js_for (passes_of rfl) rfl (ji_range1 rfl Fc.b_range (jv_var (pv 1))) (jg_name (i := 5) sc__law_row.nd rfl (Or.inl rfl) (h0 5)) (jss_cons (js_set (i := 4) sc__law_row.nd rfl (Or.inl rfl) (jn_mod (jv_of_jn (jn_intOf rfl Fc.b_int (jv_of_jn (jn_add (jv_of_jn (jn_mulA (jv_var (pv 4)) (jv_of_jn jn_int))) (jv_of_jn (jn_mulA (jv_of_jn jn_int) (jv_of_jn (jn_add (jv_var (pv 5)) (jv_of_jn jn_int))))))))) (jv_of_jn jn_int)) (h0 4))
  (jss_one (js_if (jt_ge (jv_of_jn (jn_abs rfl Fc.b_abs (jv_var (pv 0)))) (jv_of_jn (jn_pow (jv_of_jn jn_int) (jv_of_jn jn_int)))) (jss_cons (js_exprM (jm_append (jp_var (pv 2)) (jn_mod (jv_of_jn (jn_intOf rfl Fc.b_int (jv_var (pv 3)))) (jv_of_jn jn_int))))
  (jss_one (js_set (i := 3) sc__law_row.nd rfl (Or.inl rfl) (jn_fdiv (jv_var (pv 3)) (jv_of_jn jn_int)) (h0 3)))) (jss_one (js_exprM (jm_append (jp_var (pv 2)) (jn_mod (jv_of_jn (jn_intOf rfl Fc.b_int (jv_of_jn (jn_fdiv (jv_var (pv 4)) (jv_of_jn jn_int))))) (jv_of_jn jn_int)))))))))
  (jss_one (js_retV (pv 2)))))))
def L__law_numbers_1 : Env → Out := (exprSM (gMut 4 fApp (gP0 4) (gOne (gChk (gVar 6)))))
def L__law_numbers_2 : Env → Out := (gFor (gIt true (gDm (gFr (gCall F__law_row [] (gCons (gDm (gVar 5)) (gCons (gDm (gVar 3)) gNil)))))) (udName 6) L__law_numbers_1)
def L__law_numbers_3 : Env → Out := (exprSM (gMut 4 fApp (gP0 4) (gOne (gC (.int 0)))))
def S__law_numbers : Env → Out := (seqS (asgS 2 (gFr (gSl (gVar 0) gO0 (gO (gDm (gC (.int 63)))))))
  (seqS (asgS 3 (gBin addD (gDm (gC (.int 1))) (gDm (gBin fdivD (gVar 1) (gDm (gBin maxD (gDm (gC (.int 1))) (gDm (gUn lenD (gVar 2)))))))))
  (seqS (asgS 4 (gLst gNil))
  (seqS (gFor (gIt true (gVar 2)) (udName 5) L__law_numbers_2)
  (seqS (whileS (gB (gBin ltD (gDm (gUn lenD (gVar 4))) (gVar 1))) L__law_numbers_3 100000)
  (retS (gSl (gVar 4) gO0 (gO (gVar 1)))))))))
def F__law_numbers : List D → Res D := bodyF 2 7 S__law_numbers
theorem sc__law_numbers : FnScope ["_law_script", "_law_many", "_law_cells", "_law_each", "_law_numbers_here", "_law_cell", "_law_number"] ["_law_script", "_law_many"] (defScope st__law_numbers) := ⟨rfl, rfl, rfl, by decide +kernel, rfl, by decide +kernel, by decide +kernel⟩
theorem bd__law_numbers (Fc : Facts w K mg T) : Binds K Fc.d__law_numbers ["_law_script", "_law_many"] [] := Fc.F__law_numbers.bindsN fun _ _ _ _ _ _ us hl => match us, hl with | [_, _], _ => rfl
theorem ok__law_numbers (Fc : Facts w K mg T) : FnOk P w K mg base (L2.CX P w) 2 Fc.f__law_numbers Fc.d__law_numbers ["_law_script", "_law_many"] (spF K T F__law_numbers) := fn_pure Fc.F__law_numbers sc__law_numbers rfl fun cdv A outer s0 H E c hr hT h0 tk =>
  (jss_cons (js_set (i := 2) sc__law_numbers.nd rfl (Or.inl rfl) (jn_fr (jn_slice (jv_var (pv 0)) jo_none (jo_some (jv_of_jn jn_int)))) (h0 2))
  (jss_cons (js_set (i := 3) sc__law_numbers.nd rfl (Or.inl rfl) (jn_add (jv_of_jn jn_int) (jv_of_jn (jn_fdiv (jv_var (pv 1)) (jv_of_jn (jn_max rfl rfl Fc.b_max (jv_of_jn jn_int) (jv_of_jn (jn_len rfl Fc.b_len (jv_var (pv 2))))))))) (h0 3))
  (jss_cons (js_set (i := 4) sc__law_numbers.nd rfl (Or.inl rfl) (jn_lst jl_nil) (h0 4))
  (jss_cons (js_for (passes_of rfl) rfl (ji_seq (jv_var (pv 2))) (jg_name (i := 5) sc__law_numbers.nd rfl (Or.inl rfl) (h0 5)) (jss_one (js_for (passes_of rfl) rfl (ji_seq (jv_of_jn (jn_fr (jn_call (ok__law_row Fc) hT tk (hr.mono (by decide)) rfl Fc.g__law_row Fc.F__law_row.kp (bd__law_row Fc) .nil dfl_nil (ja_cons (jv_var (pv 5)) (ja_cons (jv_var (pv 3)) ja_nil)))))) (jg_name (i := 6) sc__law_numbers.nd rfl (Or.inl rfl) (h0 6)) (jss_one (js_exprM (jm_append (jp_var (pv 4)) (jn_of_jv (jv_var (pv 6)))))))))
  (jss_cons (js_while 100000 (passes_of rfl) (jt_lt (jv_of_jn (jn_len rfl Fc.b_len (jv_var (pv 4)))) (jv_var (pv 1))) (jss_one (js_exprM (jm_append (jp_var (pv 4)) jn_int))))
  (jss_one (js_ret (jn_slice (jv_var (pv 4)) jo_none (jo_some (jv_var (pv 1)))))))))))
def S__law_word : Env → Out := (seqS (asgS 2 (gFr (gTup (gCons (gFr (gC (.str "and"))) (gCons (gFr (gC (.str "with"))) (gCons (gFr (gC (.str "without"))) (gCons (gFr (gC (.str "trusting"))) (gCons (gFr (gC (.str "anybody"))) (gCons (gFr (gC (.str "charter"))) (gCons (gFr (gC (.str "ask"))) (gCons (gFr (gC (.str "undo"))) (gCons (gFr (gC (.str "answers"))) (gCons (gFr (gC (.str "show"))) (gCons (gFr (gC (.str "plan"))) (gCons (gFr (gC (.str "cut"))) gNil)))))))))))))))
  (seqS (asgS 2 (gFr (gBin addD (gVar 2) (gDm (gTup (gCons (gFr (gC (.str "charters"))) (gCons (gFr (gC (.str "questions"))) (gCons (gFr (gC (.str "print"))) (gCons (gFr (gC (.str "drop"))) (gCons (gFr (gC (.str "remove"))) (gCons (gFr (gC (.str "answer"))) (gCons (gFr (gC (.str "redo"))) (gCons (gFr (gC (.str "done"))) gNil)))))))))))))
  (seqS (ifS (gB (gBin eqD (gDm (gBin modD (gDm (gUn intD (gVar 0))) (gDm (gC (.int 3))))) (gDm (gC (.int 0))))) (retS (gChk (gBin ixD (gVar 2) (gDm (gBin modD (gDm (gBin fdivD (gVar 0) (gDm (gC (.int 3))))) (gDm (gC (.int 20)))))))) nilS)
  (seqS (asgS 3 (gC (.str "abcdefghijklmnopqrstuvwxyz0123456789")))
  (seqS (asgS 4 (gBin modD (gDm (gBin fdivD (gVar 0) (gDm (gC (.int 3))))) (gDm (gC (.int 14)))))
  (seqS (asgS 5 (gBin addD (gBin ixD (gVar 3) (gDm (gBin modD (gDm (gUn intD (gVar 1))) (gDm (gC (.int 36)))))) (gDm (gBinS joinD (gDm (gC (.str ""))) (gDm (gLc (gRng1 (gVar 4)) [6] (udName 6) gYes (gChk (gBin ixD (gVar 3) (gDm (gBin modD (gDm (gUn intD (gDm (gBin addD (gDm (gBin addD (gVar 1) (gDm (gBin mulA (gDm (gBin mulA (gDm (gC (.int 11))) (gVar 6))) (gVar 0))))) (gVar 6))))) (gDm (gC (.int 36)))))))))))))
  (seqS (ifS (gB (gBin eqD (gDm (gBin modD (gDm (gUn intD (gVar 1))) (gDm (gC (.int 11))))) (gDm (gC (.int 0))))) (retS (gBin addD (gDm (gBin addD (gDm (gSl (gVar 5) gO0 (gO (gDm (gC (.int 2)))))) (gDm (gC (.str "_"))))) (gDm (gSl (gVar 5) (gO (gDm (gC (.int 2)))) gO0)))) nilS)
  (seqS (ifS (gB (gBin eqD (gDm (gBin modD (gDm (gUn intD (gVar 1))) (gDm (gC (.int 11))))) (gDm (gC (.int 1))))) (retS (gBin addD (gVar 5) (gDm (gC (.str "A"))))) nilS)
  (retVS 5)))))))))
def F__law_word : List D → Res D := bodyF 2 7 S__law_word
theorem sc__law_word : FnScope ["_law_number", "_law_more", "_law_words", "_law_letters", "_law_size", "_law_word_here", "_law_k"] ["_law_number", "_law_more"] (defScope st__law_word) := ⟨rfl, rfl, rfl, by decide +kernel, rfl, by decide +kernel, by decide +kernel⟩
theorem bd__law_word (Fc : Facts w K mg T) : Binds K Fc.d__law_word ["_law_number", "_law_more"] [] := Fc.F__law_word.bindsN fun _ _ _ _ _ _ us hl => match us, hl with | [_, _], _ => rfl
theorem ok__law_word (Fc : Facts w K mg T) : FnOk P w K mg base (L2.CX P w) 1 Fc.f__law_word Fc.d__law_word ["_law_number", "_law_more"] (spF K T F__law_word) := fn_pure Fc.F__law_word sc__law_word rfl fun cdv A outer s0 H E c hr hT h0 tk =>
  (jss_cons (js_set (i := 2) sc__law_word.nd rfl (Or.inl rfl) (jn_fr (jn_tup (jl_cons jn_str (jl_cons jn_str (jl_cons jn_str (jl_cons jn_str (jl_cons jn_str (jl_cons jn_str (jl_cons jn_str (jl_cons jn_str (jl_cons jn_str (jl_cons jn_str (jl_cons jn_str (jl_cons jn_str jl_nil)))))))))))))) (h0 2))
  (jss_cons (js_set (i := 2) sc__law_word.nd rfl (Or.inl rfl) (jn_fr (jn_add (jv_var (pv 2)) (jv_of_jn (jn_tup (jl_cons jn_str (jl_cons jn_str (jl_cons jn_str (jl_cons jn_str (jl_cons jn_str (jl_cons jn_str (jl_cons jn_str (jl_cons jn_str jl_nil)))))))))))) (h0 2))
  (jss_cons (js_if (jt_eq (ru hr) (jv_of_jn (jn_mod (jv_of_jn (jn_intOf rfl Fc.b_int (jv_var (pv 0)))) (jv_of_jn jn_int))) (jv_of_jn jn_int)) (jss_one (js_ret (jn_of_jv (jv_ix (ru1 hr) (jv_var (pv 2)) (jv_of_jn (jn_mod (jv_of_jn (jn_fdiv (jv_var (pv 0)) (jv_of_jn jn_int))) (jv_of_jn jn_int))))))) jss_nil)
  (jss_cons (js_set (i := 3) sc__law_word.nd rfl (Or.inr rfl) jn_str (h0 3))
  (jss_cons (js_set (i := 4) sc__law_word.nd rfl (Or.inl rfl) (jn_mod (jv_of_jn (jn_fdiv (jv_var (pv 0)) (jv_of_jn jn_int))) (jv_of_jn jn_int)) (h0 4))
  (jss_cons (js_set (i := 5) sc__law_word.nd rfl (Or.inl rfl) (jn_add (jv_ix (ru1 hr) (jv_var (pv 3)) (jv_of_jn (jn_mod (jv_of_jn (jn_intOf rfl Fc.b_int (jv_var (pv 1)))) (jv_of_jn jn_int)))) (jv_of_jn (jn_join (jv_of_jn jn_str) (jv_of_jn (jn_lc (own := [("_law_k", 6)]) rfl sc__law_word.nd (ji_range1 rfl Fc.b_range (jv_var (pv 4))) (blkOk_by rfl) (fun _ _ _ _ _ _ => (jg_name (i := 6) sc__law_word.nd rfl (by first | exact Or.inl rfl | exact Or.inr rfl) rfl)) (fun _ _ _ _ _ _ => jts_nil) (fun _ _ _ _ _ _ => (jn_of_jv (jv_ix (ru1 hr) (jv_var (pv 3)) (jv_of_jn (jn_mod (jv_of_jn (jn_intOf rfl Fc.b_int (jv_of_jn (jn_add (jv_of_jn (jn_add (jv_var (pv 1)) (jv_of_jn (jn_mulA (jv_of_jn (jn_mulA (jv_of_jn jn_int) (jv_var (pv 6)))) (jv_var (pv 0)))))) (jv_var (pv 6)))))) (jv_of_jn jn_int))))))))))) (h0 5))
  (jss_cons (js_if (jt_eq (ru hr) (jv_of_jn (jn_mod (jv_of_jn (jn_intOf rfl Fc.b_int (jv_var (pv 1)))) (jv_of_jn jn_int))) (jv_of_jn jn_int)) (jss_one (js_ret (jn_add (jv_of_jn (jn_add (jv_of_jn (jn_slice (jv_var (pv 5)) jo_none (jo_some (jv_of_jn jn_int)))) (jv_of_jn jn_str))) (jv_of_jn (jn_slice (jv_var (pv 5)) (jo_some (jv_of_jn jn_int)) jo_none))))) jss_nil)
  (jss_cons (js_if (jt_eq (ru hr) (jv_of_jn (jn_mod (jv_of_jn (jn_intOf rfl Fc.b_int (jv_var (pv 1)))) (jv_of_jn jn_int))) (jv_of_jn jn_int)) (jss_one (js_ret (jn_add (jv_var (pv 5)) (jv_of_jn jn_str)))) jss_nil)
  (jss_one (js_retV (pv 5)))))))))))
def L__law_is_name_1 : Env → Out := (ifS (gB (gBin ninD (gVar 1) (gDm (gC (.str "abcdefghijklmnopqrstuvwxyz0123456789"))))) (retS (gC (.bl false))) nilS)
def S__law_is_name : Env → Out := (seqS (ifS (gOr (gB (gBin ltD (gDm (gUn lenD (gVar 0))) (gDm (gC (.int 1))))) (gOr (gB (gBin gtD (gDm (gUn lenD (gVar 0))) (gDm (gC (.int 12))))) (gB (gBin ninD (gBin ixD (gVar 0) (gDm (gC (.int 0)))) (gDm (gC (.str "abcdefghijklmnopqrstuvwxyz"))))))) (retS (gC (.bl false))) nilS)
  (seqS (gFor (gIt true (gVar 0)) (udName 1) L__law_is_name_1)
  (retS (gBin ninD (gVar 0) (gDm (gTup (gCons (gFr (gC (.str "and"))) (gCons (gFr (gC (.str "with"))) (gCons (gFr (gC (.str "without"))) (gCons (gFr (gC (.str "trusting"))) (gCons (gFr (gC (.str "anybody"))) gNil)))))))))))
def F__law_is_name : List D → Res D := bodyF 1 2 S__law_is_name
theorem sc__law_is_name : FnScope ["_law_word_here", "_law_char"] ["_law_word_here"] (defScope st__law_is_name) := ⟨rfl, rfl, rfl, by decide +kernel, rfl, by decide +kernel, by decide +kernel⟩
theorem bd__law_is_name (Fc : Facts w K mg T) : Binds K Fc.d__law_is_name ["_law_word_here"] [] := Fc.F__law_is_name.bindsN fun _ _ _ _ _ _ us hl => match us, hl with | [_], _ => rfl
theorem ok__law_is_name (Fc : Facts w K mg T) : FnOk P w K mg base (L2.CX P w) 1 Fc.f__law_is_name Fc.d__law_is_name ["_law_word_here"] (spF K T F__law_is_name) := fn_pure Fc.F__law_is_name sc__law_is_name rfl fun cdv A outer s0 H E c hr hT h0 tk =>
  (jss_cons (js_if (jt_w (jw_or (jt_lt (jv_of_jn (jn_len rfl Fc.b_len (jv_var (pv 0)))) (jv_of_jn jn_int)) (jw_or (jt_gt (jv_of_jn (jn_len rfl Fc.b_len (jv_var (pv 0)))) (jv_of_jn jn_int)) (jw_or1 (jt_nin (ru hr) (jv_ix (ru1 hr) (jv_var (pv 0)) (jv_of_jn jn_int)) (jv_of_jn jn_str)))))) (jss_one (js_ret jn_bl)) jss_nil)
  (jss_cons (js_for (passes_of rfl) rfl (ji_seq (jv_var (pv 0))) (jg_name (i := 1) sc__law_is_name.nd rfl (Or.inl rfl) (h0 1)) (jss_one (js_if (jt_nin (ru hr) (jv_var (pv 1)) (jv_of_jn jn_str)) (jss_one (js_ret jn_bl)) jss_nil)))
  (jss_one (js_ret (jn_nin (ru hr) (jv_var (pv 0)) (jv_of_jn (jn_tup (jl_cons jn_str (jl_cons jn_str (jl_cons jn_str (jl_cons jn_str (jl_cons jn_str jl_nil))))))))))))
def L__law_formed_1 : Env → Out := (seqS (ifS (gB (gBin gtD (gVar 5) (gDm (gC (.int 0))))) (exprSM (gMut 4 fApp (gP0 4) (gOne (gC (.str "and"))))) nilS)
  (seqS (exprSM (gMut 4 fApp (gP0 4) (gOne (gChk (gBin ixD (gDm (gTup (gCons (gFr (gChk (gBin ixD (gVar 3) (gVar 5)))) (gCons (gFr (gC (.str "anybody"))) gNil)))) (gDm (gBin modD (gDm (gUn intD (gBin ixD (gVar 0) (gDm (gBin addD (gDm (gBin addD (gVar 1) (gDm (gC (.int 1))))) (gVar 5)))))) (gDm (gC (.int 2))))))))))
  (seqS (ifS (gB (gBin gtD (gDm (gBin modD (gDm (gBin fdivD (gBin ixD (gVar 0) (gDm (gBin addD (gDm (gBin addD (gVar 1) (gDm (gC (.int 1))))) (gVar 5)))) (gDm (gC (.int 2))))) (gDm (gC (.int 3))))) (gDm (gC (.int 0))))) (asgS 4 (gBin addD (gDm (gBin addD (gVar 4) (gDm (gLst (gCons (gFr (gC (.str "with"))) gNil))))) (gDm (gSl (gVar 3) (gO (gDm (gC (.int 3)))) (gO (gDm (gBin addD (gDm (gBin addD (gDm (gC (.int 3))) (gDm (gBin modD (gDm (gBin fdivD (gBin ixD (gVar 0) (gDm (gBin addD (gDm (gBin addD (gVar 1) (gDm (gC (.int 1))))) (gVar 5)))) (gDm (gC (.int 6))))) (gDm (gC (.int 3))))))) (gDm (gC (.int 1)))))))))) nilS)
  (ifS (gB (gBin eqD (gDm (gBin modD (gDm (gBin fdivD (gBin ixD (gVar 0) (gDm (gBin addD (gDm (gBin addD (gVar 1) (gDm (gC (.int 4))))) (gVar 5)))) (gDm (gC (.int 2))))) (gDm (gC (.int 3))))) (gDm (gC (.int 0))))) (asgS 4 (gBin addD (gDm (gBin addD (gVar 4) (gDm (gLst (gCons (gFr (gC (.str "without"))) gNil))))) (gDm (gSl (gVar 3) (gO (gDm (gC (.int 5)))) (gO (gDm (gBin addD (gDm (gBin addD (gDm (gC (.int 5))) (gDm (gBin modD (gDm (gBin fdivD (gBin ixD (gVar 0) (gDm (gBin addD (gDm (gBin addD (gVar 1) (gDm (gC (.int 4))))) (gVar 5)))) (gDm (gC (.int 6))))) (gDm (gC (.int 2))))))) (gDm (gC (.int 1)))))))))) nilS))))
def S__law_formed : Env → Out := (seqS (asgS 3 (gFr (gBin addD (gDm (gLc (gIt false (gVar 2)) [6] (udName 6) (gTru (gDm (gCall F__law_is_name [] (gCons (gDm (gVar 6)) gNil)))) (gChk (gVar 6)))) (gDm (gLst (gCons (gFr (gC (.str "a"))) (gCons (gFr (gC (.str "b"))) (gCons (gFr (gC (.str "c"))) (gCons (gFr (gC (.str "d"))) (gCons (gFr (gC (.str "e"))) (gCons (gFr (gC (.str "f"))) (gCons (gFr (gC (.str "g"))) (gCons (gFr (gC (.str "h"))) gNil)))))))))))))
  (seqS (asgS 4 (gLst gNil))
  (seqS (gFor (gRng1 (gDm (gBin addD (gDm (gC (.int 1))) (gDm (gBin modD (gDm (gUn intD (gBin ixD (gVar 0) (gVar 1)))) (gDm (gC (.int 3)))))))) (udName 5) L__law_formed_1)
  (seqS (ifS (gB (gBin eqD (gDm (gBin modD (gDm (gUn intD (gBin ixD (gVar 0) (gDm (gBin addD (gVar 1) (gDm (gC (.int 7)))))))) (gDm (gC (.int 3))))) (gDm (gC (.int 0))))) (asgS 4 (gBin addD (gDm (gBin addD (gVar 4) (gDm (gLst (gCons (gFr (gC (.str "trusting"))) gNil))))) (gDm (gSl (gVar 3) (gO (gDm (gC (.int 6)))) (gO (gDm (gBin addD (gDm (gC (.int 7))) (gDm (gBin modD (gDm (gBin fdivD (gBin ixD (gVar 0) (gDm (gBin addD (gVar 1) (gDm (gC (.int 7)))))) (gDm (gC (.int 3))))) (gDm (gC (.int 2)))))))))))) nilS)
  (retVS 4)))))
def F__law_formed : List D → Res D := bodyF 3 7 S__law_formed
theorem sc__law_formed : FnScope ["_law_numbers_here", "_law_at", "_law_words", "_law_names", "_law_line", "_law_k", "_law_word_here"] ["_law_numbers_here", "_law_at", "_law_words"] (defScope st__law_formed) := ⟨rfl, rfl, rfl, by decide +kernel, rfl, by decide +kernel, by decide +kernel⟩
theorem bd__law_formed (Fc : Facts w K mg T) : Binds K Fc.d__law_formed ["_law_numbers_here", "_law_at", "_law_words"] [] := Fc.F__law_formed.bindsN fun _ _ _ _ _ _ us hl => match us, hl with | [_, _, _], _ => rfl
theorem ok__law_formed (Fc : Facts w K mg T) : FnOk P w K mg base (L2.CX P w) 2 Fc.f__law_formed Fc.d__law_formed ["_law_numbers_here", "_law_at", "_law_words"] (spF K T F__law_formed) := fn_pure Fc.F__law_formed sc__law_formed rfl fun cdv A outer s0 H E c hr hT h0 tk =>
  (jss_cons (js_set (i := 3) sc__law_formed.nd rfl (Or.inl rfl) (jn_fr (jn_add (jv_of_jn (jn_lc (own := [("_law_word_here", 6)]) rfl sc__law_formed.nd (ji_seq (jv_var (pv 2))) (blkOk_by rfl) (fun _ _ _ _ _ _ => (jg_name (i := 6) sc__law_formed.nd rfl (by first | exact Or.inl rfl | exact Or.inr rfl) rfl)) (fun _ _ _ _ _ _ => (jts_one (jt_tru (jv_of_jn (jn_call (ok__law_is_name Fc) hT tk_blk (hr.mono (by decide)) rfl Fc.g__law_is_name Fc.F__law_is_name.kp (bd__law_is_name Fc) .nil dfl_nil (ja_cons (jv_var (pv 6)) ja_nil)))))) (fun _ _ _ _ _ _ => (jn_of_jv (jv_var (pv 6)))))) (jv_of_jn (jn_lst (jl_cons jn_str (jl_cons jn_str (jl_cons jn_str (jl_cons jn_str (jl_cons jn_str (jl_cons jn_str (jl_cons jn_str (jl_cons jn_str jl_nil)))))))))))) (h0 3))
  (jss_cons (js_set (i := 4) sc__law_formed.nd rfl (Or.inl rfl) (jn_lst jl_nil) (h0 4))
  (jss_cons (js_for (passes_of rfl) rfl (ji_range1 rfl Fc.b_range (jv_of_jn (jn_add (jv_of_jn jn_int) (jv_of_jn (jn_mod (jv_of_jn (jn_intOf rfl Fc.b_int (jv_ix (ru1 hr) (jv_var (pv 0)) (jv_var (pv 1))))) (jv_of_jn jn_int)))))) (jg_name (i := 5) sc__law_formed.nd rfl (Or.inl rfl) (h0 5)) (jss_cons (js_if (jt_gt (jv_var (pv 5)) (jv_of_jn jn_int)) (jss_one (js_exprM (jm_append (jp_var (pv 4)) jn_str))) jss_nil)
  (jss_cons (js_exprM (jm_append (jp_var (pv 4)) (jn_of_jv (jv_ix (ru1 hr) (jv_of_jn (jn_tup (jl_cons (jn_of_jv (jv_ix (ru1 hr) (jv_var (pv 3)) (jv_var (pv 5)))) (jl_cons jn_str jl_nil)))) (jv_of_jn (jn_mod (jv_of_jn (jn_intOf rfl Fc.b_int (jv_ix (ru1 hr) (jv_var (pv 0)) (jv_of_jn (jn_add (jv_of_jn (jn_add (jv_var (pv 1)) (jv_of_jn jn_int))) (jv_var (pv 5))))))) (jv_of_jn jn_int)))))))
  (jss_cons (js_if (jt_gt (jv_of_jn (jn_mod (jv_of_jn (jn_fdiv (jv_ix (ru1 hr) (jv_var (pv 0)) (jv_of_jn (jn_add (jv_of_jn (jn_add (jv_var (pv 1)) (jv_of_jn jn_int))) (jv_var (pv 5))))) (jv_of_jn jn_int))) (jv_of_jn jn_int))) (jv_of_jn jn_int)) (jss_one (js_set (i := 4) sc__law_formed.nd rfl (Or.inl rfl) (jn_add (jv_of_jn (jn_add (jv_var (pv 4)) (jv_of_jn (jn_lst (jl_cons jn_str jl_nil))))) (jv_of_jn (jn_slice (jv_var (pv 3)) (jo_some (jv_of_jn jn_int)) (jo_some (jv_of_jn (jn_add (jv_of_jn (jn_add (jv_of_jn jn_int) (jv_of_jn (jn_mod (jv_of_jn (jn_fdiv (jv_ix (ru1 hr) (jv_var (pv 0)) (jv_of_jn (jn_add (jv_of_jn (jn_add (jv_var (pv 1)) (jv_of_jn jn_int))) (jv_var (pv 5))))) (jv_of_jn jn_int))) (jv_of_jn jn_int))))) (jv_of_jn jn_int))))))) (h0 4))) jss_nil)
  (jss_one (js_if (jt_eq (ru hr) (jv_of_jn (jn_mod (jv_of_jn (jn_fdiv (jv_ix (ru1 hr) (jv_var (pv 0)) (jv_of_jn (jn_add (jv_of_jn (jn_add (jv_var (pv 1)) (jv_of_jn jn_int))) (jv_var (pv 5))))) (jv_of_jn jn_int))) (jv_of_jn jn_int))) (jv_of_jn jn_int)) (jss_one (js_set (i := 4) sc__law_formed.nd rfl (Or.inl rfl) (jn_add (jv_of_jn (jn_add (jv_var (pv 4)) (jv_of_jn (jn_lst (jl_cons jn_str jl_nil))))) (jv_of_jn (jn_slice (jv_var (pv 3)) (jo_some (jv_of_jn jn_int)) (jo_some (jv_of_jn (jn_add (jv_of_jn (jn_add (jv_of_jn jn_int) (jv_of_jn (jn_mod (jv_of_jn (jn_fdiv (jv_ix (ru1 hr) (jv_var (pv 0)) (jv_of_jn (jn_add (jv_of_jn (jn_add (jv_var (pv 1)) (jv_of_jn jn_int))) (jv_var (pv 5))))) (jv_of_jn jn_int))) (jv_of_jn jn_int))))) (jv_of_jn jn_int))))))) (h0 4))) jss_nil))))))
  (jss_cons (js_if (jt_eq (ru hr) (jv_of_jn (jn_mod (jv_of_jn (jn_intOf rfl Fc.b_int (jv_ix (ru1 hr) (jv_var (pv 0)) (jv_of_jn (jn_add (jv_var (pv 1)) (jv_of_jn jn_int)))))) (jv_of_jn jn_int))) (jv_of_jn jn_int)) (jss_one (js_set (i := 4) sc__law_formed.nd rfl (Or.inl rfl) (jn_add (jv_of_jn (jn_add (jv_var (pv 4)) (jv_of_jn (jn_lst (jl_cons jn_str jl_nil))))) (jv_of_jn (jn_slice (jv_var (pv 3)) (jo_some (jv_of_jn jn_int)) (jo_some (jv_of_jn (jn_add (jv_of_jn jn_int) (jv_of_jn (jn_mod (jv_of_jn (jn_fdiv (jv_ix (ru1 hr) (jv_var (pv 0)) (jv_of_jn (jn_add (jv_var (pv 1)) (jv_of_jn jn_int)))) (jv_of_jn jn_int))) (jv_of_jn jn_int))))))))) (h0 4))) jss_nil)
  (jss_one (js_retV (pv 4)))))))
def S__law_turned : Env → Out := (seqS (asgS 4 (gBin modD (gDm (gUn intD (gBin ixD (gVar 0) (gVar 1)))) (gDm (gUn lenD (gVar 2)))))
  (seqS (asgS 5 (gBin modD (gDm (gBin fdivD (gBin ixD (gVar 0) (gVar 1)) (gDm (gC (.int 16))))) (gDm (gC (.int 6)))))
  (seqS (ifS (gB (gBin eqD (gVar 5) (gDm (gC (.int 0))))) (retS (gFr (gBin addD (gDm (gSl (gVar 2) gO0 (gO (gVar 4)))) (gDm (gSl (gVar 2) (gO (gDm (gBin addD (gVar 4) (gDm (gC (.int 1)))))) gO0))))) nilS)
  (seqS (ifS (gB (gBin eqD (gVar 5) (gDm (gC (.int 1))))) (retS (gFr (gBin addD (gDm (gBin addD (gDm (gSl (gVar 2) gO0 (gO (gVar 4)))) (gDm (gLst (gCons (gFr (gChk (gVar 3))) gNil))))) (gDm (gSl (gVar 2) (gO (gVar 4)) gO0))))) nilS)
  (seqS (ifS (gB (gBin eqD (gVar 5) (gDm (gC (.int 2))))) (retS (gFr (gBin addD (gDm (gBin addD (gDm (gSl (gVar 2) gO0 (gO (gVar 4)))) (gDm (gLst (gCons (gFr (gChk (gVar 3))) gNil))))) (gDm (gSl (gVar 2) (gO (gDm (gBin addD (gVar 4) (gDm (gC (.int 1)))))) gO0))))) nilS)
  (seqS (ifS (gB (gBin eqD (gVar 5) (gDm (gC (.int 3))))) (retS (gFr (gBin addD (gVar 2) (gDm (gLst (gCons (gFr (gChk (gVar 3))) gNil)))))) nilS)
  (retVS 2)))))))
def F__law_turned : List D → Res D := bodyF 4 6 S__law_turned
theorem sc__law_turned : FnScope ["_law_numbers_here", "_law_at", "_law_line", "_law_word_here", "_law_place", "_law_deed"] ["_law_numbers_here", "_law_at", "_law_line", "_law_word_here"] (defScope st__law_turned) := ⟨rfl, rfl, rfl, by decide +kernel, rfl, by decide +kernel, by decide +kernel⟩
theorem bd__law_turned (Fc : Facts w K mg T) : Binds K Fc.d__law_turned ["_law_numbers_here", "_law_at", "_law_line", "_law_word_here"] [] := Fc.F__law_turned.bindsN fun _ _ _ _ _ _ us hl => match us, hl with | [_, _, _, _], _ => rfl
theorem ok__law_turned (Fc : Facts w K mg T) : FnOk P w K mg base (L2.CX P w) 1 Fc.f__law_turned Fc.d__law_turned ["_law_numbers_here", "_law_at", "_law_line", "_law_word_here"] (spF K T F__law_turned) := fn_pure Fc.F__law_turned sc__law_turned rfl fun cdv A outer s0 H E c hr hT h0 tk =>
  (jss_cons (js_set (i := 4) sc__law_turned.nd rfl (Or.inl rfl) (jn_mod (jv_of_jn (jn_intOf rfl Fc.b_int (jv_ix (ru1 hr) (jv_var (pv 0)) (jv_var (pv 1))))) (jv_of_jn (jn_len rfl Fc.b_len (jv_var (pv 2))))) (h0 4))
  (jss_cons (js_set (i := 5) sc__law_turned.nd rfl (Or.inl rfl) (jn_mod (jv_of_jn (jn_fdiv (jv_ix (ru1 hr) (jv_var (pv 0)) (jv_var (pv 1))) (jv_of_jn jn_int))) (jv_of_jn jn_int)) (h0 5))
  (jss_cons (js_if (jt_eq (ru hr) (jv_var (pv 5)) (jv_of_jn jn_int)) (jss_one (js_ret (jn_fr (jn_add (jv_of_jn (jn_slice (jv_var (pv 2)) jo_none (jo_some (jv_var (pv 4))))) (jv_of_jn (jn_slice (jv_var (pv 2)) (jo_some (jv_of_jn (jn_add (jv_var (pv 4)) (jv_of_jn jn_int)))) jo_none)))))) jss_nil)
  (jss_cons (js_if (jt_eq (ru hr) (jv_var (pv 5)) (jv_of_jn jn_int)) (jss_one (js_ret (jn_fr (jn_add (jv_of_jn (jn_add (jv_of_jn (jn_slice (jv_var (pv 2)) jo_none (jo_some (jv_var (pv 4))))) (jv_of_jn (jn_lst (jl_cons (jn_of_jv (jv_var (pv 3))) jl_nil))))) (jv_of_jn (jn_slice (jv_var (pv 2)) (jo_some (jv_var (pv 4))) jo_none)))))) jss_nil)
  (jss_cons (js_if (jt_eq (ru hr) (jv_var (pv 5)) (jv_of_jn jn_int)) (jss_one (js_ret (jn_fr (jn_add (jv_of_jn (jn_add (jv_of_jn (jn_slice (jv_var (pv 2)) jo_none (jo_some (jv_var (pv 4))))) (jv_of_jn (jn_lst (jl_cons (jn_of_jv (jv_var (pv 3))) jl_nil))))) (jv_of_jn (jn_slice (jv_var (pv 2)) (jo_some (jv_of_jn (jn_add (jv_var (pv 4)) (jv_of_jn jn_int)))) jo_none)))))) jss_nil)
  (jss_cons (js_if (jt_eq (ru hr) (jv_var (pv 5)) (jv_of_jn jn_int)) (jss_one (js_ret (jn_fr (jn_add (jv_var (pv 2)) (jv_of_jn (jn_lst (jl_cons (jn_of_jv (jv_var (pv 3))) jl_nil))))))) jss_nil)
  (jss_one (js_retV (pv 2)))))))))
def S_parted : Env → Out := (seqS (ifS (gB (gBin ninD (gVar 1) (gVar 0))) (retS (gTup (gCons (gFr (gChk (gVar 0))) (gCons (gFr (gC .non)) gNil)))) nilS)
  (seqS (asgS 2 (gBinL indexD (gVar 0) (gVar 1)))
  (retS (gTup (gCons (gFr (gSl (gVar 0) gO0 (gO (gVar 2)))) (gCons (gFr (gSl (gVar 0) (gO (gDm (gBin addD (gVar 2) (gDm (gC (.int 1)))))) gO0)) gNil))))))
def F_parted : List D → Res D := bodyF 2 3 S_parted
theorem sc_parted : FnScope ["words", "mark", "place"] ["words", "mark"] (defScope st_parted) := ⟨rfl, rfl, rfl, by decide +kernel, rfl, by decide +kernel, by decide +kernel⟩
theorem bd_parted (Fc : Facts w K mg T) : Binds K Fc.d_parted ["words", "mark"] [] := Fc.F_parted.bindsN fun _ _ _ _ _ _ us hl => match us, hl with | [_, _], _ => rfl
theorem ok_parted (Fc : Facts w K mg T) : FnOk P w K mg base (L2.CX P w) 1 Fc.f_parted Fc.d_parted ["words", "mark"] (spF K T F_parted) := fn_pure Fc.F_parted sc_parted rfl fun cdv A outer s0 H E c hr hT h0 tk =>
  (jss_cons (js_if (jt_nin (ru hr) (jv_var (pv 1)) (jv_var (pv 0))) (jss_one (js_ret (jn_tup (jl_cons (jn_of_jv (jv_var (pv 0))) (jl_cons jn_non jl_nil))))) jss_nil)
  (jss_cons (js_set (i := 2) sc_parted.nd rfl (Or.inl rfl) (jn_index (jv_var (pv 0)) (jv_var (pv 1))) (h0 2))
  (jss_one (js_ret (jn_tup (jl_cons (jn_slice (jv_var (pv 0)) jo_none (jo_some (jv_var (pv 2)))) (jl_cons (jn_slice (jv_var (pv 0)) (jo_some (jv_of_jn (jn_add (jv_var (pv 2)) (jv_of_jn jn_int)))) jo_none) jl_nil)))))))
def S_is_name : Env → Out := (seqS (ifS (gOr (gNot (gB (gChain leD leD (gDm (gC (.int 1))) (gDm (gUn lenD (gVar 0))) (gDm (gC (.int 12)))))) (gB (gBin inD (gBin ixD (gVar 0) (gDm (gC (.int 0)))) (gDm (gC (.str "0123456789")))))) (retS (gC (.bl false))) nilS)
  (retS (gUn allD (gDm (gLc (gIt false (gVar 0)) [1] (udName 1) gYes (gBin inD (gVar 1) (gDm (gC (.str "abcdefghijklmnopqrstuvwxyz0123456789")))))))))
def F_is_name : List D → Res D := bodyF 1 2 S_is_name
theorem sc_is_name : FnScope ["text", "char"] ["text"] (defScope st_is_name) := ⟨rfl, rfl, rfl, by decide +kernel, rfl, by decide +kernel, by decide +kernel⟩
theorem bd_is_name (Fc : Facts w K mg T) : Binds K Fc.d_is_name ["text"] [] := Fc.F_is_name.bindsN fun _ _ _ _ _ _ us hl => match us, hl with | [_], _ => rfl
theorem ok_is_name (Fc : Facts w K mg T) : FnOk P w K mg base (L2.CX P w) 1 Fc.f_is_name Fc.d_is_name ["text"] (spF K T F_is_name) := fn_pure Fc.F_is_name sc_is_name rfl fun cdv A outer s0 H E c hr hT h0 tk =>
  (jss_cons (js_if (jt_w (jw_or (jt_not (jt_chain_le (jv_of_jn jn_int) (jv_of_jn (jn_len rfl Fc.b_len (jv_var (pv 0)))) (jv_of_jn (jn_gint rfl Fc.c_MOST_NAME_CHARS)))) (jw_or1 (jt_in (ru hr) (jv_ix (ru1 hr) (jv_var (pv 0)) (jv_of_jn jn_int)) (jv_of_jn jn_str))))) (jss_one (js_ret jn_bl)) jss_nil)
  (jss_one (js_ret (jn_all rfl rfl Fc.b_all (jv_of_jn (jn_lc (own := [("char", 1)]) rfl sc_is_name.nd (ji_seq (jv_var (pv 0))) (blkOk_by rfl) (fun _ _ _ _ _ _ => (jg_name (i := 1) sc_is_name.nd rfl (by first | exact Or.inl rfl | exact Or.inr rfl) rfl)) (fun _ _ _ _ _ _ => jts_nil) (fun _ _ _ _ _ _ => (jn_in (ru hr) (jv_var (pv 1)) (jv_of_jn (jn_gstr rfl Fc.c_NAME_CHARS))))))))))
def S_are_names : Env → Out := (retS (gUn allD (gDm (gLc (gIt false (gVar 0)) [1] (udName 1) gYes (gAndV (gCall F_is_name [] (gCons (gDm (gVar 1)) gNil)) (gBin ninD (gVar 1) (gDm (gC (D.ktup [(D.str "and"), (D.str "with"), (D.str "without"), (D.str "trusting"), (D.str "anybody")])))))))))
def F_are_names : List D → Res D := bodyF 1 2 S_are_names
theorem sc_are_names : FnScope ["words", "word"] ["words"] (defScope st_are_names) := ⟨rfl, rfl, rfl, by decide +kernel, rfl, by decide +kernel, by decide +kernel⟩
theorem bd_are_names (Fc : Facts w K mg T) : Binds K Fc.d_are_names ["words"] [] := Fc.F_are_names.bindsN fun _ _ _ _ _ _ us hl => match us, hl with | [_], _ => rfl
theorem ok_are_names (Fc : Facts w K mg T) : FnOk P w K mg base (L2.CX P w) 2 Fc.f_are_names Fc.d_are_names ["words"] (spF K T F_are_names) := fn_pure Fc.F_are_names sc_are_names rfl fun cdv A outer s0 H E c hr hT h0 tk =>
  (jss_one (js_ret (jn_all rfl rfl Fc.b_all (jv_of_jn (jn_lc (own := [("word", 1)]) rfl sc_are_names.nd (ji_seq (jv_var (pv 0))) (blkOk_by rfl) (fun _ _ _ _ _ _ => (jg_name (i := 1) sc_are_names.nd rfl (by first | exact Or.inl rfl | exact Or.inr rfl) rfl)) (fun _ _ _ _ _ _ => jts_nil) (fun _ _ _ _ _ _ => (jn_and (jn_call (ok_is_name Fc) hT tk_blk (hr.mono (by decide)) rfl Fc.g_is_name Fc.F_is_name.kp (bd_is_name Fc) .nil dfl_nil (ja_cons (jv_var (pv 1)) ja_nil)) (jn_one (jn_nin (ru hr) (jv_var (pv 1)) (jv_of_jn (jn_gref rfl Fc.m_MARKS hT Fc.t_MARKS)))))))))))
def L_demand_of_1 : Env → Out := (ifS (gAnd (gB (gBin notnD (gVar 4) (gDm (gC .non)))) (gOr (gB (gBin eqD (gVar 4) (gDm (gLst gNil)))) (gNot (gTru (gDm (gCall F_are_names [] (gCons (gDm (gVar 4)) gNil))))))) (retS (gC .non)) nilS)
def S_demand_of : Env → Out := (seqS (unpS (udSeq (udCons (udName 1) (udCons (udName 2) udNil))) (gDm (gCall F_parted [] (gCons (gDm (gVar 0)) (gCons (gDm (gDm (gC (.str "without")))) gNil)))))
  (seqS (unpS (udSeq (udCons (udName 1) (udCons (udName 3) udNil))) (gDm (gCall F_parted [] (gCons (gDm (gVar 1)) (gCons (gDm (gDm (gC (.str "with")))) gNil)))))
  (seqS (ifS (gOr (gB (gBin neD (gDm (gUn lenD (gVar 1))) (gDm (gC (.int 1))))) (gNot (gOr (gB (gBin eqD (gBin ixD (gVar 1) (gDm (gC (.int 0)))) (gDm (gC (.str "anybody"))))) (gTru (gDm (gCall F_are_names [] (gCons (gDm (gVar 1)) gNil))))))) (retS (gC .non)) nilS)
  (seqS (gFor (gIt true (gDm (gFr (gTup (gCons (gFr (gChk (gVar 3))) (gCons (gFr (gChk (gVar 2))) gNil)))))) (udName 4) L_demand_of_1)
  (seqS (asgVS 5 (gIf (gB (gBin eqD (gBin ixD (gVar 1) (gDm (gC (.int 0)))) (gDm (gC (.str "anybody"))))) (gDm (gC .non)) (gBin ixD (gVar 1) (gDm (gC (.int 0))))))
  (retS (gTup (gCons (gFr (gChk (gVar 5))) (gCons (gFr (gChk (gOrT (gVar 3) (gDm (gFr (gLst gNil)))))) (gCons (gFr (gChk (gOrT (gVar 2) (gDm (gFr (gLst gNil)))))) gNil))))))))))
def F_demand_of : List D → Res D := bodyF 1 6 S_demand_of
theorem sc_demand_of : FnScope ["words", "rest", "lacks", "holds", "rights", "person"] ["words"] (defScope st_demand_of) := ⟨rfl, rfl, rfl, by decide +kernel, rfl, by decide +kernel, by decide +kernel⟩
theorem bd_demand_of (Fc : Facts w K mg T) : Binds K Fc.d_demand_of ["words"] [] := Fc.F_demand_of.bindsN fun _ _ _ _ _ _ us hl => match us, hl with | [_], _ => rfl
theorem ok_demand_of (Fc : Facts w K mg T) : FnOk P w K mg base (L2.CX P w) 3 Fc.f_demand_of Fc.d_demand_of ["words"] (spF K T F_demand_of) := fn_pure Fc.F_demand_of sc_demand_of rfl fun cdv A outer s0 H E c hr hT h0 tk =>
  (jss_cons (js_unp (jv_of_jn (jn_call (ok_parted Fc) hT tk (hr.mono (by decide)) rfl Fc.g_parted Fc.F_parted.kp (bd_parted Fc) .nil dfl_nil (ja_cons (jv_var (pv 0)) (ja_cons (jv_of_jn jn_str) ja_nil)))) (jg_seq rfl (jgs_cons (jg_name (i := 1) sc_demand_of.nd rfl (Or.inl rfl) (h0 1)) chk_name (jgs_cons (jg_name (i := 2) sc_demand_of.nd rfl (Or.inl rfl) (h0 2)) chk_name jgs_nil chk_nil) (chk_cons chk_name chk_nil)) (len_cons (len_cons len_nil))) chk_seq)
  (jss_cons (js_unp (jv_of_jn (jn_call (ok_parted Fc) hT tk (hr.mono (by decide)) rfl Fc.g_parted Fc.F_parted.kp (bd_parted Fc) .nil dfl_nil (ja_cons (jv_var (pv 1)) (ja_cons (jv_of_jn jn_str) ja_nil)))) (jg_seq rfl (jgs_cons (jg_name (i := 1) sc_demand_of.nd rfl (Or.inl rfl) (h0 1)) chk_name (jgs_cons (jg_name (i := 3) sc_demand_of.nd rfl (Or.inl rfl) (h0 3)) chk_name jgs_nil chk_nil) (chk_cons chk_name chk_nil)) (len_cons (len_cons len_nil))) chk_seq)
  (jss_cons (js_if (jt_w (jw_or (jt_ne (ru hr) (jv_of_jn (jn_len rfl Fc.b_len (jv_var (pv 1)))) (jv_of_jn jn_int)) (jw_or1 (jt_not (jt_w (jw_or (jt_eq (ru hr) (jv_ix (ru1 hr) (jv_var (pv 1)) (jv_of_jn jn_int)) (jv_of_jn jn_str)) (jw_or1 (jt_tru (jv_of_jn (jn_call (ok_are_names Fc) hT tk (hr.mono (by decide)) rfl Fc.g_are_names Fc.F_are_names.kp (bd_are_names Fc) .nil dfl_nil (ja_cons (jv_var (pv 1)) ja_nil))))))))))) (jss_one (js_ret jn_non)) jss_nil)
  (jss_cons (js_for (passes_of rfl) rfl (ji_seq (jv_of_jn (jn_fr (jn_tup (jl_cons (jn_of_jv (jv_var (pv 3))) (jl_cons (jn_of_jv (jv_var (pv 2))) jl_nil)))))) (jg_name (i := 4) sc_demand_of.nd rfl (Or.inl rfl) (h0 4)) (jss_one (js_if (jt_w (jw_and (jt_notn (jv_var (pv 4)) (jv_of_jn jn_non)) (jw_and1 (jt_w (jw_or (jt_eq (ru hr) (jv_var (pv 4)) (jv_of_jn (jn_lst jl_nil))) (jw_or1 (jt_not (jt_tru (jv_of_jn (jn_call (ok_are_names Fc) hT tk (hr.mono (by decide)) rfl Fc.g_are_names Fc.F_are_names.kp (bd_are_names Fc) .nil dfl_nil (ja_cons (jv_var (pv 4)) ja_nil))))))))))) (jss_one (js_ret jn_non)) jss_nil)))
  (jss_cons (js_setV (i := 5) sc_demand_of.nd rfl (Or.inl rfl) (jv_if (jt_eq (ru hr) (jv_ix (ru1 hr) (jv_var (pv 1)) (jv_of_jn jn_int)) (jv_of_jn jn_str)) (jv_of_jn jn_non) (jv_ix (ru1 hr) (jv_var (pv 1)) (jv_of_jn jn_int))) (h0 5))
  (jss_one (js_ret (jn_tup (jl_cons (jn_of_jv (jv_var (pv 5))) (jl_cons (jn_of_jv (jv_or (jv_var (pv 3)) (jv_one (jv_of_jn (jn_fr (jn_lst jl_nil)))))) (jl_cons (jn_of_jv (jv_or (jv_var (pv 2)) (jv_one (jv_of_jn (jn_fr (jn_lst jl_nil)))))) jl_nil)))))))))))
def L_goal_of_1 : Env → Out := (seqS (unpS (udSeq (udCons (udName 4) (udCons (udName 1) udNil))) (gDm (gCall F_parted [] (gCons (gDm (gVar 1)) (gCons (gDm (gDm (gC (.str "and")))) gNil)))))
  (exprSM (gMut 3 fApp (gP0 3) (gOne (gFr (gCall F_demand_of [] (gCons (gDm (gVar 4)) gNil)))))))
def S_goal_of : Env → Out := (seqS (unpS (udSeq (udCons (udName 1) (udCons (udName 2) udNil))) (gDm (gCall F_parted [] (gCons (gDm (gVar 0)) (gCons (gDm (gDm (gC (.str "trusting")))) gNil)))))
  (seqS (ifS (gAnd (gB (gBin notnD (gVar 2) (gDm (gC .non)))) (gOr (gB (gBin eqD (gVar 2) (gDm (gLst gNil)))) (gNot (gTru (gDm (gCall F_are_names [] (gCons (gDm (gVar 2)) gNil))))))) (retS (gC .non)) nilS)
  (seqS (asgS 3 (gLst gNil))
  (seqS (whileS (gB (gBin notnD (gVar 1) (gDm (gC .non)))) L_goal_of_1 100000)
  (seqS (ifS (gB (gBin inD (gDm (gC .non)) (gVar 3))) (retS (gC .non)) nilS)
  (frS 3 (retS (gTup (gCons (gFr (gChk (gVar 3))) (gCons (gFr (gChk (gOrT (gVar 2) (gDm (gFr (gLst gNil)))))) gNil))))))))))
def F_goal_of : List D → Res D := bodyF 1 5 S_goal_of
theorem sc_goal_of : FnScope ["words", "rest", "trusted", "goal", "part"] ["words"] (defScope st_goal_of) := ⟨rfl, rfl, rfl, by decide +kernel, rfl, by decide +kernel, by decide +kernel⟩
theorem bd_goal_of (Fc : Facts w K mg T) : Binds K Fc.d_goal_of ["words"] [] := Fc.F_goal_of.bindsN fun _ _ _ _ _ _ us hl => match us, hl with | [_], _ => rfl
theorem ok_goal_of (Fc : Facts w K mg T) : FnOk P w K mg base (L2.CX P w) 4 Fc.f_goal_of Fc.d_goal_of ["words"] (spF K T F_goal_of) := fn_pure Fc.F_goal_of sc_goal_of rfl fun cdv A outer s0 H E c hr hT h0 tk =>
  (jss_cons (js_unp (jv_of_jn (jn_call (ok_parted Fc) hT tk (hr.mono (by decide)) rfl Fc.g_parted Fc.F_parted.kp (bd_parted Fc) .nil dfl_nil (ja_cons (jv_var (pv 0)) (ja_cons (jv_of_jn jn_str) ja_nil)))) (jg_seq rfl (jgs_cons (jg_name (i := 1) sc_goal_of.nd rfl (Or.inl rfl) (h0 1)) chk_name (jgs_cons (jg_name (i := 2) sc_goal_of.nd rfl (Or.inl rfl) (h0 2)) chk_name jgs_nil chk_nil) (chk_cons chk_name chk_nil)) (len_cons (len_cons len_nil))) chk_seq)
  (jss_cons (js_if (jt_w (jw_and (jt_notn (jv_var (pv 2)) (jv_of_jn jn_non)) (jw_and1 (jt_w (jw_or (jt_eq (ru hr) (jv_var (pv 2)) (jv_of_jn (jn_lst jl_nil))) (jw_or1 (jt_not (jt_tru (jv_of_jn (jn_call (ok_are_names Fc) hT tk (hr.mono (by decide)) rfl Fc.g_are_names Fc.F_are_names.kp (bd_are_names Fc) .nil dfl_nil (ja_cons (jv_var (pv 2)) ja_nil))))))))))) (jss_one (js_ret jn_non)) jss_nil)
  (jss_cons (js_set (i := 3) sc_goal_of.nd rfl (Or.inl rfl) (jn_lst jl_nil) (h0 3))
  (jss_cons (js_while 100000 (passes_of rfl) (jt_notn (jv_var (pv 1)) (jv_of_jn jn_non)) (jss_cons (js_unp (jv_of_jn (jn_call (ok_parted Fc) hT tk (hr.mono (by decide)) rfl Fc.g_parted Fc.F_parted.kp (bd_parted Fc) .nil dfl_nil (ja_cons (jv_var (pv 1)) (ja_cons (jv_of_jn jn_str) ja_nil)))) (jg_seq rfl (jgs_cons (jg_name (i := 4) sc_goal_of.nd rfl (Or.inl rfl) (h0 4)) chk_name (jgs_cons (jg_name (i := 1) sc_goal_of.nd rfl (Or.inl rfl) (h0 1)) chk_name jgs_nil chk_nil) (chk_cons chk_name chk_nil)) (len_cons (len_cons len_nil))) chk_seq)
  (jss_one (js_exprM (jm_append (jp_var (pv 3)) (jn_fr (jn_call (ok_demand_of Fc) hT tk (hr.mono (by decide)) rfl Fc.g_demand_of Fc.F_demand_of.kp (bd_demand_of Fc) .nil dfl_nil (ja_cons (jv_var (pv 4)) ja_nil))))))))
  (jss_cons (js_if (jt_in (ru hr) (jv_of_jn jn_non) (jv_var (pv 3))) (jss_one (js_ret jn_non)) jss_nil)
  (jss_one (js_fr 3 (js_ret (jn_tup (jl_cons (jn_of_jv (jv_var (pv 3))) (jl_cons (jn_of_jv (jv_or (jv_var (pv 2)) (jv_one (jv_of_jn (jn_fr (jn_lst jl_nil)))))) jl_nil)))))))))))
def L__law_split_1 : Env → Out := (ifS (gB (gBin eqD (gVar 3) (gVar 1))) (exprSM (gMut 2 fApp (gP0 2) (gOne (gLst gNil)))) (exprSM (gMut 2 fApp (gPI 2 ixIx (gP0 2) (gDm (gUn negD (gDm (gC (.int 1)))))) (gOne (gChk (gVar 3))))))
def S__law_split : Env → Out := (seqS (asgS 2 (gLstO (gCons (gLst gNil) gNil)))
  (seqS (gFor (gIt true (gVar 0)) (udName 3) L__law_split_1)
  (retVS 2)))
def F__law_split : List D → Res D := bodyF 2 4 S__law_split
theorem sc__law_split : FnScope ["_law_words", "_law_mark", "_law_parts", "_law_word_here"] ["_law_words", "_law_mark"] (defScope st__law_split) := ⟨rfl, rfl, rfl, by decide +kernel, rfl, by decide +kernel, by decide +kernel⟩
theorem bd__law_split (Fc : Facts w K mg T) : Binds K Fc.d__law_split ["_law_words", "_law_mark"] [] := Fc.F__law_split.bindsN fun _ _ _ _ _ _ us hl => match us, hl with | [_, _], _ => rfl
theorem ok__law_split (Fc : Facts w K mg T) : FnOk P w K mg base (L2.CX P w) 1 Fc.f__law_split Fc.d__law_split ["_law_words", "_law_mark"] (spF K T F__law_split) := fn_pure Fc.F__law_split sc__law_split rfl fun cdv A outer s0 H E c hr hT h0 tk =>
  (jss_cons (js_set (i := 2) sc__law_split.nd rfl (Or.inl rfl) (jn_lstO (jo2_cons (jn_lst jl_nil) (fun _ => jo2_nil))) (h0 2))
  (jss_cons (js_for (passes_of rfl) rfl (ji_seq (jv_var (pv 0))) (jg_name (i := 3) sc__law_split.nd rfl (Or.inl rfl) (h0 3)) (jss_one (js_if (jt_eq (ru hr) (jv_var (pv 3)) (jv_var (pv 1))) (jss_one (js_exprM (jm_append (jp_var (pv 2)) (jn_lst jl_nil)))) (jss_one (js_exprM (jm_append (jp_ix (ru1 hr) (jp_var (pv 2)) (jv_of_jn (jn_neg (jv_of_jn jn_int)))) (jn_of_jv (jv_var (pv 3)))))))))
  (jss_one (js_retV (pv 2)))))
def L__law_all_names_1 : Env → Out := (ifS (gNot (gTru (gDm (gCall F__law_is_name [] (gCons (gDm (gVar 1)) gNil))))) (retS (gC (.bl false))) nilS)
def S__law_all_names : Env → Out := (seqS (gFor (gIt true (gVar 0)) (udName 1) L__law_all_names_1)
  (retS (gC (.bl true))))
def F__law_all_names : List D → Res D := bodyF 1 2 S__law_all_names
theorem sc__law_all_names : FnScope ["_law_words", "_law_word_here"] ["_law_words"] (defScope st__law_all_names) := ⟨rfl, rfl, rfl, by decide +kernel, rfl, by decide +kernel, by decide +kernel⟩
theorem bd__law_all_names (Fc : Facts w K mg T) : Binds K Fc.d__law_all_names ["_law_words"] [] := Fc.F__law_all_names.bindsN fun _ _ _ _ _ _ us hl => match us, hl with | [_], _ => rfl
theorem ok__law_all_names (Fc : Facts w K mg T) : FnOk P w K mg base (L2.CX P w) 2 Fc.f__law_all_names Fc.d__law_all_names ["_law_words"] (spF K T F__law_all_names) := fn_pure Fc.F__law_all_names sc__law_all_names rfl fun cdv A outer s0 H E c hr hT h0 tk =>
  (jss_cons (js_for (passes_of rfl) rfl (ji_seq (jv_var (pv 0))) (jg_name (i := 1) sc__law_all_names.nd rfl (Or.inl rfl) (h0 1)) (jss_one (js_if (jt_not (jt_tru (jv_of_jn (jn_call (ok__law_is_name Fc) hT tk (hr.mono (by decide)) rfl Fc.g__law_is_name Fc.F__law_is_name.kp (bd__law_is_name Fc) .nil dfl_nil (ja_cons (jv_var (pv 1)) ja_nil))))) (jss_one (js_ret jn_bl)) jss_nil)))
  (jss_one (js_ret jn_bl)))
def L__law_demand_1 : Env → Out := (ifS (gOr (gB (gBin eqD (gDm (gUn lenD (gVar 4))) (gDm (gC (.int 0))))) (gNot (gTru (gDm (gCall F__law_all_names [] (gCons (gDm (gVar 4)) gNil)))))) (retS (gC .non)) nilS)
def S__law_demand : Env → Out := (seqS (asgS 1 (gFr (gCall F__law_split [] (gCons (gDm (gVar 0)) (gCons (gDm (gDm (gC (.str "without")))) gNil)))))
  (seqS (ifS (gB (gBin gtD (gDm (gUn lenD (gVar 1))) (gDm (gC (.int 2))))) (retS (gC .non)) nilS)
  (seqS (asgS 2 (gFr (gCall F__law_split [] (gCons (gDm (gBin ixD (gVar 1) (gDm (gC (.int 0))))) (gCons (gDm (gDm (gC (.str "with")))) gNil)))))
  (seqS (asgS 3 (gFr (gBin addD (gDm (gSl (gVar 2) (gO (gDm (gC (.int 1)))) gO0)) (gDm (gSl (gVar 1) (gO (gDm (gC (.int 1)))) gO0)))))
  (seqS (ifS (gOr (gB (gBin gtD (gDm (gUn lenD (gVar 2))) (gDm (gC (.int 2))))) (gB (gBin neD (gDm (gUn lenD (gBin ixD (gVar 2) (gDm (gC (.int 0)))))) (gDm (gC (.int 1)))))) (retS (gC .non)) nilS)
  (seqS (gFor (gIt true (gVar 3)) (udName 4) L__law_demand_1)
  (seqS (asgVS 5 (gBin ixD (gDm (gBin addD (gVar 2) (gDm (gLst (gCons (gFr (gLst gNil)) gNil))))) (gDm (gC (.int 1)))))
  (seqS (asgVS 6 (gBin ixD (gDm (gBin addD (gVar 1) (gDm (gLst (gCons (gFr (gLst gNil)) gNil))))) (gDm (gC (.int 1)))))
  (seqS (ifS (gB (gBin eqD (gBin ixD (gBin ixD (gVar 2) (gDm (gC (.int 0)))) (gDm (gC (.int 0)))) (gDm (gC (.str "anybody"))))) (retS (gTup (gCons (gFr (gC .non)) (gCons (gFr (gChk (gVar 5))) (gCons (gFr (gChk (gVar 6))) gNil))))) nilS)
  (seqS (ifS (gNot (gTru (gDm (gCall F__law_all_names [] (gCons (gDm (gBin ixD (gVar 2) (gDm (gC (.int 0))))) gNil))))) (retS (gC .non)) nilS)
  (retS (gTup (gCons (gFr (gChk (gBin ixD (gBin ixD (gVar 2) (gDm (gC (.int 0)))) (gDm (gC (.int 0)))))) (gCons (gFr (gChk (gVar 5))) (gCons (gFr (gChk (gVar 6))) gNil)))))))))))))))
def F__law_demand : List D → Res D := bodyF 1 7 S__law_demand
theorem sc__law_demand : FnScope ["_law_words", "_law_parts", "_law_front", "_law_rights", "_law_some", "_law_holds", "_law_lacks"] ["_law_words"] (defScope st__law_demand) := ⟨rfl, rfl, rfl, by decide +kernel, rfl, by decide +kernel, by decide +kernel⟩
theorem bd__law_demand (Fc : Facts w K mg T) : Binds K Fc.d__law_demand ["_law_words"] [] := Fc.F__law_demand.bindsN fun _ _ _ _ _ _ us hl => match us, hl with | [_], _ => rfl
theorem ok__law_demand (Fc : Facts w K mg T) : FnOk P w K mg base (L2.CX P w) 3 Fc.f__law_demand Fc.d__law_demand ["_law_words"] (spF K T F__law_demand) := fn_pure Fc.F__law_demand sc__law_demand rfl fun cdv A outer s0 H E c hr hT h0 tk =>
  (jss_cons (js_set (i := 1) sc__law_demand.nd rfl (Or.inl rfl) (jn_fr (jn_call (ok__law_split Fc) hT tk (hr.mono (by decide)) rfl Fc.g__law_split Fc.F__law_split.kp (bd__law_split Fc) .nil dfl_nil (ja_cons (jv_var (pv 0)) (ja_cons (jv_of_jn jn_str) ja_nil)))) (h0 1))
  (jss_cons (js_if (jt_gt (jv_of_jn (jn_len rfl Fc.b_len (jv_var (pv 1)))) (jv_of_jn jn_int)) (jss_one (js_ret jn_non)) jss_nil)
  (jss_cons (js_set (i := 2) sc__law_demand.nd rfl (Or.inl rfl) (jn_fr (jn_call (ok__law_split Fc) hT tk (hr.mono (by decide)) rfl Fc.g__law_split Fc.F__law_split.kp (bd__law_split Fc) .nil dfl_nil (ja_cons (jv_ix (ru1 hr) (jv_var (pv 1)) (jv_of_jn jn_int)) (ja_cons (jv_of_jn jn_str) ja_nil)))) (h0 2))
  (jss_cons (js_set (i := 3) sc__law_demand.nd rfl (Or.inl rfl) (jn_fr (jn_add (jv_of_jn (jn_slice (jv_var (pv 2)) (jo_some (jv_of_jn jn_int)) jo_none)) (jv_of_jn (jn_slice (jv_var (pv 1)) (jo_some (jv_of_jn jn_int)) jo_none)))) (h0 3))
  (jss_cons (js_if (jt_w (jw_or (jt_gt (jv_of_jn (jn_len rfl Fc.b_len (jv_var (pv 2)))) (jv_of_jn jn_int)) (jw_or1 (jt_ne (ru hr) (jv_of_jn (jn_len rfl Fc.b_len (jv_ix (ru1 hr) (jv_var (pv 2)) (jv_of_jn jn_int)))) (jv_of_jn jn_int))))) (jss_one (js_ret jn_non)) jss_nil)
  (jss_cons (js_for (passes_of rfl) rfl (ji_seq (jv_var (pv 3))) (jg_name (i := 4) sc__law_demand.nd rfl (Or.inl rfl) (h0 4)) (jss_one (js_if (jt_w (jw_or (jt_eq (ru hr) (jv_of_jn (jn_len rfl Fc.b_len (jv_var (pv 4)))) (jv_of_jn jn_int)) (jw_or1 (jt_not (jt_tru (jv_of_jn (jn_call (ok__law_all_names Fc) hT tk (hr.mono (by decide)) rfl Fc.g__law_all_names Fc.F__law_all_names.kp (bd__law_all_names Fc) .nil dfl_nil (ja_cons (jv_var (pv 4)) ja_nil)))))))) (jss_one (js_ret jn_non)) jss_nil)))
  (jss_cons (js_setV (i := 5) sc__law_demand.nd rfl (Or.inl rfl) (jv_ix (ru1 hr) (jv_of_jn (jn_add (jv_var (pv 2)) (jv_of_jn (jn_lst (jl_cons (jn_lst jl_nil) jl_nil))))) (jv_of_jn jn_int)) (h0 5))
  (jss_cons (js_setV (i := 6) sc__law_demand.nd rfl (Or.inl rfl) (jv_ix (ru1 hr) (jv_of_jn (jn_add (jv_var (pv 1)) (jv_of_jn (jn_lst (jl_cons (jn_lst jl_nil) jl_nil))))) (jv_of_jn jn_int)) (h0 6))
  (jss_cons (js_if (jt_eq (ru hr) (jv_ix (ru1 hr) (jv_ix (ru1 hr) (jv_var (pv 2)) (jv_of_jn jn_int)) (jv_of_jn jn_int)) (jv_of_jn jn_str)) (jss_one (js_ret (jn_tup (jl_cons jn_non (jl_cons (jn_of_jv (jv_var (pv 5))) (jl_cons (jn_of_jv (jv_var (pv 6))) jl_nil)))))) jss_nil)
  (jss_cons (js_if (jt_not (jt_tru (jv_of_jn (jn_call (ok__law_all_names Fc) hT tk (hr.mono (by decide)) rfl Fc.g__law_all_names Fc.F__law_all_names.kp (bd__law_all_names Fc) .nil dfl_nil (ja_cons (jv_ix (ru1 hr) (jv_var (pv 2)) (jv_of_jn jn_int)) ja_nil))))) (jss_one (js_ret jn_non)) jss_nil)
  (jss_one (js_ret (jn_tup (jl_cons (jn_of_jv (jv_ix (ru1 hr) (jv_ix (ru1 hr) (jv_var (pv 2)) (jv_of_jn jn_int)) (jv_of_jn jn_int))) (jl_cons (jn_of_jv (jv_var (pv 5))) (jl_cons (jn_of_jv (jv_var (pv 6))) jl_nil))))))))))))))))
def S__law_goal_of : Env → Out := (seqS (asgS 1 (gFr (gCall F__law_split [] (gCons (gDm (gVar 0)) (gCons (gDm (gDm (gC (.str "trusting")))) gNil)))))
  (seqS (ifS (gOr (gB (gBin gtD (gDm (gUn lenD (gVar 1))) (gDm (gC (.int 2))))) (gAnd (gB (gBin eqD (gDm (gUn lenD (gVar 1))) (gDm (gC (.int 2))))) (gOr (gB (gBin eqD (gDm (gUn lenD (gBin ixD (gVar 1) (gDm (gC (.int 1)))))) (gDm (gC (.int 0))))) (gNot (gTru (gDm (gCall F__law_all_names [] (gCons (gDm (gBin ixD (gVar 1) (gDm (gC (.int 1))))) gNil)))))))) (retS (gC .non)) nilS)
  (seqS (asgS 2 (gLc (gIt false (gDm (gFr (gCall F__law_split [] (gCons (gDm (gBin ixD (gVar 1) (gDm (gC (.int 0))))) (gCons (gDm (gDm (gC (.str "and")))) gNil)))))) [3] (udName 3) gYes (gCall F__law_demand [] (gCons (gDm (gVar 3)) gNil))))
  (seqS (ifS (gB (gBin inD (gDm (gC .non)) (gVar 2))) (retS (gC .non)) nilS)
  (frS 2 (retS (gTup (gCons (gFr (gChk (gVar 2))) (gCons (gFr (gChk (gBin ixD (gDm (gBin addD (gVar 1) (gDm (gLst (gCons (gFr (gLst gNil)) gNil))))) (gDm (gC (.int 1)))))) gNil)))))))))
def F__law_goal_of : List D → Res D := bodyF 1 4 S__law_goal_of
theorem sc__law_goal_of : FnScope ["_law_words", "_law_parts", "_law_goal", "_law_some"] ["_law_words"] (defScope st__law_goal_of) := ⟨rfl, rfl, rfl, by decide +kernel, rfl, by decide +kernel, by decide +kernel⟩
theorem bd__law_goal_of (Fc : Facts w K mg T) : Binds K Fc.d__law_goal_of ["_law_words"] [] := Fc.F__law_goal_of.bindsN fun _ _ _ _ _ _ us hl => match us, hl with | [_], _ => rfl
theorem ok__law_goal_of (Fc : Facts w K mg T) : FnOk P w K mg base (L2.CX P w) 4 Fc.f__law_goal_of Fc.d__law_goal_of ["_law_words"] (spF K T F__law_goal_of) := fn_pure Fc.F__law_goal_of sc__law_goal_of rfl fun cdv A outer s0 H E c hr hT h0 tk =>
  (jss_cons (js_set (i := 1) sc__law_goal_of.nd rfl (Or.inl rfl) (jn_fr (jn_call (ok__law_split Fc) hT tk (hr.mono (by decide)) rfl Fc.g__law_split Fc.F__law_split.kp (bd__law_split Fc) .nil dfl_nil (ja_cons (jv_var (pv 0)) (ja_cons (jv_of_jn jn_str) ja_nil)))) (h0 1))
  (jss_cons (js_if (jt_w (jw_or (jt_gt (jv_of_jn (jn_len rfl Fc.b_len (jv_var (pv 1)))) (jv_of_jn jn_int)) (jw_or1 (jt_w (jw_and (jt_eq (ru hr) (jv_of_jn (jn_len rfl Fc.b_len (jv_var (pv 1)))) (jv_of_jn jn_int)) (jw_and1 (jt_w (jw_or (jt_eq (ru hr) (jv_of_jn (jn_len rfl Fc.b_len (jv_ix (ru1 hr) (jv_var (pv 1)) (jv_of_jn jn_int)))) (jv_of_jn jn_int)) (jw_or1 (jt_not (jt_tru (jv_of_jn (jn_call (ok__law_all_names Fc) hT tk (hr.mono (by decide)) rfl Fc.g__law_all_names Fc.F__law_all_names.kp (bd__law_all_names Fc) .nil dfl_nil (ja_cons (jv_ix (ru1 hr) (jv_var (pv 1)) (jv_of_jn jn_int)) ja_nil)))))))))))))) (jss_one (js_ret jn_non)) jss_nil)
  (jss_cons (js_setLc (i := 2) (own := [("_law_some", 3)]) rfl sc__law_goal_of.nd rfl rfl rfl (ji_seq (jv_of_jn (jn_fr (jn_call (ok__law_split Fc) hT tk (hr.mono (by decide)) rfl Fc.g__law_split Fc.F__law_split.kp (bd__law_split Fc) .nil dfl_nil (ja_cons (jv_ix (ru1 hr) (jv_var (pv 1)) (jv_of_jn jn_int)) (ja_cons (jv_of_jn jn_str) ja_nil)))))) (blkOk_by rfl) (fun _ _ _ _ _ _ => (jg_name (i := 3) sc__law_goal_of.nd rfl (by first | exact Or.inl rfl | exact Or.inr rfl) rfl)) (fun _ _ _ _ _ _ => jts_nil) (fun _ _ _ _ _ _ => (jn_call (ok__law_demand Fc) hT tk_blk (hr.mono (by decide)) rfl Fc.g__law_demand Fc.F__law_demand.kp (bd__law_demand Fc) .nil dfl_nil (ja_cons (jv_var (pv 3)) ja_nil))) (h0 2))
  (jss_cons (js_if (jt_in (ru hr) (jv_of_jn jn_non) (jv_var (pv 2))) (jss_one (js_ret jn_non)) jss_nil)
  (jss_one (js_fr 2 (js_ret (jn_tup (jl_cons (jn_of_jv (jv_var (pv 2))) (jl_cons (jn_of_jv (jv_ix (ru1 hr) (jv_of_jn (jn_add (jv_var (pv 1)) (jv_of_jn (jn_lst (jl_cons (jn_lst jl_nil) jl_nil))))) (jv_of_jn jn_int))) jl_nil))))))))))
def S_law : Env → Out := (seqS (asgS 1 (gFr (gCall F__law_numbers [] (gCons (gDm (gVar 0)) (gCons (gDm (gDm (gC (.int 60)))) gNil)))))
  (seqS (asgS 2 (gLc (gRng1 (gDm (gBin modD (gDm (gUn intD (gBin ixD (gVar 1) (gDm (gC (.int 40)))))) (gDm (gC (.int 9)))))) [7] (udName 7) gYes (gCall F__law_word [] (gCons (gDm (gBin ixD (gVar 1) (gDm (gBin mulA (gDm (gC (.int 2))) (gVar 7))))) (gCons (gDm (gBin ixD (gVar 1) (gDm (gBin addD (gDm (gBin mulA (gDm (gC (.int 2))) (gVar 7))) (gDm (gC (.int 1))))))) gNil)))))
  (seqS (frS 2 (asgS 3 (gFr (gUn listD (gVar 2)))))
  (seqS (ifS (gB (gBin gtD (gDm (gBin modD (gDm (gUn intD (gBin ixD (gVar 1) (gDm (gC (.int 41)))))) (gDm (gC (.int 3))))) (gDm (gC (.int 0))))) (seqS (frS 2 (asgS 3 (gFr (gCall F__law_formed [] (gCons (gDm (gVar 1)) (gCons (gDm (gDm (gC (.int 42)))) (gCons (gDm (gVar 2)) gNil)))))))
  (ifS (gB (gBin gtD (gDm (gBin modD (gDm (gUn intD (gBin ixD (gVar 1) (gDm (gC (.int 50)))))) (gDm (gC (.int 3))))) (gDm (gC (.int 0))))) (asgS 3 (gFr (gCall F__law_turned [] (gCons (gDm (gVar 1)) (gCons (gDm (gDm (gC (.int 51)))) (gCons (gDm (gVar 3)) (gCons (gDm (gDm (gFr (gCall F__law_word [] (gCons (gDm (gBin ixD (gVar 1) (gDm (gC (.int 52))))) (gCons (gDm (gBin ixD (gVar 1) (gDm (gC (.int 53))))) gNil)))))) gNil))))))) nilS)) nilS)
  (seqS (asgS 4 (gFr (gUn listD (gVar 3))))
  (seqS (asgS 5 (gFr (gCall F_goal_of [] (gCons (gDm (gVar 4)) gNil))))
  (seqS (asgS 6 (gFr (gCall F__law_goal_of [] (gCons (gDm (gVar 3)) gNil))))
  (seqS (ifS (gB (gBin neD (gVar 4) (gVar 3))) (retS (gC (.bl false))) nilS)
  (seqS (ifS (gB (gBin isnD (gVar 6) (gDm (gC .non)))) (retS (gBin isnD (gVar 5) (gDm (gC .non)))) nilS)
  (retS (gAndV (gUn (isiD "tuple") (gVar 5)) (gBin eqS (gDm (gUn reprD (gVar 5))) (gDm (gUn reprD (gVar 6)))))))))))))))
def F_law : List D → Res D := bodyF 1 8 S_law
theorem sc_law : FnScope ["_law_script", "_law_numbers_here", "_law_words", "_law_line", "_law_passed", "_law_actual", "_law_due", "_law_k"] ["_law_script"] (defScope st_law) := ⟨rfl, rfl, rfl, by decide +kernel, rfl, by decide +kernel, by decide +kernel⟩
theorem ok_law (Fc : Facts w K mg T) : FnG P w K mg base (L2.CX P w) 5 Fc.f_law Fc.d_law ["_law_script"] (spF K T F_law) := fn_pureG Fc.F_law sc_law rfl fun cdv A outer s0 H E c hG hr hT h0 tk =>
  (jss_cons (js_set (i := 1) sc_law.nd rfl (Or.inr rfl) (jn_fr (jn_call (ok__law_numbers Fc) hT tk (hr.mono (by decide)) rfl Fc.g__law_numbers Fc.F__law_numbers.kp (bd__law_numbers Fc) .nil dfl_nil (ja_cons (jv_var (pv 0)) (ja_cons (jv_of_jn jn_int) ja_nil)))) (h0 1))
  (jss_cons (js_setLc (i := 2) (own := [("_law_k", 7)]) rfl sc_law.nd rfl rfl rfl (ji_range1 rfl Fc.b_range (jv_of_jn (jn_mod (jv_of_jn (jn_intOf rfl Fc.b_int (jv_ix (ru1 hr) (jv_var (pv 1)) (jv_of_jn jn_int)))) (jv_of_jn jn_int)))) (blkOk_by rfl) (fun _ _ _ _ _ _ => (jg_name (i := 7) sc_law.nd rfl (by first | exact Or.inl rfl | exact Or.inr rfl) rfl)) (fun _ _ _ _ _ _ => jts_nil) (fun _ _ _ _ _ _ => (jn_call (ok__law_word Fc) hT tk_blk (hr.mono (by decide)) rfl Fc.g__law_word Fc.F__law_word.kp (bd__law_word Fc) .nil dfl_nil (ja_cons (jv_ix (ru1 hr) (jv_var (pv 1)) (jv_of_jn (jn_mulA (jv_of_jn jn_int) (jv_var (pv 7))))) (ja_cons (jv_ix (ru1 hr) (jv_var (pv 1)) (jv_of_jn (jn_add (jv_of_jn (jn_mulA (jv_of_jn jn_int) (jv_var (pv 7)))) (jv_of_jn jn_int)))) ja_nil)))) (h0 2))
  (jss_cons (js_fr 2 (js_set (i := 3) sc_law.nd rfl (Or.inl rfl) (jn_fr (jn_listOf rfl rfl Fc.b_list (jv_var (pv 2)))) (h0 3)))
  (jss_cons (js_if (jt_gt (jv_of_jn (jn_mod (jv_of_jn (jn_intOf rfl Fc.b_int (jv_ix (ru1 hr) (jv_var (pv 1)) (jv_of_jn jn_int)))) (jv_of_jn jn_int))) (jv_of_jn jn_int)) (jss_cons (js_fr 2 (js_set (i := 3) sc_law.nd rfl (Or.inl rfl) (jn_fr (jn_call (ok__law_formed Fc) hT tk (hr.mono (by decide)) rfl Fc.g__law_formed Fc.F__law_formed.kp (bd__law_formed Fc) .nil dfl_nil (ja_cons (jv_var (pv 1)) (ja_cons (jv_of_jn jn_int) (ja_cons (jv_var (pv 2)) ja_nil))))) (h0 3)))
  (jss_one (js_if (jt_gt (jv_of_jn (jn_mod (jv_of_jn (jn_intOf rfl Fc.b_int (jv_ix (ru1 hr) (jv_var (pv 1)) (jv_of_jn jn_int)))) (jv_of_jn jn_int))) (jv_of_jn jn_int)) (jss_one (js_set (i := 3) sc_law.nd rfl (Or.inl rfl) (jn_fr (jn_call (ok__law_turned Fc) hT tk (hr.mono (by decide)) rfl Fc.g__law_turned Fc.F__law_turned.kp (bd__law_turned Fc) .nil dfl_nil (ja_cons (jv_var (pv 1)) (ja_cons (jv_of_jn jn_int) (ja_cons (jv_var (pv 3)) (ja_cons (jv_of_jn (jn_fr (jn_call (ok__law_word Fc) hT tk (hr.mono (by decide)) rfl Fc.g__law_word Fc.F__law_word.kp (bd__law_word Fc) .nil dfl_nil (ja_cons (jv_ix (ru1 hr) (jv_var (pv 1)) (jv_of_jn jn_int)) (ja_cons (jv_ix (ru1 hr) (jv_var (pv 1)) (jv_of_jn jn_int)) ja_nil))))) ja_nil)))))) (h0 3))) jss_nil))) jss_nil)
  (jss_cons (js_set (i := 4) sc_law.nd rfl (Or.inl rfl) (jn_fr (jn_listOf rfl rfl Fc.b_list (jv_var (pv 3)))) (h0 4))
  (jss_cons (js_set (i := 5) sc_law.nd rfl (Or.inl rfl) (jn_fr (jn_call (ok_goal_of Fc) hT tk (hr.mono (by decide)) rfl Fc.g_goal_of Fc.F_goal_of.kp (bd_goal_of Fc) .nil dfl_nil (ja_cons (jv_var (pv 4)) ja_nil))) (h0 5))
  (jss_cons (js_set (i := 6) sc_law.nd rfl (Or.inl rfl) (jn_fr (jn_call (ok__law_goal_of Fc) hT tk (hr.mono (by decide)) rfl Fc.g__law_goal_of Fc.F__law_goal_of.kp (bd__law_goal_of Fc) .nil dfl_nil (ja_cons (jv_var (pv 3)) ja_nil))) (h0 6))
  (jss_cons (js_if (jt_ne (ru hr) (jv_var (pv 4)) (jv_var (pv 3))) (jss_one (js_ret jn_bl)) jss_nil)
  (jss_cons (js_if (jt_isn (jv_var (pv 6)) (jv_of_jn jn_non)) (jss_one (js_ret (jn_isn (jv_var (pv 5)) (jv_of_jn jn_non)))) jss_nil)
  (jss_one (js_ret (jn_and (jn_isi (T := "tuple") rfl Fc.b_isinstance rfl Fc.b_tuple (by decide +kernel) (jv_var (pv 5))) (jn_one (jn_eqS (jv_of_jn (jn_repr hG (ru hr) rfl Fc.b_repr (jv_var (pv 5)))) (jv_of_jn (jn_repr hG (ru hr) rfl Fc.b_repr (jv_var (pv 6))))))))))))))))))
end
end K61
end
namespace K61
open PySem PySem.Spec PyProof.Rows L2 PD
theorem facts {w : World} {K : PySem.W.Frag} {h : Heap} {mg : Str → Option Value} (X : K.In h) (G : h.Ns mainGlobals mg) (c0 : SaysP faL fnL tsL [] exB gsL w h K) : ∃ Fc : Facts w K mg (tbK K), Fc.f_law = He.ga K "law" := by
  have c := c0.x
  obtain ⟨d__law_row, F__law_row⟩ := c.t.d.def_ 0 (d := dd__law_row) rfl
  obtain ⟨d__law_numbers, F__law_numbers⟩ := c.t.d.def_ 1 (d := dd__law_numbers) rfl
  obtain ⟨d__law_word, F__law_word⟩ := c.t.d.def_ 2 (d := dd__law_word) rfl
  obtain ⟨d__law_is_name, F__law_is_name⟩ := c.t.d.def_ 3 (d := dd__law_is_name) rfl
  obtain ⟨d__law_formed, F__law_formed⟩ := c.t.d.def_ 4 (d := dd__law_formed) rfl
  obtain ⟨d__law_turned, F__law_turned⟩ := c.t.d.def_ 5 (d := dd__law_turned) rfl
  obtain ⟨d_parted, F_parted⟩ := c.t.d.def_ 6 (d := dd_parted) rfl
  obtain ⟨d_is_name, F_is_name⟩ := c.t.d.def_ 7 (d := dd_is_name) rfl
  obtain ⟨d_are_names, F_are_names⟩ := c.t.d.def_ 8 (d := dd_are_names) rfl
  obtain ⟨d_demand_of, F_demand_of⟩ := c.t.d.def_ 9 (d := dd_demand_of) rfl
  obtain ⟨d_goal_of, F_goal_of⟩ := c.t.d.def_ 10 (d := dd_goal_of) rfl
  obtain ⟨d__law_split, F__law_split⟩ := c.t.d.def_ 11 (d := dd__law_split) rfl
  obtain ⟨d__law_all_names, F__law_all_names⟩ := c.t.d.def_ 12 (d := dd__law_all_names) rfl
  obtain ⟨d__law_demand, F__law_demand⟩ := c.t.d.def_ 13 (d := dd__law_demand) rfl
  obtain ⟨d__law_goal_of, F__law_goal_of⟩ := c.t.d.def_ 14 (d := dd__law_goal_of) rfl
  obtain ⟨d_law, F_law⟩ := c.t.d.def_ 15 (d := dd_law) rfl
  have ex := c.more
  unfold exB at ex
  obtain ⟨e_MARKS, ex⟩ := Bool.and_eq_true_iff.mp ex
  exact ⟨{
      f__law_row := _
      d__law_row := d__law_row
      F__law_row := F__law_row
      g__law_row := He.glo_ok X G (c.t.d.fact 0 (f := .glo "_law_row") rfl)
      f__law_numbers := _
      d__law_numbers := d__law_numbers
      F__law_numbers := F__law_numbers
      g__law_numbers := He.glo_ok X G (c.t.d.fact 1 (f := .glo "_law_numbers") rfl)
      f__law_word := _
      d__law_word := d__law_word
      F__law_word := F__law_word
      g__law_word := He.glo_ok X G (c.t.d.fact 2 (f := .glo "_law_word") rfl)
      f__law_is_name := _
      d__law_is_name := d__law_is_name
      F__law_is_name := F__law_is_name
      g__law_is_name := He.glo_ok X G (c.t.d.fact 3 (f := .glo "_law_is_name") rfl)
      f__law_formed := _
      d__law_formed := d__law_formed
      F__law_formed := F__law_formed
      g__law_formed := He.glo_ok X G (c.t.d.fact 4 (f := .glo "_law_formed") rfl)
      f__law_turned := _
      d__law_turned := d__law_turned
      F__law_turned := F__law_turned
      g__law_turned := He.glo_ok X G (c.t.d.fact 5 (f := .glo "_law_turned") rfl)
      f_parted := _
      d_parted := d_parted
      F_parted := F_parted
      g_parted := He.glo_ok X G (c.t.d.fact 6 (f := .glo "parted") rfl)
      f_is_name := _
      d_is_name := d_is_name
      F_is_name := F_is_name
      g_is_name := He.glo_ok X G (c.t.d.fact 7 (f := .glo "is_name") rfl)
      f_are_names := _
      d_are_names := d_are_names
      F_are_names := F_are_names
      g_are_names := He.glo_ok X G (c.t.d.fact 8 (f := .glo "are_names") rfl)
      f_demand_of := _
      d_demand_of := d_demand_of
      F_demand_of := F_demand_of
      g_demand_of := He.glo_ok X G (c.t.d.fact 9 (f := .glo "demand_of") rfl)
      f_goal_of := _
      d_goal_of := d_goal_of
      F_goal_of := F_goal_of
      g_goal_of := He.glo_ok X G (c.t.d.fact 10 (f := .glo "goal_of") rfl)
      f__law_split := _
      d__law_split := d__law_split
      F__law_split := F__law_split
      g__law_split := He.glo_ok X G (c.t.d.fact 11 (f := .glo "_law_split") rfl)
      f__law_all_names := _
      d__law_all_names := d__law_all_names
      F__law_all_names := F__law_all_names
      g__law_all_names := He.glo_ok X G (c.t.d.fact 12 (f := .glo "_law_all_names") rfl)
      f__law_demand := _
      d__law_demand := d__law_demand
      F__law_demand := F__law_demand
      g__law_demand := He.glo_ok X G (c.t.d.fact 13 (f := .glo "_law_demand") rfl)
      f__law_goal_of := _
      d__law_goal_of := d__law_goal_of
      F__law_goal_of := F__law_goal_of
      g__law_goal_of := He.glo_ok X G (c.t.d.fact 14 (f := .glo "_law_goal_of") rfl)
      f_law := _
      d_law := d_law
      F_law := F_law
      g_law := He.glo_ok X G (c.t.d.fact 15 (f := .glo "law") rfl)
      b_abs := He.free_ok X G (c.t.d.fact 16 (f := .free "abs") rfl)
      b_all := He.free_ok X G (c.t.d.fact 17 (f := .free "all") rfl)
      b_int := He.free_ok X G (c.t.d.fact 18 (f := .free "int") rfl)
      b_isinstance := He.free_ok X G (c.t.d.fact 19 (f := .free "isinstance") rfl)
      b_len := He.free_ok X G (c.t.d.fact 20 (f := .free "len") rfl)
      b_list := He.free_ok X G (c.t.d.fact 21 (f := .free "list") rfl)
      b_max := He.free_ok X G (c.t.d.fact 22 (f := .free "max") rfl)
      b_range := He.free_ok X G (c.t.d.fact 23 (f := .free "range") rfl)
      b_repr := He.free_ok X G (c.t.d.fact 24 (f := .free "repr") rfl)
      b_tuple := He.free_ok X G (c.t.d.fact 25 (f := .free "tuple") rfl)
      a_MARKS := _
      m_MARKS := He.glo_ok X G (c.t.d.fact 26 (f := .glo "MARKS") rfl)
      t_MARKS := ktup_ok (ds := [.str "and", .str "with", .str "without", .str "trusting", .str "anybody"]) e_MARKS rfl
      c_MOST_NAME_CHARS := He.int_ok X G (c.t.d.fact 27 (f := .int "MOST_NAME_CHARS" 12) rfl)
      c_NAME_CHARS := He.str_ok X G (c.t.d.fact 28 (f := .str "NAME_CHARS" "abcdefghijklmnopqrstuvwxyz0123456789") rfl) }, rfl⟩
end K61
open PySem PySem.W PySem.Calls PyProof.Rows
theorem K61.closed (hF : ∀ ns : List Int, ns.length ≤ 63 → K61.F_law [.lst .frz (ns.map PD.D.int)] = .ok (.bl true)) : PySem.Challenge.rw_whoevermay_k61_words_of_goals.Holds := by
  w_on; o_law
  refine HandSHeadRun.head_any (r := OpenLaw.row PySem.Challenge.rw_whoevermay_k61_words_of_goals) (q := view (OpenLaw.row PySem.Challenge.rw_whoevermay_k61_words_of_goals).prog [21]) (H := K61.hk) (ob := K61.ob) (M := 6000) (loose := K61.loose) (d := HandSHeadRun.topDef (OpenLaw.row PySem.Challenge.rw_whoevermay_k61_words_of_goals).prog 21) (kwd := []) K61.ob_eq
    (by kernel_rfl) (fun s => by kernel_rfl) K61.run (by kernel_rfl) (by kernel_rfl) (by kernel_rfl) (by rfl) (by first | assumption | decide +kernel) (by decide +kernel) ⟨rfl, rfl, rfl, rfl, rfl, by decide +kernel⟩ ?hw ?hc
  case hw => w_witness2
  case hc =>
    refine PD.walk_ofG (l := PySem.Challenge.rw_whoevermay_k61_words_of_goals) (k := 5) (x := "_law_script") rfl (by kernel_rfl) ⟨rfl, by decide, by decide⟩ ?F
    intro w mg fa h Y G hmg0
    obtain ⟨K, KX, c⟩ := Y
    have hmg : mg ("law" : PySem.Str) = some (.ref fa) := by
      have e : (HandSHeadRun.topDef (OpenLaw.row PySem.Challenge.rw_whoevermay_k61_words_of_goals).prog 21).name = ("law" : PySem.Str) := by kernel_rfl
      rw [← e]
      exact hmg0
    obtain ⟨Fc, e⟩ := K61.facts KX G c.p
    have e2 := hmg.symm.trans Fc.g_law
    cases e2
    have b := L2.FunD.bindsA (ps := ["_law_script"]) Fc.F_law fun _ _ _ _ _ _ us hl => match us, hl with | [_], _ => rfl
    exact ⟨K, Fc.d_law, KX, fun s v => b s [v] rfl, fun base _ _ => PD.law_okG (K61.ok_law Fc) hF⟩
noncomputable section
namespace K61
open PySem PySem.Spec PyProof.Rows L2 PD
def tx0 : Tx := ['a', 'b', 'c', 'd', 'e', 'f', 'g', 'h', 'i', 'j', 'k', 'l', 'm', 'n', 'o', 'p', 'q', 'r', 's', 't', 'u', 'v', 'w', 'x', 'y', 'z', '0', '1', '2', '3', '4', '5', '6', '7', '8', '9']
def tx1 : Tx := ['a', 'b', 'c', 'd', 'e', 'f', 'g', 'h', 'i', 'j', 'k', 'l', 'm', 'n', 'o', 'p', 'q', 'r', 's', 't', 'u', 'v', 'w', 'x', 'y', 'z']
@[irreducible] def T__law_row (a_cell : Int) (a_many : Int) : Res (List Int) := kEnd (kLet (Res.ok ([] : (List Int))) fun (row_here_36 : (List Int)) => (kLet (Res.ok (if a_cell < 0 then -a_cell else a_cell)) fun (rest_37 : Int) => (kLet (Res.ok (((rest_37 * 48271) + (69621 : Int)) % 2147483647)) fun (mixed_38 : Int) => (kLet (rng1 a_many) fun (l50 : List Int) => kSeq (kFor (fun (i41 : Int) (s39 : (Int × (List Int) × Int)) => (kLet (Res.ok (((s39.1 * 16807) + (271 * (i41 + (3 : Int)))) % 2147483629)) fun (mixed_42 : Int) => (if (decide ((if a_cell < 0 then -a_cell else a_cell) ≥ (10 ^ 18))) = true then (kLet ((Res.ok (s39.2.2 % 1009)) >>= fun x45 => appL s39.2.1 x45) fun (row_here_43 : (List Int)) => (kLet (Res.ok (s39.2.2 / 1009)) fun (rest_44 : Int) => (TR.nx (mixed_42, row_here_43, rest_44)))) else (kLet ((Res.ok ((mixed_42 / 7) % 1009)) >>= fun x47 => appL s39.2.1 x47) fun (row_here_46 : (List Int)) => (TR.nx (mixed_42, row_here_46, s39.2.2)))))) l50 (mixed_38, row_here_36, rest_37)) fun (u48 : (Int × (List Int) × Int)) => (TR.rt u48.2.1)))))
theorem t__law_row (a_cell : Int) (a_many : Int) : Ev (F__law_row [eI a_cell, eI a_many]) (eL .own eI) (T__law_row a_cell a_many) := by
  unfold T__law_row
  refine fr_body (n := 2) (m := 6) (Rn := fun r _ => (eL .own eI) r = .non) (Rl := fun _ _ => True) rfl (fun _ _ h => h) ?_
  show SR (S__law_row [some (eI a_cell), some (eI a_many), none, none, none, none]) _ _ _ _ _
  unfold S__law_row
  refine sr_asg (e := (eL .own eI)) xt (ev_lst0 (e := eI)) rfl ?_
  intro row_here_36
  refine sr_env (E' := [some (eI a_cell), some (eI a_many), some ((eL .own eI) row_here_36), none, none, none]) rfl ?_
  refine sr_asg (e := eI) xt (ev_unp (ft := (fun a => Res.ok (if a < 0 then -a else a))) op_abs (ev_var (e := eI) (a := a_cell) rfl)) rfl ?_
  intro rest_37
  refine sr_env (E' := [some (eI a_cell), some (eI a_many), some ((eL .own eI) row_here_36), some (eI rest_37), none, none]) rfl ?_
  refine sr_asg (e := eI) xt (ev_bincp (ft := (fun a => Res.ok (a % 2147483647))) (fun a => op_modIc (2147483647) rfl a) (ev_dm (ev_unp (ft := (fun a => Res.ok a)) op_int (ev_dm (ev_binp (ft := (fun a b => Res.ok (a + b))) op_addI (ev_dm (ev_bincp (ft := (fun a => Res.ok (a * 48271))) (fun a => op_mulIc (48271) rfl a) (ev_var (e := eI) (a := rest_37) rfl) (ev_dm (ev_c (e := eI) (a := 48271) rfl)))) (ev_dm (ev_c (e := eI) (a := 69621) rfl)))))) (ev_dm (ev_c (e := eI) (a := 2147483647) rfl))) rfl ?_
  intro mixed_38
  refine sr_env (E' := [some (eI a_cell), some (eI a_many), some ((eL .own eI) row_here_36), some (eI rest_37), some (eI mixed_38), none]) rfl ?_
  refine sr_forF (fun (s39 : (Int × (List Int) × Int)) (o40 : Option D) => [some (eI a_cell), some (eI a_many), some ((eL .own eI) s39.2.1), some (eI s39.2.2), some (eI s39.1), o40]) (e := eI) (none) xt (ev_rng1p (ev_var (e := eI) (a := a_many) rfl)) rfl ?_ ?_
  · intro i41 s39 o40
    refine ⟨_, (ud_name (e := eI) (x := i41) rfl), ?_⟩
    refine sr_env (E' := [some (eI a_cell), some (eI a_many), some ((eL .own eI) s39.2.1), some (eI s39.2.2), some (eI s39.1), some (eI i41)]) rfl ?_
    refine sr_asg (e := eI) xt (ev_bincp (ft := (fun a => Res.ok (a % 2147483629))) (fun a => op_modIc (2147483629) rfl a) (ev_dm (ev_unp (ft := (fun a => Res.ok a)) op_int (ev_dm (ev_binp (ft := (fun a b => Res.ok (a + b))) op_addI (ev_dm (ev_bincp (ft := (fun a => Res.ok (a * 16807))) (fun a => op_mulIc (16807) rfl a) (ev_var (e := eI) (a := s39.1) rfl) (ev_dm (ev_c (e := eI) (a := 16807) rfl)))) (ev_dm (ev_bincpl (ft := (fun a => Res.ok (271 * a))) (fun a => op_mulcI (271) rfl a) (ev_dm (ev_c (e := eI) (a := 271) rfl)) (ev_dm (ev_binp (ft := (fun a b => Res.ok (a + b))) op_addI (ev_var (e := eI) (a := i41) rfl) (ev_dm (ev_c (e := eI) (a := 3) rfl)))))))))) (ev_dm (ev_c (e := eI) (a := 2147483629) rfl))) rfl ?_
    intro mixed_42
    refine sr_env (E' := [some (eI a_cell), some (eI a_many), some ((eL .own eI) s39.2.1), some (eI s39.2.2), some (eI mixed_42), some (eI i41)]) rfl ?_
    refine sr_last ?_
    refine sr_ifp (ev_b (ev_binp (ft := (fun a b => Res.ok (decide (a ≥ b)))) op_ge (ev_dm (ev_unp (ft := (fun a => Res.ok (if a < 0 then -a else a))) op_abs (ev_var (e := eI) (a := a_cell) rfl))) (ev_dm (ev_powc 10 18 18 rfl rfl (ev_dm (ev_c (e := eI) (a := 10) rfl)) (ev_dm (ev_c (e := eI) (a := 18) rfl)))))) ?_ ?_
    · refine sr_assoc ?_
      refine sr_app (e := eI) (xs := s39.2.1) xt rfl (ev_bincp (ft := (fun a => Res.ok (a % 1009))) (fun a => op_modIc (1009) rfl a) (ev_dm (ev_unp (ft := (fun a => Res.ok a)) op_int (ev_var (e := eI) (a := s39.2.2) rfl))) (ev_dm (ev_c (e := eI) (a := 1009) rfl))) ?_
      intro row_here_43
      refine sr_env (E' := [some (eI a_cell), some (eI a_many), some ((eL .own eI) row_here_43), some (eI s39.2.2), some (eI mixed_42), some (eI i41)]) rfl ?_
      refine sr_asg (e := eI) xt (ev_bincp (ft := (fun a => Res.ok (a / 1009))) (fun a => op_divIc (1009) rfl a) (ev_var (e := eI) (a := s39.2.2) rfl) (ev_dm (ev_c (e := eI) (a := 1009) rfl))) rfl ?_
      intro rest_44
      refine sr_env (E' := [some (eI a_cell), some (eI a_many), some ((eL .own eI) row_here_43), some (eI rest_44), some (eI mixed_42), some (eI i41)]) rfl ?_
      exact sr_nilF (some (eI i41)) rfl
    · refine sr_app (e := eI) (xs := s39.2.1) xt rfl (ev_bincp (ft := (fun a => Res.ok (a % 1009))) (fun a => op_modIc (1009) rfl a) (ev_dm (ev_unp (ft := (fun a => Res.ok a)) op_int (ev_dm (ev_bincp (ft := (fun a => Res.ok (a / 7))) (fun a => op_divIc (7) rfl a) (ev_var (e := eI) (a := mixed_42) rfl) (ev_dm (ev_c (e := eI) (a := 7) rfl)))))) (ev_dm (ev_c (e := eI) (a := 1009) rfl))) ?_
      intro row_here_46
      refine sr_env (E' := [some (eI a_cell), some (eI a_many), some ((eL .own eI) row_here_46), some (eI s39.2.2), some (eI mixed_42), some (eI i41)]) rfl ?_
      exact sr_nilF (some (eI i41)) rfl
  intro u48 o49
  refine sr_env (E' := [some (eI a_cell), some (eI a_many), some ((eL .own eI) u48.2.1), some (eI u48.2.2), some (eI u48.1), o49]) rfl ?_
  refine sr_last ?_
  exact sr_retV (i := 2) (e := (eL .own eI)) (a := u48.2.1) (b := u48.2.1) rfl rfl trivial
@[irreducible] def T__law_numbers (a_script : (List Int)) (a_many : Int) : Res (List Int) := kEnd (kLet (Res.ok (cutL a_script none (some (63 : Int)))) fun (cells_53 : (List Int)) => (kLet ((Res.ok (1 : Int)) >>= fun x54 => (divI a_many (if ((cells_53.length : Nat) : Int) > (1 : Int) then ((cells_53.length : Nat) : Int) else (1 : Int))) >>= fun x55 => (fun a b => Res.ok (a + b)) x54 x55) fun (each_56 : Int) => (kLet (Res.ok ([] : (List Int))) fun (numbers_here_57 : (List Int)) => (kLet (Res.ok cells_53) fun (l78 : List Int) => kSeq (kFor (fun (i60 : Int) (s58 : ((List Int))) => (kLet (T__law_row i60 each_56) fun (l68 : List Int) => kSeq (kFor (fun (i63 : Int) (s61 : ((List Int))) => (kLet ((Res.ok i63) >>= fun x65 => appL s61 x65) fun (numbers_here_64 : (List Int)) => (TR.nx numbers_here_64))) l68 s58) fun (u66 : ((List Int))) => (TR.nx u66))) l78 numbers_here_57) fun (u69 : ((List Int))) => (kSeq (kWhile (fun (s71 : ((List Int))) => (Res.ok (decide (((s71.length : Nat) : Int) < a_many)))) (fun (s71 : ((List Int))) => (kLet ((Res.ok (0 : Int)) >>= fun x75 => appL s71 x75) fun (numbers_here_74 : (List Int)) => (TR.nx numbers_here_74))) 100000 u69) fun (u76 : ((List Int))) => (kRet (Res.ok (cutL u76 none (some a_many)))))))))
theorem t__law_numbers (a_script : (List Int)) (a_many : Int) : Ev (F__law_numbers [(eL .frz eI) a_script, eI a_many]) (eL .own eI) (T__law_numbers a_script a_many) := by
  unfold T__law_numbers
  refine fr_body (n := 2) (m := 7) (Rn := fun r _ => (eL .own eI) r = .non) (Rl := fun _ _ => True) rfl (fun _ _ h => h) ?_
  show SR (S__law_numbers [some ((eL .frz eI) a_script), some (eI a_many), none, none, none, none, none]) _ _ _ _ _
  unfold S__law_numbers
  refine sr_asg (e := (eL .imm eI)) xt (ev_fr (ev_slp (ft := (fun a l h => Res.ok (cutL a l h))) op_slL (ev_var (e := (eL .frz eI)) (a := a_script) rfl) ev_o0 (ev_op (ev_dm (ev_c (e := eI) (a := 63) rfl))))) rfl ?_
  intro cells_53
  refine sr_env (E' := [some ((eL .frz eI) a_script), some (eI a_many), some ((eL .imm eI) cells_53), none, none, none, none]) rfl ?_
  refine sr_asg (e := eI) xt (ev_bin (ft := (fun a b => Res.ok (a + b))) op_addI (ev_dm (ev_c (e := eI) (a := 1) rfl)) (ev_dm (ev_binp (ft := divI) op_divI (ev_var (e := eI) (a := a_many) rfl) (ev_dm (ev_binp (ft := (fun a b => Res.ok (if b > a then b else a))) op_max (ev_dm (ev_c (e := eI) (a := 1) rfl)) (ev_dm (ev_unp (ft := (fun a => Res.ok ((List.length a : Nat) : Int))) op_lenL (ev_var (e := (eL .imm eI)) (a := cells_53) rfl)))))))) rfl ?_
  intro each_56
  refine sr_env (E' := [some ((eL .frz eI) a_script), some (eI a_many), some ((eL .imm eI) cells_53), some (eI each_56), none, none, none]) rfl ?_
  refine sr_asg (e := (eL .own eI)) xt (ev_lst0 (e := eI)) rfl ?_
  intro numbers_here_57
  refine sr_env (E' := [some ((eL .frz eI) a_script), some (eI a_many), some ((eL .imm eI) cells_53), some (eI each_56), some ((eL .own eI) numbers_here_57), none, none]) rfl ?_
  refine sr_forF (fun (s58 : ((List Int))) (o59 : Option D × Option D) => [some ((eL .frz eI) a_script), some (eI a_many), some ((eL .imm eI) cells_53), some (eI each_56), some ((eL .own eI) s58), o59.1, o59.2]) (e := eI) ((none, none)) xt (ev_itp (ft := (fun a => Res.ok a)) (op_it (by decide)) (ev_var (e := (eL .imm eI)) (a := cells_53) rfl)) rfl ?_ ?_
  · intro i60 s58 o59
    refine ⟨_, (ud_name (e := eI) (x := i60) rfl), ?_⟩
    refine sr_env (E' := [some ((eL .frz eI) a_script), some (eI a_many), some ((eL .imm eI) cells_53), some (eI each_56), some ((eL .own eI) s58), some (eI i60), o59.2]) rfl ?_
    refine sr_last ?_
    refine sr_forF (fun (s61 : ((List Int))) (o62 : Option D) => [some ((eL .frz eI) a_script), some (eI a_many), some ((eL .imm eI) cells_53), some (eI each_56), some ((eL .own eI) s61), some (eI i60), o62]) (e := eI) (o59.2) xt (ev_itI (op_it (by decide)) (ev_dm (ev_fr (ev_argsp (es := (pc eI (p1 eI))) (a := (i60, each_56)) (e2 := (eL .own eI)) (ft := T__law_row i60 each_56) (t__law_row i60 each_56) (ev_tconsp (ev_dm (ev_var (e := eI) (a := i60) rfl)) (ev_tone (ev_dm (ev_var (e := eI) (a := each_56) rfl)))))))) rfl ?_ ?_
    · intro i63 s61 o62
      refine ⟨_, (ud_name (e := eI) (x := i63) rfl), ?_⟩
      refine sr_env (E' := [some ((eL .frz eI) a_script), some (eI a_many), some ((eL .imm eI) cells_53), some (eI each_56), some ((eL .own eI) s61), some (eI i60), some (eI i63)]) rfl ?_
      refine sr_last ?_
      refine sr_app (e := eI) (xs := s61) xt rfl (ev_chk (ev_var (e := eI) (a := i63) rfl)) ?_
      intro numbers_here_64
      refine sr_env (E' := [some ((eL .frz eI) a_script), some (eI a_many), some ((eL .imm eI) cells_53), some (eI each_56), some ((eL .own eI) numbers_here_64), some (eI i60), some (eI i63)]) rfl ?_
      exact sr_nilF (some (eI i63)) rfl
    intro u66 o67
    refine sr_env (E' := [some ((eL .frz eI) a_script), some (eI a_many), some ((eL .imm eI) cells_53), some (eI each_56), some ((eL .own eI) u66), some (eI i60), o67]) rfl ?_
    exact sr_nilF ((some (eI i60), o67)) rfl
  intro u69 o70
  refine sr_env (E' := [some ((eL .frz eI) a_script), some (eI a_many), some ((eL .imm eI) cells_53), some (eI each_56), some ((eL .own eI) u69), o70.1, o70.2]) rfl ?_
  refine sr_whileF (fun (s71 : ((List Int))) (o72 : Unit) => [some ((eL .frz eI) a_script), some (eI a_many), some ((eL .imm eI) cells_53), some (eI each_56), some ((eL .own eI) s71), o70.1, o70.2]) (()) (fun _ _ => xt) rfl (fun (s71 : ((List Int))) (o72 : Unit) => (ev_b (ev_binp (ft := (fun a b => Res.ok (decide (a < b)))) op_lt (ev_dm (ev_unp (ft := (fun a => Res.ok ((List.length a : Nat) : Int))) op_lenL (ev_var (e := (eL .own eI)) (a := s71) rfl))) (ev_var (e := eI) (a := a_many) rfl)))) ?_ ?_
  · intro s71 o72
    refine sr_env (E' := [some ((eL .frz eI) a_script), some (eI a_many), some ((eL .imm eI) cells_53), some (eI each_56), some ((eL .own eI) s71), o70.1, o70.2]) rfl ?_
    refine sr_last ?_
    refine sr_app (e := eI) (xs := s71) xt rfl (ev_c (e := eI) (a := 0) rfl) ?_
    intro numbers_here_74
    refine sr_env (E' := [some ((eL .frz eI) a_script), some (eI a_many), some ((eL .imm eI) cells_53), some (eI each_56), some ((eL .own eI) numbers_here_74), o70.1, o70.2]) rfl ?_
    exact sr_nilF (()) rfl
  intro u76 o77
  refine sr_env (E' := [some ((eL .frz eI) a_script), some (eI a_many), some ((eL .imm eI) cells_53), some (eI each_56), some ((eL .own eI) u76), o70.1, o70.2]) rfl ?_
  refine sr_last ?_
  exact sr_ret xt (fun _ => trivial) (ev_slp (ft := (fun a l h => Res.ok (cutL a l h))) op_slL (ev_var (e := (eL .own eI)) (a := u76) rfl) ev_o0 (ev_op (ev_var (e := eI) (a := a_many) rfl)))
@[irreducible] def T__law_word (a_number : Int) (a_more : Int) : Res Tx := kEnd (kLet (Res.ok [(['a', 'n', 'd'] : Tx), (['w', 'i', 't', 'h'] : Tx), (['w', 'i', 't', 'h', 'o', 'u', 't'] : Tx), (['t', 'r', 'u', 's', 't', 'i', 'n', 'g'] : Tx), (['a', 'n', 'y', 'b', 'o', 'd', 'y'] : Tx), (['c', 'h', 'a', 'r', 't', 'e', 'r'] : Tx), (['a', 's', 'k'] : Tx), (['u', 'n', 'd', 'o'] : Tx), (['a', 'n', 's', 'w', 'e', 'r', 's'] : Tx), (['s', 'h', 'o', 'w'] : Tx), (['p', 'l', 'a', 'n'] : Tx), (['c', 'u', 't'] : Tx)]) fun (words_60 : (List Tx)) => (kLet ((fun a b => lim (a ++ b)) words_60 [(['c', 'h', 'a', 'r', 't', 'e', 'r', 's'] : Tx), (['q', 'u', 'e', 's', 't', 'i', 'o', 'n', 's'] : Tx), (['p', 'r', 'i', 'n', 't'] : Tx), (['d', 'r', 'o', 'p'] : Tx), (['r', 'e', 'm', 'o', 'v', 'e'] : Tx), (['a', 'n', 's', 'w', 'e', 'r'] : Tx), (['r', 'e', 'd', 'o'] : Tx), (['d', 'o', 'n', 'e'] : Tx)]) fun (words_61 : (List Tx)) => (if (eqB (a_number % 3) (0 : Int)) = true then (kRet (ixL words_61 ((a_number / 3) % 20))) else (kLet (Res.ok tx0) fun (letters_62 : Tx) => (kLet (Res.ok ((a_number / 3) % 14)) fun (size_63 : Int) => (kLet ((ixS letters_62 (a_more % 36)) >>= fun x75 => ((Res.ok ([] : Tx)) >>= fun x73 => ((rng1 size_63) >>= fun x72 => kLc x72 (fun (c64 : Int) => (Res.ok true)) (fun (c64 : Int) => ((Res.ok letters_62) >>= fun x70 => ((((Res.ok a_more) >>= fun x65 => (mulI (11 * c64) a_number) >>= fun x66 => (fun a b => Res.ok (a + b)) x65 x66) >>= fun x67 => (Res.ok c64) >>= fun x68 => (fun a b => Res.ok (a + b)) x67 x68) >>= fun x69 => (fun a => Res.ok (a % 36)) x69) >>= fun x71 => ixS x70 x71))) >>= fun x74 => joinG x73 x74) >>= fun x76 => addS x75 x76) fun (word_here_77 : Tx) => (if (eqB (a_more % 11) (0 : Int)) = true then (kRet ((((Res.ok word_here_77) >>= fun x78 => (Res.ok none) >>= fun x79 => (Res.ok (some (2 : Int))) >>= fun x80 => slS x78 x79 x80) >>= fun x81 => (Res.ok (['_'] : Tx)) >>= fun x82 => addS x81 x82) >>= fun x86 => ((Res.ok word_here_77) >>= fun x83 => (Res.ok (some (2 : Int))) >>= fun x84 => (Res.ok none) >>= fun x85 => slS x83 x84 x85) >>= fun x87 => addS x86 x87)) else (if (eqB (a_more % 11) (1 : Int)) = true then (kRet (addS word_here_77 (['A'] : Tx))) else (TR.rt word_here_77)))))))))
theorem t__law_word (a_number : Int) (a_more : Int) : Ev (F__law_word [eI a_number, eI a_more]) eS (T__law_word a_number a_more) := by
  unfold T__law_word
  refine fr_body (n := 2) (m := 7) (Rn := fun r _ => eS r = .non) (Rl := fun _ _ => True) rfl (fun _ _ h => h) ?_
  show SR (S__law_word [some (eI a_number), some (eI a_more), none, none, none, none, none]) _ _ _ _ _
  unfold S__law_word
  refine sr_asg (e := (eTL eS)) xt (Ev.coP (g := (eT (pc eS (pc eS (pc eS (pc eS (pc eS (pc eS (pc eS (pc eS (pc eS (pc eS (pc eS (p1 eS)))))))))))))) (g' := (eTL eS)) (fun a => [a.1, a.2.1, a.2.2.1, a.2.2.2.1, a.2.2.2.2.1, a.2.2.2.2.2.1, a.2.2.2.2.2.2.1, a.2.2.2.2.2.2.2.1, a.2.2.2.2.2.2.2.2.1, a.2.2.2.2.2.2.2.2.2.1, a.2.2.2.2.2.2.2.2.2.2.1, a.2.2.2.2.2.2.2.2.2.2.2]) (fun _ => rfl) (ev_fr (ev_tup (ev_tconsp (ev_fr (ev_c (e := eS) (a := (['a', 'n', 'd'] : Tx)) rfl)) (ev_tconsp (ev_fr (ev_c (e := eS) (a := (['w', 'i', 't', 'h'] : Tx)) rfl)) (ev_tconsp (ev_fr (ev_c (e := eS) (a := (['w', 'i', 't', 'h', 'o', 'u', 't'] : Tx)) rfl)) (ev_tconsp (ev_fr (ev_c (e := eS) (a := (['t', 'r', 'u', 's', 't', 'i', 'n', 'g'] : Tx)) rfl)) (ev_tconsp (ev_fr (ev_c (e := eS) (a := (['a', 'n', 'y', 'b', 'o', 'd', 'y'] : Tx)) rfl)) (ev_tconsp (ev_fr (ev_c (e := eS) (a := (['c', 'h', 'a', 'r', 't', 'e', 'r'] : Tx)) rfl)) (ev_tconsp (ev_fr (ev_c (e := eS) (a := (['a', 's', 'k'] : Tx)) rfl)) (ev_tconsp (ev_fr (ev_c (e := eS) (a := (['u', 'n', 'd', 'o'] : Tx)) rfl)) (ev_tconsp (ev_fr (ev_c (e := eS) (a := (['a', 'n', 's', 'w', 'e', 'r', 's'] : Tx)) rfl)) (ev_tconsp (ev_fr (ev_c (e := eS) (a := (['s', 'h', 'o', 'w'] : Tx)) rfl)) (ev_tconsp (ev_fr (ev_c (e := eS) (a := (['p', 'l', 'a', 'n'] : Tx)) rfl)) (ev_tone (ev_fr (ev_c (e := eS) (a := (['c', 'u', 't'] : Tx)) rfl)))))))))))))) rfl))) rfl ?_
  intro words_60
  refine sr_env (E' := [some (eI a_number), some (eI a_more), some ((eTL eS) words_60), none, none, none, none]) rfl ?_
  refine sr_asg (e := (eTL eS)) xt (ev_fr (ev_binp (ft := (fun a b => lim (a ++ b))) op_addTL (ev_var (e := (eTL eS)) (a := words_60) rfl) (Ev.coP (g := (eT (pc eS (pc eS (pc eS (pc eS (pc eS (pc eS (pc eS (p1 eS)))))))))) (g' := (eTL eS)) (fun a => [a.1, a.2.1, a.2.2.1, a.2.2.2.1, a.2.2.2.2.1, a.2.2.2.2.2.1, a.2.2.2.2.2.2.1, a.2.2.2.2.2.2.2]) (fun _ => rfl) (ev_dm (ev_tup (ev_tconsp (ev_fr (ev_c (e := eS) (a := (['c', 'h', 'a', 'r', 't', 'e', 'r', 's'] : Tx)) rfl)) (ev_tconsp (ev_fr (ev_c (e := eS) (a := (['q', 'u', 'e', 's', 't', 'i', 'o', 'n', 's'] : Tx)) rfl)) (ev_tconsp (ev_fr (ev_c (e := eS) (a := (['p', 'r', 'i', 'n', 't'] : Tx)) rfl)) (ev_tconsp (ev_fr (ev_c (e := eS) (a := (['d', 'r', 'o', 'p'] : Tx)) rfl)) (ev_tconsp (ev_fr (ev_c (e := eS) (a := (['r', 'e', 'm', 'o', 'v', 'e'] : Tx)) rfl)) (ev_tconsp (ev_fr (ev_c (e := eS) (a := (['a', 'n', 's', 'w', 'e', 'r'] : Tx)) rfl)) (ev_tconsp (ev_fr (ev_c (e := eS) (a := (['r', 'e', 'd', 'o'] : Tx)) rfl)) (ev_tone (ev_fr (ev_c (e := eS) (a := (['d', 'o', 'n', 'e'] : Tx)) rfl)))))))))) rfl))))) rfl ?_
  intro words_61
  refine sr_env (E' := [some (eI a_number), some (eI a_more), some ((eTL eS) words_61), none, none, none, none]) rfl ?_
  refine sr_ifp (ev_b (ev_binp (ft := (fun a b => Res.ok (eqB a b))) (op_eq rfl rfl) (ev_dm (ev_bincp (ft := (fun a => Res.ok (a % 3))) (fun a => op_modIc (3) rfl a) (ev_dm (ev_unp (ft := (fun a => Res.ok a)) op_int (ev_var (e := eI) (a := a_number) rfl))) (ev_dm (ev_c (e := eI) (a := 3) rfl)))) (ev_dm (ev_c (e := eI) (a := 0) rfl)))) ?_ ?_
  · exact sr_ret xt (fun _ => trivial) (ev_chk (ev_binp (ft := ixL) op_ixTL (ev_var (e := (eTL eS)) (a := words_61) rfl) (ev_dm (ev_bincp (ft := (fun a => Res.ok (a % 20))) (fun a => op_modIc (20) rfl a) (ev_dm (ev_bincp (ft := (fun a => Res.ok (a / 3))) (fun a => op_divIc (3) rfl a) (ev_var (e := eI) (a := a_number) rfl) (ev_dm (ev_c (e := eI) (a := 3) rfl)))) (ev_dm (ev_c (e := eI) (a := 20) rfl))))))
  · refine sr_pass ?_
    refine sr_asg (e := eS) xt (ev_c (e := eS) (a := tx0) rfl) rfl ?_
    intro letters_62
    refine sr_env (E' := [some (eI a_number), some (eI a_more), some ((eTL eS) words_61), some (eS letters_62), none, none, none]) rfl ?_
    refine sr_asg (e := eI) xt (ev_bincp (ft := (fun a => Res.ok (a % 14))) (fun a => op_modIc (14) rfl a) (ev_dm (ev_bincp (ft := (fun a => Res.ok (a / 3))) (fun a => op_divIc (3) rfl a) (ev_var (e := eI) (a := a_number) rfl) (ev_dm (ev_c (e := eI) (a := 3) rfl)))) (ev_dm (ev_c (e := eI) (a := 14) rfl))) rfl ?_
    intro size_63
    refine sr_env (E' := [some (eI a_number), some (eI a_more), some ((eTL eS) words_61), some (eS letters_62), some (eI size_63), none, none]) rfl ?_
    refine sr_asg (e := eS) xt (ev_bin (ft := addS) op_addS (ev_binp (ft := ixS) op_ixS (ev_var (e := eS) (a := letters_62) rfl) (ev_dm (ev_bincp (ft := (fun a => Res.ok (a % 36))) (fun a => op_modIc (36) rfl a) (ev_dm (ev_unp (ft := (fun a => Res.ok a)) op_int (ev_var (e := eI) (a := a_more) rfl))) (ev_dm (ev_c (e := eI) (a := 36) rfl))))) (ev_dm (ev_binS (ft := joinG) op_join (ev_dm (ev_c (e := eS) (a := ([] : Tx)) rfl)) (ev_dm (ev_lc (e := eI) (e2 := eS) (e3 := eS) (tc := (fun (c64 : Int) => (Res.ok true))) (tb := (fun (c64 : Int) => ((Res.ok letters_62) >>= fun x70 => ((((Res.ok a_more) >>= fun x65 => (mulI (11 * c64) a_number) >>= fun x66 => (fun a b => Res.ok (a + b)) x65 x66) >>= fun x67 => (Res.ok c64) >>= fun x68 => (fun a b => Res.ok (a + b)) x67 x68) >>= fun x69 => (fun a => Res.ok (a % 36)) x69) >>= fun x71 => ixS x70 x71))) (ev_rng1p (ev_var (e := eI) (a := size_63) rfl)) (fun (c64 : Int) => ⟨_, (ud_name (e := eI) (x := c64) rfl), ev_yes, (ev_chk (ev_bin (ft := ixS) op_ixS (ev_var (e := eS) (a := letters_62) rfl) (ev_dm (ev_binc (ft := (fun a => Res.ok (a % 36))) (fun a => op_modIc (36) rfl a) (ev_dm (ev_unI op_int (ev_dm (ev_bin (ft := (fun a b => Res.ok (a + b))) op_addI (ev_dm (ev_bin (ft := (fun a b => Res.ok (a + b))) op_addI (ev_var (e := eI) (a := a_more) rfl) (ev_dm (ev_binp (ft := mulI) op_mulI (ev_dm (ev_bincpl (ft := (fun a => Res.ok (11 * a))) (fun a => op_mulcI (11) rfl a) (ev_dm (ev_c (e := eI) (a := 11) rfl)) (ev_var (e := eI) (a := c64) rfl))) (ev_var (e := eI) (a := a_number) rfl))))) (ev_var (e := eI) (a := c64) rfl))))) (ev_dm (ev_c (e := eI) (a := 36) rfl))))))⟩)))))) rfl ?_
    intro word_here_77
    refine sr_env (E' := [some (eI a_number), some (eI a_more), some ((eTL eS) words_61), some (eS letters_62), some (eI size_63), some (eS word_here_77), none]) rfl ?_
    refine sr_ifp (ev_b (ev_binp (ft := (fun a b => Res.ok (eqB a b))) (op_eq rfl rfl) (ev_dm (ev_bincp (ft := (fun a => Res.ok (a % 11))) (fun a => op_modIc (11) rfl a) (ev_dm (ev_unp (ft := (fun a => Res.ok a)) op_int (ev_var (e := eI) (a := a_more) rfl))) (ev_dm (ev_c (e := eI) (a := 11) rfl)))) (ev_dm (ev_c (e := eI) (a := 0) rfl)))) ?_ ?_
    · exact sr_ret xt (fun _ => trivial) (ev_bin (ft := addS) op_addS (ev_dm (ev_bin (ft := addS) op_addS (ev_dm (ev_sl (ft := slS) op_slS (ev_var (e := eS) (a := word_here_77) rfl) ev_o0 (ev_op (ev_dm (ev_c (e := eI) (a := 2) rfl))))) (ev_dm (ev_c (e := eS) (a := (['_'] : Tx)) rfl)))) (ev_dm (ev_sl (ft := slS) op_slS (ev_var (e := eS) (a := word_here_77) rfl) (ev_op (ev_dm (ev_c (e := eI) (a := 2) rfl))) ev_o0)))
    · refine sr_pass ?_
      refine sr_ifp (ev_b (ev_binp (ft := (fun a b => Res.ok (eqB a b))) (op_eq rfl rfl) (ev_dm (ev_bincp (ft := (fun a => Res.ok (a % 11))) (fun a => op_modIc (11) rfl a) (ev_dm (ev_unp (ft := (fun a => Res.ok a)) op_int (ev_var (e := eI) (a := a_more) rfl))) (ev_dm (ev_c (e := eI) (a := 11) rfl)))) (ev_dm (ev_c (e := eI) (a := 1) rfl)))) ?_ ?_
      · exact sr_ret xt (fun _ => trivial) (ev_binp (ft := addS) op_addS (ev_var (e := eS) (a := word_here_77) rfl) (ev_dm (ev_c (e := eS) (a := (['A'] : Tx)) rfl)))
      · refine sr_pass ?_
        refine sr_last ?_
        exact sr_retV (i := 5) (e := eS) (a := word_here_77) (b := word_here_77) rfl rfl trivial
@[irreducible] def T__law_is_name (a_word_here : Tx) : Res Bool := kEnd (kIf (kOr ((lenS a_word_here) >>= fun x38 => (Res.ok (1 : Int)) >>= fun x39 => (fun a b => Res.ok (decide (a < b))) x38 x39) (kOr ((lenS a_word_here) >>= fun x40 => (Res.ok (12 : Int)) >>= fun x41 => (fun a b => Res.ok (decide (a > b))) x40 x41) ((ixS a_word_here (0 : Int)) >>= fun x42 => (Res.ok tx1) >>= fun x43 => (fun a b => Res.ok (!inS a b)) x42 x43))) (kRet (Res.ok false)) (kLet (Res.ok (chT a_word_here)) fun (l49 : List Tx) => kSeq (kFor (fun (i46 : Tx) (s44 : Unit) => (if (!inS i46 tx0) = true then (kRet (Res.ok false)) else (TR.nx ()))) l49 ()) fun (u47 : Unit) => (kRet (Res.ok (!memB a_word_here [(['a', 'n', 'd'] : Tx), (['w', 'i', 't', 'h'] : Tx), (['w', 'i', 't', 'h', 'o', 'u', 't'] : Tx), (['t', 'r', 'u', 's', 't', 'i', 'n', 'g'] : Tx), (['a', 'n', 'y', 'b', 'o', 'd', 'y'] : Tx)])))))
theorem t__law_is_name (a_word_here : Tx) : Ev (F__law_is_name [eS a_word_here]) eB (T__law_is_name a_word_here) := by
  unfold T__law_is_name
  refine fr_body (n := 1) (m := 2) (Rn := fun r _ => eB r = .non) (Rl := fun _ _ => True) rfl (fun _ _ h => h) ?_
  show SR (S__law_is_name [some (eS a_word_here), none]) _ _ _ _ _
  unfold S__law_is_name
  refine sr_if xt (ev_or (ev_b (ev_bin (ft := (fun a b => Res.ok (decide (a < b)))) op_lt (ev_dm (ev_unp (ft := lenS) op_lenS (ev_var (e := eS) (a := a_word_here) rfl))) (ev_dm (ev_c (e := eI) (a := 1) rfl)))) (ev_or (ev_b (ev_bin (ft := (fun a b => Res.ok (decide (a > b)))) op_gt (ev_dm (ev_unp (ft := lenS) op_lenS (ev_var (e := eS) (a := a_word_here) rfl))) (ev_dm (ev_c (e := eI) (a := 12) rfl)))) (ev_b (ev_bin (ft := (fun a b => Res.ok (!inS a b))) op_ninS (ev_binp (ft := ixS) op_ixS (ev_var (e := eS) (a := a_word_here) rfl) (ev_dm (ev_c (e := eI) (a := 0) rfl))) (ev_dm (ev_c (e := eS) (a := tx1) rfl)))))) ?_ ?_
  · exact sr_ret xt (fun _ => trivial) (ev_c (e := eB) (a := false) rfl)
  · refine sr_pass ?_
    refine sr_forF (fun (s44 : Unit) (o45 : Option D) => [some (eS a_word_here), o45]) (e := eS) (none) xt (ev_itp (ft := (fun a => Res.ok (chT a))) op_itS (ev_var (e := eS) (a := a_word_here) rfl)) rfl ?_ ?_
    · intro i46 s44 o45
      refine ⟨_, (ud_name (e := eS) (x := i46) rfl), ?_⟩
      refine sr_last ?_
      refine sr_ifp (ev_b (ev_binp (ft := (fun a b => Res.ok (!inS a b))) op_ninS (ev_var (e := eS) (a := i46) rfl) (ev_dm (ev_c (e := eS) (a := tx0) rfl)))) ?_ ?_
      · exact sr_ret xt (fun _ => trivial) (ev_c (e := eB) (a := false) rfl)
      · refine sr_pass ?_
        exact sr_nilF (some (eS i46)) rfl
    intro u47 o48
    refine sr_last ?_
    exact sr_ret xt (fun _ => trivial) (ev_binp (ft := (fun a b => Res.ok (!memB a b))) op_ninTL (ev_var (e := eS) (a := a_word_here) rfl) (Ev.coP (g := (eT (pc eS (pc eS (pc eS (pc eS (p1 eS))))))) (g' := (eTL eS)) (fun a => [a.1, a.2.1, a.2.2.1, a.2.2.2.1, a.2.2.2.2]) (fun _ => rfl) (ev_dm (ev_tup (ev_tconsp (ev_fr (ev_c (e := eS) (a := (['a', 'n', 'd'] : Tx)) rfl)) (ev_tconsp (ev_fr (ev_c (e := eS) (a := (['w', 'i', 't', 'h'] : Tx)) rfl)) (ev_tconsp (ev_fr (ev_c (e := eS) (a := (['w', 'i', 't', 'h', 'o', 'u', 't'] : Tx)) rfl)) (ev_tconsp (ev_fr (ev_c (e := eS) (a := (['t', 'r', 'u', 's', 't', 'i', 'n', 'g'] : Tx)) rfl)) (ev_tone (ev_fr (ev_c (e := eS) (a := (['a', 'n', 'y', 'b', 'o', 'd', 'y'] : Tx)) rfl))))))) rfl))))
@[irreducible] def T__law_formed (a_numbers_here : (List Int)) (a_at : Int) (a_words : (List Tx)) : Res (List Tx) := kEnd (kLet ((kLc a_words (fun (c171 : Tx) => (T__law_is_name c171)) (fun (c171 : Tx) => (Res.ok c171))) >>= fun x172 => (Res.ok [(['a'] : Tx), (['b'] : Tx), (['c'] : Tx), (['d'] : Tx), (['e'] : Tx), (['f'] : Tx), (['g'] : Tx), (['h'] : Tx)]) >>= fun x173 => (fun a b => lim (a ++ b)) x172 x173) fun (names_174 : (List Tx)) => (kLet (Res.ok ([] : (List Tx))) fun (line_175 : (List Tx)) => (kLet (((Res.ok (1 : Int)) >>= fun x177 => ((ixL a_numbers_here a_at) >>= fun x176 => (fun a => Res.ok (a % 3)) x176) >>= fun x178 => (fun a b => Res.ok (a + b)) x177 x178) >>= rng1) fun (l249 : List Int) => kSeq (kFor (fun (i181 : Int) (s179 : ((List Tx))) => (kSeq (if (decide (i181 > (0 : Int))) = true then (kLet ((Res.ok (['a', 'n', 'd'] : Tx)) >>= fun x185 => appL s179 x185) fun (line_184 : (List Tx)) => (TR.nx line_184)) else (TR.nx s179)) fun (u182 : ((List Tx))) => (kLet (((((ixL names_174 i181) >>= fun x186 => (Res.ok (['a', 'n', 'y', 'b', 'o', 'd', 'y'] : Tx)) >>= fun x187 => Res.ok (x186, x187)) >>= fun a => Res.ok [a.1, a.2]) >>= fun x189 => ((ixL a_numbers_here ((a_at + (1 : Int)) + i181)) >>= fun x188 => (fun a => Res.ok (a % 2)) x188) >>= fun x190 => ixL x189 x190) >>= fun x231 => appL u182 x231) fun (line_196 : (List Tx)) => (kSeq (kIf ((((ixL a_numbers_here ((a_at + (1 : Int)) + i181)) >>= fun x197 => (fun a => Res.ok (a / 2)) x197) >>= fun x198 => (fun a => Res.ok (a % 3)) x198) >>= fun x199 => (Res.ok (0 : Int)) >>= fun x200 => (fun a b => Res.ok (decide (a > b))) x199 x200) (kLet (((fun a b => lim (a ++ b)) line_196 [(['w', 'i', 't', 'h'] : Tx)]) >>= fun x212 => ((Res.ok names_174) >>= fun x209 => (Res.ok (some (3 : Int))) >>= fun x210 => ((((Res.ok (3 : Int)) >>= fun x205 => (((ixL a_numbers_here ((a_at + (1 : Int)) + i181)) >>= fun x203 => (fun a => Res.ok (a / 6)) x203) >>= fun x204 => (fun a => Res.ok (a % 3)) x204) >>= fun x206 => (fun a b => Res.ok (a + b)) x205 x206) >>= fun x207 => (Res.ok (1 : Int)) >>= fun x208 => (fun a b => Res.ok (a + b)) x207 x208) >>= fun i => Res.ok (some i)) >>= fun x211 => (fun a l h => Res.ok (cutL a l h)) x209 x210 x211) >>= fun x213 => (fun a b => lim (a ++ b)) x212 x213) fun (line_214 : (List Tx)) => (TR.nx line_214)) (TR.nx line_196)) fun (u201 : ((List Tx))) => (kIf ((((ixL a_numbers_here ((a_at + (4 : Int)) + i181)) >>= fun x215 => (fun a => Res.ok (a / 2)) x215) >>= fun x216 => (fun a => Res.ok (a % 3)) x216) >>= fun x217 => (Res.ok (0 : Int)) >>= fun x218 => (fun a b => Res.ok (eqB a b)) x217 x218) (kLet (((fun a b => lim (a ++ b)) u201 [(['w', 'i', 't', 'h', 'o', 'u', 't'] : Tx)]) >>= fun x228 => ((Res.ok names_174) >>= fun x225 => (Res.ok (some (5 : Int))) >>= fun x226 => ((((Res.ok (5 : Int)) >>= fun x221 => (((ixL a_numbers_here ((a_at + (4 : Int)) + i181)) >>= fun x219 => (fun a => Res.ok (a / 6)) x219) >>= fun x220 => (fun a => Res.ok (a % 2)) x220) >>= fun x222 => (fun a b => Res.ok (a + b)) x221 x222) >>= fun x223 => (Res.ok (1 : Int)) >>= fun x224 => (fun a b => Res.ok (a + b)) x223 x224) >>= fun i => Res.ok (some i)) >>= fun x227 => (fun a l h => Res.ok (cutL a l h)) x225 x226 x227) >>= fun x229 => (fun a b => lim (a ++ b)) x228 x229) fun (line_230 : (List Tx)) => (TR.nx line_230)) (TR.nx u201)))))) l249 line_175) fun (u232 : ((List Tx))) => (kSeq (kIf (((ixL a_numbers_here (a_at + (7 : Int))) >>= fun x234 => (fun a => Res.ok (a % 3)) x234) >>= fun x235 => (Res.ok (0 : Int)) >>= fun x236 => (fun a b => Res.ok (eqB a b)) x235 x236) (kLet (((fun a b => lim (a ++ b)) u232 [(['t', 'r', 'u', 's', 't', 'i', 'n', 'g'] : Tx)]) >>= fun x246 => ((Res.ok names_174) >>= fun x243 => (Res.ok (some (6 : Int))) >>= fun x244 => (((Res.ok (7 : Int)) >>= fun x241 => (((ixL a_numbers_here (a_at + (7 : Int))) >>= fun x239 => (fun a => Res.ok (a / 3)) x239) >>= fun x240 => (fun a => Res.ok (a % 2)) x240) >>= fun x242 => (fun a b => Res.ok (a + b)) x241 x242) >>= fun i => Res.ok (some i)) >>= fun x245 => (fun a l h => Res.ok (cutL a l h)) x243 x244 x245) >>= fun x247 => (fun a b => lim (a ++ b)) x246 x247) fun (line_248 : (List Tx)) => (TR.nx line_248)) (TR.nx u232)) fun (u237 : ((List Tx))) => (TR.rt u237)))))
theorem t__law_formed (a_numbers_here : (List Int)) (a_at : Int) (a_words : (List Tx)) : Ev (F__law_formed [(eL .imm eI) a_numbers_here, eI a_at, (eL .imm eS) a_words]) (eL .own eS) (T__law_formed a_numbers_here a_at a_words) := by
  unfold T__law_formed
  refine fr_body (n := 3) (m := 7) (Rn := fun r _ => (eL .own eS) r = .non) (Rl := fun _ _ => True) rfl (fun _ _ h => h) ?_
  show SR (S__law_formed [some ((eL .imm eI) a_numbers_here), some (eI a_at), some ((eL .imm eS) a_words), none, none, none, none]) _ _ _ _ _
  unfold S__law_formed
  refine sr_asg (e := (eL .imm eS)) xt (ev_fr (ev_bin (ft := (fun a b => lim (a ++ b))) (op_addL (by decide) (by decide)) (ev_dm (ev_lcp (e := eS) (e2 := eS) (e3 := eS) (tc := (fun (c171 : Tx) => (T__law_is_name c171))) (tb := (fun (c171 : Tx) => (Res.ok c171))) (ev_itp (ft := (fun a => Res.ok a)) (op_it (by decide)) (ev_var (e := (eL .imm eS)) (a := a_words) rfl)) (fun (c171 : Tx) => ⟨_, (ud_name (e := eS) (x := c171) rfl), (ev_truI (ev_dm (ev_argsp (es := (p1 eS)) (a := c171) (e2 := eB) (ft := T__law_is_name c171) (t__law_is_name c171) (ev_tone (ev_dm (ev_var (e := eS) (a := c171) rfl)))))), (ev_chk (ev_var (e := eS) (a := c171) rfl))⟩))) (ev_dm (ev_lstp (ev_consp (ev_fr (ev_c (e := eS) (a := (['a'] : Tx)) rfl)) (ev_consp (ev_fr (ev_c (e := eS) (a := (['b'] : Tx)) rfl)) (ev_consp (ev_fr (ev_c (e := eS) (a := (['c'] : Tx)) rfl)) (ev_consp (ev_fr (ev_c (e := eS) (a := (['d'] : Tx)) rfl)) (ev_consp (ev_fr (ev_c (e := eS) (a := (['e'] : Tx)) rfl)) (ev_consp (ev_fr (ev_c (e := eS) (a := (['f'] : Tx)) rfl)) (ev_consp (ev_fr (ev_c (e := eS) (a := (['g'] : Tx)) rfl)) (ev_consp (ev_fr (ev_c (e := eS) (a := (['h'] : Tx)) rfl)) (ev_nil (e := eS)))))))))) rfl)))) rfl ?_
  intro names_174
  refine sr_env (E' := [some ((eL .imm eI) a_numbers_here), some (eI a_at), some ((eL .imm eS) a_words), some ((eL .imm eS) names_174), none, none, none]) rfl ?_
  refine sr_asg (e := (eL .own eS)) xt (ev_lst0 (e := eS)) rfl ?_
  intro line_175
  refine sr_env (E' := [some ((eL .imm eI) a_numbers_here), some (eI a_at), some ((eL .imm eS) a_words), some ((eL .imm eS) names_174), some ((eL .own eS) line_175), none, none]) rfl ?_
  refine sr_forF (fun (s179 : ((List Tx))) (o180 : Option D) => [some ((eL .imm eI) a_numbers_here), some (eI a_at), some ((eL .imm eS) a_words), some ((eL .imm eS) names_174), some ((eL .own eS) s179), o180, none]) (e := eI) (none) xt (ev_rng1 (ev_dm (ev_bin (ft := (fun a b => Res.ok (a + b))) op_addI (ev_dm (ev_c (e := eI) (a := 1) rfl)) (ev_dm (ev_binc (ft := (fun a => Res.ok (a % 3))) (fun a => op_modIc (3) rfl a) (ev_dm (ev_unI op_int (ev_binp (ft := ixL) op_ixL (ev_var (e := (eL .imm eI)) (a := a_numbers_here) rfl) (ev_var (e := eI) (a := a_at) rfl)))) (ev_dm (ev_c (e := eI) (a := 3) rfl))))))) rfl ?_ ?_
  · intro i181 s179 o180
    refine ⟨_, (ud_name (e := eI) (x := i181) rfl), ?_⟩
    refine sr_env (E' := [some ((eL .imm eI) a_numbers_here), some (eI a_at), some ((eL .imm eS) a_words), some ((eL .imm eS) names_174), some ((eL .own eS) s179), some (eI i181), none]) rfl ?_
    refine sr_joinF (fun (u182 : ((List Tx))) (o183 : Unit) => [some ((eL .imm eI) a_numbers_here), some (eI a_at), some ((eL .imm eS) a_words), some ((eL .imm eS) names_174), some ((eL .own eS) u182), some (eI i181), none]) (sr_last ?_) ?_
    · refine sr_ifp (ev_b (ev_binp (ft := (fun a b => Res.ok (decide (a > b)))) op_gt (ev_var (e := eI) (a := i181) rfl) (ev_dm (ev_c (e := eI) (a := 0) rfl)))) ?_ ?_
      · refine sr_app (e := eS) (xs := s179) xt rfl (ev_c (e := eS) (a := (['a', 'n', 'd'] : Tx)) rfl) ?_
        intro line_184
        refine sr_env (E' := [some ((eL .imm eI) a_numbers_here), some (eI a_at), some ((eL .imm eS) a_words), some ((eL .imm eS) names_174), some ((eL .own eS) line_184), some (eI i181), none]) rfl ?_
        exact sr_nilF (()) rfl
      · refine sr_pass ?_
        exact sr_nilF (()) rfl
    intro u182 o183
    refine sr_env (E' := [some ((eL .imm eI) a_numbers_here), some (eI a_at), some ((eL .imm eS) a_words), some ((eL .imm eS) names_174), some ((eL .own eS) u182), some (eI i181), none]) rfl ?_
    refine sr_app (e := eS) (xs := u182) xt rfl (ev_chk (ev_bin (ft := ixL) op_ixTL (Ev.co (g := (eT (pc eS (p1 eS)))) (g' := (eTL eS)) (fun a => [a.1, a.2]) (fun _ => rfl) (ev_dm (ev_tup (ev_tcons (ev_fr (ev_chk (ev_binp (ft := ixL) op_ixL (ev_var (e := (eL .imm eS)) (a := names_174) rfl) (ev_var (e := eI) (a := i181) rfl)))) (ev_tone (ev_fr (ev_c (e := eS) (a := (['a', 'n', 'y', 'b', 'o', 'd', 'y'] : Tx)) rfl)))) rfl))) (ev_dm (ev_binc (ft := (fun a => Res.ok (a % 2))) (fun a => op_modIc (2) rfl a) (ev_dm (ev_unI op_int (ev_binp (ft := ixL) op_ixL (ev_var (e := (eL .imm eI)) (a := a_numbers_here) rfl) (ev_dm (ev_binp (ft := (fun a b => Res.ok (a + b))) op_addI (ev_dm (ev_binp (ft := (fun a b => Res.ok (a + b))) op_addI (ev_var (e := eI) (a := a_at) rfl) (ev_dm (ev_c (e := eI) (a := 1) rfl)))) (ev_var (e := eI) (a := i181) rfl)))))) (ev_dm (ev_c (e := eI) (a := 2) rfl)))))) ?_
    intro line_196
    refine sr_env (E' := [some ((eL .imm eI) a_numbers_here), some (eI a_at), some ((eL .imm eS) a_words), some ((eL .imm eS) names_174), some ((eL .own eS) line_196), some (eI i181), none]) rfl ?_
    refine sr_joinF (fun (u201 : ((List Tx))) (o202 : Unit) => [some ((eL .imm eI) a_numbers_here), some (eI a_at), some ((eL .imm eS) a_words), some ((eL .imm eS) names_174), some ((eL .own eS) u201), some (eI i181), none]) (sr_last ?_) ?_
    · refine sr_if xt (ev_b (ev_bin (ft := (fun a b => Res.ok (decide (a > b)))) op_gt (ev_dm (ev_binc (ft := (fun a => Res.ok (a % 3))) (fun a => op_modIc (3) rfl a) (ev_dm (ev_binc (ft := (fun a => Res.ok (a / 2))) (fun a => op_divIc (2) rfl a) (ev_binp (ft := ixL) op_ixL (ev_var (e := (eL .imm eI)) (a := a_numbers_here) rfl) (ev_dm (ev_binp (ft := (fun a b => Res.ok (a + b))) op_addI (ev_dm (ev_binp (ft := (fun a b => Res.ok (a + b))) op_addI (ev_var (e := eI) (a := a_at) rfl) (ev_dm (ev_c (e := eI) (a := 1) rfl)))) (ev_var (e := eI) (a := i181) rfl)))) (ev_dm (ev_c (e := eI) (a := 2) rfl)))) (ev_dm (ev_c (e := eI) (a := 3) rfl)))) (ev_dm (ev_c (e := eI) (a := 0) rfl)))) ?_ ?_
      · refine sr_asg (e := (eL .own eS)) xt (ev_bin (ft := (fun a b => lim (a ++ b))) (op_addL (by decide) (by decide)) (ev_dm (ev_binp (ft := (fun a b => lim (a ++ b))) (op_addL (by decide) (by decide)) (ev_var (e := (eL .own eS)) (a := line_196) rfl) (ev_dm (ev_lstp (ev_consp (ev_fr (ev_c (e := eS) (a := (['w', 'i', 't', 'h'] : Tx)) rfl)) (ev_nil (e := eS))) rfl)))) (ev_dm (ev_sl (ft := (fun a l h => Res.ok (cutL a l h))) op_slL (ev_var (e := (eL .imm eS)) (a := names_174) rfl) (ev_op (ev_dm (ev_c (e := eI) (a := 3) rfl))) (ev_o (ev_dm (ev_bin (ft := (fun a b => Res.ok (a + b))) op_addI (ev_dm (ev_bin (ft := (fun a b => Res.ok (a + b))) op_addI (ev_dm (ev_c (e := eI) (a := 3) rfl)) (ev_dm (ev_binc (ft := (fun a => Res.ok (a % 3))) (fun a => op_modIc (3) rfl a) (ev_dm (ev_binc (ft := (fun a => Res.ok (a / 6))) (fun a => op_divIc (6) rfl a) (ev_binp (ft := ixL) op_ixL (ev_var (e := (eL .imm eI)) (a := a_numbers_here) rfl) (ev_dm (ev_binp (ft := (fun a b => Res.ok (a + b))) op_addI (ev_dm (ev_binp (ft := (fun a b => Res.ok (a + b))) op_addI (ev_var (e := eI) (a := a_at) rfl) (ev_dm (ev_c (e := eI) (a := 1) rfl)))) (ev_var (e := eI) (a := i181) rfl)))) (ev_dm (ev_c (e := eI) (a := 6) rfl)))) (ev_dm (ev_c (e := eI) (a := 3) rfl)))))) (ev_dm (ev_c (e := eI) (a := 1) rfl)))))))) rfl ?_
        intro line_214
        refine sr_env (E' := [some ((eL .imm eI) a_numbers_here), some (eI a_at), some ((eL .imm eS) a_words), some ((eL .imm eS) names_174), some ((eL .own eS) line_214), some (eI i181), none]) rfl ?_
        exact sr_nilF (()) rfl
      · refine sr_pass ?_
        exact sr_nilF (()) rfl
    intro u201 o202
    refine sr_env (E' := [some ((eL .imm eI) a_numbers_here), some (eI a_at), some ((eL .imm eS) a_words), some ((eL .imm eS) names_174), some ((eL .own eS) u201), some (eI i181), none]) rfl ?_
    refine sr_last ?_
    refine sr_if xt (ev_b (ev_bin (ft := (fun a b => Res.ok (eqB a b))) (op_eq rfl rfl) (ev_dm (ev_binc (ft := (fun a => Res.ok (a % 3))) (fun a => op_modIc (3) rfl a) (ev_dm (ev_binc (ft := (fun a => Res.ok (a / 2))) (fun a => op_divIc (2) rfl a) (ev_binp (ft := ixL) op_ixL (ev_var (e := (eL .imm eI)) (a := a_numbers_here) rfl) (ev_dm (ev_binp (ft := (fun a b => Res.ok (a + b))) op_addI (ev_dm (ev_binp (ft := (fun a b => Res.ok (a + b))) op_addI (ev_var (e := eI) (a := a_at) rfl) (ev_dm (ev_c (e := eI) (a := 4) rfl)))) (ev_var (e := eI) (a := i181) rfl)))) (ev_dm (ev_c (e := eI) (a := 2) rfl)))) (ev_dm (ev_c (e := eI) (a := 3) rfl)))) (ev_dm (ev_c (e := eI) (a := 0) rfl)))) ?_ ?_
    · refine sr_asg (e := (eL .own eS)) xt (ev_bin (ft := (fun a b => lim (a ++ b))) (op_addL (by decide) (by decide)) (ev_dm (ev_binp (ft := (fun a b => lim (a ++ b))) (op_addL (by decide) (by decide)) (ev_var (e := (eL .own eS)) (a := u201) rfl) (ev_dm (ev_lstp (ev_consp (ev_fr (ev_c (e := eS) (a := (['w', 'i', 't', 'h', 'o', 'u', 't'] : Tx)) rfl)) (ev_nil (e := eS))) rfl)))) (ev_dm (ev_sl (ft := (fun a l h => Res.ok (cutL a l h))) op_slL (ev_var (e := (eL .imm eS)) (a := names_174) rfl) (ev_op (ev_dm (ev_c (e := eI) (a := 5) rfl))) (ev_o (ev_dm (ev_bin (ft := (fun a b => Res.ok (a + b))) op_addI (ev_dm (ev_bin (ft := (fun a b => Res.ok (a + b))) op_addI (ev_dm (ev_c (e := eI) (a := 5) rfl)) (ev_dm (ev_binc (ft := (fun a => Res.ok (a % 2))) (fun a => op_modIc (2) rfl a) (ev_dm (ev_binc (ft := (fun a => Res.ok (a / 6))) (fun a => op_divIc (6) rfl a) (ev_binp (ft := ixL) op_ixL (ev_var (e := (eL .imm eI)) (a := a_numbers_here) rfl) (ev_dm (ev_binp (ft := (fun a b => Res.ok (a + b))) op_addI (ev_dm (ev_binp (ft := (fun a b => Res.ok (a + b))) op_addI (ev_var (e := eI) (a := a_at) rfl) (ev_dm (ev_c (e := eI) (a := 4) rfl)))) (ev_var (e := eI) (a := i181) rfl)))) (ev_dm (ev_c (e := eI) (a := 6) rfl)))) (ev_dm (ev_c (e := eI) (a := 2) rfl)))))) (ev_dm (ev_c (e := eI) (a := 1) rfl)))))))) rfl ?_
      intro line_230
      refine sr_env (E' := [some ((eL .imm eI) a_numbers_here), some (eI a_at), some ((eL .imm eS) a_words), some ((eL .imm eS) names_174), some ((eL .own eS) line_230), some (eI i181), none]) rfl ?_
      exact sr_nilF (some (eI i181)) rfl
    · refine sr_pass ?_
      exact sr_nilF (some (eI i181)) rfl
  intro u232 o233
  refine sr_env (E' := [some ((eL .imm eI) a_numbers_here), some (eI a_at), some ((eL .imm eS) a_words), some ((eL .imm eS) names_174), some ((eL .own eS) u232), o233, none]) rfl ?_
  refine sr_joinF (fun (u237 : ((List Tx))) (o238 : Unit) => [some ((eL .imm eI) a_numbers_here), some (eI a_at), some ((eL .imm eS) a_words), some ((eL .imm eS) names_174), some ((eL .own eS) u237), o233, none]) (sr_last ?_) ?_
  · refine sr_if xt (ev_b (ev_bin (ft := (fun a b => Res.ok (eqB a b))) (op_eq rfl rfl) (ev_dm (ev_binc (ft := (fun a => Res.ok (a % 3))) (fun a => op_modIc (3) rfl a) (ev_dm (ev_unI op_int (ev_binp (ft := ixL) op_ixL (ev_var (e := (eL .imm eI)) (a := a_numbers_here) rfl) (ev_dm (ev_binp (ft := (fun a b => Res.ok (a + b))) op_addI (ev_var (e := eI) (a := a_at) rfl) (ev_dm (ev_c (e := eI) (a := 7) rfl))))))) (ev_dm (ev_c (e := eI) (a := 3) rfl)))) (ev_dm (ev_c (e := eI) (a := 0) rfl)))) ?_ ?_
    · refine sr_asg (e := (eL .own eS)) xt (ev_bin (ft := (fun a b => lim (a ++ b))) (op_addL (by decide) (by decide)) (ev_dm (ev_binp (ft := (fun a b => lim (a ++ b))) (op_addL (by decide) (by decide)) (ev_var (e := (eL .own eS)) (a := u232) rfl) (ev_dm (ev_lstp (ev_consp (ev_fr (ev_c (e := eS) (a := (['t', 'r', 'u', 's', 't', 'i', 'n', 'g'] : Tx)) rfl)) (ev_nil (e := eS))) rfl)))) (ev_dm (ev_sl (ft := (fun a l h => Res.ok (cutL a l h))) op_slL (ev_var (e := (eL .imm eS)) (a := names_174) rfl) (ev_op (ev_dm (ev_c (e := eI) (a := 6) rfl))) (ev_o (ev_dm (ev_bin (ft := (fun a b => Res.ok (a + b))) op_addI (ev_dm (ev_c (e := eI) (a := 7) rfl)) (ev_dm (ev_binc (ft := (fun a => Res.ok (a % 2))) (fun a => op_modIc (2) rfl a) (ev_dm (ev_binc (ft := (fun a => Res.ok (a / 3))) (fun a => op_divIc (3) rfl a) (ev_binp (ft := ixL) op_ixL (ev_var (e := (eL .imm eI)) (a := a_numbers_here) rfl) (ev_dm (ev_binp (ft := (fun a b => Res.ok (a + b))) op_addI (ev_var (e := eI) (a := a_at) rfl) (ev_dm (ev_c (e := eI) (a := 7) rfl))))) (ev_dm (ev_c (e := eI) (a := 3) rfl)))) (ev_dm (ev_c (e := eI) (a := 2) rfl)))))))))) rfl ?_
      intro line_248
      refine sr_env (E' := [some ((eL .imm eI) a_numbers_here), some (eI a_at), some ((eL .imm eS) a_words), some ((eL .imm eS) names_174), some ((eL .own eS) line_248), o233, none]) rfl ?_
      exact sr_nilF (()) rfl
    · refine sr_pass ?_
      exact sr_nilF (()) rfl
  intro u237 o238
  refine sr_env (E' := [some ((eL .imm eI) a_numbers_here), some (eI a_at), some ((eL .imm eS) a_words), some ((eL .imm eS) names_174), some ((eL .own eS) u237), o233, none]) rfl ?_
  refine sr_last ?_
  exact sr_retV (i := 4) (e := (eL .own eS)) (a := u237) (b := u237) rfl rfl trivial
@[irreducible] def T__law_turned (a_numbers_here : (List Int)) (a_at : Int) (a_line : (List Tx)) (a_word_here : Tx) : Res (List Tx) := kEnd (kLet ((ixL a_numbers_here a_at) >>= fun x48 => (Res.ok ((a_line.length : Nat) : Int)) >>= fun x49 => modI x48 x49) fun (place_50 : Int) => (kLet (((ixL a_numbers_here a_at) >>= fun x51 => (fun a => Res.ok (a / 16)) x51) >>= fun x52 => (fun a => Res.ok (a % 6)) x52) fun (deed_53 : Int) => (if (eqB deed_53 (0 : Int)) = true then (kRet ((fun a b => lim (a ++ b)) (cutL a_line none (some place_50)) (cutL a_line (some (place_50 + (1 : Int))) none))) else (if (eqB deed_53 (1 : Int)) = true then (kRet (((fun a b => lim (a ++ b)) (cutL a_line none (some place_50)) [a_word_here]) >>= fun x54 => (Res.ok (cutL a_line (some place_50) none)) >>= fun x55 => (fun a b => lim (a ++ b)) x54 x55)) else (if (eqB deed_53 (2 : Int)) = true then (kRet (((fun a b => lim (a ++ b)) (cutL a_line none (some place_50)) [a_word_here]) >>= fun x58 => (Res.ok (cutL a_line (some (place_50 + (1 : Int))) none)) >>= fun x59 => (fun a b => lim (a ++ b)) x58 x59)) else (if (eqB deed_53 (3 : Int)) = true then (kRet ((fun a b => lim (a ++ b)) a_line [a_word_here])) else (TR.rt a_line)))))))
theorem t__law_turned (a_numbers_here : (List Int)) (a_at : Int) (a_line : (List Tx)) (a_word_here : Tx) : Ev (F__law_turned [(eL .imm eI) a_numbers_here, eI a_at, (eL .imm eS) a_line, eS a_word_here]) (eL .imm eS) (T__law_turned a_numbers_here a_at a_line a_word_here) := by
  unfold T__law_turned
  refine fr_body (n := 4) (m := 6) (Rn := fun r _ => (eL .imm eS) r = .non) (Rl := fun _ _ => True) rfl (fun _ _ h => h) ?_
  show SR (S__law_turned [some ((eL .imm eI) a_numbers_here), some (eI a_at), some ((eL .imm eS) a_line), some (eS a_word_here), none, none]) _ _ _ _ _
  unfold S__law_turned
  refine sr_asg (e := eI) xt (ev_bin (ft := modI) op_modI (ev_dm (ev_unI op_int (ev_binp (ft := ixL) op_ixL (ev_var (e := (eL .imm eI)) (a := a_numbers_here) rfl) (ev_var (e := eI) (a := a_at) rfl)))) (ev_dm (ev_unp (ft := (fun a => Res.ok ((List.length a : Nat) : Int))) op_lenL (ev_var (e := (eL .imm eS)) (a := a_line) rfl)))) rfl ?_
  intro place_50
  refine sr_env (E' := [some ((eL .imm eI) a_numbers_here), some (eI a_at), some ((eL .imm eS) a_line), some (eS a_word_here), some (eI place_50), none]) rfl ?_
  refine sr_asg (e := eI) xt (ev_binc (ft := (fun a => Res.ok (a % 6))) (fun a => op_modIc (6) rfl a) (ev_dm (ev_binc (ft := (fun a => Res.ok (a / 16))) (fun a => op_divIc (16) rfl a) (ev_binp (ft := ixL) op_ixL (ev_var (e := (eL .imm eI)) (a := a_numbers_here) rfl) (ev_var (e := eI) (a := a_at) rfl)) (ev_dm (ev_c (e := eI) (a := 16) rfl)))) (ev_dm (ev_c (e := eI) (a := 6) rfl))) rfl ?_
  intro deed_53
  refine sr_env (E' := [some ((eL .imm eI) a_numbers_here), some (eI a_at), some ((eL .imm eS) a_line), some (eS a_word_here), some (eI place_50), some (eI deed_53)]) rfl ?_
  refine sr_ifp (ev_b (ev_binp (ft := (fun a b => Res.ok (eqB a b))) (op_eq rfl rfl) (ev_var (e := eI) (a := deed_53) rfl) (ev_dm (ev_c (e := eI) (a := 0) rfl)))) ?_ ?_
  · exact sr_ret xt (fun _ => trivial) (ev_fr (ev_binp (ft := (fun a b => lim (a ++ b))) (op_addL (by decide) (by decide)) (ev_dm (ev_slp (ft := (fun a l h => Res.ok (cutL a l h))) op_slL (ev_var (e := (eL .imm eS)) (a := a_line) rfl) ev_o0 (ev_op (ev_var (e := eI) (a := place_50) rfl)))) (ev_dm (ev_slp (ft := (fun a l h => Res.ok (cutL a l h))) op_slL (ev_var (e := (eL .imm eS)) (a := a_line) rfl) (ev_op (ev_dm (ev_binp (ft := (fun a b => Res.ok (a + b))) op_addI (ev_var (e := eI) (a := place_50) rfl) (ev_dm (ev_c (e := eI) (a := 1) rfl))))) ev_o0))))
  · refine sr_pass ?_
    refine sr_ifp (ev_b (ev_binp (ft := (fun a b => Res.ok (eqB a b))) (op_eq rfl rfl) (ev_var (e := eI) (a := deed_53) rfl) (ev_dm (ev_c (e := eI) (a := 1) rfl)))) ?_ ?_
    · exact sr_ret xt (fun _ => trivial) (ev_fr (ev_bin (ft := (fun a b => lim (a ++ b))) (op_addL (by decide) (by decide)) (ev_dm (ev_binp (ft := (fun a b => lim (a ++ b))) (op_addL (by decide) (by decide)) (ev_dm (ev_slp (ft := (fun a l h => Res.ok (cutL a l h))) op_slL (ev_var (e := (eL .imm eS)) (a := a_line) rfl) ev_o0 (ev_op (ev_var (e := eI) (a := place_50) rfl)))) (ev_dm (ev_lstp (ev_consp (ev_fr (ev_chk (ev_var (e := eS) (a := a_word_here) rfl))) (ev_nil (e := eS))) rfl)))) (ev_dm (ev_slp (ft := (fun a l h => Res.ok (cutL a l h))) op_slL (ev_var (e := (eL .imm eS)) (a := a_line) rfl) (ev_op (ev_var (e := eI) (a := place_50) rfl)) ev_o0))))
    · refine sr_pass ?_
      refine sr_ifp (ev_b (ev_binp (ft := (fun a b => Res.ok (eqB a b))) (op_eq rfl rfl) (ev_var (e := eI) (a := deed_53) rfl) (ev_dm (ev_c (e := eI) (a := 2) rfl)))) ?_ ?_
      · exact sr_ret xt (fun _ => trivial) (ev_fr (ev_bin (ft := (fun a b => lim (a ++ b))) (op_addL (by decide) (by decide)) (ev_dm (ev_binp (ft := (fun a b => lim (a ++ b))) (op_addL (by decide) (by decide)) (ev_dm (ev_slp (ft := (fun a l h => Res.ok (cutL a l h))) op_slL (ev_var (e := (eL .imm eS)) (a := a_line) rfl) ev_o0 (ev_op (ev_var (e := eI) (a := place_50) rfl)))) (ev_dm (ev_lstp (ev_consp (ev_fr (ev_chk (ev_var (e := eS) (a := a_word_here) rfl))) (ev_nil (e := eS))) rfl)))) (ev_dm (ev_slp (ft := (fun a l h => Res.ok (cutL a l h))) op_slL (ev_var (e := (eL .imm eS)) (a := a_line) rfl) (ev_op (ev_dm (ev_binp (ft := (fun a b => Res.ok (a + b))) op_addI (ev_var (e := eI) (a := place_50) rfl) (ev_dm (ev_c (e := eI) (a := 1) rfl))))) ev_o0))))
      · refine sr_pass ?_
        refine sr_ifp (ev_b (ev_binp (ft := (fun a b => Res.ok (eqB a b))) (op_eq rfl rfl) (ev_var (e := eI) (a := deed_53) rfl) (ev_dm (ev_c (e := eI) (a := 3) rfl)))) ?_ ?_
        · exact sr_ret xt (fun _ => trivial) (ev_fr (ev_binp (ft := (fun a b => lim (a ++ b))) (op_addL (by decide) (by decide)) (ev_var (e := (eL .imm eS)) (a := a_line) rfl) (ev_dm (ev_lstp (ev_consp (ev_fr (ev_chk (ev_var (e := eS) (a := a_word_here) rfl))) (ev_nil (e := eS))) rfl))))
        · refine sr_pass ?_
          refine sr_last ?_
          exact sr_retV (i := 2) (e := (eL .imm eS)) (a := a_line) (b := a_line) rfl rfl trivial
@[irreducible] def T_parted (words : (List Tx)) (mark : Tx) : Res ((List Tx) × (Option (List Tx))) := kEnd (if (!memB mark words) = true then (kRet (Res.ok (words, none))) else (kLet ((Res.ok words) >>= fun x37 => (Res.ok mark) >>= fun x38 => idxG x37 x38) fun (place_39 : Int) => (kRet (Res.ok ((cutL words none (some place_39)), (some (cutL words (some (place_39 + (1 : Int))) none)))))))
theorem t_parted (words : (List Tx)) (mark : Tx) : Ev (F_parted [(eL .imm eS) words, eS mark]) (eT (pc (eL .imm eS) (p1 (eO (eL .imm eS))))) (T_parted words mark) := by
  unfold T_parted
  refine fr_body (n := 2) (m := 3) (Rn := fun r _ => (eT (pc (eL .imm eS) (p1 (eO (eL .imm eS))))) r = .non) (Rl := fun _ _ => True) rfl (fun _ _ h => h) ?_
  show SR (S_parted [some ((eL .imm eS) words), some (eS mark), none]) _ _ _ _ _
  unfold S_parted
  refine sr_ifp (ev_b (ev_binp (ft := (fun a b => Res.ok (!memB a b))) (op_ninL rfl rfl) (ev_var (e := eS) (a := mark) rfl) (ev_var (e := (eL .imm eS)) (a := words) rfl))) ?_ ?_
  · exact sr_ret xt (fun _ => trivial) (ev_tup (ev_tconsp (ev_fr (ev_chk (ev_var (e := (eL .imm eS)) (a := words) rfl))) (ev_tone (Ev.coP (g := eN) (g' := (eO (eL .imm eS))) (fun a => none) (fun _ => rfl) (ev_fr (ev_c (e := eN) (a := ()) rfl))))) rfl)
  · refine sr_pass ?_
    refine sr_asg (e := eI) xt (ev_binL (ft := idxG) op_index (ev_var (e := (eL .imm eS)) (a := words) rfl) (ev_var (e := eS) (a := mark) rfl)) rfl ?_
    intro place_39
    refine sr_last ?_
    exact sr_ret xt (fun _ => trivial) (ev_tup (ev_tconsp (ev_fr (ev_slp (ft := (fun a l h => Res.ok (cutL a l h))) op_slL (ev_var (e := (eL .imm eS)) (a := words) rfl) ev_o0 (ev_op (ev_var (e := eI) (a := place_39) rfl)))) (ev_tone (Ev.coP (g := (eL .imm eS)) (g' := (eO (eL .imm eS))) (fun a => (some a)) (fun _ => rfl) (ev_fr (ev_slp (ft := (fun a l h => Res.ok (cutL a l h))) op_slL (ev_var (e := (eL .imm eS)) (a := words) rfl) (ev_op (ev_dm (ev_binp (ft := (fun a b => Res.ok (a + b))) op_addI (ev_var (e := eI) (a := place_39) rfl) (ev_dm (ev_c (e := eI) (a := 1) rfl))))) ev_o0))))) rfl)
@[irreducible] def T_is_name (text : Tx) : Res Bool := kEnd (kIf (kOr (kNot ((Res.ok (1 : Int)) >>= fun x47 => (lenS text) >>= fun x48 => if (decide (x47 ≤ x48)) = true then (Res.ok (12)) >>= fun x49 => Res.ok (decide (x48 ≤ x49)) else Res.ok false)) ((ixS text (0 : Int)) >>= fun x50 => (Res.ok (['0', '1', '2', '3', '4', '5', '6', '7', '8', '9'] : Tx)) >>= fun x51 => (fun a b => Res.ok (inS a b)) x50 x51)) (kRet (Res.ok false)) (kRet ((kLc (chT text) (fun (c52 : Tx) => (Res.ok true)) (fun (c52 : Tx) => (Res.ok (inS c52 tx0)))) >>= fun x53 => (fun a => Res.ok (List.all a id)) x53)))
theorem t_is_name (text : Tx) : Ev (F_is_name [eS text]) eB (T_is_name text) := by
  unfold T_is_name
  refine fr_body (n := 1) (m := 2) (Rn := fun r _ => eB r = .non) (Rl := fun _ _ => True) rfl (fun _ _ h => h) ?_
  show SR (S_is_name [some (eS text), none]) _ _ _ _ _
  unfold S_is_name
  refine sr_if xt (ev_or (ev_not (ev_b (ev_chain (ev_dm (ev_c (e := eI) (a := 1) rfl)) (ev_dm (ev_unp (ft := lenS) op_lenS (ev_var (e := eS) (a := text) rfl))) (ev_dm (ev_c (e := eI) (a := (12)) rfl))))) (ev_b (ev_bin (ft := (fun a b => Res.ok (inS a b))) op_inS (ev_binp (ft := ixS) op_ixS (ev_var (e := eS) (a := text) rfl) (ev_dm (ev_c (e := eI) (a := 0) rfl))) (ev_dm (ev_c (e := eS) (a := (['0', '1', '2', '3', '4', '5', '6', '7', '8', '9'] : Tx)) rfl))))) ?_ ?_
  · exact sr_ret xt (fun _ => trivial) (ev_c (e := eB) (a := false) rfl)
  · refine sr_pass ?_
    refine sr_last ?_
    exact sr_ret xt (fun _ => trivial) (ev_un (ft := (fun a => Res.ok (List.all a id))) op_all (ev_dm (ev_lcp (e := eS) (e2 := eB) (e3 := eB) (tc := (fun (c52 : Tx) => (Res.ok true))) (tb := (fun (c52 : Tx) => (Res.ok (inS c52 tx0)))) (ev_itp (ft := (fun a => Res.ok (chT a))) op_itS (ev_var (e := eS) (a := text) rfl)) (fun (c52 : Tx) => ⟨_, (ud_name (e := eS) (x := c52) rfl), ev_yes, (ev_binp (ft := (fun a b => Res.ok (inS a b))) op_inS (ev_var (e := eS) (a := c52) rfl) (ev_dm (ev_c (e := eS) (a := tx0) rfl)))⟩))))
@[irreducible] def T_are_names (words : (List Tx)) : Res Bool := kEnd (kRet ((kLc words (fun (c36 : Tx) => (Res.ok true)) (fun (c36 : Tx) => (kAnd (T_is_name c36) (Res.ok (!memB c36 ([['a', 'n', 'd'], ['w', 'i', 't', 'h'], ['w', 'i', 't', 'h', 'o', 'u', 't'], ['t', 'r', 'u', 's', 't', 'i', 'n', 'g'], ['a', 'n', 'y', 'b', 'o', 'd', 'y']] : (List Tx))))))) >>= fun x37 => (fun a => Res.ok (List.all a id)) x37))
theorem t_are_names (words : (List Tx)) : Ev (F_are_names [(eL .imm eS) words]) eB (T_are_names words) := by
  unfold T_are_names
  refine fr_body (n := 1) (m := 2) (Rn := fun r _ => eB r = .non) (Rl := fun _ _ => True) rfl (fun _ _ h => h) ?_
  show SR (S_are_names [some ((eL .imm eS) words), none]) _ _ _ _ _
  unfold S_are_names
  refine sr_last ?_
  exact sr_ret xt (fun _ => trivial) (ev_un (ft := (fun a => Res.ok (List.all a id))) op_all (ev_dm (ev_lcp (e := eS) (e2 := eB) (e3 := eB) (tc := (fun (c36 : Tx) => (Res.ok true))) (tb := (fun (c36 : Tx) => (kAnd (T_is_name c36) (Res.ok (!memB c36 ([['a', 'n', 'd'], ['w', 'i', 't', 'h'], ['w', 'i', 't', 'h', 'o', 'u', 't'], ['t', 'r', 'u', 's', 't', 'i', 'n', 'g'], ['a', 'n', 'y', 'b', 'o', 'd', 'y']] : (List Tx))))))) (ev_itp (ft := (fun a => Res.ok a)) (op_it (by decide)) (ev_var (e := (eL .imm eS)) (a := words) rfl)) (fun (c36 : Tx) => ⟨_, (ud_name (e := eS) (x := c36) rfl), ev_yes, (ev_andV (ev_argsp (es := (p1 eS)) (a := c36) (e2 := eB) (ft := T_is_name c36) (t_is_name c36) (ev_tone (ev_dm (ev_var (e := eS) (a := c36) rfl)))) (ev_binp (ft := (fun a b => Res.ok (!memB a b))) op_ninKL (ev_var (e := eS) (a := c36) rfl) (ev_dm (ev_c (e := (eKL eS)) (a := ([['a', 'n', 'd'], ['w', 'i', 't', 'h'], ['w', 'i', 't', 'h', 'o', 'u', 't'], ['t', 'r', 'u', 's', 't', 'i', 'n', 'g'], ['a', 'n', 'y', 'b', 'o', 'd', 'y']] : (List Tx))) rfl))))⟩))))
@[irreducible] def T_demand_of (words : (List Tx)) : Res (Option ((Option Tx) × (List Tx) × (List Tx))) := kEnd (kLet (T_parted words (['w', 'i', 't', 'h', 'o', 'u', 't'] : Tx)) fun (p83 : ((List Tx) × (Option (List Tx)))) => (kLet (T_parted p83.1 (['w', 'i', 't', 'h'] : Tx)) fun (p84 : ((List Tx) × (Option (List Tx)))) => (kIf (kOr (Res.ok (!eqB ((p84.1.length : Nat) : Int) (1 : Int))) (kNot (kOr ((ixL p84.1 (0 : Int)) >>= fun x85 => (Res.ok (['a', 'n', 'y', 'b', 'o', 'd', 'y'] : Tx)) >>= fun x86 => (fun a b => Res.ok (eqB a b)) x85 x86) (T_are_names p84.1)))) (kRet (Res.ok none)) (kLet (Res.ok [p84.2, p83.2]) fun (l106 : List (Option (List Tx))) => kSeq (kFor (fun (i89 : (Option (List Tx))) (s87 : Unit) => (kIf (kAnd (Res.ok i89.isSome) (kOr (Res.ok (eqB i89 (some []))) (kNot (((Res.ok i89) >>= getO) >>= fun x90 => T_are_names x90)))) (kRet (Res.ok none)) (TR.nx ()))) l106 ()) fun (u91 : Unit) => (kLet (((ixL p84.1 (0 : Int)) >>= fun x96 => (Res.ok (['a', 'n', 'y', 'b', 'o', 'd', 'y'] : Tx)) >>= fun x97 => (fun a b => Res.ok (eqB a b)) x96 x97) >>= fun x98 => if x98 = true then (Res.ok none) else ((ixL p84.1 (0 : Int)) >>= fun a => Res.ok (some a))) fun (person_99 : (Option Tx)) => (kRet (((Res.ok person_99) >>= fun x104 => (((Res.ok p84.2) >>= fun x100 => if (!(Option.getD x100 []).isEmpty) = true then getO x100 else (Res.ok [])) >>= fun x102 => ((Res.ok p83.2) >>= fun x101 => if (!(Option.getD x101 []).isEmpty) = true then getO x101 else (Res.ok [])) >>= fun x103 => Res.ok (x102, x103)) >>= fun x105 => Res.ok (x104, x105)) >>= fun a => Res.ok (some a))))))))
theorem t_demand_of (words : (List Tx)) : Ev (F_demand_of [(eL .imm eS) words]) (eO (eT (pc (eO eS) (pc (eL .imm eS) (p1 (eL .imm eS)))))) (T_demand_of words) := by
  unfold T_demand_of
  refine fr_body (n := 1) (m := 6) (Rn := fun r _ => (eO (eT (pc (eO eS) (pc (eL .imm eS) (p1 (eL .imm eS)))))) r = .non) (Rl := fun _ _ => True) rfl (fun _ _ h => h) ?_
  show SR (S_demand_of [some ((eL .imm eS) words), none, none, none, none, none]) _ _ _ _ _
  unfold S_demand_of
  refine sr_unp (e := (eT (pc (eL .imm eS) (p1 (eO (eL .imm eS)))))) xt (ev_dm (ev_argsp (es := (pc (eL .imm eS) (p1 eS))) (a := (words, (['w', 'i', 't', 'h', 'o', 'u', 't'] : Tx))) (e2 := (eT (pc (eL .imm eS) (p1 (eO (eL .imm eS)))))) (ft := T_parted words (['w', 'i', 't', 'h', 'o', 'u', 't'] : Tx)) (t_parted words (['w', 'i', 't', 'h', 'o', 'u', 't'] : Tx)) (ev_tconsp (ev_dm (ev_var (e := (eL .imm eS)) (a := words) rfl)) (ev_tone (ev_dm (ev_dm (ev_c (e := eS) (a := (['w', 'i', 't', 'h', 'o', 'u', 't'] : Tx)) rfl))))))) (fun (p83 : ((List Tx) × (Option (List Tx)))) => (ud_tup (es := (pc (eL .imm eS) (p1 (eO (eL .imm eS))))) (x := p83) (ud_cons (ud_name (e := (eL .imm eS)) (x := p83.1) rfl) (ud_one (ud_name (e := (eO (eL .imm eS))) (x := p83.2) rfl))))) ?_
  intro p83
  refine sr_env (E' := [some ((eL .imm eS) words), some ((eL .imm eS) p83.1), some ((eO (eL .imm eS)) p83.2), none, none, none]) rfl ?_
  refine sr_unp (e := (eT (pc (eL .imm eS) (p1 (eO (eL .imm eS)))))) xt (ev_dm (ev_argsp (es := (pc (eL .imm eS) (p1 eS))) (a := (p83.1, (['w', 'i', 't', 'h'] : Tx))) (e2 := (eT (pc (eL .imm eS) (p1 (eO (eL .imm eS)))))) (ft := T_parted p83.1 (['w', 'i', 't', 'h'] : Tx)) (t_parted p83.1 (['w', 'i', 't', 'h'] : Tx)) (ev_tconsp (ev_dm (ev_var (e := (eL .imm eS)) (a := p83.1) rfl)) (ev_tone (ev_dm (ev_dm (ev_c (e := eS) (a := (['w', 'i', 't', 'h'] : Tx)) rfl))))))) (fun (p84 : ((List Tx) × (Option (List Tx)))) => (ud_tup (es := (pc (eL .imm eS) (p1 (eO (eL .imm eS))))) (x := p84) (ud_cons (ud_name (e := (eL .imm eS)) (x := p84.1) rfl) (ud_one (ud_name (e := (eO (eL .imm eS))) (x := p84.2) rfl))))) ?_
  intro p84
  refine sr_env (E' := [some ((eL .imm eS) words), some ((eL .imm eS) p84.1), some ((eO (eL .imm eS)) p83.2), some ((eO (eL .imm eS)) p84.2), none, none]) rfl ?_
  refine sr_if xt (ev_or (ev_b (ev_binp (ft := (fun a b => Res.ok (!eqB a b))) (op_ne rfl rfl) (ev_dm (ev_unp (ft := (fun a => Res.ok ((List.length a : Nat) : Int))) op_lenL (ev_var (e := (eL .imm eS)) (a := p84.1) rfl))) (ev_dm (ev_c (e := eI) (a := 1) rfl)))) (ev_not (ev_or (ev_b (ev_bin (ft := (fun a b => Res.ok (eqB a b))) (op_eq rfl rfl) (ev_binp (ft := ixL) op_ixL (ev_var (e := (eL .imm eS)) (a := p84.1) rfl) (ev_dm (ev_c (e := eI) (a := 0) rfl))) (ev_dm (ev_c (e := eS) (a := (['a', 'n', 'y', 'b', 'o', 'd', 'y'] : Tx)) rfl)))) (ev_truI (ev_dm (ev_argsp (es := (p1 (eL .imm eS))) (a := p84.1) (e2 := eB) (ft := T_are_names p84.1) (t_are_names p84.1) (ev_tone (ev_dm (ev_var (e := (eL .imm eS)) (a := p84.1) rfl))))))))) ?_ ?_
  · exact sr_ret xt (fun _ => trivial) (Ev.coP (g := eN) (g' := (eO (eT (pc (eO eS) (pc (eL .imm eS) (p1 (eL .imm eS))))))) (fun a => none) (fun _ => rfl) (ev_c (e := eN) (a := ()) rfl))
  · refine sr_pass ?_
    refine sr_forF (fun (s87 : Unit) (o88 : Option D) => [some ((eL .imm eS) words), some ((eL .imm eS) p84.1), some ((eO (eL .imm eS)) p83.2), some ((eO (eL .imm eS)) p84.2), o88, none]) (e := (eO (eL .imm eS))) (none) xt (ev_itp (ft := (fun a => Res.ok a)) op_itTL (Ev.coP (g := (eT (pc (eO (eL .imm eS)) (p1 (eO (eL .imm eS)))))) (g' := (eTL (eO (eL .imm eS)))) (fun a => [a.1, a.2]) (fun _ => rfl) (ev_dm (ev_fr (ev_tup (ev_tconsp (ev_fr (ev_chk (ev_var (e := (eO (eL .imm eS))) (a := p84.2) rfl))) (ev_tone (ev_fr (ev_chk (ev_var (e := (eO (eL .imm eS))) (a := p83.2) rfl))))) rfl))))) rfl ?_ ?_
    · intro i89 s87 o88
      refine ⟨_, (ud_name (e := (eO (eL .imm eS))) (x := i89) rfl), ?_⟩
      refine sr_env (E' := [some ((eL .imm eS) words), some ((eL .imm eS) p84.1), some ((eO (eL .imm eS)) p83.2), some ((eO (eL .imm eS)) p84.2), some ((eO (eL .imm eS)) i89), none]) rfl ?_
      refine sr_last ?_
      refine sr_if xt (ev_and (ev_b (ev_binp (ft := (fun a _ => Res.ok (Option.isSome a))) op_not (ev_var (e := (eO (eL .imm eS))) (a := i89) rfl) (ev_dm (ev_c (e := eN) (a := ()) rfl)))) (ev_or (ev_b (ev_binp (ft := (fun a b => Res.ok (eqB a b))) (op_eq rfl rfl) (ev_var (e := (eO (eL .imm eS))) (a := i89) rfl) (Ev.coP (g := (eL0 .bor)) (g' := (eO (eL .bor eS))) (fun a => (some [])) (fun _ => rfl) (ev_dm ev_lst00)))) (ev_not (ev_truI (ev_dm (ev_args (es := (p1 (eL .imm eS))) (e2 := eB) (ft := fun x90 => T_are_names x90) (fun x90 => t_are_names x90) (ev_tone (ev_dm (Ev.getO (ev_var (e := (eO (eL .imm eS))) (a := i89) rfl)))))))))) ?_ ?_
      · exact sr_ret xt (fun _ => trivial) (Ev.coP (g := eN) (g' := (eO (eT (pc (eO eS) (pc (eL .imm eS) (p1 (eL .imm eS))))))) (fun a => none) (fun _ => rfl) (ev_c (e := eN) (a := ()) rfl))
      · refine sr_pass ?_
        exact sr_nilF (some ((eO (eL .imm eS)) i89)) rfl
    intro u91 o92
    refine sr_env (E' := [some ((eL .imm eS) words), some ((eL .imm eS) p84.1), some ((eO (eL .imm eS)) p83.2), some ((eO (eL .imm eS)) p84.2), o92, none]) rfl ?_
    refine sr_asgV (e := (eO eS)) xt (ev_if (ev_b (ev_bin (ft := (fun a b => Res.ok (eqB a b))) (op_eq rfl rfl) (ev_binp (ft := ixL) op_ixL (ev_var (e := (eL .imm eS)) (a := p84.1) rfl) (ev_dm (ev_c (e := eI) (a := 0) rfl))) (ev_dm (ev_c (e := eS) (a := (['a', 'n', 'y', 'b', 'o', 'd', 'y'] : Tx)) rfl)))) (Ev.coP (g := eN) (g' := (eO eS)) (fun a => none) (fun _ => rfl) (ev_dm (ev_c (e := eN) (a := ()) rfl))) (Ev.co (g := eS) (g' := (eO eS)) (fun a => (some a)) (fun _ => rfl) (ev_binp (ft := ixL) op_ixL (ev_var (e := (eL .imm eS)) (a := p84.1) rfl) (ev_dm (ev_c (e := eI) (a := 0) rfl))))) rfl ?_
    intro person_99
    refine sr_env (E' := [some ((eL .imm eS) words), some ((eL .imm eS) p84.1), some ((eO (eL .imm eS)) p83.2), some ((eO (eL .imm eS)) p84.2), o92, some ((eO eS) person_99)]) rfl ?_
    refine sr_last ?_
    exact sr_ret xt (fun _ => trivial) (Ev.co (g := (eT (pc (eO eS) (pc (eL .imm eS) (p1 (eL .imm eS)))))) (g' := (eO (eT (pc (eO eS) (pc (eL .imm eS) (p1 (eL .imm eS))))))) (fun a => (some a)) (fun _ => rfl) (ev_tup (ev_tcons (ev_fr (ev_chk (ev_var (e := (eO eS)) (a := person_99) rfl))) (ev_tcons (ev_fr (ev_chk (ev_orTO (f := fun a => (!(Option.getD a []).isEmpty)) tru_OL (ev_var (e := (eO (eL .imm eS))) (a := p84.2) rfl) (Ev.coP (g := (eL0 .imm)) (g' := (eL .imm eS)) (fun a => []) (fun _ => rfl) (ev_dm (ev_fr ev_lst00)))))) (ev_tone (ev_fr (ev_chk (ev_orTO (f := fun a => (!(Option.getD a []).isEmpty)) tru_OL (ev_var (e := (eO (eL .imm eS))) (a := p83.2) rfl) (Ev.coP (g := (eL0 .imm)) (g' := (eL .imm eS)) (fun a => []) (fun _ => rfl) (ev_dm (ev_fr ev_lst00))))))))) rfl))
@[irreducible] def T_goal_of (words : (List Tx)) : Res (Option ((List (Option ((Option Tx) × (List Tx) × (List Tx)))) × (List Tx))) := kEnd (kLet (T_parted words (['t', 'r', 'u', 's', 't', 'i', 'n', 'g'] : Tx)) fun (p71 : ((List Tx) × (Option (List Tx)))) => (kIf (kAnd (Res.ok p71.2.isSome) (kOr (Res.ok (eqB p71.2 (some []))) (kNot (((Res.ok p71.2) >>= getO) >>= fun x72 => T_are_names x72)))) (kRet (Res.ok none)) (kLet (Res.ok ([] : (List (Option ((Option Tx) × (List Tx) × (List Tx)))))) fun (goal_73 : (List (Option ((Option Tx) × (List Tx) × (List Tx))))) => (kSeq (kWhile (fun (s74 : ((Option (List Tx)) × (List (Option ((Option Tx) × (List Tx) × (List Tx)))))) => (Res.ok s74.1.isSome)) (fun (s74 : ((Option (List Tx)) × (List (Option ((Option Tx) × (List Tx) × (List Tx)))))) => (kLet ((((Res.ok s74.1) >>= getO) >>= fun x80 => (Res.ok (['a', 'n', 'd'] : Tx)) >>= fun x81 => Res.ok (x80, x81)) >>= fun x82 => T_parted x82.1 x82.2) fun (p83 : ((List Tx) × (Option (List Tx)))) => (kLet ((T_demand_of p83.1) >>= fun x85 => appL s74.2 x85) fun (goal_84 : (List (Option ((Option Tx) × (List Tx) × (List Tx))))) => (TR.nx (p83.2, goal_84))))) 100000 ((some p71.1), goal_73)) fun (u86 : ((Option (List Tx)) × (List (Option ((Option Tx) × (List Tx) × (List Tx)))))) => (if (memB none u86.2) = true then (kRet (Res.ok none)) else (kRet (((Res.ok u86.2) >>= fun x89 => ((Res.ok p71.2) >>= fun x88 => if (!(Option.getD x88 []).isEmpty) = true then getO x88 else (Res.ok [])) >>= fun x90 => Res.ok (x89, x90)) >>= fun a => Res.ok (some a))))))))
theorem t_goal_of (words : (List Tx)) : Ev (F_goal_of [(eL .imm eS) words]) (eO (eT (pc (eL .imm (eO (eT (pc (eO eS) (pc (eL .imm eS) (p1 (eL .imm eS))))))) (p1 (eL .imm eS))))) (T_goal_of words) := by
  unfold T_goal_of
  refine fr_body (n := 1) (m := 5) (Rn := fun r _ => (eO (eT (pc (eL .imm (eO (eT (pc (eO eS) (pc (eL .imm eS) (p1 (eL .imm eS))))))) (p1 (eL .imm eS))))) r = .non) (Rl := fun _ _ => True) rfl (fun _ _ h => h) ?_
  show SR (S_goal_of [some ((eL .imm eS) words), none, none, none, none]) _ _ _ _ _
  unfold S_goal_of
  refine sr_unp (e := (eT (pc (eL .imm eS) (p1 (eO (eL .imm eS)))))) xt (ev_dm (ev_argsp (es := (pc (eL .imm eS) (p1 eS))) (a := (words, (['t', 'r', 'u', 's', 't', 'i', 'n', 'g'] : Tx))) (e2 := (eT (pc (eL .imm eS) (p1 (eO (eL .imm eS)))))) (ft := T_parted words (['t', 'r', 'u', 's', 't', 'i', 'n', 'g'] : Tx)) (t_parted words (['t', 'r', 'u', 's', 't', 'i', 'n', 'g'] : Tx)) (ev_tconsp (ev_dm (ev_var (e := (eL .imm eS)) (a := words) rfl)) (ev_tone (ev_dm (ev_dm (ev_c (e := eS) (a := (['t', 'r', 'u', 's', 't', 'i', 'n', 'g'] : Tx)) rfl))))))) (fun (p71 : ((List Tx) × (Option (List Tx)))) => (ud_tup (es := (pc (eL .imm eS) (p1 (eO (eL .imm eS))))) (x := p71) (ud_cons (ud_name (e := (eL .imm eS)) (x := p71.1) rfl) (ud_one (ud_name (e := (eO (eL .imm eS))) (x := p71.2) rfl))))) ?_
  intro p71
  refine sr_if xt (ev_and (ev_b (ev_binp (ft := (fun a _ => Res.ok (Option.isSome a))) op_not (ev_var (e := (eO (eL .imm eS))) (a := p71.2) rfl) (ev_dm (ev_c (e := eN) (a := ()) rfl)))) (ev_or (ev_b (ev_binp (ft := (fun a b => Res.ok (eqB a b))) (op_eq rfl rfl) (ev_var (e := (eO (eL .imm eS))) (a := p71.2) rfl) (Ev.coP (g := (eL0 .bor)) (g' := (eO (eL .bor eS))) (fun a => (some [])) (fun _ => rfl) (ev_dm ev_lst00)))) (ev_not (ev_truI (ev_dm (ev_args (es := (p1 (eL .imm eS))) (e2 := eB) (ft := fun x72 => T_are_names x72) (fun x72 => t_are_names x72) (ev_tone (ev_dm (Ev.getO (ev_var (e := (eO (eL .imm eS))) (a := p71.2) rfl)))))))))) ?_ ?_
  · exact sr_ret xt (fun _ => trivial) (Ev.coP (g := eN) (g' := (eO (eT (pc (eL .imm (eO (eT (pc (eO eS) (pc (eL .imm eS) (p1 (eL .imm eS))))))) (p1 (eL .imm eS)))))) (fun a => none) (fun _ => rfl) (ev_c (e := eN) (a := ()) rfl))
  · refine sr_pass ?_
    refine sr_asg (e := (eL .own (eO (eT (pc (eO eS) (pc (eL .imm eS) (p1 (eL .imm eS)))))))) xt (ev_lst0 (e := (eO (eT (pc (eO eS) (pc (eL .imm eS) (p1 (eL .imm eS)))))))) rfl ?_
    intro goal_73
    refine sr_whileF (fun (s74 : ((Option (List Tx)) × (List (Option ((Option Tx) × (List Tx) × (List Tx)))))) (o75 : Option D) => [some ((eL .imm eS) words), some ((eO (eL .imm eS)) s74.1), some ((eO (eL .imm eS)) p71.2), some ((eL .own (eO (eT (pc (eO eS) (pc (eL .imm eS) (p1 (eL .imm eS))))))) s74.2), o75]) (none) (fun _ _ => xt) rfl (fun (s74 : ((Option (List Tx)) × (List (Option ((Option Tx) × (List Tx) × (List Tx)))))) (o75 : Option D) => (ev_b (ev_binp (ft := (fun a _ => Res.ok (Option.isSome a))) op_not (ev_var (e := (eO (eL .imm eS))) (a := s74.1) rfl) (ev_dm (ev_c (e := eN) (a := ()) rfl))))) ?_ ?_
    · intro s74 o75
      refine sr_unp (e := (eT (pc (eL .imm eS) (p1 (eO (eL .imm eS)))))) xt (ev_dm (ev_args (es := (pc (eL .imm eS) (p1 eS))) (e2 := (eT (pc (eL .imm eS) (p1 (eO (eL .imm eS)))))) (ft := fun x82 => T_parted x82.1 x82.2) (fun x82 => t_parted x82.1 x82.2) (ev_tcons (ev_dm (Ev.getO (ev_var (e := (eO (eL .imm eS))) (a := s74.1) rfl))) (ev_tone (ev_dm (ev_dm (ev_c (e := eS) (a := (['a', 'n', 'd'] : Tx)) rfl))))))) (fun (p83 : ((List Tx) × (Option (List Tx)))) => (ud_tup (es := (pc (eL .imm eS) (p1 (eO (eL .imm eS))))) (x := p83) (ud_cons (ud_name (e := (eL .imm eS)) (x := p83.1) rfl) (ud_one (ud_name (e := (eO (eL .imm eS))) (x := p83.2) rfl))))) ?_
      intro p83
      refine sr_last ?_
      refine sr_app (e := (eO (eT (pc (eO eS) (pc (eL .imm eS) (p1 (eL .imm eS))))))) (xs := s74.2) xt rfl (ev_fr (ev_argsp (es := (p1 (eL .imm eS))) (a := p83.1) (e2 := (eO (eT (pc (eO eS) (pc (eL .imm eS) (p1 (eL .imm eS))))))) (ft := T_demand_of p83.1) (t_demand_of p83.1) (ev_tone (ev_dm (ev_var (e := (eL .imm eS)) (a := p83.1) rfl))))) ?_
      intro goal_84
      exact sr_nilF (some ((eL .imm eS) p83.1)) rfl
    intro u86 o87
    refine sr_ifp (ev_b (ev_binp (ft := (fun a b => Res.ok (memB a b))) (op_inL rfl rfl) (Ev.coP (g := eN) (g' := (eO (eT (pc (eO eS) (pc (eL .imm eS) (p1 (eL .imm eS))))))) (fun a => none) (fun _ => rfl) (ev_dm (ev_c (e := eN) (a := ()) rfl))) (ev_var (e := (eL .own (eO (eT (pc (eO eS) (pc (eL .imm eS) (p1 (eL .imm eS)))))))) (a := u86.2) rfl))) ?_ ?_
    · exact sr_ret xt (fun _ => trivial) (Ev.coP (g := eN) (g' := (eO (eT (pc (eL .imm (eO (eT (pc (eO eS) (pc (eL .imm eS) (p1 (eL .imm eS))))))) (p1 (eL .imm eS)))))) (fun a => none) (fun _ => rfl) (ev_c (e := eN) (a := ()) rfl))
    · refine sr_pass ?_
      refine sr_last ?_
      refine sr_frz (i := 3) (e := (eL .own (eO (eT (pc (eO eS) (pc (eL .imm eS) (p1 (eL .imm eS)))))))) (a := u86.2) rfl ?_
      exact sr_ret xt (fun _ => trivial) (Ev.co (g := (eT (pc (eL .imm (eO (eT (pc (eO eS) (pc (eL .imm eS) (p1 (eL .imm eS))))))) (p1 (eL .imm eS))))) (g' := (eO (eT (pc (eL .imm (eO (eT (pc (eO eS) (pc (eL .imm eS) (p1 (eL .imm eS))))))) (p1 (eL .imm eS)))))) (fun a => (some a)) (fun _ => rfl) (ev_tup (ev_tcons (ev_fr (ev_chk (ev_var (e := (eL .imm (eO (eT (pc (eO eS) (pc (eL .imm eS) (p1 (eL .imm eS)))))))) (a := u86.2) rfl))) (ev_tone (ev_fr (ev_chk (ev_orTO (f := fun a => (!(Option.getD a []).isEmpty)) tru_OL (ev_var (e := (eO (eL .imm eS))) (a := p71.2) rfl) (Ev.coP (g := (eL0 .imm)) (g' := (eL .imm eS)) (fun a => []) (fun _ => rfl) (ev_dm (ev_fr ev_lst00)))))))) rfl))
@[irreducible] def T__law_split (a_words : (List Tx)) (a_mark : Tx) : Res (List (List Tx)) := kEnd (kLet (Res.ok [([] : (List Tx))]) fun (parts_56 : (List (List Tx))) => (kLet (Res.ok a_words) fun (l66 : List Tx) => kSeq (kFor (fun (i59 : Tx) (s57 : ((List (List Tx)))) => (if (eqB i59 a_mark) = true then (kLet ((Res.ok ([] : (List Tx))) >>= fun x61 => appL s57 x61) fun (parts_60 : (List (List Tx))) => (TR.nx parts_60)) else (kLet ((Res.ok (-(1 : Int))) >>= fun x63 => app1 s57 x63 (Res.ok i59)) fun (parts_62 : (List (List Tx))) => (TR.nx parts_62)))) l66 parts_56) fun (u64 : ((List (List Tx)))) => (TR.rt u64)))
theorem t__law_split (a_words : (List Tx)) (a_mark : Tx) : Ev (F__law_split [(eL .imm eS) a_words, eS a_mark]) (eL .own (eL .own eS)) (T__law_split a_words a_mark) := by
  unfold T__law_split
  refine fr_body (n := 2) (m := 4) (Rn := fun r _ => (eL .own (eL .own eS)) r = .non) (Rl := fun _ _ => True) rfl (fun _ _ h => h) ?_
  show SR (S__law_split [some ((eL .imm eS) a_words), some (eS a_mark), none, none]) _ _ _ _ _
  unfold S__law_split
  refine sr_asg (e := (eL .own (eL .own eS))) xt (ev_lstOp (ev_consp (ev_lst0 (e := eS)) (ev_nil (e := (eL .own eS)))) rfl) rfl ?_
  intro parts_56
  refine sr_forF (fun (s57 : ((List (List Tx)))) (o58 : Option D) => [some ((eL .imm eS) a_words), some (eS a_mark), some ((eL .own (eL .own eS)) s57), o58]) (e := eS) (none) xt (ev_itp (ft := (fun a => Res.ok a)) (op_it (by decide)) (ev_var (e := (eL .imm eS)) (a := a_words) rfl)) rfl ?_ ?_
  · intro i59 s57 o58
    refine ⟨_, (ud_name (e := eS) (x := i59) rfl), ?_⟩
    refine sr_last ?_
    refine sr_ifp (ev_b (ev_binp (ft := (fun a b => Res.ok (eqB a b))) (op_eq rfl rfl) (ev_var (e := eS) (a := i59) rfl) (ev_var (e := eS) (a := a_mark) rfl))) ?_ ?_
    · refine sr_app (e := (eL .own eS)) (xs := s57) xt rfl (ev_lst0 (e := eS)) ?_
      intro parts_60
      exact sr_nilF (some (eS i59)) rfl
    · refine sr_app1 (e := eS) (xss := s57) xt rfl (ev_dm (ev_unp (ft := (fun a => Res.ok (-a))) op_neg (ev_dm (ev_c (e := eI) (a := 1) rfl)))) (ev_chk (ev_var (e := eS) (a := i59) rfl)) ?_
      intro parts_62
      exact sr_nilF (some (eS i59)) rfl
  intro u64 o65
  refine sr_last ?_
  exact sr_retV (i := 2) (e := (eL .own (eL .own eS))) (a := u64) (b := u64) rfl rfl trivial
@[irreducible] def T__law_all_names (a_words : (List Tx)) : Res Bool := kEnd (kLet (Res.ok a_words) fun (l53 : List Tx) => kSeq (kFor (fun (i50 : Tx) (s48 : Unit) => (kIf (kNot (T__law_is_name i50)) (kRet (Res.ok false)) (TR.nx ()))) l53 ()) fun (u51 : Unit) => (kRet (Res.ok true)))
theorem t__law_all_names (a_words : (List Tx)) : Ev (F__law_all_names [(eL .imm eS) a_words]) eB (T__law_all_names a_words) := by
  unfold T__law_all_names
  refine fr_body (n := 1) (m := 2) (Rn := fun r _ => eB r = .non) (Rl := fun _ _ => True) rfl (fun _ _ h => h) ?_
  show SR (S__law_all_names [some ((eL .imm eS) a_words), none]) _ _ _ _ _
  unfold S__law_all_names
  refine sr_forF (fun (s48 : Unit) (o49 : Option D) => [some ((eL .imm eS) a_words), o49]) (e := eS) (none) xt (ev_itp (ft := (fun a => Res.ok a)) (op_it (by decide)) (ev_var (e := (eL .imm eS)) (a := a_words) rfl)) rfl ?_ ?_
  · intro i50 s48 o49
    refine ⟨_, (ud_name (e := eS) (x := i50) rfl), ?_⟩
    refine sr_last ?_
    refine sr_if xt (ev_not (ev_truI (ev_dm (ev_argsp (es := (p1 eS)) (a := i50) (e2 := eB) (ft := T__law_is_name i50) (t__law_is_name i50) (ev_tone (ev_dm (ev_var (e := eS) (a := i50) rfl))))))) ?_ ?_
    · exact sr_ret xt (fun _ => trivial) (ev_c (e := eB) (a := false) rfl)
    · refine sr_pass ?_
      exact sr_nilF (some (eS i50)) rfl
  intro u51 o52
  refine sr_last ?_
  exact sr_ret xt (fun _ => trivial) (ev_c (e := eB) (a := true) rfl)
@[irreducible] def T__law_demand (a_words : (List Tx)) : Res (Option ((Option Tx) × (List Tx) × (List Tx))) := kEnd (kLet (T__law_split a_words (['w', 'i', 't', 'h', 'o', 'u', 't'] : Tx)) fun (parts_109 : (List (List Tx))) => (if (decide (((parts_109.length : Nat) : Int) > (2 : Int))) = true then (kRet (Res.ok none)) else (kLet (((ixL parts_109 (0 : Int)) >>= fun x110 => (Res.ok (['w', 'i', 't', 'h'] : Tx)) >>= fun x111 => Res.ok (x110, x111)) >>= fun x112 => T__law_split x112.1 x112.2) fun (front_113 : (List (List Tx))) => (kLet ((fun a b => lim (a ++ b)) (cutL front_113 (some (1 : Int)) none) (cutL parts_109 (some (1 : Int)) none)) fun (rights_114 : (List (List Tx))) => (kIf (kOr (Res.ok (decide (((front_113.length : Nat) : Int) > (2 : Int)))) (((ixL front_113 (0 : Int)) >>= fun x115 => (fun a => Res.ok ((List.length a : Nat) : Int)) x115) >>= fun x116 => (Res.ok (1 : Int)) >>= fun x117 => (fun a b => Res.ok (!eqB a b)) x116 x117)) (kRet (Res.ok none)) (kLet (Res.ok rights_114) fun (l142 : List (List Tx)) => kSeq (kFor (fun (i120 : (List Tx)) (s118 : Unit) => (kIf (kOr (Res.ok (eqB ((i120.length : Nat) : Int) (0 : Int))) (kNot (T__law_all_names i120))) (kRet (Res.ok none)) (TR.nx ()))) l142 ()) fun (u121 : Unit) => (kLet (((fun a b => lim (a ++ b)) front_113 [([] : (List Tx))]) >>= fun x125 => (Res.ok (1 : Int)) >>= fun x126 => ixL x125 x126) fun (holds_127 : (List Tx)) => (kLet (((fun a b => lim (a ++ b)) parts_109 [([] : (List Tx))]) >>= fun x130 => (Res.ok (1 : Int)) >>= fun x131 => ixL x130 x131) fun (lacks_132 : (List Tx)) => (kIf (((ixL front_113 (0 : Int)) >>= fun x133 => (Res.ok (0 : Int)) >>= fun x134 => ixL x133 x134) >>= fun x135 => (Res.ok (['a', 'n', 'y', 'b', 'o', 'd', 'y'] : Tx)) >>= fun x136 => (fun a b => Res.ok (eqB a b)) x135 x136) (kRet (Res.ok (some (none, holds_127, lacks_132)))) (kIf (kNot ((ixL front_113 (0 : Int)) >>= fun x137 => T__law_all_names x137)) (kRet (Res.ok none)) (kRet ((((ixL front_113 (0 : Int)) >>= fun x138 => (Res.ok (0 : Int)) >>= fun x139 => ixL x138 x139) >>= fun x140 => (Res.ok (holds_127, lacks_132)) >>= fun x141 => Res.ok (x140, x141)) >>= fun a => Res.ok (some ((some a.1), a.2.1, a.2.2))))))))))))))
theorem t__law_demand (a_words : (List Tx)) : Ev (F__law_demand [(eL .imm eS) a_words]) (eO (eT (pc (eO eS) (pc (eL .imm eS) (p1 (eL .imm eS)))))) (T__law_demand a_words) := by
  unfold T__law_demand
  refine fr_body (n := 1) (m := 7) (Rn := fun r _ => (eO (eT (pc (eO eS) (pc (eL .imm eS) (p1 (eL .imm eS)))))) r = .non) (Rl := fun _ _ => True) rfl (fun _ _ h => h) ?_
  show SR (S__law_demand [some ((eL .imm eS) a_words), none, none, none, none, none, none]) _ _ _ _ _
  unfold S__law_demand
  refine sr_asg (e := (eL .imm (eL .imm eS))) xt (ev_fr (ev_argsp (es := (pc (eL .imm eS) (p1 eS))) (a := (a_words, (['w', 'i', 't', 'h', 'o', 'u', 't'] : Tx))) (e2 := (eL .own (eL .own eS))) (ft := T__law_split a_words (['w', 'i', 't', 'h', 'o', 'u', 't'] : Tx)) (t__law_split a_words (['w', 'i', 't', 'h', 'o', 'u', 't'] : Tx)) (ev_tconsp (ev_dm (ev_var (e := (eL .imm eS)) (a := a_words) rfl)) (ev_tone (ev_dm (ev_dm (ev_c (e := eS) (a := (['w', 'i', 't', 'h', 'o', 'u', 't'] : Tx)) rfl))))))) rfl ?_
  intro parts_109
  refine sr_env (E' := [some ((eL .imm eS) a_words), some ((eL .imm (eL .imm eS)) parts_109), none, none, none, none, none]) rfl ?_
  refine sr_ifp (ev_b (ev_binp (ft := (fun a b => Res.ok (decide (a > b)))) op_gt (ev_dm (ev_unp (ft := (fun a => Res.ok ((List.length a : Nat) : Int))) op_lenL (ev_var (e := (eL .imm (eL .imm eS))) (a := parts_109) rfl))) (ev_dm (ev_c (e := eI) (a := 2) rfl)))) ?_ ?_
  · exact sr_ret xt (fun _ => trivial) (Ev.coP (g := eN) (g' := (eO (eT (pc (eO eS) (pc (eL .imm eS) (p1 (eL .imm eS))))))) (fun a => none) (fun _ => rfl) (ev_c (e := eN) (a := ()) rfl))
  · refine sr_pass ?_
    refine sr_asg (e := (eL .imm (eL .imm eS))) xt (ev_fr (ev_args (es := (pc (eL .imm eS) (p1 eS))) (e2 := (eL .own (eL .own eS))) (ft := fun x112 => T__law_split x112.1 x112.2) (fun x112 => t__law_split x112.1 x112.2) (ev_tcons (ev_dm (ev_binp (ft := ixL) op_ixL (ev_var (e := (eL .imm (eL .imm eS))) (a := parts_109) rfl) (ev_dm (ev_c (e := eI) (a := 0) rfl)))) (ev_tone (ev_dm (ev_dm (ev_c (e := eS) (a := (['w', 'i', 't', 'h'] : Tx)) rfl))))))) rfl ?_
    intro front_113
    refine sr_env (E' := [some ((eL .imm eS) a_words), some ((eL .imm (eL .imm eS)) parts_109), some ((eL .imm (eL .imm eS)) front_113), none, none, none, none]) rfl ?_
    refine sr_asg (e := (eL .imm (eL .imm eS))) xt (ev_fr (ev_binp (ft := (fun a b => lim (a ++ b))) (op_addL (by decide) (by decide)) (ev_dm (ev_slp (ft := (fun a l h => Res.ok (cutL a l h))) op_slL (ev_var (e := (eL .imm (eL .imm eS))) (a := front_113) rfl) (ev_op (ev_dm (ev_c (e := eI) (a := 1) rfl))) ev_o0)) (ev_dm (ev_slp (ft := (fun a l h => Res.ok (cutL a l h))) op_slL (ev_var (e := (eL .imm (eL .imm eS))) (a := parts_109) rfl) (ev_op (ev_dm (ev_c (e := eI) (a := 1) rfl))) ev_o0)))) rfl ?_
    intro rights_114
    refine sr_env (E' := [some ((eL .imm eS) a_words), some ((eL .imm (eL .imm eS)) parts_109), some ((eL .imm (eL .imm eS)) front_113), some ((eL .imm (eL .imm eS)) rights_114), none, none, none]) rfl ?_
    refine sr_if xt (ev_or (ev_b (ev_binp (ft := (fun a b => Res.ok (decide (a > b)))) op_gt (ev_dm (ev_unp (ft := (fun a => Res.ok ((List.length a : Nat) : Int))) op_lenL (ev_var (e := (eL .imm (eL .imm eS))) (a := front_113) rfl))) (ev_dm (ev_c (e := eI) (a := 2) rfl)))) (ev_b (ev_bin (ft := (fun a b => Res.ok (!eqB a b))) (op_ne rfl rfl) (ev_dm (ev_un (ft := (fun a => Res.ok ((List.length a : Nat) : Int))) op_lenL (ev_binp (ft := ixL) op_ixL (ev_var (e := (eL .imm (eL .imm eS))) (a := front_113) rfl) (ev_dm (ev_c (e := eI) (a := 0) rfl))))) (ev_dm (ev_c (e := eI) (a := 1) rfl))))) ?_ ?_
    · exact sr_ret xt (fun _ => trivial) (Ev.coP (g := eN) (g' := (eO (eT (pc (eO eS) (pc (eL .imm eS) (p1 (eL .imm eS))))))) (fun a => none) (fun _ => rfl) (ev_c (e := eN) (a := ()) rfl))
    · refine sr_pass ?_
      refine sr_forF (fun (s118 : Unit) (o119 : Option D) => [some ((eL .imm eS) a_words), some ((eL .imm (eL .imm eS)) parts_109), some ((eL .imm (eL .imm eS)) front_113), some ((eL .imm (eL .imm eS)) rights_114), o119, none, none]) (e := (eL .imm eS)) (none) xt (ev_itp (ft := (fun a => Res.ok a)) (op_it (by decide)) (ev_var (e := (eL .imm (eL .imm eS))) (a := rights_114) rfl)) rfl ?_ ?_
      · intro i120 s118 o119
        refine ⟨_, (ud_name (e := (eL .imm eS)) (x := i120) rfl), ?_⟩
        refine sr_env (E' := [some ((eL .imm eS) a_words), some ((eL .imm (eL .imm eS)) parts_109), some ((eL .imm (eL .imm eS)) front_113), some ((eL .imm (eL .imm eS)) rights_114), some ((eL .imm eS) i120), none, none]) rfl ?_
        refine sr_last ?_
        refine sr_if xt (ev_or (ev_b (ev_binp (ft := (fun a b => Res.ok (eqB a b))) (op_eq rfl rfl) (ev_dm (ev_unp (ft := (fun a => Res.ok ((List.length a : Nat) : Int))) op_lenL (ev_var (e := (eL .imm eS)) (a := i120) rfl))) (ev_dm (ev_c (e := eI) (a := 0) rfl)))) (ev_not (ev_truI (ev_dm (ev_argsp (es := (p1 (eL .imm eS))) (a := i120) (e2 := eB) (ft := T__law_all_names i120) (t__law_all_names i120) (ev_tone (ev_dm (ev_var (e := (eL .imm eS)) (a := i120) rfl)))))))) ?_ ?_
        · exact sr_ret xt (fun _ => trivial) (Ev.coP (g := eN) (g' := (eO (eT (pc (eO eS) (pc (eL .imm eS) (p1 (eL .imm eS))))))) (fun a => none) (fun _ => rfl) (ev_c (e := eN) (a := ()) rfl))
        · refine sr_pass ?_
          exact sr_nilF (some ((eL .imm eS) i120)) rfl
      intro u121 o122
      refine sr_env (E' := [some ((eL .imm eS) a_words), some ((eL .imm (eL .imm eS)) parts_109), some ((eL .imm (eL .imm eS)) front_113), some ((eL .imm (eL .imm eS)) rights_114), o122, none, none]) rfl ?_
      refine sr_asgV (e := (eL .imm eS)) xt (ev_bin (ft := ixL) op_ixL (ev_dm (ev_binp (ft := (fun a b => lim (a ++ b))) (op_addL (by decide) (by decide)) (ev_var (e := (eL .imm (eL .imm eS))) (a := front_113) rfl) (ev_dm (ev_lstp (ev_consp (ev_fr (ev_lst0 (e := eS))) (ev_nil (e := (eL .imm eS)))) rfl)))) (ev_dm (ev_c (e := eI) (a := 1) rfl))) rfl ?_
      intro holds_127
      refine sr_env (E' := [some ((eL .imm eS) a_words), some ((eL .imm (eL .imm eS)) parts_109), some ((eL .imm (eL .imm eS)) front_113), some ((eL .imm (eL .imm eS)) rights_114), o122, some ((eL .imm eS) holds_127), none]) rfl ?_
      refine sr_asgV (e := (eL .imm eS)) xt (ev_bin (ft := ixL) op_ixL (ev_dm (ev_binp (ft := (fun a b => lim (a ++ b))) (op_addL (by decide) (by decide)) (ev_var (e := (eL .imm (eL .imm eS))) (a := parts_109) rfl) (ev_dm (ev_lstp (ev_consp (ev_fr (ev_lst0 (e := eS))) (ev_nil (e := (eL .imm eS)))) rfl)))) (ev_dm (ev_c (e := eI) (a := 1) rfl))) rfl ?_
      intro lacks_132
      refine sr_env (E' := [some ((eL .imm eS) a_words), some ((eL .imm (eL .imm eS)) parts_109), some ((eL .imm (eL .imm eS)) front_113), some ((eL .imm (eL .imm eS)) rights_114), o122, some ((eL .imm eS) holds_127), some ((eL .imm eS) lacks_132)]) rfl ?_
      refine sr_if xt (ev_b (ev_bin (ft := (fun a b => Res.ok (eqB a b))) (op_eq rfl rfl) (ev_bin (ft := ixL) op_ixL (ev_binp (ft := ixL) op_ixL (ev_var (e := (eL .imm (eL .imm eS))) (a := front_113) rfl) (ev_dm (ev_c (e := eI) (a := 0) rfl))) (ev_dm (ev_c (e := eI) (a := 0) rfl))) (ev_dm (ev_c (e := eS) (a := (['a', 'n', 'y', 'b', 'o', 'd', 'y'] : Tx)) rfl)))) ?_ ?_
      · exact sr_ret xt (fun _ => trivial) (Ev.coP (g := (eT (pc eN (pc (eL .imm eS) (p1 (eL .imm eS)))))) (g' := (eO (eT (pc (eO eS) (pc (eL .imm eS) (p1 (eL .imm eS))))))) (fun a => (some (none, a.2.1, a.2.2))) (fun _ => rfl) (ev_tup (ev_tconsp (ev_fr (ev_c (e := eN) (a := ()) rfl)) (ev_tconsp (ev_fr (ev_chk (ev_var (e := (eL .imm eS)) (a := holds_127) rfl))) (ev_tone (ev_fr (ev_chk (ev_var (e := (eL .imm eS)) (a := lacks_132) rfl)))))) rfl))
      · refine sr_pass ?_
        refine sr_if xt (ev_not (ev_truI (ev_dm (ev_args (es := (p1 (eL .imm eS))) (e2 := eB) (ft := fun x137 => T__law_all_names x137) (fun x137 => t__law_all_names x137) (ev_tone (ev_dm (ev_binp (ft := ixL) op_ixL (ev_var (e := (eL .imm (eL .imm eS))) (a := front_113) rfl) (ev_dm (ev_c (e := eI) (a := 0) rfl))))))))) ?_ ?_
        · exact sr_ret xt (fun _ => trivial) (Ev.coP (g := eN) (g' := (eO (eT (pc (eO eS) (pc (eL .imm eS) (p1 (eL .imm eS))))))) (fun a => none) (fun _ => rfl) (ev_c (e := eN) (a := ()) rfl))
        · refine sr_pass ?_
          refine sr_last ?_
          exact sr_ret xt (fun _ => trivial) (Ev.co (g := (eT (pc eS (pc (eL .imm eS) (p1 (eL .imm eS)))))) (g' := (eO (eT (pc (eO eS) (pc (eL .imm eS) (p1 (eL .imm eS))))))) (fun a => (some ((some a.1), a.2.1, a.2.2))) (fun _ => rfl) (ev_tup (ev_tcons (ev_fr (ev_chk (ev_bin (ft := ixL) op_ixL (ev_binp (ft := ixL) op_ixL (ev_var (e := (eL .imm (eL .imm eS))) (a := front_113) rfl) (ev_dm (ev_c (e := eI) (a := 0) rfl))) (ev_dm (ev_c (e := eI) (a := 0) rfl))))) (ev_tconsp (ev_fr (ev_chk (ev_var (e := (eL .imm eS)) (a := holds_127) rfl))) (ev_tone (ev_fr (ev_chk (ev_var (e := (eL .imm eS)) (a := lacks_132) rfl)))))) rfl))
@[irreducible] def T__law_goal_of (a_words : (List Tx)) : Res (Option ((List (Option ((Option Tx) × (List Tx) × (List Tx)))) × (List Tx))) := kEnd (kLet (T__law_split a_words (['t', 'r', 'u', 's', 't', 'i', 'n', 'g'] : Tx)) fun (parts_62 : (List (List Tx))) => (kIf (kOr (Res.ok (decide (((parts_62.length : Nat) : Int) > (2 : Int)))) (kAnd (Res.ok (eqB ((parts_62.length : Nat) : Int) (2 : Int))) (kOr (((ixL parts_62 (1 : Int)) >>= fun x63 => (fun a => Res.ok ((List.length a : Nat) : Int)) x63) >>= fun x64 => (Res.ok (0 : Int)) >>= fun x65 => (fun a b => Res.ok (eqB a b)) x64 x65) (kNot ((ixL parts_62 (1 : Int)) >>= fun x66 => T__law_all_names x66))))) (kRet (Res.ok none)) (kLet ((((ixL parts_62 (0 : Int)) >>= fun x67 => (Res.ok (['a', 'n', 'd'] : Tx)) >>= fun x68 => Res.ok (x67, x68)) >>= fun x69 => T__law_split x69.1 x69.2) >>= fun x71 => kLc x71 (fun (c70 : (List Tx)) => (Res.ok true)) (fun (c70 : (List Tx)) => (T__law_demand c70))) fun (goal_72 : (List (Option ((Option Tx) × (List Tx) × (List Tx))))) => (if (memB none goal_72) = true then (kRet (Res.ok none)) else (kRet (((Res.ok goal_72) >>= fun x75 => (((fun a b => lim (a ++ b)) parts_62 [([] : (List Tx))]) >>= fun x73 => (Res.ok (1 : Int)) >>= fun x74 => ixL x73 x74) >>= fun x76 => Res.ok (x75, x76)) >>= fun a => Res.ok (some a)))))))
theorem t__law_goal_of (a_words : (List Tx)) : Ev (F__law_goal_of [(eL .imm eS) a_words]) (eO (eT (pc (eL .imm (eO (eT (pc (eO eS) (pc (eL .imm eS) (p1 (eL .imm eS))))))) (p1 (eL .imm eS))))) (T__law_goal_of a_words) := by
  unfold T__law_goal_of
  refine fr_body (n := 1) (m := 4) (Rn := fun r _ => (eO (eT (pc (eL .imm (eO (eT (pc (eO eS) (pc (eL .imm eS) (p1 (eL .imm eS))))))) (p1 (eL .imm eS))))) r = .non) (Rl := fun _ _ => True) rfl (fun _ _ h => h) ?_
  show SR (S__law_goal_of [some ((eL .imm eS) a_words), none, none, none]) _ _ _ _ _
  unfold S__law_goal_of
  refine sr_asg (e := (eL .imm (eL .imm eS))) xt (ev_fr (ev_argsp (es := (pc (eL .imm eS) (p1 eS))) (a := (a_words, (['t', 'r', 'u', 's', 't', 'i', 'n', 'g'] : Tx))) (e2 := (eL .own (eL .own eS))) (ft := T__law_split a_words (['t', 'r', 'u', 's', 't', 'i', 'n', 'g'] : Tx)) (t__law_split a_words (['t', 'r', 'u', 's', 't', 'i', 'n', 'g'] : Tx)) (ev_tconsp (ev_dm (ev_var (e := (eL .imm eS)) (a := a_words) rfl)) (ev_tone (ev_dm (ev_dm (ev_c (e := eS) (a := (['t', 'r', 'u', 's', 't', 'i', 'n', 'g'] : Tx)) rfl))))))) rfl ?_
  intro parts_62
  refine sr_if xt (ev_or (ev_b (ev_binp (ft := (fun a b => Res.ok (decide (a > b)))) op_gt (ev_dm (ev_unp (ft := (fun a => Res.ok ((List.length a : Nat) : Int))) op_lenL (ev_var (e := (eL .imm (eL .imm eS))) (a := parts_62) rfl))) (ev_dm (ev_c (e := eI) (a := 2) rfl)))) (ev_and (ev_b (ev_binp (ft := (fun a b => Res.ok (eqB a b))) (op_eq rfl rfl) (ev_dm (ev_unp (ft := (fun a => Res.ok ((List.length a : Nat) : Int))) op_lenL (ev_var (e := (eL .imm (eL .imm eS))) (a := parts_62) rfl))) (ev_dm (ev_c (e := eI) (a := 2) rfl)))) (ev_or (ev_b (ev_bin (ft := (fun a b => Res.ok (eqB a b))) (op_eq rfl rfl) (ev_dm (ev_un (ft := (fun a => Res.ok ((List.length a : Nat) : Int))) op_lenL (ev_binp (ft := ixL) op_ixL (ev_var (e := (eL .imm (eL .imm eS))) (a := parts_62) rfl) (ev_dm (ev_c (e := eI) (a := 1) rfl))))) (ev_dm (ev_c (e := eI) (a := 0) rfl)))) (ev_not (ev_truI (ev_dm (ev_args (es := (p1 (eL .imm eS))) (e2 := eB) (ft := fun x66 => T__law_all_names x66) (fun x66 => t__law_all_names x66) (ev_tone (ev_dm (ev_binp (ft := ixL) op_ixL (ev_var (e := (eL .imm (eL .imm eS))) (a := parts_62) rfl) (ev_dm (ev_c (e := eI) (a := 1) rfl)))))))))))) ?_ ?_
  · exact sr_ret xt (fun _ => trivial) (Ev.coP (g := eN) (g' := (eO (eT (pc (eL .imm (eO (eT (pc (eO eS) (pc (eL .imm eS) (p1 (eL .imm eS))))))) (p1 (eL .imm eS)))))) (fun a => none) (fun _ => rfl) (ev_c (e := eN) (a := ()) rfl))
  · refine sr_pass ?_
    refine sr_asg (e := (eL .own (eO (eT (pc (eO eS) (pc (eL .imm eS) (p1 (eL .imm eS)))))))) xt (ev_lc (e := (eL .imm eS)) (e2 := (eO (eT (pc (eO eS) (pc (eL .imm eS) (p1 (eL .imm eS))))))) (e3 := (eO (eT (pc (eO eS) (pc (eL .imm eS) (p1 (eL .imm eS))))))) (tc := (fun (c70 : (List Tx)) => (Res.ok true))) (tb := (fun (c70 : (List Tx)) => (T__law_demand c70))) (ev_itI (op_it (by decide)) (ev_dm (ev_fr (ev_args (es := (pc (eL .imm eS) (p1 eS))) (e2 := (eL .own (eL .own eS))) (ft := fun x69 => T__law_split x69.1 x69.2) (fun x69 => t__law_split x69.1 x69.2) (ev_tcons (ev_dm (ev_binp (ft := ixL) op_ixL (ev_var (e := (eL .imm (eL .imm eS))) (a := parts_62) rfl) (ev_dm (ev_c (e := eI) (a := 0) rfl)))) (ev_tone (ev_dm (ev_dm (ev_c (e := eS) (a := (['a', 'n', 'd'] : Tx)) rfl))))))))) (fun (c70 : (List Tx)) => ⟨_, (ud_name (e := (eL .imm eS)) (x := c70) rfl), ev_yes, (ev_argsp (es := (p1 (eL .imm eS))) (a := c70) (e2 := (eO (eT (pc (eO eS) (pc (eL .imm eS) (p1 (eL .imm eS))))))) (ft := T__law_demand c70) (t__law_demand c70) (ev_tone (ev_dm (ev_var (e := (eL .imm eS)) (a := c70) rfl))))⟩)) rfl ?_
    intro goal_72
    refine sr_ifp (ev_b (ev_binp (ft := (fun a b => Res.ok (memB a b))) (op_inL rfl rfl) (Ev.coP (g := eN) (g' := (eO (eT (pc (eO eS) (pc (eL .imm eS) (p1 (eL .imm eS))))))) (fun a => none) (fun _ => rfl) (ev_dm (ev_c (e := eN) (a := ()) rfl))) (ev_var (e := (eL .own (eO (eT (pc (eO eS) (pc (eL .imm eS) (p1 (eL .imm eS)))))))) (a := goal_72) rfl))) ?_ ?_
    · exact sr_ret xt (fun _ => trivial) (Ev.coP (g := eN) (g' := (eO (eT (pc (eL .imm (eO (eT (pc (eO eS) (pc (eL .imm eS) (p1 (eL .imm eS))))))) (p1 (eL .imm eS)))))) (fun a => none) (fun _ => rfl) (ev_c (e := eN) (a := ()) rfl))
    · refine sr_pass ?_
      refine sr_last ?_
      refine sr_frz (i := 2) (e := (eL .own (eO (eT (pc (eO eS) (pc (eL .imm eS) (p1 (eL .imm eS)))))))) (a := goal_72) rfl ?_
      exact sr_ret xt (fun _ => trivial) (Ev.co (g := (eT (pc (eL .imm (eO (eT (pc (eO eS) (pc (eL .imm eS) (p1 (eL .imm eS))))))) (p1 (eL .imm eS))))) (g' := (eO (eT (pc (eL .imm (eO (eT (pc (eO eS) (pc (eL .imm eS) (p1 (eL .imm eS))))))) (p1 (eL .imm eS)))))) (fun a => (some a)) (fun _ => rfl) (ev_tup (ev_tcons (ev_fr (ev_chk (ev_var (e := (eL .imm (eO (eT (pc (eO eS) (pc (eL .imm eS) (p1 (eL .imm eS)))))))) (a := goal_72) rfl))) (ev_tone (ev_fr (ev_chk (ev_bin (ft := ixL) op_ixL (ev_dm (ev_binp (ft := (fun a b => lim (a ++ b))) (op_addL (by decide) (by decide)) (ev_var (e := (eL .imm (eL .imm eS))) (a := parts_62) rfl) (ev_dm (ev_lstp (ev_consp (ev_fr (ev_lst0 (e := eS))) (ev_nil (e := (eL .imm eS)))) rfl)))) (ev_dm (ev_c (e := eI) (a := 1) rfl))))))) rfl))
@[irreducible] def T_law (a_script : (List Int)) : Res Bool := kEnd (kLet (T__law_numbers a_script (60 : Int)) fun (numbers_here_69 : (List Int)) => (kLet ((((ixL numbers_here_69 (40 : Int)) >>= fun x70 => (fun a => Res.ok (a % 9)) x70) >>= rng1) >>= fun x75 => kLc x75 (fun (c71 : Int) => (Res.ok true)) (fun (c71 : Int) => (((ixL numbers_here_69 (2 * c71)) >>= fun x72 => (ixL numbers_here_69 ((2 * c71) + (1 : Int))) >>= fun x73 => Res.ok (x72, x73)) >>= fun x74 => T__law_word x74.1 x74.2))) fun (words_76 : (List Tx)) => (kLet (Res.ok words_76) fun (line_77 : (List Tx)) => (kSeq (kIf (((ixL numbers_here_69 (41 : Int)) >>= fun x78 => (fun a => Res.ok (a % 3)) x78) >>= fun x79 => (Res.ok (0 : Int)) >>= fun x80 => (fun a b => Res.ok (decide (a > b))) x79 x80) (kLet (T__law_formed numbers_here_69 (42 : Int) words_76) fun (line_83 : (List Tx)) => (kIf (((ixL numbers_here_69 (50 : Int)) >>= fun x84 => (fun a => Res.ok (a % 3)) x84) >>= fun x85 => (Res.ok (0 : Int)) >>= fun x86 => (fun a b => Res.ok (decide (a > b))) x85 x86) (kLet (((Res.ok numbers_here_69) >>= fun x94 => ((Res.ok (51 : Int)) >>= fun x92 => ((Res.ok line_83) >>= fun x90 => (((ixL numbers_here_69 (52 : Int)) >>= fun x87 => (ixL numbers_here_69 (53 : Int)) >>= fun x88 => Res.ok (x87, x88)) >>= fun x89 => T__law_word x89.1 x89.2) >>= fun x91 => Res.ok (x90, x91)) >>= fun x93 => Res.ok (x92, x93)) >>= fun x95 => Res.ok (x94, x95)) >>= fun x96 => T__law_turned x96.1 x96.2.1 x96.2.2.1 x96.2.2.2) fun (line_97 : (List Tx)) => (TR.nx line_97)) (TR.nx line_83))) (TR.nx line_77)) fun (u81 : ((List Tx))) => (kLet (Res.ok u81) fun (passed_98 : (List Tx)) => (kLet (T_goal_of passed_98) fun (actual_99 : (Option ((List (Option ((Option Tx) × (List Tx) × (List Tx)))) × (List Tx)))) => (kLet (T__law_goal_of u81) fun (due_100 : (Option ((List (Option ((Option Tx) × (List Tx) × (List Tx)))) × (List Tx)))) => (if (!eqB passed_98 u81) = true then (kRet (Res.ok false)) else (if due_100.isNone = true then (kRet (Res.ok actual_99.isNone)) else (kRet (kAnd (Res.ok actual_99.isSome) (((reprT (eO (eT (pc (eL .imm (eO (eT (pc (eO eS) (pc (eL .imm eS) (p1 (eL .imm eS))))))) (p1 (eL .imm eS)))))) actual_99) >>= fun x101 => ((reprT (eO (eT (pc (eL .imm (eO (eT (pc (eO eS) (pc (eL .imm eS) (p1 (eL .imm eS))))))) (p1 (eL .imm eS)))))) due_100) >>= fun x102 => (fun a b => Res.ok (decide (a = b))) x101 x102))))))))))))
theorem t_law (a_script : (List Int)) : Ev (F_law [(eL .frz eI) a_script]) eB (T_law a_script) := by
  unfold T_law
  refine fr_body (n := 1) (m := 8) (Rn := fun r _ => eB r = .non) (Rl := fun _ _ => True) rfl (fun _ _ h => h) ?_
  show SR (S_law [some ((eL .frz eI) a_script), none, none, none, none, none, none, none]) _ _ _ _ _
  unfold S_law
  refine sr_asg (e := (eL .imm eI)) xt (ev_fr (ev_argsp (es := (pc (eL .frz eI) (p1 eI))) (a := (a_script, (60 : Int))) (e2 := (eL .own eI)) (ft := T__law_numbers a_script (60 : Int)) (t__law_numbers a_script (60 : Int)) (ev_tconsp (ev_dm (ev_var (e := (eL .frz eI)) (a := a_script) rfl)) (ev_tone (ev_dm (ev_dm (ev_c (e := eI) (a := 60) rfl))))))) rfl ?_
  intro numbers_here_69
  refine sr_env (E' := [some ((eL .frz eI) a_script), some ((eL .imm eI) numbers_here_69), none, none, none, none, none, none]) rfl ?_
  refine sr_asg (e := (eL .own eS)) xt (ev_lc (e := eI) (e2 := eS) (e3 := eS) (tc := (fun (c71 : Int) => (Res.ok true))) (tb := (fun (c71 : Int) => (((ixL numbers_here_69 (2 * c71)) >>= fun x72 => (ixL numbers_here_69 ((2 * c71) + (1 : Int))) >>= fun x73 => Res.ok (x72, x73)) >>= fun x74 => T__law_word x74.1 x74.2))) (ev_rng1 (ev_dm (ev_binc (ft := (fun a => Res.ok (a % 9))) (fun a => op_modIc (9) rfl a) (ev_dm (ev_unI op_int (ev_binp (ft := ixL) op_ixL (ev_var (e := (eL .imm eI)) (a := numbers_here_69) rfl) (ev_dm (ev_c (e := eI) (a := 40) rfl))))) (ev_dm (ev_c (e := eI) (a := 9) rfl))))) (fun (c71 : Int) => ⟨_, (ud_name (e := eI) (x := c71) rfl), ev_yes, (ev_args (es := (pc eI (p1 eI))) (e2 := eS) (ft := fun x74 => T__law_word x74.1 x74.2) (fun x74 => t__law_word x74.1 x74.2) (ev_tcons (ev_dm (ev_binp (ft := ixL) op_ixL (ev_var (e := (eL .imm eI)) (a := numbers_here_69) rfl) (ev_dm (ev_bincpl (ft := (fun a => Res.ok (2 * a))) (fun a => op_mulcI (2) rfl a) (ev_dm (ev_c (e := eI) (a := 2) rfl)) (ev_var (e := eI) (a := c71) rfl))))) (ev_tone (ev_dm (ev_binp (ft := ixL) op_ixL (ev_var (e := (eL .imm eI)) (a := numbers_here_69) rfl) (ev_dm (ev_binp (ft := (fun a b => Res.ok (a + b))) op_addI (ev_dm (ev_bincpl (ft := (fun a => Res.ok (2 * a))) (fun a => op_mulcI (2) rfl a) (ev_dm (ev_c (e := eI) (a := 2) rfl)) (ev_var (e := eI) (a := c71) rfl))) (ev_dm (ev_c (e := eI) (a := 1) rfl)))))))))⟩)) rfl ?_
  intro words_76
  refine sr_env (E' := [some ((eL .frz eI) a_script), some ((eL .imm eI) numbers_here_69), some ((eL .own eS) words_76), none, none, none, none, none]) rfl ?_
  refine sr_frz (i := 2) (e := (eL .own eS)) (a := words_76) rfl ?_
  refine sr_asg (e := (eL .imm eS)) xt (ev_fr (ev_unp (ft := (fun a => Res.ok a)) op_listL (ev_var (e := (eL .imm eS)) (a := words_76) rfl))) rfl ?_
  intro line_77
  refine sr_env (E' := [some ((eL .frz eI) a_script), some ((eL .imm eI) numbers_here_69), some ((eL .imm eS) words_76), some ((eL .imm eS) line_77), none, none, none, none]) rfl ?_
  refine sr_joinF (fun (u81 : ((List Tx))) (o82 : Unit) => [some ((eL .frz eI) a_script), some ((eL .imm eI) numbers_here_69), some ((eL .imm eS) words_76), some ((eL .imm eS) u81), none, none, none, none]) (sr_last ?_) ?_
  · refine sr_if xt (ev_b (ev_bin (ft := (fun a b => Res.ok (decide (a > b)))) op_gt (ev_dm (ev_binc (ft := (fun a => Res.ok (a % 3))) (fun a => op_modIc (3) rfl a) (ev_dm (ev_unI op_int (ev_binp (ft := ixL) op_ixL (ev_var (e := (eL .imm eI)) (a := numbers_here_69) rfl) (ev_dm (ev_c (e := eI) (a := 41) rfl))))) (ev_dm (ev_c (e := eI) (a := 3) rfl)))) (ev_dm (ev_c (e := eI) (a := 0) rfl)))) ?_ ?_
    · refine sr_assoc ?_
      refine sr_frz (i := 2) (e := (eL .imm eS)) (a := words_76) rfl ?_
      refine sr_asg (e := (eL .imm eS)) xt (ev_fr (ev_argsp (es := (pc (eL .imm eI) (pc eI (p1 (eL .imm eS))))) (a := (numbers_here_69, (42 : Int), words_76)) (e2 := (eL .own eS)) (ft := T__law_formed numbers_here_69 (42 : Int) words_76) (t__law_formed numbers_here_69 (42 : Int) words_76) (ev_tconsp (ev_dm (ev_var (e := (eL .imm eI)) (a := numbers_here_69) rfl)) (ev_tconsp (ev_dm (ev_dm (ev_c (e := eI) (a := 42) rfl))) (ev_tone (ev_dm (ev_var (e := (eL .imm eS)) (a := words_76) rfl))))))) rfl ?_
      intro line_83
      refine sr_env (E' := [some ((eL .frz eI) a_script), some ((eL .imm eI) numbers_here_69), some ((eL .imm eS) words_76), some ((eL .imm eS) line_83), none, none, none, none]) rfl ?_
      refine sr_if xt (ev_b (ev_bin (ft := (fun a b => Res.ok (decide (a > b)))) op_gt (ev_dm (ev_binc (ft := (fun a => Res.ok (a % 3))) (fun a => op_modIc (3) rfl a) (ev_dm (ev_unI op_int (ev_binp (ft := ixL) op_ixL (ev_var (e := (eL .imm eI)) (a := numbers_here_69) rfl) (ev_dm (ev_c (e := eI) (a := 50) rfl))))) (ev_dm (ev_c (e := eI) (a := 3) rfl)))) (ev_dm (ev_c (e := eI) (a := 0) rfl)))) ?_ ?_
      · refine sr_asg (e := (eL .imm eS)) xt (ev_fr (ev_args (es := (pc (eL .imm eI) (pc eI (pc (eL .imm eS) (p1 eS))))) (e2 := (eL .imm eS)) (ft := fun x96 => T__law_turned x96.1 x96.2.1 x96.2.2.1 x96.2.2.2) (fun x96 => t__law_turned x96.1 x96.2.1 x96.2.2.1 x96.2.2.2) (ev_tcons (ev_dm (ev_var (e := (eL .imm eI)) (a := numbers_here_69) rfl)) (ev_tcons (ev_dm (ev_dm (ev_c (e := eI) (a := 51) rfl))) (ev_tcons (ev_dm (ev_var (e := (eL .imm eS)) (a := line_83) rfl)) (ev_tone (ev_dm (ev_dm (ev_fr (ev_args (es := (pc eI (p1 eI))) (e2 := eS) (ft := fun x89 => T__law_word x89.1 x89.2) (fun x89 => t__law_word x89.1 x89.2) (ev_tcons (ev_dm (ev_binp (ft := ixL) op_ixL (ev_var (e := (eL .imm eI)) (a := numbers_here_69) rfl) (ev_dm (ev_c (e := eI) (a := 52) rfl)))) (ev_tone (ev_dm (ev_binp (ft := ixL) op_ixL (ev_var (e := (eL .imm eI)) (a := numbers_here_69) rfl) (ev_dm (ev_c (e := eI) (a := 53) rfl)))))))))))))))) rfl ?_
        intro line_97
        refine sr_env (E' := [some ((eL .frz eI) a_script), some ((eL .imm eI) numbers_here_69), some ((eL .imm eS) words_76), some ((eL .imm eS) line_97), none, none, none, none]) rfl ?_
        exact sr_nilF (()) rfl
      · refine sr_pass ?_
        exact sr_nilF (()) rfl
    · refine sr_pass ?_
      exact sr_nilF (()) rfl
  intro u81 o82
  refine sr_env (E' := [some ((eL .frz eI) a_script), some ((eL .imm eI) numbers_here_69), some ((eL .imm eS) words_76), some ((eL .imm eS) u81), none, none, none, none]) rfl ?_
  refine sr_asg (e := (eL .imm eS)) xt (ev_fr (ev_unp (ft := (fun a => Res.ok a)) op_listL (ev_var (e := (eL .imm eS)) (a := u81) rfl))) rfl ?_
  intro passed_98
  refine sr_env (E' := [some ((eL .frz eI) a_script), some ((eL .imm eI) numbers_here_69), some ((eL .imm eS) words_76), some ((eL .imm eS) u81), some ((eL .imm eS) passed_98), none, none, none]) rfl ?_
  refine sr_asg (e := (eO (eT (pc (eL .imm (eO (eT (pc (eO eS) (pc (eL .imm eS) (p1 (eL .imm eS))))))) (p1 (eL .imm eS)))))) xt (ev_fr (ev_argsp (es := (p1 (eL .imm eS))) (a := passed_98) (e2 := (eO (eT (pc (eL .imm (eO (eT (pc (eO eS) (pc (eL .imm eS) (p1 (eL .imm eS))))))) (p1 (eL .imm eS)))))) (ft := T_goal_of passed_98) (t_goal_of passed_98) (ev_tone (ev_dm (ev_var (e := (eL .imm eS)) (a := passed_98) rfl))))) rfl ?_
  intro actual_99
  refine sr_env (E' := [some ((eL .frz eI) a_script), some ((eL .imm eI) numbers_here_69), some ((eL .imm eS) words_76), some ((eL .imm eS) u81), some ((eL .imm eS) passed_98), some ((eO (eT (pc (eL .imm (eO (eT (pc (eO eS) (pc (eL .imm eS) (p1 (eL .imm eS))))))) (p1 (eL .imm eS))))) actual_99), none, none]) rfl ?_
  refine sr_asg (e := (eO (eT (pc (eL .imm (eO (eT (pc (eO eS) (pc (eL .imm eS) (p1 (eL .imm eS))))))) (p1 (eL .imm eS)))))) xt (ev_fr (ev_argsp (es := (p1 (eL .imm eS))) (a := u81) (e2 := (eO (eT (pc (eL .imm (eO (eT (pc (eO eS) (pc (eL .imm eS) (p1 (eL .imm eS))))))) (p1 (eL .imm eS)))))) (ft := T__law_goal_of u81) (t__law_goal_of u81) (ev_tone (ev_dm (ev_var (e := (eL .imm eS)) (a := u81) rfl))))) rfl ?_
  intro due_100
  refine sr_env (E' := [some ((eL .frz eI) a_script), some ((eL .imm eI) numbers_here_69), some ((eL .imm eS) words_76), some ((eL .imm eS) u81), some ((eL .imm eS) passed_98), some ((eO (eT (pc (eL .imm (eO (eT (pc (eO eS) (pc (eL .imm eS) (p1 (eL .imm eS))))))) (p1 (eL .imm eS))))) actual_99), some ((eO (eT (pc (eL .imm (eO (eT (pc (eO eS) (pc (eL .imm eS) (p1 (eL .imm eS))))))) (p1 (eL .imm eS))))) due_100), none]) rfl ?_
  refine sr_ifp (ev_b (ev_binp (ft := (fun a b => Res.ok (!eqB a b))) (op_ne rfl rfl) (ev_var (e := (eL .imm eS)) (a := passed_98) rfl) (ev_var (e := (eL .imm eS)) (a := u81) rfl))) ?_ ?_
  · exact sr_ret xt (fun _ => trivial) (ev_c (e := eB) (a := false) rfl)
  · refine sr_pass ?_
    refine sr_ifp (ev_b (ev_binp (ft := (fun a _ => Res.ok (Option.isNone a))) op_is (ev_var (e := (eO (eT (pc (eL .imm (eO (eT (pc (eO eS) (pc (eL .imm eS) (p1 (eL .imm eS))))))) (p1 (eL .imm eS)))))) (a := due_100) rfl) (ev_dm (ev_c (e := eN) (a := ()) rfl)))) ?_ ?_
    · exact sr_ret xt (fun _ => trivial) (ev_binp (ft := (fun a _ => Res.ok (Option.isNone a))) op_is (ev_var (e := (eO (eT (pc (eL .imm (eO (eT (pc (eO eS) (pc (eL .imm eS) (p1 (eL .imm eS))))))) (p1 (eL .imm eS)))))) (a := actual_99) rfl) (ev_dm (ev_c (e := eN) (a := ()) rfl)))
    · refine sr_pass ?_
      refine sr_last ?_
      exact sr_ret xt (fun _ => trivial) (ev_andV (ev_unp (ft := (fun a => Res.ok (Option.isSome a))) (op_isiO1 (by decide +kernel) (by decide +kernel)) (ev_var (e := (eO (eT (pc (eL .imm (eO (eT (pc (eO eS) (pc (eL .imm eS) (p1 (eL .imm eS))))))) (p1 (eL .imm eS)))))) (a := actual_99) rfl)) (ev_bin (ft := (fun a b => Res.ok (decide (a = b)))) op_eqZ (ev_dm (ev_unp (ft := (reprT (eO (eT (pc (eL .imm (eO (eT (pc (eO eS) (pc (eL .imm eS) (p1 (eL .imm eS))))))) (p1 (eL .imm eS))))))) (op_repr (e := (eO (eT (pc (eL .imm (eO (eT (pc (eO eS) (pc (eL .imm eS) (p1 (eL .imm eS))))))) (p1 (eL .imm eS))))))) (ev_var (e := (eO (eT (pc (eL .imm (eO (eT (pc (eO eS) (pc (eL .imm eS) (p1 (eL .imm eS))))))) (p1 (eL .imm eS)))))) (a := actual_99) rfl))) (ev_dm (ev_unp (ft := (reprT (eO (eT (pc (eL .imm (eO (eT (pc (eO eS) (pc (eL .imm eS) (p1 (eL .imm eS))))))) (p1 (eL .imm eS))))))) (op_repr (e := (eO (eT (pc (eL .imm (eO (eT (pc (eO eS) (pc (eL .imm eS) (p1 (eL .imm eS))))))) (p1 (eL .imm eS))))))) (ev_var (e := (eO (eT (pc (eL .imm (eO (eT (pc (eO eS) (pc (eL .imm eS) (p1 (eL .imm eS))))))) (p1 (eL .imm eS)))))) (a := due_100) rfl)))))
end K61
end
noncomputable section
namespace K61
open PySem L2 PD
theorem row_ok (c : Int) (k : Nat) (hk : k ≤ 10000) : ∃ rs, T__law_row c (k : Int) = .ok rs ∧ rs.length = k ∧ Small rs := by
  refine wpR_get ?_
  unfold T__law_row
  rw [rng1_nat (by omega)]
  generalize (if c < 0 then -c else c) = a0
  simp only [wpR_end, wpT_let, wpT_seq, wpR_ok]
  refine wpT_for (fun pre s => s.2.1.length = pre.length ∧ Small s.2.1) ⟨rfl, fun _ h => (by cases h)⟩ (fun p x q s e ⟨i1, i2⟩ => ?_) (fun s ⟨i1, i2⟩ => ?_)
  · have hl := congrArg List.length e
    simp at hl
    simp only [wpT_let, wpR_ok, wpT_ite, wpT_nx, res_bind_ok]
    rw [appL_ok (by omega), appL_ok (by omega)]
    split
    · exact ⟨by simp [i1], i2.snoc (by omega) (by omega)⟩
    · exact ⟨by simp [i1], i2.snoc (by omega) (by omega)⟩
  · exact ⟨by simpa using i1, i2⟩
theorem cells_len (script : List Int) : (cutL script none (some 63)).length ≤ 63 := by
  have := cutL_take script 63
  rw [show ((63 : Nat) : Int) = 63 from rfl] at this
  rw [this, List.length_take]
  omega
theorem numbers_ok (script : List Int) (n : Nat) (hn : n ≤ 5000) : ∃ ns, T__law_numbers script (n : Int) = .ok ns ∧ ns.length = n ∧ Small ns := by
  refine wpR_get ?_
  unfold T__law_numbers
  simp only [kLet_ok, res_bind_ok]
  have hc := cells_len script
  generalize cutL script none (some 63) = cells at hc ⊢
  have hm : ∃ m : Nat, (if ((cells.length : Nat) : Int) > 1 then ((cells.length : Nat) : Int) else 1) = (m : Int) ∧ 0 < m ∧ m ≤ 63 := by
    by_cases h : ((cells.length : Nat) : Int) > 1
    · rw [if_pos h]; exact ⟨_, rfl, by omega, hc⟩
    · rw [if_neg h]; exact ⟨1, rfl, by omega, by omega⟩
  obtain ⟨m, hm1, hm2, hm3⟩ := hm
  rw [hm1, divI_of ⟨by omega, by omega⟩]
  have he : (1 : Int) + (n : Int) / (m : Int) = ((1 + n / m : Nat) : Int) := by simp
  simp only [res_bind_ok, kLet_ok, he, wpR_end, wpT_seq]
  have hk : 1 + n / m ≤ 5001 := by
    have := Nat.div_le_self n m
    omega
  generalize 1 + n / m = k at hk
  refine wpT_for (fun pre s => s.length = pre.length * k ∧ Small s) ⟨by simp, fun _ h => (by cases h)⟩ (fun p x q s e ⟨i1, i2⟩ => ?_) (fun s ⟨i1, i2⟩ => ?_)
  · obtain ⟨rs, r1, r2, r3⟩ := row_ok x k (by omega)
    have hl := congrArg List.length e
    simp at hl
    have hp : p.length ≤ 62 := by omega
    have hpk : p.length * k ≤ 62 * 5001 := Nat.mul_le_mul hp hk
    simp only [r1, kLet_ok, wpT_seq, wpT_nx]
    refine wpT_for (fun pre z => z.length = s.length + pre.length ∧ Small z) ⟨by simp, i2⟩ (fun p2 y q2 z e2 ⟨j1, j2⟩ => ?_) (fun z ⟨j1, j2⟩ => ?_)
    · have hl2 := congrArg List.length e2
      simp at hl2
      have hy := r3 y (by rw [e2]; simp)
      rw [appL_ok (by omega)]
      exact ⟨by simp; omega, j2.snoc hy.1 hy.2⟩
    · exact ⟨by rw [j1, i1, r2, List.length_append, List.length_singleton, Nat.add_mul, Nat.one_mul], j2⟩
  · have hlen : s.length ≤ 63 * 5001 := by rw [i1]; exact Nat.mul_le_mul hc hk
    refine wpT_while (fun t => Small t ∧ t.length ≤ 63 * 5001 + 5000) (fun t => n - t.length) ⟨i2, by omega⟩ (by omega) fun t ⟨j1, j2⟩ => ?_
    simp only [wpR_ok]
    by_cases h : ((t.length : Nat) : Int) < (n : Int)
    · rw [decide_eq_true h, if_pos rfl, appL_ok (by omega)]
      exact ⟨⟨j1.snoc (by omega) (by omega), by simp; omega⟩, by simp; omega⟩
    · rw [decide_eq_false h, if_neg (by simp)]
      simp only [wpT_ret, wpR_ok, cutL_take]
      exact ⟨by rw [List.length_take]; omega, fun x hx => j1 x (List.mem_of_mem_take hx)⟩
def digits : Tx := ['0', '1', '2', '3', '4', '5', '6', '7', '8', '9']
def isNm (t : Tx) : Bool := match t with
  | [] => false
  | c :: r => decide (t.length ≤ 12) && (!decide (c ∈ digits) && t.all fun d => decide (d ∈ tx0))
theorem all_map_id {α : Type} (xs : List α) (p : α → Bool) : (xs.map p).all id = xs.all p := by
  rw [List.all_map]
  rfl
theorem chT_all (t : Tx) (u : Tx) : ((chT t).map fun c => inS c u).all id = t.all fun d => decide (d ∈ u) := by
  unfold chT
  rw [List.map_map, List.all_map]
  rfl
theorem chT_len (t : Tx) : (chT t).length = t.length := by simp [chT]
theorem letter_iff (c : Char) : (c ∈ tx1) ↔ (c ∉ digits ∧ c ∈ tx0) := by
  constructor
  · intro h
    simp only [tx1, List.mem_cons, List.not_mem_nil, or_false] at h
    rcases h with h | h | h | h | h | h | h | h | h | h | h | h | h | h | h | h | h | h | h | h | h | h | h | h | h | h <;> (subst h; decide)
  · rintro ⟨h1, h⟩
    simp only [tx0, List.mem_cons, List.not_mem_nil, or_false] at h
    rcases h with h | h | h | h | h | h | h | h | h | h | h | h | h | h | h | h | h | h | h | h | h | h | h | h | h | h | h | h | h | h | h | h | h | h | h | h <;> (subst h; revert h1; decide)
theorem is_name_ok (t : Tx) (h : t.length ≤ 100000) : T_is_name t = .ok (isNm t) := by
  refine wpR_eq ?_
  unfold T_is_name
  simp only [wpR_end, wpT_if, wpR_orR, wpR_not, wpR_bind, wpR_ok, lenS_of (show t.length ≤ 16777216 by omega), wpR_ite]
  cases t with
  | nil => simp [isNm]
  | cons c r =>
    have h0 : ixS (c :: r) 0 = .ok [c] := ixS_of (by omega) ixL_zero
    have e1 : decide ((1 : Int) ≤ (((c :: r).length : Nat) : Int)) = true := decide_eq_true (by simp only [List.length_cons]; omega)
    simp only [e1, if_true, h0, wpR_ok]
    have e2 : inS [c] ['0', '1', '2', '3', '4', '5', '6', '7', '8', '9'] = decide (c ∈ digits) := rfl
    rw [e2]
    by_cases h12 : (c :: r).length ≤ 12
    · have e3 : decide ((((c :: r).length : Nat) : Int) ≤ 12) = true := decide_eq_true (by omega)
      simp only [e3, Bool.not_true, Bool.false_eq_true, if_false]
      by_cases hd : c ∈ digits
      · simp [hd, isNm]
      · rw [decide_eq_false hd]
        simp only [Bool.false_eq_true, if_false, wpT_ret, wpR_bind, kLc_map]
        rw [lim_ok (by rw [List.length_map, chT_len]; omega)]
        simp only [wpR_ok, chT_all]
        unfold isNm
        simp only [decide_eq_true h12, decide_eq_false hd, Bool.not_false, Bool.true_and]
    · have e3 : decide ((((c :: r).length : Nat) : Int) ≤ 12) = false := decide_eq_false (by omega)
      simp only [e3, Bool.not_false, if_true, wpT_ret, wpR_ok]
      unfold isNm
      simp only [decide_eq_false h12, Bool.false_and]
theorem law_is_name_core (t : Tx) : (match t with | [] => false | c :: _ => decide (t.length ≤ 12) && (decide (c ∈ tx1) && t.all fun d => decide (d ∈ tx0))) = isNm t := by
  cases t with
  | nil => rfl
  | cons c r =>
    simp only [isNm, List.all_cons]
    have := letter_iff c
    by_cases h1 : c ∈ tx1
    · have h2 := this.mp h1
      simp [h1, h2]
    · by_cases h3 : c ∈ tx0
      · have h4 : c ∈ digits := Classical.byContradiction fun q => h1 (this.mpr ⟨q, h3⟩)
        simp [h1, h4]
      · simp [h1, h3]
def marks : List Tx := [['a', 'n', 'd'], ['w', 'i', 't', 'h'], ['w', 'i', 't', 'h', 'o', 'u', 't'], ['t', 'r', 'u', 's', 't', 'i', 'n', 'g'], ['a', 'n', 'y', 'b', 'o', 'd', 'y']]
def nm (t : Tx) : Bool := isNm t && !memB t marks
/-- few words, none long -/
def Short (ws : List Tx) : Prop := ws.length ≤ 1000 ∧ ∀ w ∈ ws, w.length ≤ 1000
theorem law_is_name_ok (t : Tx) (h : t.length ≤ 100000) : T__law_is_name t = .ok (nm t) := by
  refine wpR_eq ?_
  unfold T__law_is_name
  simp only [wpR_end, wpT_if, wpR_orR, wpR_bind, wpR_ok, lenS_of (show t.length ≤ 16777216 by omega)]
  unfold nm
  rw [← law_is_name_core t]
  cases t with
  | nil => simp
  | cons c r =>
    have h0 : ixS (c :: r) 0 = .ok [c] := ixS_of (by omega) ixL_zero
    have e1 : decide ((((c :: r).length : Nat) : Int) < 1) = false := decide_eq_false (by simp only [List.length_cons]; omega)
    have e2 : inS [c] tx1 = decide (c ∈ tx1) := rfl
    simp only [e1, Bool.false_eq_true, if_false, h0, wpR_ok, e2]
    by_cases h12 : (c :: r).length ≤ 12
    · have e3 : decide ((((c :: r).length : Nat) : Int) > 12) = false := decide_eq_false (by omega)
      simp only [e3, Bool.false_eq_true, if_false, decide_eq_true h12, Bool.true_and]
      by_cases hd : c ∈ tx1
      · rw [decide_eq_true hd]
        simp only [Bool.not_true, Bool.false_eq_true, if_false, wpT_let, wpR_ok, wpT_seq, Bool.true_and]
        have hp : (chT (c :: r)).all (fun x => inS x tx0) = (c :: r).all fun d => decide (d ∈ tx0) := by
          rw [← chT_all, all_map_id]
        refine wpT_look (fun x => inS x tx0) false (fun x _ => ?_) (fun hp2 => ?_) (fun hp2 => ?_)
        · cases hx : inS x tx0 <;> simp
        · rw [hp] at hp2
          rw [hp2, Bool.true_and]
          rfl
        · rw [hp] at hp2
          rw [hp2]
          rfl
      · rw [decide_eq_false hd]
        rfl
    · have e3 : decide ((((c :: r).length : Nat) : Int) > 12) = true := decide_eq_true (by omega)
      simp only [e3, if_true, decide_eq_false h12, Bool.false_and]
      rfl
theorem names_ok (ws : List Tx) (h : Short ws) : T_are_names ws = .ok (ws.all nm) := by
  refine wpR_eq ?_
  unfold T_are_names
  simp only [wpR_end, wpT_ret, wpR_bind]
  refine wpR_lc (fun _ => true) nm (fun _ _ => rfl) (fun x hx _ => ?_) (by have := h.1; omega) ?_
  · rw [is_name_ok x (by have := h.2 x hx; omega), kAnd_oo]
    rfl
  · rw [List.filter_eq_self.mpr (fun _ _ => rfl)]
    simp only [wpR_ok, all_map_id]
theorem law_names_ok (ws : List Tx) (h : Short ws) : T__law_all_names ws = .ok (ws.all nm) := by
  refine wpR_eq ?_
  unfold T__law_all_names
  simp only [wpR_end, wpT_let, wpR_ok, wpT_seq]
  refine wpT_look nm false (fun x hx => ?_) (fun hp => ?_) (fun hp => hp ▸ rfl)
  · rw [law_is_name_ok x (by have := h.2 x hx; omega)]
    cases hx : nm x <;> simp
  · rw [hp]
    rfl
theorem Short.sub {ws us : List Tx} (h : Short ws) (hs : ∀ w ∈ us, w ∈ ws) (hl : us.length ≤ ws.length) : Short us := ⟨Nat.le_trans hl h.1, fun w hw => h.2 w (hs w hw)⟩
def cut (ws : List Tx) (m : Tx) : List Tx × Option (List Tx) := match ws.findIdx? (fun z => decide (z = m)) with
  | none => (ws, none)
  | some j => (ws.take j, some (ws.drop (j + 1)))
theorem parted_ok (ws : List Tx) (m : Tx) : T_parted ws m = .ok (cut ws m) := by
  refine wpR_eq ?_
  unfold T_parted
  cases hj : ws.findIdx? (fun z => decide (z = m)) with
  | none =>
    have hc : memB m ws = false := by
      rw [List.findIdx?_eq_none_iff] at hj
      simp only [memB_false]
      intro hc
      simpa using hj m hc
    have hcut : cut ws m = (ws, none) := by unfold cut; rw [hj]
    rw [hcut]
    simp [hc]
  | some j =>
    have hc : memB m ws = true := by
      rw [List.findIdx?_eq_some_iff_getElem] at hj
      obtain ⟨hl, h1, _⟩ := hj
      simp only [memB_iff]
      have : ws[j] = m := by simpa using h1
      rw [← this]
      exact List.getElem_mem hl
    have hcut : cut ws m = (ws.take j, some (ws.drop (j + 1))) := by unfold cut; rw [hj]
    rw [hcut]
    have hd := cutL_drop ws (j + 1)
    rw [Int.natCast_add, Int.natCast_one] at hd
    simp [hc, idxG_of hj, cutL_take, hd]
def segs (m : Tx) : List Tx → List (List Tx)
  | [] => [[]]
  | w :: ws => if w = m then [] :: segs m ws else match segs m ws with
    | s :: r => (w :: s) :: r
    | [] => [[w]]
theorem segs_ne (m : Tx) : ∀ ws, segs m ws ≠ []
  | [] => by simp [segs]
  | w :: ws => by
    unfold segs
    split
    · simp
    · split <;> simp
theorem segs_snoc (m w : Tx) : ∀ ws : List Tx, segs m (ws ++ [w]) = if w = m then segs m ws ++ [[]] else (segs m ws).dropLast ++ [(segs m ws).getLastD [] ++ [w]]
  | [] => by
    by_cases h : w = m
    · simp [segs, h]
    · simp [segs, h]
  | u :: ws => by
    have ih := segs_snoc m w ws
    obtain ⟨s, r, hs⟩ : ∃ s r, segs m ws = s :: r := by
      cases e : segs m ws with
      | nil => exact absurd e (segs_ne m ws)
      | cons s r => exact ⟨s, r, rfl⟩
    rw [List.cons_append]
    unfold segs
    rw [ih, hs]
    by_cases hu : u = m
    · rw [if_pos hu, if_pos hu]
      by_cases hw : w = m
      · rw [if_pos hw, if_pos hw]
        rfl
      · rw [if_neg hw, if_neg hw]
        simp
    · rw [if_neg hu, if_neg hu]
      by_cases hw : w = m
      · rw [if_pos hw, if_pos hw]
        rfl
      · rw [if_neg hw, if_neg hw]
        cases r with
        | nil => simp
        | cons t r => simp
theorem segs_len (m : Tx) : ∀ ws, (segs m ws).length ≤ ws.length + 1 ∧ ∀ s ∈ segs m ws, s.length ≤ ws.length ∧ ∀ w ∈ s, w ∈ ws
  | [] => by simp [segs]
  | w :: ws => by
    obtain ⟨h1, h2⟩ := segs_len m ws
    obtain ⟨s, r, hs⟩ : ∃ s r, segs m ws = s :: r := by
      cases e : segs m ws with
      | nil => exact absurd e (segs_ne m ws)
      | cons s r => exact ⟨s, r, rfl⟩
    rw [hs] at h1 h2
    unfold segs
    rw [hs]
    simp only [List.length_cons] at h1 ⊢
    by_cases hw : w = m
    · rw [if_pos hw]
      refine ⟨by simp only [List.length_cons]; omega, fun t ht => ?_⟩
      rcases List.mem_cons.mp ht with rfl | ht
      · exact ⟨Nat.zero_le _, fun _ h => by cases h⟩
      · obtain ⟨k1, k2⟩ := h2 t ht
        exact ⟨by omega, fun x hx => List.mem_cons_of_mem _ (k2 x hx)⟩
    · rw [if_neg hw]
      refine ⟨by simp only [List.length_cons]; omega, fun t ht => ?_⟩
      rcases List.mem_cons.mp ht with rfl | ht
      · obtain ⟨k1, k2⟩ := h2 s List.mem_cons_self
        refine ⟨by simp only [List.length_cons]; omega, fun x hx => ?_⟩
        rcases List.mem_cons.mp hx with rfl | hx
        · exact List.mem_cons_self
        · exact List.mem_cons_of_mem _ (k2 x hx)
      · obtain ⟨k1, k2⟩ := h2 t (List.mem_cons_of_mem _ ht)
        exact ⟨by omega, fun x hx => List.mem_cons_of_mem _ (k2 x hx)⟩
theorem dropLast_last {α : Type} (ss : List (List α)) (h : ss ≠ []) : ss.dropLast ++ [ss.getLastD []] = ss := by
  have := List.dropLast_concat_getLast h
  rw [List.getLastD_eq_getLast?, List.getLast?_eq_some_getLast h]
  exact this
theorem Short.segs {m : Tx} {ws : List Tx} (h : Short ws) : ∀ s ∈ segs m ws, Short s := fun s hs => h.sub ((segs_len m ws).2 s hs).2 ((segs_len m ws).2 s hs).1
theorem split_ok (ws : List Tx) (m : Tx) (h : Short ws) : T__law_split ws m = .ok (segs m ws) := by
  refine wpR_eq ?_
  unfold T__law_split
  simp only [wpR_end, wpT_let, wpR_ok, wpT_seq]
  refine wpT_for (fun p s => s = segs m p) rfl (fun p x q s e i => ?_) (fun s i => i)
  subst i
  obtain ⟨l1, l2⟩ := segs_len m p
  have hp : p.length ≤ 1000 := by
    have := congrArg List.length e
    simp at this
    have := h.1
    omega
  have hne := segs_ne m p
  simp only [segs_snoc]
  by_cases hx : x = m
  · simp [hx]
    rw [appL_ok (by omega)]
    simp
  · simp [hx]
    have hd := dropLast_last _ hne
    have hl : ((segs m p).getLastD []).length < 16777216 := by
      have : (segs m p).getLastD [] ∈ segs m p := by
        rw [List.getLastD_eq_getLast?, List.getLast?_eq_some_getLast hne]
        exact List.getLast_mem hne
      have := (l2 _ this).1
      omega
    rw [← hd, app1_last hl]
    simp [hd]
theorem cut_cons (w m : Tx) (ws : List Tx) : cut (w :: ws) m = if w = m then ([], some ws) else (w :: (cut ws m).1, (cut ws m).2) := by
  unfold cut
  rw [List.findIdx?_cons]
  by_cases h : w = m
  · rw [if_pos h, decide_eq_true h]
    rfl
  · rw [if_neg h, decide_eq_false h]
    cases ws.findIdx? (fun z => decide (z = m)) with
    | none => rfl
    | some j => rfl
theorem cut_segs (m : Tx) : ∀ ws, segs m ws = (cut ws m).1 :: (match (cut ws m).2 with | none => [] | some t => segs m t)
  | [] => rfl
  | w :: ws => by
    have ih := cut_segs m ws
    rw [cut_cons]
    by_cases h : w = m
    · rw [if_pos h]
      have : segs m (w :: ws) = [] :: segs m ws := by rw [segs, if_pos h]
      rw [this]
    · rw [if_neg h]
      have : segs m (w :: ws) = match segs m ws with | s :: r => (w :: s) :: r | [] => [[w]] := by
        rw [segs, if_neg h]
        all_goals (cases segs m ws <;> rfl)
      rw [this, ih]
theorem cut_sub (m : Tx) : ∀ ws, ((cut ws m).1.length ≤ ws.length ∧ ∀ w ∈ (cut ws m).1, w ∈ ws) ∧ ∀ t, (cut ws m).2 = some t → t.length < ws.length ∧ ∀ w ∈ t, w ∈ ws
  | [] => ⟨⟨Nat.le_refl _, fun _ h => h⟩, fun t h => by cases h⟩
  | w :: ws => by
    obtain ⟨⟨h1, h2⟩, h3⟩ := cut_sub m ws
    rw [cut_cons]
    by_cases h : w = m
    · rw [if_pos h]
      refine ⟨⟨Nat.zero_le _, fun _ h => by cases h⟩, fun t ht => ?_⟩
      cases ht
      exact ⟨Nat.lt_succ_self _, fun x hx => List.mem_cons_of_mem _ hx⟩
    · rw [if_neg h]
      refine ⟨⟨Nat.succ_le_succ h1, fun x hx => ?_⟩, fun t ht => ?_⟩
      · rcases List.mem_cons.mp hx with rfl | hx
        · exact List.mem_cons_self
        · exact List.mem_cons_of_mem _ (h2 x hx)
      · obtain ⟨k1, k2⟩ := h3 t ht
        exact ⟨Nat.lt_succ_of_lt k1, fun x hx => List.mem_cons_of_mem _ (k2 x hx)⟩
theorem Short.cut1 {ws : List Tx} (h : Short ws) (m : Tx) : Short (cut ws m).1 := h.sub (cut_sub m ws).1.2 (cut_sub m ws).1.1
theorem Short.cut2 {ws : List Tx} (h : Short ws) {m : Tx} {t : List Tx} (e : (cut ws m).2 = some t) : Short t := h.sub ((cut_sub m ws).2 t e).2 (Nat.le_of_lt ((cut_sub m ws).2 t e).1)
def okR : Option (List Tx) → Bool
  | none => true
  | some r => !eqB r [] && r.all nm
def mW : Tx := ['w', 'i', 't', 'h', 'o', 'u', 't']
def mWi : Tx := ['w', 'i', 't', 'h']
def mA : Tx := ['a', 'n', 'y', 'b', 'o', 'd', 'y']
def dRest (ws : List Tx) : List Tx := (cut (cut ws mW).1 mWi).1
def dHolds (ws : List Tx) : Option (List Tx) := (cut (cut ws mW).1 mWi).2
def dLacks (ws : List Tx) : Option (List Tx) := (cut ws mW).2
abbrev Dem : Type := Option Tx × List Tx × List Tx
def demV (ws : List Tx) : Option Dem := match dRest ws with
  | [x] => if (eqB x mA || nm x) && (okR (dHolds ws) && okR (dLacks ws)) then some (if eqB x mA = true then none else some x, (dHolds ws).getD [], (dLacks ws).getD []) else none
  | _ => none
theorem orE_ok (o : Option (List Tx)) : (if (!(Option.getD o []).isEmpty) = true then getO o else Res.ok []) = Res.ok (o.getD []) := by
  cases o with
  | none => rfl
  | some l => cases l <;> rfl
theorem okR_ok {o : Option (List Tx)} (h : ∀ t, o = some t → Short t) : kAnd (Res.ok o.isSome) (kOr (Res.ok (eqB o (some []))) (kNot (getO o >>= fun x => T_are_names x))) = .ok (!okR o) := by
  cases o with
  | none => simp [okR]
  | some t =>
    have e : eqB (some t) (some []) = eqB t [] := by
      unfold eqB
      by_cases ht : t = [] <;> simp [ht]
    simp only [Option.isSome_some, kAnd_tt, e, res_bind_ok, getO_some, names_ok t (h t rfl), kNot_ok, kOr_oo, okR]
    cases eqB t [] <;> simp
theorem demand_ok (ws : List Tx) (h : Short ws) : T_demand_of ws = .ok (demV ws) := by
  have hs0 : Short (dRest ws) := (h.cut1 mW).cut1 mWi
  have hh : ∀ t, dHolds ws = some t → Short t := fun t e => (h.cut1 mW).cut2 e
  have hl : ∀ t, dLacks ws = some t → Short t := fun t e => h.cut2 e
  refine wpR_eq ?_
  unfold T_demand_of
  have e1 : cut ws ['w', 'i', 't', 'h', 'o', 'u', 't'] = ((cut ws mW).1, dLacks ws) := rfl
  have e2 : cut (cut ws mW).1 ['w', 'i', 't', 'h'] = (dRest ws, dHolds ws) := rfl
  simp only [wpR_end, wpT_let, parted_ok, wpR_ok, e1, e2, okR_ok hh, orE_ok]
  unfold demV
  generalize dRest ws = rest at hs0 ⊢
  match rest, hs0 with
  | [], _ => simp [eqB]
  | x :: y :: r, _ =>
    have e3 : eqB ((((x :: y :: r).length : Nat) : Int)) 1 = false := by
      simp only [eqB_false, List.length_cons]
      omega
    simp [e3]
    intro hz
    omega
  | [x], hs0 =>
    have e3 : eqB ((([x].length : Nat) : Int)) 1 = true := by simp
    have e4 := names_ok [x] hs0
    have e5 : [x].all nm = nm x := by simp
    have e6 : eqB x ['a', 'n', 'y', 'b', 'o', 'd', 'y'] = eqB x mA := rfl
    simp only [e3, Bool.not_true, kOr_ff, ixL_zero, res_bind_ok, e4, e5, e6, kOr_oo, kNot_ok, kIf_ok]
    cases hx : (eqB x mA || nm x) with
    | false => simp
    | true =>
      simp only [Bool.not_true, Bool.or_self, Bool.false_eq_true, if_false, wpT_let, wpR_ok, wpT_seq, Bool.true_and]
      refine wpT_look okR none (fun o ho => ?_) (fun hp => ?_) (fun hp => ?_)
      · have hO : ∀ t, o = some t → Short t := by
          simp only [List.mem_cons, List.not_mem_nil, or_false] at ho
          rcases ho with rfl | rfl
          · exact hh
          · exact hl
        rw [okR_ok hO]
        cases okR o <;> simp
      · simp only [List.all_cons, List.all_nil, Bool.and_true] at hp
        simp only [hp, if_true]
        by_cases hA : x = mA
        · subst hA
          simp
        · have : eqB x mA = false := by simpa using hA
          simp [this]
      · simp only [List.all_cons, List.all_nil, Bool.and_true] at hp
        simp [hp]
theorem segs_two {m : Tx} : ∀ {t : List Tx}, 2 ≤ (segs m t).length → m ∈ t
  | [], h => by simp [segs] at h
  | w :: t, h => by
    by_cases hw : w = m
    · rw [hw]; exact List.mem_cons_self
    · refine List.mem_cons_of_mem _ (segs_two ?_)
      rw [segs, if_neg hw] at h
      cases e : segs m t with
      | nil => rw [e] at h; simp at h
      | cons s r => rw [e] at h; simpa using h
theorem segs_one {m : Tx} : ∀ {t : List Tx}, (segs m t).length = 1 → segs m t = [t]
  | [], _ => rfl
  | w :: t, h => by
    by_cases hw : w = m
    · rw [segs, if_pos hw] at h
      have := segs_ne m t
      cases e : segs m t with
      | nil => exact absurd e this
      | cons s r => rw [e] at h; simp at h
    · rw [segs, if_neg hw] at h ⊢
      have hl : (segs m t).length = 1 := by
        cases e : segs m t with
        | nil => rw [e] at h; simp at h; exact absurd e (segs_ne m t)
        | cons s r => rw [e] at h; simpa using h
      rw [segs_one hl]
theorem okR_many {m : Tx} {t : List Tx} (hm : nm m = false) (h : 2 ≤ (segs m t).length) : okR (some t) = false := by
  have : t.all nm = false := by
    rw [List.all_eq_false]
    exact ⟨m, segs_two h, by rw [hm]; simp⟩
  simp only [okR, this, Bool.and_false]
theorem nm_without : nm mW = false := by decide +kernel
theorem nm_with : nm mWi = false := by decide +kernel
def optL : Option (List Tx) → List (List Tx)
  | none => []
  | some t => [t]
/-- the segments of a word list, cut at one mark: the first, then at most one more -/
theorem segs_cut (m : Tx) (ws : List Tx) : (segs m ws).length ≤ 2 ∧ segs m ws = (cut ws m).1 :: optL (cut ws m).2 ∨ (2 < (segs m ws).length ∧ ∃ t, (cut ws m).2 = some t ∧ 2 ≤ (segs m t).length) := by
  have h := cut_segs m ws
  cases e : (cut ws m).2 with
  | none =>
    rw [e] at h
    exact .inl ⟨by rw [h]; simp, h⟩
  | some t =>
    rw [e] at h
    by_cases hl : 2 ≤ (segs m t).length
    · exact .inr ⟨by rw [h]; simp only [List.length_cons]; omega, t, rfl, hl⟩
    · have h1 : (segs m t).length = 1 := by
        have := segs_ne m t
        cases e2 : segs m t with
        | nil => exact absurd e2 this
        | cons s r => rw [e2] at hl; simp at hl; simp [hl]
      refine .inl ⟨by rw [h]; simp only [List.length_cons]; omega, ?_⟩
      rw [h]
      simp only [segs_one h1]
      rfl
theorem demV_lacks {ws : List Tx} (h : okR (dLacks ws) = false) : demV ws = none := by
  unfold demV
  split
  · rw [h]; simp
  · rfl
theorem demV_holds {ws : List Tx} (h : okR (dHolds ws) = false) : demV ws = none := by
  unfold demV
  split
  · rw [h]; simp
  · rfl
theorem optL_get (o : Option (List Tx)) (x : List Tx) : ixL (x :: optL o ++ [[]]) 1 = .ok (o.getD []) := by
  cases o <;> simp [optL]
theorem optL_len (o : Option (List Tx)) : (optL o).length ≤ 1 := by cases o <;> simp [optL]
theorem optL_all (o : Option (List Tx)) : (optL o).all (fun r => okR (some r)) = okR o := by cases o <;> simp [optL, okR]
theorem law_demand_ok (ws : List Tx) (h : Short ws) : T__law_demand ws = .ok (demV ws) := by
  have hs0 : Short (dRest ws) := (h.cut1 mW).cut1 mWi
  have hs1 := h.cut1 mW
  refine wpR_eq ?_
  unfold T__law_demand
  have e1 : segs ['w', 'i', 't', 'h', 'o', 'u', 't'] ws = segs mW ws := rfl
  rw [split_ok _ _ h, e1]
  simp only [wpR_end, wpT_let, wpR_ok]
  rcases segs_cut mW ws with ⟨h1, h2⟩ | ⟨h1, t, h2, h3⟩
  · have hd : dLacks ws = (cut ws mW).2 := rfl
    rw [h2, ← hd]
    have hz : decide (((((cut ws mW).1 :: optL (dLacks ws)).length : Nat) : Int) > 2) = false := by
      have := optL_len (dLacks ws)
      refine decide_eq_false ?_
      simp only [List.length_cons]
      omega
    have e2 : segs ['w', 'i', 't', 'h'] (cut ws mW).1 = segs mWi (cut ws mW).1 := rfl
    simp only [hz, Bool.false_eq_true, if_false, ixL_zero, res_bind_ok, split_ok _ _ hs1, e2, wpT_let, wpR_ok, wpT_ite]
    rcases segs_cut mWi (cut ws mW).1 with ⟨g1, g2⟩ | ⟨g1, t, g2, g3⟩
    · have gd : dHolds ws = (cut (cut ws mW).1 mWi).2 := rfl
      have gr : dRest ws = (cut (cut ws mW).1 mWi).1 := rfl
      rw [g2, ← gd, ← gr]
      have hy : decide ((((dRest ws :: optL (dHolds ws)).length : Nat) : Int) > 2) = false := by
        have := optL_len (dHolds ws)
        refine decide_eq_false ?_
        simp only [List.length_cons]
        omega
      have c1 : ∀ (x : List Tx) (o : Option (List Tx)), cutL (x :: optL o) (some 1) none = optL o := fun x o => cutL_drop _ 1
      have l1 : ((dRest ws :: optL (dHolds ws)) ++ [[]]).length ≤ 16777216 := by
        have := optL_len (dHolds ws)
        simp only [List.length_append, List.length_cons, List.length_nil]
        omega
      have l2 : (((cut ws mW).1 :: optL (dLacks ws)) ++ [[]]).length ≤ 16777216 := by
        have := optL_len (dLacks ws)
        simp only [List.length_append, List.length_cons, List.length_nil]
        omega
      have l3 : (optL (dHolds ws) ++ optL (dLacks ws)).length ≤ 16777216 := by
        have := optL_len (dLacks ws)
        have := optL_len (dHolds ws)
        simp only [List.length_append]
        omega
      simp only [c1, lim_ok l3, lim_ok l1, lim_ok l2, wpR_ok, hy, kOr_ff, ixL_zero, res_bind_ok, wpT_if, optL_get, wpT_seq, wpT_let]
      unfold demV
      generalize hrest : dRest ws = rest at hs0 ⊢
      match rest, hs0 with
      | [], _ => simp [eqB]
      | x :: y :: r, _ =>
        have e3 : eqB ((((x :: y :: r).length : Nat) : Int)) 1 = false := by
          simp only [eqB_false, List.length_cons]
          omega
        simp only [e3, Bool.not_false, wpR_ok, if_true, wpT_ret]
      | [x], hs0 =>
        have e3 : eqB ((([x].length : Nat) : Int)) 1 = true := by simp
        have e4 := law_names_ok [x] hs0
        have e5 : [x].all nm = nm x := by simp
        have e6 : eqB x ['a', 'n', 'y', 'b', 'o', 'd', 'y'] = eqB x mA := rfl
        simp only [e3, Bool.not_true, Bool.false_eq_true, if_false, wpR_ok, ixL_zero, e4, e5, e6, kNot_ok]
        refine wpT_look (fun r => okR (some r)) none (fun r hr => ?_) (fun hp => ?_) (fun hp => ?_)
        · have hsr : Short r := by
            rcases List.mem_append.mp hr with q | q
            · cases ho : dHolds ws with
              | none => rw [ho] at q; cases q
              | some t =>
                rw [ho] at q
                rw [List.mem_singleton.mp q]
                exact hs1.cut2 ho
            · cases ho : dLacks ws with
              | none => rw [ho] at q; cases q
              | some t =>
                rw [ho] at q
                rw [List.mem_singleton.mp q]
                exact h.cut2 ho
          have e7 : eqB ((r.length : Nat) : Int) 0 = eqB r [] := by
            unfold eqB
            cases r <;> simp
            omega
          rw [law_names_ok r hsr, e7]
          simp only [okR, kNot_ok, kOr_oo, kIf_ok]
          cases eqB r [] <;> cases r.all nm <;> simp
        · rw [List.all_append, optL_all, optL_all] at hp
          simp only [hp, Bool.and_true]
          by_cases hA : x = mA
          · subst hA
            simp
            rfl
          · have : eqB x mA = false := by simpa using hA
            have hA2 : ¬ x = ['a', 'n', 'y', 'b', 'o', 'd', 'y'] := hA
            cases hx : nm x <;> simp [this, hA2]
        · rw [List.all_append, optL_all, optL_all] at hp
          simp [hp]
    · have hf : okR (dHolds ws) = false := by
        have : dHolds ws = some t := g2
        rw [this]
        exact okR_many nm_with g3
      have hy : decide ((((segs mWi (cut ws mW).1).length : Nat) : Int) > 2) = true := decide_eq_true (by omega)
      have hn : demV ws = none := demV_holds hf
      obtain ⟨s1, _⟩ := segs_len mWi (cut ws mW).1
      have l3 : (cutL (segs mWi (cut ws mW).1) (some 1) none ++ cutL ((cut ws mW).1 :: optL (dLacks ws)) (some 1) none).length ≤ 16777216 := by
        have := optL_len (dLacks ws)
        have := hs1.1
        rw [cutL_drop' (by omega), cutL_drop' (by omega)]
        simp only [List.length_append, List.length_drop, List.length_cons]
        omega
      simp only [lim_ok l3, wpR_ok, wpT_if, hy, kOr_tt, if_true, wpT_ret, hn]
  · have hf : okR (dLacks ws) = false := by
      have : dLacks ws = some t := h2
      rw [this]
      exact okR_many nm_without h3
    have hy : decide ((((segs mW ws).length : Nat) : Int) > 2) = true := decide_eq_true (by omega)
    simp only [hy, if_true, wpT_ret, wpR_ok, demV_lacks hf]
def mT : Tx := ['t', 'r', 'u', 's', 't', 'i', 'n', 'g']
def mAn : Tx := ['a', 'n', 'd']
theorem nm_trusting : nm mT = false := by decide +kernel
def goalV (ws : List Tx) : Option (List (Option Dem) × List Tx) := if okR (cut ws mT).2 && !memB none ((segs mAn (cut ws mT).1).map demV) then some ((segs mAn (cut ws mT).1).map demV, (cut ws mT).2.getD []) else none
def osegs : Option (List Tx) → List (List Tx)
  | none => []
  | some t => segs mAn t
def osz : Option (List Tx) → Nat
  | none => 0
  | some t => t.length + 1
theorem goal_ok (ws : List Tx) (h : Short ws) : T_goal_of ws = .ok (goalV ws) := by
  have h1 := h.cut1 mT
  refine wpR_eq ?_
  unfold T_goal_of
  have e1 : cut ws ['t', 'r', 'u', 's', 't', 'i', 'n', 'g'] = ((cut ws mT).1, (cut ws mT).2) := rfl
  have e2 := okR_ok (o := (cut ws mT).2) fun t e => h.cut2 e
  simp only [wpR_end, wpT_let, parted_ok, wpR_ok, e1, res_bind_ok, e2, kIf_ok, wpT_ite]
  unfold goalV
  cases hok : okR (cut ws mT).2 with
  | false => simp
  | true =>
    simp only [Bool.not_true, Bool.false_eq_true, if_false, wpT_let, wpR_ok, wpT_seq, Bool.true_and]
    have hh : (cut ws mT).1.length ≤ 1000 := h1.1
    refine wpT_while (fun s => (∀ t, s.1 = some t → Short t) ∧ s.2 ++ (osegs s.1).map demV = (segs mAn (cut ws mT).1).map demV ∧ s.2.length + osz s.1 ≤ 1001) (fun s => osz s.1) ⟨fun t e => ?_, ?_, ?_⟩ ?_ (fun s ⟨i1, i2, i3⟩ => ?_)
    · cases e; exact h1
    · rfl
    · simp only [osz, List.length_nil]; omega
    · simp only [osz]; omega
    · obtain ⟨o, gs⟩ := s
      cases o with
      | none =>
        simp only [osegs, List.map_nil, List.append_nil] at i2
        subst i2
        simp only [wpR_ok, Option.isSome_none, Bool.false_eq_true, if_false, wpT_ite, wpT_ret, wpR_bind, orE_ok]
        cases memB none ((segs mAn (cut ws mT).1).map demV) <;> simp
      | some t =>
        have hs := i1 t rfl
        have e3 : cut t ['a', 'n', 'd'] = ((cut t mAn).1, (cut t mAn).2) := rfl
        have i3 : gs.length + (t.length + 1) ≤ 1001 := i3
        simp only [wpR_ok, Option.isSome_some, if_true, wpT_let, wpR_bind, getO_some, parted_ok, e3, demand_ok _ (hs.cut1 mAn)]
        rw [appL_ok (by omega)]
        have hseg : osegs (some t) = (cut t mAn).1 :: osegs (cut t mAn).2 := by
          have := cut_segs mAn t
          show segs mAn t = _
          rw [this]
          cases (cut t mAn).2 <;> rfl
        rw [hseg] at i2
        have hz : osz (cut t mAn).2 ≤ t.length := by
          cases e : (cut t mAn).2 with
          | none => exact Nat.zero_le _
          | some u => exact ((cut_sub mAn t).2 u e).1
        refine ⟨⟨fun u e => hs.cut2 e, ?_, ?_⟩, ?_⟩
        · rw [← i2]
          simp
        · simp only [List.length_append, List.length_singleton]
          omega
        · show osz (cut t mAn).2 < t.length + 1
          omega
theorem law_goal_ok (ws : List Tx) (h : Short ws) : T__law_goal_of ws = .ok (goalV ws) := by
  have h1 := h.cut1 mT
  refine wpR_eq ?_
  unfold T__law_goal_of
  have e1 : segs ['t', 'r', 'u', 's', 't', 'i', 'n', 'g'] ws = segs mT ws := rfl
  rw [split_ok _ _ h, e1]
  simp only [wpR_end, wpT_let, wpR_ok]
  rcases segs_cut mT ws with ⟨g1, g2⟩ | ⟨g1, t, g2, g3⟩
  · rw [g2]
    have hz : decide (((((cut ws mT).1 :: optL (cut ws mT).2).length : Nat) : Int) > 2) = false := by
      have := optL_len (cut ws mT).2
      refine decide_eq_false ?_
      simp only [List.length_cons]
      omega
    have l2 : (((cut ws mT).1 :: optL (cut ws mT).2) ++ [[]]).length ≤ 16777216 := by
      have := optL_len (cut ws mT).2
      simp only [List.length_append, List.length_cons, List.length_nil]
      omega
    have hcond : kAnd (Res.ok (eqB (((((cut ws mT).1 :: optL (cut ws mT).2).length : Nat) : Int)) 2)) (kOr (ixL ((cut ws mT).1 :: optL (cut ws mT).2) 1 >>= fun x199 => Res.ok (eqB ((x199.length : Nat) : Int) 0)) (kNot (ixL ((cut ws mT).1 :: optL (cut ws mT).2) 1 >>= fun x202 => T__law_all_names x202))) = .ok (!okR (cut ws mT).2) := by
      cases ho : (cut ws mT).2 with
      | none => simp [optL, okR, eqB]
      | some t =>
        have ht : Short t := h.cut2 ho
        have e7 : eqB ((t.length : Nat) : Int) 0 = eqB t [] := by
          unfold eqB
          cases t <;> simp
          omega
        simp only [optL, ixL_one, res_bind_ok, law_names_ok t ht, e7, kNot_ok, kOr_oo, okR]
        have e8 : eqB (((((cut ws mT).1 :: [t]).length : Nat) : Int)) 2 = true := by simp
        rw [e8, kAnd_tt]
        cases eqB t [] <;> simp
    have e3 : segs ['a', 'n', 'd'] (cut ws mT).1 = segs mAn (cut ws mT).1 := rfl
    simp only [hz, kOr_ff, res_bind_ok, res_assoc, hcond, kIf_ok, wpT_ite, ixL_zero, split_ok _ _ h1, e3, wpT_let, lim_ok l2, optL_get]
    unfold goalV
    cases hok : okR (cut ws mT).2 with
    | false => simp
    | true =>
      simp only [Bool.not_true, Bool.false_eq_true, if_false, Bool.true_and]
      refine wpR_lc (fun _ => true) demV (fun _ _ => rfl) (fun x hx _ => law_demand_ok x (h1.segs x hx)) ?_ ?_
      · have := (segs_len mAn (cut ws mT).1).1
        have := h1.1
        omega
      · rw [List.filter_eq_self.mpr (fun _ _ => rfl)]
        cases memB none ((segs mAn (cut ws mT).1).map demV) <;> simp
  · have hf : okR (cut ws mT).2 = false := by
      rw [g2]
      exact okR_many nm_trusting g3
    have hy : decide ((((segs mT ws).length : Nat) : Int) > 2) = true := decide_eq_true (by omega)
    unfold goalV
    simp [hy, hf]
def okw (w : Tx) : Prop := w ≠ [] ∧ w.length ≤ 20 ∧ ' ' ∉ w
instance (w : Tx) : Decidable (okw w) := by unfold okw; exact inferInstance
def OkW (ws : List Tx) : Prop := ∀ w ∈ ws, okw w
theorem OkW.app {a b : List Tx} (h : OkW a) (g : OkW b) : OkW (a ++ b) := fun w hw => (List.mem_append.mp hw).elim (h w) (g w)
theorem OkW.sub {a b : List Tx} (h : OkW a) (hs : ∀ w ∈ b, w ∈ a) : OkW b := fun w hw => h w (hs w hw)
theorem OkW.take {a : List Tx} (h : OkW a) (n : Nat) : OkW (a.take n) := h.sub fun w hw => List.mem_of_mem_take hw
theorem OkW.drop {a : List Tx} (h : OkW a) (n : Nat) : OkW (a.drop n) := h.sub fun w hw => List.mem_of_mem_drop hw
theorem OkW.cutL {a : List Tx} (h : OkW a) (lo hi : Option Int) : OkW (PD.cutL a lo hi) := h.sub fun w hw => List.mem_of_mem_drop (List.mem_of_mem_take hw)
theorem OkW.nil : OkW [] := fun _ h => by cases h
theorem OkW.cons {w : Tx} {a : List Tx} (hw : okw w) (h : OkW a) : OkW (w :: a) := fun x hx => by
  rcases List.mem_cons.mp hx with rfl | hx
  · exact hw
  · exact h x hx
theorem OkW.one {w : Tx} (hw : okw w) : OkW [w] := OkW.cons hw OkW.nil
theorem OkW.filter {a : List Tx} (h : OkW a) (p : Tx → Bool) : OkW (a.filter p) := h.sub fun w hw => (List.mem_filter.mp hw).1
theorem cutL_len {α : Type} (a : List α) (lo hi : Option Int) : (PD.cutL a lo hi).length ≤ a.length := by
  unfold PD.cutL
  rw [List.length_take, List.length_drop]
  omega
theorem OkW.short {a : List Tx} (h : OkW a) (hl : a.length ≤ 1000) : Short a := ⟨hl, fun w hw => by have := (h w hw).2.1; omega⟩
theorem ix_alnum (j : Int) : ∃ c, c ∈ tx0 ∧ ixS tx0 (j % 36) = .ok [c] := by
  have hl : tx0.length = 36 := rfl
  have hi : (j % 36).toNat < tx0.length := by omega
  exact ⟨tx0[(j % 36).toNat], List.getElem_mem hi, ixS_of (by omega) (ixL_get (by omega) hi)⟩
theorem no_blank : ∀ c ∈ tx0, c ≠ ' ' := by decide +kernel
theorem word_ok (a b : Int) (ha : 0 ≤ a ∧ a < 1009) (hb : 0 ≤ b ∧ b < 1009) : ∃ w, T__law_word a b = .ok w ∧ okw w := by
  refine wpR_get ?_
  unfold T__law_word
  rw [kLet_ok, show (fun a b : List Tx => lim (a ++ b)) = fun a b => lim (a ++ b) from rfl]
  simp only []
  rw [lim_ok (by decide)]
  simp only [wpR_end, wpT_let, wpR_ok, wpT_ite, wpT_ret]
  split
  · generalize hg : ([['a', 'n', 'd'], ['w', 'i', 't', 'h'], ['w', 'i', 't', 'h', 'o', 'u', 't'], ['t', 'r', 'u', 's', 't', 'i', 'n', 'g'], ['a', 'n', 'y', 'b', 'o', 'd', 'y'], ['c', 'h', 'a', 'r', 't', 'e', 'r'], ['a', 's', 'k'], ['u', 'n', 'd', 'o'], ['a', 'n', 's', 'w', 'e', 'r', 's'], ['s', 'h', 'o', 'w'], ['p', 'l', 'a', 'n'], ['c', 'u', 't']] ++ [['c', 'h', 'a', 'r', 't', 'e', 'r', 's'], ['q', 'u', 'e', 's', 't', 'i', 'o', 'n', 's'], ['p', 'r', 'i', 'n', 't'], ['d', 'r', 'o', 'p'], ['r', 'e', 'm', 'o', 'v', 'e'], ['a', 'n', 's', 'w', 'e', 'r'], ['r', 'e', 'd', 'o'], ['d', 'o', 'n', 'e']] : List Tx) = l
    have hall : ∀ w ∈ l, okw w := by rw [← hg]; decide +kernel
    have hlen : l.length = 20 := by rw [← hg]; rfl
    rw [ixL_get (by omega) (by omega)]
    exact hall _ (List.getElem_mem _)
  · obtain ⟨n, hn, hn2⟩ : ∃ n : Nat, a / 3 % 14 = (n : Int) ∧ n < 14 := ⟨(a / 3 % 14).toNat, by omega, by omega⟩
    obtain ⟨c0, h0, g0⟩ := ix_alnum b
    rw [hn, rng1_nat (by omega), g0]
    simp only [res_bind_ok, wpR_bind]
    refine wpR_lcP (fun w => ∃ c, c ∈ tx0 ∧ w = [c]) (fun _ _ => ⟨_, rfl⟩) (fun x _ _ => ?_) (by simp; omega) (fun ys hl hy => ?_)
    · rw [mulI_r (by omega), res_bind_ok]
      obtain ⟨c, h1, h2⟩ := ix_alnum (b + 11 * x * a + x)
      exact ⟨_, h2, c, h1, rfl⟩
    · have hys : ys.length ≤ 13 := by simp at hl; omega
      have hlen : ∀ ys : List Tx, (∀ y ∈ ys, ∃ c, c ∈ tx0 ∧ y = [c]) → (ys.map List.length).sum = ys.length ∧ ys.flatten.length = ys.length ∧ ∀ c ∈ ys.flatten, c ∈ tx0 := by
        intro ys
        induction ys with
        | nil => exact fun _ => ⟨rfl, rfl, fun _ h => by cases h⟩
        | cons y ys ih =>
          intro h
          obtain ⟨i1, i2, i3⟩ := ih fun z hz => h z (List.mem_cons_of_mem _ hz)
          obtain ⟨c, hc, rfl⟩ := h y List.mem_cons_self
          refine ⟨by simp [i1]; omega, by simp [i2], fun d hd => ?_⟩
          simp only [List.flatten_cons, List.singleton_append, List.mem_cons] at hd
          rcases hd with rfl | hd
          · exact hc
          · exact i3 d hd
      obtain ⟨i1, i2, i3⟩ := hlen ys hy
      rw [joinG_of (by rw [i1]; simp; omega), joinT_nil]
      generalize ys.flatten = r at i2 i3
      have hr : r.length ≤ 13 := by omega
      have hb1 : ' ' ∉ r := fun z => no_blank _ (i3 _ z) rfl
      have hb0 : ' ' ≠ c0 := fun z => no_blank _ h0 z.symm
      simp only [wpR_ok]
      rw [addS_of (by simp; omega)]
      simp only [wpR_ok, wpT_ite, wpT_ret, wpT_rt, wpR_bind]
      have hw : okw ([c0] ++ r) := ⟨by simp, by simp; omega, by simp [hb0, hb1]⟩
      have t2 : PD.cutL ([c0] ++ r) none (some 2) = ([c0] ++ r).take 2 := cutL_take _ 2
      have d2 : PD.cutL ([c0] ++ r) (some 2) none = ([c0] ++ r).drop 2 := cutL_drop _ 2
      split
      · rw [slS_of (by simp; omega), slS_of (by simp; omega), t2, d2]
        simp only [wpR_ok]
        rw [addS_of (by simp; omega)]
        simp only [wpR_ok]
        rw [addS_of (by simp; omega)]
        refine ⟨by simp, ?_, ?_⟩
        · have : (List.take 2 ([c0] ++ r) ++ ['_'] ++ List.drop 2 ([c0] ++ r)).length = ([c0] ++ r).length + 1 := by
            simp only [List.length_append, List.length_take, List.length_drop, List.length_singleton]
            omega
          rw [this]
          simp
          omega
        · intro z
          have z1 : ' ' ∈ [c0] ++ r := by
            rcases List.mem_append.mp z with z | z
            · rcases List.mem_append.mp z with z | z
              · exact List.mem_of_mem_take z
              · simp at z
            · exact List.mem_of_mem_drop z
          exact hw.2.2 z1
      · split
        · rw [addS_of (by simp; omega)]
          exact ⟨by simp, by simp; omega, by simp [hb0, hb1]⟩
        · exact hw
theorem turned_ok (ns : List Int) (at_ : Nat) (line : List Tx) (w : Tx) (hn : Small ns) (hat : at_ < ns.length) (hl : OkW line) (hl0 : line ≠ []) (hl1 : line.length ≤ 100) (hw : okw w) : ∃ r, T__law_turned ns (at_ : Int) line w = .ok r ∧ OkW r ∧ r.length ≤ line.length + 1 := by
  refine wpR_get ?_
  unfold T__law_turned
  have hp : (0 : Int) < (line.length : Int) := by
    have := List.length_pos_iff.mpr hl0
    omega
  rw [ixL_nth hat]
  simp only [res_bind_ok, wpR_end, wpT_let, wpR_ok]
  rw [modI_of hp]
  simp only [wpR_ok, wpT_ite, wpT_ret, wpR_bind]
  have c1 := fun (lo hi : Option Int) => cutL_len line lo hi
  obtain ⟨p, hp1, hp2⟩ : ∃ p : Nat, nth ns at_ % (line.length : Int) = (p : Int) ∧ p < line.length := by
    have h1 := Int.emod_nonneg (nth ns at_) (show (line.length : Int) ≠ 0 by omega)
    have h2 := Int.emod_lt_of_pos (nth ns at_) hp
    exact ⟨(nth ns at_ % (line.length : Int)).toNat, by omega, by omega⟩
  have ht : cutL line none (some (nth ns at_ % (line.length : Int))) = line.take p := by rw [hp1, cutL_take]
  have hd : cutL line (some (nth ns at_ % (line.length : Int))) none = line.drop p := by rw [hp1, cutL_drop]
  have hd1 : cutL line (some (nth ns at_ % (line.length : Int) + 1)) none = line.drop (p + 1) := by
    rw [hp1]
    have := cutL_drop line (p + 1)
    rwa [Int.natCast_add] at this
  rw [ht, hd, hd1]
  have l1 : (line.take p).length = p := by rw [List.length_take]; omega
  have l2 : (line.drop p).length = line.length - p := List.length_drop
  have l3 : (line.drop (p + 1)).length = line.length - (p + 1) := List.length_drop
  split
  · rw [lim_ok (by rw [List.length_append]; omega)]
    exact ⟨(hl.take _).app (hl.drop _), by rw [List.length_append]; omega⟩
  · split
    · rw [lim_ok (by simp only [List.length_append, List.length_singleton]; omega)]
      simp only [wpR_ok]
      rw [lim_ok (by simp only [List.length_append, List.length_singleton]; omega)]
      exact ⟨((hl.take _).app (OkW.one hw)).app (hl.drop _), by simp only [List.length_append, List.length_singleton]; omega⟩
    · split
      · rw [lim_ok (by simp only [List.length_append, List.length_singleton]; omega)]
        simp only [wpR_ok]
        rw [lim_ok (by simp only [List.length_append, List.length_singleton]; omega)]
        exact ⟨((hl.take _).app (OkW.one hw)).app (hl.drop _), by simp only [List.length_append, List.length_singleton]; omega⟩
      · split
        · rw [lim_ok (by simp only [List.length_append, List.length_singleton]; omega)]
          exact ⟨hl.app (OkW.one hw), by simp⟩
        · exact ⟨hl, by omega⟩
theorem eight_ok : OkW [['a'], ['b'], ['c'], ['d'], ['e'], ['f'], ['g'], ['h']] := by unfold OkW; decide +kernel
structure OkC (n : Nat) (s : List Tx) : Prop where
  a : OkW s
  b : n ≠ 0 → s ≠ []
theorem OkC.app {n : Nat} {a b : List Tx} (h : OkC n a) (g : OkW b) : OkC n (a ++ b) := ⟨h.1.app g, fun z y => h.2 z (List.append_eq_nil_iff.mp y).1⟩
theorem formed_ok (ns : List Int) (at_ : Nat) (words : List Tx) (hn : Small ns) (hat : at_ + 8 ≤ ns.length) (hw : OkW words) (hl : words.length ≤ 100) : ∃ r, T__law_formed ns (at_ : Int) words = .ok r ∧ OkW r ∧ r.length ≤ 40 ∧ r ≠ [] := by
  refine wpR_get ?_
  unfold T__law_formed
  simp only [wpR_end, wpT_let, wpR_bind]
  refine wpR_lcF nm (fun x hx => law_is_name_ok x (by have := (hw x hx).2.1; omega)) (by omega) ?_
  have hf : OkW (words.filter nm) := hw.filter _
  have hfl : (words.filter nm).length ≤ 100 := Nat.le_trans (List.length_filter_le _ _) hl
  simp only [wpR_ok]
  rw [lim_ok (by simp; omega)]
  simp only [wpR_ok]
  have hN : OkW (words.filter nm ++ [['a'], ['b'], ['c'], ['d'], ['e'], ['f'], ['g'], ['h']]) := hf.app eight_ok
  have hNl : 8 ≤ (words.filter nm ++ [['a'], ['b'], ['c'], ['d'], ['e'], ['f'], ['g'], ['h']]).length ∧ (words.filter nm ++ [['a'], ['b'], ['c'], ['d'], ['e'], ['f'], ['g'], ['h']]).length ≤ 108 := by simp; omega
  generalize words.filter nm ++ [['a'], ['b'], ['c'], ['d'], ['e'], ['f'], ['g'], ['h']] = names at hN hNl
  have k1 : okw ['a', 'n', 'd'] := by decide
  have k2 : okw ['w', 'i', 't', 'h'] := by decide
  have k3 : okw ['w', 'i', 't', 'h', 'o', 'u', 't'] := by decide
  have k4 : okw ['t', 'r', 'u', 's', 't', 'i', 'n', 'g'] := by decide
  have k5 : okw ['a', 'n', 'y', 'b', 'o', 'd', 'y'] := by decide
  have hx : ∀ i : Nat, i < 8 → ixL ns ((at_ : Int) + (i : Int)) = .ok (nth ns (at_ + i)) := fun i hi => by
    have := ixL_nth (ns := ns) (i := at_ + i) (by omega)
    rwa [Int.natCast_add] at this
  have hx0 := hx 0 (by omega)
  have hx7 := hx 7 (by omega)
  rw [show ((at_ : Int) + ((0 : Nat) : Int)) = (at_ : Int) by omega] at hx0
  rw [hx0]
  simp only [wpR_ok]
  obtain ⟨m, hm, hm2⟩ : ∃ m : Nat, (1 : Int) + nth ns (at_ + 0) % 3 = (m : Int) ∧ m ≤ 3 := ⟨(1 + nth ns (at_ + 0) % 3).toNat, by omega, by omega⟩
  rw [hm, rng1_nat (by omega)]
  simp only [wpR_ok, wpT_seq]
  have cl : ∀ (lo hi : Option Int), (PD.cutL names lo hi).length ≤ 108 := fun lo hi => Nat.le_trans (cutL_len _ _ _) hNl.2
  have c3 : ∀ j : Int, 3 ≤ j → j ≤ 6 → (PD.cutL names (some 3) (some j)).length ≤ 3 := fun j h1 h2 => by
    rw [cutL_mid' (by omega) (by omega), List.length_take]
    omega
  have c5 : ∀ j : Int, 5 ≤ j → j ≤ 7 → (PD.cutL names (some 5) (some j)).length ≤ 2 := fun j h1 h2 => by
    rw [cutL_mid' (by omega) (by omega), List.length_take]
    omega
  have c6 : ∀ j : Int, 6 ≤ j → j ≤ 8 → (PD.cutL names (some 6) (some j)).length ≤ 2 := fun j h1 h2 => by
    rw [cutL_mid' (by omega) (by omega), List.length_take]
    omega
  refine wpT_for (fun p s => OkC p.length s ∧ s.length ≤ p.length * 9) ⟨⟨OkW.nil, fun z => absurd rfl z⟩, by simp⟩ (fun p x q s e ⟨i1, i2⟩ => ?_) (fun s ⟨i1, i2⟩ => ?_)
  · obtain ⟨rfl, hp⟩ := range_at e
    have e1 := hx (1 + p.length) (by omega)
    have e4 := hx (4 + p.length) (by omega)
    rw [show ((at_ : Int) + ((1 + p.length : Nat) : Int)) = (at_ : Int) + 1 + (p.length : Int) by omega] at e1
    rw [show ((at_ : Int) + ((4 + p.length : Nat) : Int)) = (at_ : Int) + 4 + (p.length : Int) by omega] at e4
    have b1 := hn.nth (at_ + (1 + p.length))
    have b4 := hn.nth (at_ + (4 + p.length))
    have hnm : ∃ z, ixL names (p.length : Int) = .ok z ∧ okw z := by
      have hlt : p.length < names.length := by omega
      exact ⟨names[p.length], ixL_nat (List.getElem?_eq_getElem hlt), hN _ (List.getElem_mem hlt)⟩
    obtain ⟨z, hz1, hz2⟩ := hnm
    simp only [wpT_seq, wpT_ite, wpT_let, wpT_nx, e1, e4, hz1, wpR_ok, res_bind_ok, wpT_if]
    generalize nth ns (at_ + (1 + p.length)) = v1 at b1
    generalize nth ns (at_ + (4 + p.length)) = v4 at b4
    have step : ∀ u : List Tx, OkW u → u.length ≤ p.length * 9 + 1 → wpR (ixL [z, ['a', 'n', 'y', 'b', 'o', 'd', 'y']] (v1 % 2) >>= fun x => appL u x) (fun b => OkC (p.length + 1) b ∧ b.length ≤ p.length * 9 + 2) (fun _ => False) := by
      intro u hu hul
      rw [ixL_get (by omega) (by simp; omega), res_bind_ok, appL_ok (by omega)]
      refine ⟨⟨hu.app (OkW.one ?_), fun _ => by simp⟩, by simp; omega⟩
      have : ∀ y ∈ [z, ['a', 'n', 'y', 'b', 'o', 'd', 'y']], okw y := OkW.cons hz2 (OkW.one k5)
      exact this _ (List.getElem_mem _)
    have rest : ∀ u : List Tx, OkW u → u.length ≤ p.length * 9 + 1 → wpR (ixL [z, ['a', 'n', 'y', 'b', 'o', 'd', 'y']] (v1 % 2) >>= fun x => appL u x) (fun b => if decide (v1 / 2 % 3 > 0) = true then wpR (lim (b ++ [['w', 'i', 't', 'h']]) >>= fun y => lim (y ++ PD.cutL names (some 3) (some (3 + v1 / 6 % 3 + 1)))) (fun b2 => if eqB (v4 / 2 % 3) 0 = true then wpR (lim (b2 ++ [['w', 'i', 't', 'h', 'o', 'u', 't']]) >>= fun y => lim (y ++ PD.cutL names (some 5) (some (5 + v4 / 6 % 2 + 1)))) (fun b3 => OkC (p.length + 1) b3 ∧ b3.length ≤ (p.length + 1) * 9) (fun _ => False) else OkC (p.length + 1) b2 ∧ b2.length ≤ (p.length + 1) * 9) (fun _ => False) else if eqB (v4 / 2 % 3) 0 = true then wpR (lim (b ++ [['w', 'i', 't', 'h', 'o', 'u', 't']]) >>= fun y => lim (y ++ PD.cutL names (some 5) (some (5 + v4 / 6 % 2 + 1)))) (fun b3 => OkC (p.length + 1) b3 ∧ b3.length ≤ (p.length + 1) * 9) (fun _ => False) else OkC (p.length + 1) b ∧ b.length ≤ (p.length + 1) * 9) (fun _ => False) := by
      intro u hu hul
      refine wpR_mono (step u hu hul) fun b ⟨hb, hbl⟩ => ?_
      have last : ∀ b2 : List Tx, OkC (p.length + 1) b2 → b2.length ≤ p.length * 9 + 6 → if eqB (v4 / 2 % 3) 0 = true then wpR (lim (b2 ++ [['w', 'i', 't', 'h', 'o', 'u', 't']]) >>= fun y => lim (y ++ PD.cutL names (some 5) (some (5 + v4 / 6 % 2 + 1)))) (fun b3 => OkC (p.length + 1) b3 ∧ b3.length ≤ (p.length + 1) * 9) (fun _ => False) else OkC (p.length + 1) b2 ∧ b2.length ≤ (p.length + 1) * 9 := by
        intro b2 h2 h2l
        have c := c5 (5 + v4 / 6 % 2 + 1) (by omega) (by omega)
        split
        · rw [lim_ok (by simp; omega), res_bind_ok, lim_ok (by simp; omega)]
          exact ⟨(h2.app (OkW.one k3)).app (hN.cutL _ _), by simp; omega⟩
        · exact ⟨h2, by omega⟩
      split
      · have c := c3 (3 + v1 / 6 % 3 + 1) (by omega) (by omega)
        rw [lim_ok (by simp; omega), res_bind_ok, lim_ok (by simp; omega)]
        exact last _ ((hb.app (OkW.one k2)).app (hN.cutL _ _)) (by simp; omega)
      · exact last b hb (by omega)
    split
    · rw [appL_ok (by omega)]
      simpa [List.length_append] using rest _ (i1.1.app (OkW.one k1)) (by simp; omega)
    · simpa [List.length_append] using rest _ i1.1 (by omega)
  · have hs : s.length ≤ 27 := by simp at i2; omega
    rw [show ((at_ : Int) + 7) = (at_ : Int) + ((7 : Nat) : Int) from rfl, hx7]
    have b7 := hn.nth (at_ + 7)
    generalize nth ns (at_ + 7) = v7 at b7
    simp only [res_bind_ok, wpT_if, wpR_ok, wpT_let, wpT_nx, wpT_rt]
    have c := c6 (7 + v7 / 3 % 2) (by omega) (by omega)
    split
    · rw [lim_ok (by simp; omega)]
      simp only [res_bind_ok]
      rw [lim_ok (by simp; omega)]
      exact ⟨(i1.1.app (OkW.one k4)).app (hN.cutL _ _), by simp; omega, by simp⟩
    · exact ⟨i1.1, by omega, i1.2 (by simp; omega)⟩
theorem textFrom_le {n : Nat} : ∀ (ts : List Str) (k : Nat) (acc : Str), (∀ t ∈ ts, t.length ≤ n) → (textFrom k acc ts).length ≤ acc.length + ts.length * (n + 2)
  | [], k, acc, _ => by
    unfold textFrom
    simp
  | t :: ts, k, acc, h => by
    unfold textFrom
    have ih := textFrom_le ts (k + 1) (acc ++ (if k > 0 then ", " else "" : String) ++ t) fun x hx => h x (List.mem_cons_of_mem _ hx)
    have ht := h t List.mem_cons_self
    rw [Str.length_append, Str.length_append] at ih
    have hs : (((if k > 0 then ", " else "" : String) : Str)).length ≤ 2 := by
      split
      · exact (by decide +kernel : ((", " : String) : Str).length ≤ 2)
      · exact (by decide +kernel : (("" : String) : Str).length ≤ 2)
    rw [List.length_cons, Nat.add_mul, Nat.one_mul]
    omega
theorem listText_le {n : Nat} {ts : List Str} (h : ∀ t ∈ ts, t.length ≤ n) : (listText ts).length ≤ 2 + ts.length * (n + 2) := by
  unfold listText
  rw [Str.length_append]
  have h1 := textFrom_le ts 0 "[" h
  have h2 : ("[" : Str).length = 1 := by decide +kernel
  have h3 : ("]" : Str).length = 1 := by decide +kernel
  omega
theorem piled_le {n : Nat} : ∀ {ts : List Str}, (∀ t ∈ ts, t.length ≤ n) → piled ts ≤ ts.length * (n + 2)
  | [], _ => by rw [piled_nil]; omega
  | t :: ts, h => by
    rw [piled_cons, List.length_cons, Nat.add_mul, Nat.one_mul]
    have := piled_le (n := n) (ts := ts) fun x hx => h x (List.mem_cons_of_mem _ hx)
    have := h t List.mem_cons_self
    omega
theorem tupleText_le {n : Nat} {ts : List Str} (h : ∀ t ∈ ts, t.length ≤ n) : (tupleText ts).length ≤ 3 + ts.length * (n + 2) := by
  unfold tupleText
  rw [Str.length_append, Str.length_append]
  have h1 : ("(" : Str).length = 1 := by decide +kernel
  have h2 : (((if ts.length == 1 then ",)" else ")" : String)) : Str).length ≤ 2 := by
    split
    · exact (by decide +kernel : ((",)" : String) : Str).length ≤ 2)
    · exact (by decide +kernel : ((")" : String) : Str).length ≤ 2)
  have h3 : (Str.join ", " ts).length ≤ ts.length * (n + 2) := by
    cases ts with
    | nil =>
      have : (Str.join ", " []).length = 0 := by decide +kernel
      omega
    | cons x r =>
      have := join_length_add (x :: r) (by simp)
      have := piled_le h
      omega
  omega
/-- short data -/
structure Brief (n d : Nat) (p : PyData) : Prop where
  s : p.showable = true
  h : p.hasDict = false
  d : p.depth ≤ d
  l : p.shown.length ≤ n
theorem showAll_of {n d : Nat} : ∀ {ps : List PyData}, (∀ p ∈ ps, Brief n d p) → PyData.showableAll ps = true ∧ PyData.hasDictAll ps = false ∧ PyData.depthAll ps ≤ d ∧ ∀ t ∈ PyData.shownAll ps, t.length ≤ n
  | [], _ => ⟨rfl, rfl, Nat.zero_le _, fun t ht => by cases ht⟩
  | p :: ps, h => by
    obtain ⟨a, b, c, e⟩ := showAll_of fun x hx => h x (List.mem_cons_of_mem p hx)
    have hp := h p List.mem_cons_self
    refine ⟨?_, ?_, ?_, fun t ht => ?_⟩
    · unfold PyData.showableAll
      rw [hp.s, a]
      rfl
    · unfold PyData.hasDictAll
      rw [hp.h, b]
      rfl
    · unfold PyData.depthAll
      exact Nat.max_le.mpr ⟨hp.d, c⟩
    · unfold PyData.shownAll at ht
      rcases List.mem_cons.mp ht with rfl | ht
      · exact hp.l
      · exact e t ht
theorem shownAll_len : ∀ ps : List PyData, (PyData.shownAll ps).length = ps.length
  | [] => rfl
  | p :: ps => by
    unfold PyData.shownAll
    rw [List.length_cons, shownAll_len ps, List.length_cons]
theorem Brief.list {n d k : Nat} {ps : List PyData} (h : ∀ p ∈ ps, Brief n d p) (hk : ps.length ≤ k) : Brief (2 + k * (n + 2)) (d + 1) (.list ps) := by
  obtain ⟨a, b, c, e⟩ := showAll_of h
  refine ⟨by unfold PyData.showable; exact a, by unfold PyData.hasDict; exact b, by unfold PyData.depth; omega, ?_⟩
  unfold PyData.shown
  have := listText_le e
  rw [shownAll_len] at this
  exact Nat.le_trans this (Nat.add_le_add_left (Nat.mul_le_mul_right _ hk) _)
theorem Brief.tup {n d k : Nat} {ps : List PyData} (h : ∀ p ∈ ps, Brief n d p) (hk : ps.length ≤ k) : Brief (3 + k * (n + 2)) (d + 1) (.tuple ps) := by
  obtain ⟨a, b, c, e⟩ := showAll_of h
  refine ⟨by unfold PyData.showable; exact a, by unfold PyData.hasDict; exact b, by unfold PyData.depth; omega, ?_⟩
  unfold PyData.shown
  have := tupleText_le e
  rw [shownAll_len] at this
  exact Nat.le_trans this (Nat.add_le_add_left (Nat.mul_le_mul_right _ hk) _)
theorem Brief.mono {n d n' d' : Nat} {p : PyData} (h : Brief n d p) (h1 : n ≤ n') (h2 : d ≤ d') : Brief n' d' p := ⟨h.s, h.h, Nat.le_trans h.d h2, Nat.le_trans h.l h1⟩
theorem Brief.none : Brief 4 0 .none := ⟨rfl, rfl, Nat.le_refl _, by decide +kernel⟩
theorem Brief.ok {n d : Nat} {p : PyData} (h : Brief n d p) (h1 : n ≤ 16777216) (h2 : d ≤ 40) : ShowOk p := ⟨h.s, h.h, Nat.le_trans h.d h2, Nat.le_trans h.l h1⟩
theorem int_short : ∀ i : Fin 64, (PyData.int ((i.val : Nat) : Int)).shown.length ≤ 2 := by decide +kernel
theorem Brief.int {i : Nat} (h : i < 64) : Brief 2 0 (.int (i : Int)) := ⟨by
  unfold PyData.showable
  refine decide_eq_true ?_
  rw [Int.natAbs_natCast]
  exact Nat.lt_of_le_of_lt (Nat.log2_le_self _) (by omega), rfl, Nat.le_refl _, int_short ⟨i, h⟩⟩
def pyS (t : Tx) : PyData := .str (sT t)
def pyO (o : Option Tx) : PyData := match o with | none => .none | some t => pyS t
def pyDem (d : Dem) : PyData := .tuple [pyO d.1, .list (d.2.1.map pyS), .list (d.2.2.map pyS)]
def pyOD (o : Option Dem) : PyData := match o with | none => .none | some d => pyDem d
theorem pyL_map {α : Type} {e : α → D} {f : α → PyData} (h : ∀ a, (e a).py = some (f a)) : ∀ xs : List α, pyL (xs.map e) = some (xs.map f)
  | [] => rfl
  | x :: xs => by
    rw [List.map_cons, List.map_cons]
    unfold pyL
    rw [h x, pyL_map h xs]
theorem py_o (o : Option Tx) : (eO eS o).py = some (pyO o) := by cases o <;> rfl
theorem py_l (ws : List Tx) : (eL .imm eS ws).py = some (.list (ws.map pyS)) := by
  show (pyL (ws.map eS)).map PyData.list = _
  rw [pyL_map (f := pyS) (fun _ => rfl) ws]
  rfl
theorem py_dem (d : Dem) : (eT (pc (eO eS) (pc (eL .imm eS) (p1 (eL .imm eS)))) d).py = some (pyDem d) := by
  show (pyL [eO eS d.1, eL .imm eS d.2.1, eL .imm eS d.2.2]).map PyData.tuple = _
  unfold pyL pyL pyL pyL
  rw [py_o, py_l, py_l]
  rfl
theorem py_od (o : Option Dem) : (eO (eT (pc (eO eS) (pc (eL .imm eS) (p1 (eL .imm eS))))) o).py = some (pyOD o) := by
  cases o with
  | none => rfl
  | some d => exact py_dem d
theorem Brief.str {t : Tx} (h : t.length ≤ 20) : Brief 202 0 (pyS t) := by
  refine ⟨rfl, rfl, Nat.le_refl _, ?_⟩
  show (reprText (sT t)).length ≤ 202
  have h1 := StrLaws.reprText_len (sT t) fun c hc => by
    rw [sT_toList] at hc
    obtain ⟨x, _, rfl⟩ := List.mem_map.mp hc
    exact x.val.toNat_lt
  have h2 : (sT t).length = t.length := by
    show (sT t).cps.size = t.length
    rw [← Array.length_toList, sT_toList, List.length_map]
  omega
theorem Brief.texts {ws : List Tx} (h : ∀ w ∈ ws, w.length ≤ 20) (hk : ws.length ≤ 45) : Brief 9182 1 (.list (ws.map pyS)) := (Brief.list (k := 45) (fun p hp => by
  obtain ⟨w, hw, rfl⟩ := List.mem_map.mp hp
  exact Brief.str (h w hw)) (by rw [List.length_map]; exact hk)).mono (by omega) (Nat.le_refl _)
theorem dem_in {s : List Tx} {d : Dem} (h : demV s = some d) : (∀ t, d.1 = some t → t ∈ s) ∧ (d.2.1.length ≤ s.length ∧ ∀ w ∈ d.2.1, w ∈ s) ∧ d.2.2.length ≤ s.length ∧ ∀ w ∈ d.2.2, w ∈ s := by
  have c1 := cut_sub mW s
  have c2 := cut_sub mWi (cut s mW).1
  unfold demV at h
  split at h
  · rename_i x hx
    split at h
    · cases h
      refine ⟨fun t e => ?_, ?_, ?_⟩
      · dsimp only at e
        split at e
        · cases e
        · cases e
          exact c1.1.2 _ (c2.1.2 _ (by unfold dRest at hx; rw [hx]; exact List.mem_cons_self))
      · dsimp only
        unfold dHolds
        cases hh : (cut (cut s mW).1 mWi).2 with
        | none => exact ⟨Nat.zero_le _, fun w hw => by cases hw⟩
        | some t =>
          obtain ⟨a, b⟩ := c2.2 t hh
          exact ⟨by have := c1.1.1; simp only [Option.getD_some]; omega, fun w hw => c1.1.2 w (b w hw)⟩
      · dsimp only
        unfold dLacks
        cases hh : (cut s mW).2 with
        | none => exact ⟨Nat.zero_le _, fun w hw => by cases hw⟩
        | some t =>
          obtain ⟨a, b⟩ := c1.2 t hh
          exact ⟨by simp only [Option.getD_some]; omega, b⟩
    · cases h
  · cases h
theorem goal_repr {ws : List Tx} (hw : OkW ws) (hl : ws.length ≤ 45) {x : List (Option Dem) × List Tx} (h : goalV ws = some x) : ∃ s, reprT (eO (eT (pc (eL .imm (eO (eT (pc (eO eS) (pc (eL .imm eS) (p1 (eL .imm eS))))))) (p1 (eL .imm eS))))) (some x) = .ok s := by
  obtain ⟨ds, tr⟩ := x
  refine ⟨_, reprT_tup (xs := [eL .imm (eO (eT (pc (eO eS) (pc (eL .imm eS) (p1 (eL .imm eS)))))) ds, eL .imm eS tr]) (ps := [.list (ds.map pyOD), .list (tr.map pyS)]) rfl ?_ ?_⟩
  · have e1 : (eL .imm (eO (eT (pc (eO eS) (pc (eL .imm eS) (p1 (eL .imm eS)))))) ds).py = some (.list (ds.map pyOD)) := by
      show (pyL (ds.map _)).map PyData.list = _
      rw [pyL_map py_od ds]
      rfl
    unfold pyL pyL pyL
    rw [e1, py_l]
  · have wl : ∀ w ∈ ws, w.length ≤ 20 := fun w z => (hw w z).2.1
    have ct := cut_sub mT ws
    unfold goalV at h
    split at h
    · have h := Option.some.inj h
      have h1 : ds = (segs mAn (cut ws mT).1).map demV := (Prod.mk.inj h).1.symm
      have h2 : tr = (cut ws mT).2.getD [] := (Prod.mk.inj h).2.symm
      obtain ⟨s1, s2⟩ := segs_len mAn (cut ws mT).1
      have b : Brief (3 + 2 * (1300000 + 2)) 5 (.tuple [.list (ds.map pyOD), .list (tr.map pyS)]) := by
        refine Brief.tup (d := 4) (fun q hq => ?_) (Nat.le_refl _)
        simp only [List.mem_cons, List.not_mem_nil, or_false] at hq
        rcases hq with rfl | rfl
        · refine (Brief.list (n := 3 + 3 * (9182 + 2)) (d := 2) (k := 46) (fun y hy => ?_) (by rw [List.length_map, h1, List.length_map]; have := ct.1.1; omega)).mono (by omega) (by omega)
          obtain ⟨o, ho, rfl⟩ := List.mem_map.mp hy
          cases o with
          | none => exact Brief.none.mono (by omega) (by omega)
          | some d =>
            rw [h1] at ho
            obtain ⟨sg, hsg, e⟩ := List.mem_map.mp ho
            obtain ⟨a1, a2, a3, a4⟩ := dem_in e
            obtain ⟨b1, b2⟩ := s2 sg hsg
            have inw : ∀ w ∈ sg, w.length ≤ 20 := fun w z => wl w (ct.1.2 w (b2 w z))
            have cl := ct.1.1
            refine Brief.tup (n := 9182) (d := 1) (fun z hz => ?_) (Nat.le_refl _)
            simp only [List.mem_cons, List.not_mem_nil, or_false] at hz
            rcases hz with rfl | rfl | rfl
            · cases hd : d.1 with
              | none => exact Brief.none.mono (by omega) (by omega)
              | some t => exact (Brief.str (inw t (a1 t hd))).mono (by omega) (by omega)
            · exact Brief.texts (fun w z => inw w (a2.2 w z)) (by have := a2.1; omega)
            · exact Brief.texts (fun w z => inw w (a4 w z)) (by omega)
        · refine Brief.mono (n := 9182) (d := 1) ?_ (by omega) (by omega)
          rw [h2]
          cases hh : (cut ws mT).2 with
          | none => exact Brief.texts (fun w z => by cases z) (Nat.zero_le _)
          | some t =>
            obtain ⟨a, c⟩ := ct.2 t hh
            exact Brief.texts (fun w z => wl w (c w z)) (by simp only [Option.getD_some]; omega)
      exact b.ok (by omega) (by omega)
    · cases h
theorem law_true (script : List Int) : T_law script = .ok true := by
  refine wpR_eq ?_
  unfold T_law
  obtain ⟨ns, n1, n2, n3⟩ := numbers_ok script 60 (by omega)
  have n1 : T__law_numbers script (60 : Int) = .ok ns := n1
  have nx : ∀ i : Nat, i < 60 → ixL ns (i : Int) = .ok (nth ns i) := fun i hi => ixL_nth (by omega)
  have x40 : ixL ns 40 = .ok (nth ns 40) := nx 40 (by omega)
  have x41 : ixL ns 41 = .ok (nth ns 41) := nx 41 (by omega)
  have x50 : ixL ns 50 = .ok (nth ns 50) := nx 50 (by omega)
  have x52 : ixL ns 52 = .ok (nth ns 52) := nx 52 (by omega)
  have x53 : ixL ns 53 = .ok (nth ns 53) := nx 53 (by omega)
  have hm := fun i => n3.nth i
  obtain ⟨m, m1, m3⟩ : ∃ m : Nat, nth ns 40 % 9 = (m : Int) ∧ m ≤ 8 := ⟨(nth ns 40 % 9).toNat, by omega, by omega⟩
  simp only [wpR_end, wpT_let, n1, wpR_ok, wpR_bind, x40, m1]
  rw [rng1_nat (by omega)]
  simp only [wpR_ok]
  refine wpR_lcM okw (fun x hx => ?_) (by simp; omega) (fun words hwl hw => ?_)
  · obtain ⟨i, hi, rfl⟩ := List.mem_map.mp hx
    have hi := List.mem_range.mp hi
    have e1 : ixL ns (2 * Int.ofNat i) = .ok (nth ns (2 * i)) := by
      have := nx (2 * i) (by omega)
      rwa [Int.natCast_mul] at this
    have e2 : ixL ns (2 * Int.ofNat i + 1) = .ok (nth ns (2 * i + 1)) := by
      have := nx (2 * i + 1) (by omega)
      rwa [Int.natCast_add, Int.natCast_mul] at this
    simp only [e1, e2, res_bind_ok]
    exact word_ok _ _ (hm _) (hm _)
  have hw : OkW words := hw
  have hwl : words.length = m := by simpa using hwl
  simp only [wpT_seq]
  refine wpT_mono (N := fun u : List Tx => OkW u ∧ u.length ≤ 45) ?_ fun u ⟨hu, hul⟩ => ?_
  · simp only [wpT_if, wpR_bind, x41, wpR_ok]
    by_cases c : decide (nth ns 41 % 3 > 0) = true
    · rw [if_pos c]
      obtain ⟨fm, f1, f2, f3, f4⟩ := formed_ok ns 42 words n3 (by omega) hw (by omega)
      have f1 : T__law_formed ns (42 : Int) words = .ok fm := f1
      simp only [wpT_let, wpR_ok, f1, wpT_if, wpR_bind, x50]
      by_cases c2 : decide (nth ns 50 % 3 > 0) = true
      · rw [if_pos c2]
        obtain ⟨w, w1, w2⟩ := word_ok _ _ (hm 52) (hm 53)
        obtain ⟨r, t1, t2, t3⟩ := turned_ok ns 51 fm w n3 (by omega) f2 f4 (by omega) w2
        have t1 : T__law_turned ns (51 : Int) fm w = .ok r := t1
        simp only [wpT_let, wpR_bind, wpR_ok, x52, x53, w1, t1, wpT_nx]
        exact ⟨t2, by omega⟩
      · rw [if_neg c2, wpT_nx]
        exact ⟨f2, by omega⟩
    · rw [if_neg c, wpT_nx]
      exact ⟨hw, by omega⟩
  · have sh : Short u := hu.short (by omega)
    simp only [wpT_let, wpR_ok, goal_ok u sh, law_goal_ok u sh, wpT_ite]
    rw [if_neg (by rw [show eqB u u = true from eqB_iff.mpr rfl]; decide)]
    cases hg : goalV u with
    | none =>
      rw [if_pos (show (none : Option (List (Option Dem) × List Tx)).isNone = true from rfl)]
      rfl
    | some x =>
      obtain ⟨s, hs⟩ := goal_repr hu hul hg
      rw [if_neg (show ¬ (some x : Option (List (Option Dem) × List Tx)).isNone = true from Bool.false_ne_true)]
      simp only [wpT_ret, wpR_andR, wpR_ok]
      rw [if_pos (show (some x : Option (List (Option Dem) × List Tx)).isSome = true from rfl)]
      simp only [wpR_bind, hs, wpR_ok]
      simp
theorem hF (ns : List Int) : F_law [.lst .frz (ns.map PD.D.int)] = .ok (.bl true) := Ev.get (g := eB) (t_law ns) (law_true ns)
end K61
end
open PySem PySem.W PySem.Calls PyProof.Rows
theorem PySem.Challenge.cw_whoevermay_k61_words_of_goals_holds : PySem.Challenge.rw_whoevermay_k61_words_of_goals.Holds := by
  exact K61.closed fun ns _ => K61.hF ns
