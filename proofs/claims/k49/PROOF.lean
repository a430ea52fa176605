import PyProof.Rows.All
import Wide.All
import OpenK.AllK
import Wide.FinOn
import HandS.ForMost
import HandS.Exc
import HandS.ExcOwn
import HandS.TryMany
import HandS.WordsExc
import HandS.Defaults
import HandS.Property
import HandS.Deep
import KE.KDictKeyed
import HandS.TupAny
import HandS.NoneIn
import HandS.Flow
import HandS.Style
import HandS.Walk
import HandS.MakeKwOnly
import HandS.SetFor
import HandS.More
import HandS.IsInst
import HandS.Strs
import HandS.Conv
import HandS.SortInts
import HandS.TupLen
import HandS.WordsDict
import HandS.Text
import HandS.RaiseMore
import PyProof.StrOps2
import HandS.Head0
import HandS.Head1
import HandS.Head2
import HandS.HeadEnd
import HandS.HeadHook1
import HandS.HeadHook2
import HandS.HeadHook3
import HandS.HeadHook4
import KE.GoesEnum
import HandS.Star
import KE.KUnpackStar
import HandS.DictComp
import HandS.Small
import HandS.ExcIs
import HandS.ExcField
import HandS.TryElse
import HandS.ExcInit
import KE.KExcSuper
import HandS.ExcSuper
import HandS.HotCalls
import HandS.Iter
import KE.SortData
import HandS.FStr
import KE.KRevSl
import HandS.ListItems
import PyProof.MeetsStr3
import HandS.ReplaceDef
import HandS.ReplaceLit
import HandS.Codes
import HandS.ReplaceList
import PySem.Challenge.RW_whoevermay_k49_texts_of_plans
set_option Elab.async false
set_option linter.all false
set_option maxRecDepth 100000
set_option synthInstance.maxSize 2000
set_option maxHeartbeats 4000000
namespace PD
open PySem L2

/-- imm: never changes; bor: borrowed, read only; own: ours, may change; frz: the script -/
inductive Fl where
  | imm | bor | own | frz
  deriving DecidableEq

inductive D where
  | non | bl (b : Bool) | int (i : Int) | str (s : Str)
  | tup (xs : List D)
  | ktup (xs : List D)   -- a tuple of the module's text
  | lst (f : Fl) (xs : List D)
  | dk (f : Fl) (ks : List Key) (vs : List D)
  | dt (f : Fl) (ks : List (List Key)) (vs : List D)
  | dn (f : Fl) (ks : List NestedKey) (vs : List D)
  | obj (f : Fl) (c : Nat) (ns : List Nat) (vs : List D)

mutual
/-- all marks imm -/
def D.imm : D → Bool
  | .tup xs => immL xs
  | .ktup xs => immL xs
  | .lst f xs => decide (f = .imm) && immL xs
  | .dk f _ vs => decide (f = .imm) && immL vs
  | .dt f _ vs => decide (f = .imm) && immL vs
  | .dn f _ vs => decide (f = .imm) && immL vs
  | .obj f _ _ vs => decide (f = .imm) && immL vs
  | _ => true
def immL : List D → Bool
  | [] => true
  | d :: ds => d.imm && immL ds
end
mutual
/-- no mark own -/
def D.noOwn : D → Bool
  | .tup xs => noOwnL xs
  | .ktup xs => noOwnL xs
  | .lst f xs => decide (f ≠ .own) && noOwnL xs
  | .dk f _ vs => decide (f ≠ .own) && noOwnL vs
  | .dt f _ vs => decide (f ≠ .own) && noOwnL vs
  | .dn f _ vs => decide (f ≠ .own) && noOwnL vs
  | .obj f _ _ vs => decide (f ≠ .own) && noOwnL vs
  | _ => true
def noOwnL : List D → Bool
  | [] => true
  | d :: ds => d.noOwn && noOwnL ds
end
/-- own becomes imm -/
def Fl.fr : Fl → Fl
  | .own => .imm
  | f => f
/-- own becomes bor -/
def Fl.dm : Fl → Fl
  | .own => .bor
  | f => f
mutual
def D.fr : D → D
  | .tup xs => .tup (frL xs)
  | .ktup xs => .ktup (frL xs)
  | .lst f xs => .lst f.fr (frL xs)
  | .dk f ks vs => .dk f.fr ks (frL vs)
  | .dt f ks vs => .dt f.fr ks (frL vs)
  | .dn f ks vs => .dn f.fr ks (frL vs)
  | .obj f c ns vs => .obj f.fr c ns (frL vs)
  | d => d
def frL : List D → List D
  | [] => []
  | d :: ds => d.fr :: frL ds
end
mutual
def D.dm : D → D
  | .tup xs => .tup (dmL xs)
  | .ktup xs => .ktup (dmL xs)
  | .lst f xs => .lst f.dm (dmL xs)
  | .dk f ks vs => .dk f.dm ks (dmL vs)
  | .dt f ks vs => .dt f.dm ks (dmL vs)
  | .dn f ks vs => .dn f.dm ks (dmL vs)
  | .obj f c ns vs => .obj f.dm c ns (dmL vs)
  | d => d
def dmL : List D → List D
  | [] => []
  | d :: ds => d.dm :: dmL ds
end
theorem immL_eq : ∀ xs : List D, immL xs = xs.all D.imm
  | [] => rfl
  | d :: ds => by simp only [immL, List.all_cons, immL_eq ds]
theorem noOwnL_eq : ∀ xs : List D, noOwnL xs = xs.all D.noOwn
  | [] => rfl
  | d :: ds => by simp only [noOwnL, List.all_cons, noOwnL_eq ds]
theorem frL_eq : ∀ xs : List D, frL xs = xs.map D.fr
  | [] => rfl
  | d :: ds => by simp only [frL, List.map_cons, frL_eq ds]
theorem dmL_eq : ∀ xs : List D, dmL xs = xs.map D.dm
  | [] => rfl
  | d :: ds => by simp only [dmL, List.map_cons, dmL_eq ds]


theorem Fl.fr_fr (f : Fl) : f.fr.fr = f.fr := by cases f <;> rfl
mutual
theorem fr_fr : ∀ d : D, d.fr.fr = d.fr
  | .non => rfl
  | .bl _ => rfl
  | .int _ => rfl
  | .str _ => rfl
  | .tup xs => by simp only [D.fr, frL_frL xs]
  | .ktup xs => by simp only [D.fr, frL_frL xs]
  | .lst f xs => by simp only [D.fr, frL_frL xs, Fl.fr_fr]
  | .dk f ks xs => by simp only [D.fr, frL_frL xs, Fl.fr_fr]
  | .dt f ks xs => by simp only [D.fr, frL_frL xs, Fl.fr_fr]
  | .dn f ks xs => by simp only [D.fr, frL_frL xs, Fl.fr_fr]
  | .obj f c ns xs => by simp only [D.fr, frL_frL xs, Fl.fr_fr]
theorem frL_frL : ∀ xs : List D, frL (frL xs) = frL xs
  | [] => rfl
  | d :: ds => by simp only [frL, fr_fr d, frL_frL ds]
end

/-- an exception of the program: its class, its fields -/
structure Exc where
  c : Nat
  ns : List Nat
  vs : List D
inductive Res (α : Type) where
  | ok (a : α)
  | ex (e : Exc)
  | bad
@[reducible] def Res.bind {α β : Type} (r : Res α) (f : α → Res β) : Res β := match r with
  | .ok a => f a
  | .ex e => .ex e
  | .bad => .bad
instance : Monad Res where
  pure := .ok
  bind := Res.bind
@[simp] theorem res_bind_ok {α β : Type} (a : α) (f : α → Res β) : (Res.ok a >>= f) = f a := rfl
@[simp] theorem res_bind_ex {α β : Type} (e : Exc) (f : α → Res β) : (Res.ex e >>= f) = .ex e := rfl
@[simp] theorem res_bind_bad {α β : Type} (f : α → Res β) : (Res.bad >>= f) = .bad := rfl
@[simp] theorem res_pure {α : Type} (a : α) : (pure a : Res α) = .ok a := rfl
abbrev Env := List (Option D)
inductive Out where
  | nx (E : Env)
  | rt (d : D) (E : Env)
  | bk (E : Env)
  | ct (E : Env)
  | ex (e : Exc) (E : Env)
  | bad
/-- what an expression that may change something gives -/
inductive MRes where
  | ok (d : D) (E : Env)
  | ex (e : Exc) (E : Env)
  | bad
end PD
namespace PD
open PySem L2

abbrev AS := Addr → Prop
/-- the classes' places, the attributes' names by number -/
structure Tb where
  cl : Nat → Addr
  nm : Nat → Str
  inj : ∀ i j, nm i = nm j → i = j
  hs : NestedKey → Int := fun _ => 0
abbrev none_ : AS := fun _ => False
def KL (K : PySem.W.Frag) (a : Addr) (xs : List V) : Prop := ∃ (o : Obj) (its : Array Value) (n : Nat), K.lookup a = some o ∧ o.cls = .type "list" ∧ o.dict = none ∧ o.data = .seq its n ∧ its.size ≤ sizeLine ∧ Vals xs its.toList
def KT (K : PySem.W.Frag) (a : Addr) (xs : List V) : Prop := ∃ (o : Obj) (its : Array Value) (n : Nat), K.lookup a = some o ∧ o.cls = .type "tuple" ∧ o.data = .seq its n ∧ its.size ≤ sizeLine ∧ Vals xs its.toList
def Cell (H : Hp) (I M F : AS) (f : Fl) (p : Addr) (o : HO) : Prop := match f with
  | .imm => H p = some o ∧ ¬ I p
  | .bor => H p = some o ∧ ¬ M p
  | .own => H p = some o ∧ F p
  | .frz => Rd H p o ∧ ¬ I p
/-- what is left for the parts -/
def sub (F : AS) (f : Fl) (p : Addr) : AS := match f with
  | .own => fun a => F a ∧ a ≠ p
  | _ => none_
/-- the dict at p of keys that are tuples of tuples: ks, their tuples ws, the values vs -/
def DN (hs : NestedKey → Int) (p : Addr) (ks : List NestedKey) (ws vs : List V) (h : Heap) : Prop :=
  ks.length ≤ sizeLine ∧ (p == sysModules) = false ∧ (∀ k ∈ ks, k.depth ≤ 8) ∧ ks.Nodup ∧ ∃ xs : List (NestedKey × Addr × Value), xs.map (·.1) = ks ∧ ws = xs.map (fun x => V.ref x.2.1) ∧ Vals vs (xs.map (·.2.2)) ∧
    ∃ o es ep, h.get? p = some o ∧ o.ExactDict ∧ o.data = .dict es ep ∧ es.toList = xs.map fun x => { hash := hs x.1, key := .ref x.2.1, val := x.2.2 }
mutual
/-- a key that never changes -/
def RepK (H : Hp) (I : AS) : NestedKey → V → Prop
  | .none, v => v = .non
  | .num i, v => v = .int i
  | .text s, v => v = .str s
  | .tup ks, v => ∃ p vs, v = .ref p ∧ (H p = some (.tup vs) ∧ ¬ I p) ∧ RepKL H I ks vs
def RepKL (H : Hp) (I : AS) : List NestedKey → List V → Prop
  | [], vs => vs = []
  | k :: ks, vs => ∃ v ws, vs = v :: ws ∧ RepK H I k v ∧ RepKL H I ks ws
end
section
variable {H H' : Hp} {I I' : AS}
mutual
theorem RepK.monoT (h1 : ∀ a ws, H a = some (.tup ws) → ¬ I a → H' a = some (.tup ws) ∧ ¬ I' a) : ∀ (k : NestedKey) (v : V), RepK H I k v → RepK H' I' k v
  | .none, _, h => h
  | .num _, _, h => h
  | .text _, _, h => h
  | .tup ks, v, h => by
    obtain ⟨p, vs, e, c, r⟩ := h
    exact ⟨p, vs, e, h1 _ _ c.1 c.2, RepKL.monoT h1 ks vs r⟩
theorem RepKL.monoT (h1 : ∀ a ws, H a = some (.tup ws) → ¬ I a → H' a = some (.tup ws) ∧ ¬ I' a) : ∀ (ks : List NestedKey) (vs : List V), RepKL H I ks vs → RepKL H' I' ks vs
  | [], _, h => h
  | k :: ks, vs, h => by
    obtain ⟨v, ws, e, r1, r2⟩ := h
    exact ⟨v, ws, e, RepK.monoT h1 k v r1, RepKL.monoT h1 ks ws r2⟩
end
theorem RepKL.mono (h1 : ∀ a o, H a = some o → ¬ I a → H' a = some o ∧ ¬ I' a) (ks : List NestedKey) (vs : List V) (h : RepKL H I ks vs) : RepKL H' I' ks vs := RepKL.monoT (fun a ws q n => h1 a _ q n) ks vs h
end
section
variable (K : PySem.W.Frag) (cl : Tb) (H : Hp) (I M : AS)
mutual
def Rep : D → V → AS → Prop
  | .non, v, _ => v = .non
  | .bl b, v, _ => v = .bl b
  | .int i, v, _ => v = .int i
  | .str s, v, _ => v = .str s
  | .tup xs, v, F => ∃ p vs, v = .ref p ∧ (H p = some (.tup vs) ∧ ¬ I p) ∧ RepL xs vs F
  | .ktup xs, v, _ => ∃ p vs, v = .ref p ∧ KT K p vs ∧ RepL xs vs none_
  | .lst f xs, v, F => ∃ p vs, v = .ref p ∧ (Cell H I M F f p (.lst vs) ∨ (f = .frz ∧ KL K p vs)) ∧ RepL xs vs (sub F f p)
  | .dk f ks xs, v, F => ∃ p vs, v = .ref p ∧ ks.length = xs.length ∧ Cell H I M F f p (.dK (ks.zip vs)) ∧ RepL xs vs (sub F f p)
  | .dt f ks xs, v, F => ∃ p vs, v = .ref p ∧ ks.length = xs.length ∧ Cell H I M F f p (.dT (ks.zip vs)) ∧ RepL xs vs (sub F f p)
  | .dn f ks xs, v, F => ∃ p ws vs, v = .ref p ∧ ks.length = xs.length ∧ RepKL H I ks ws ∧ Cell H I M F f p (.ext (DN cl.hs p ks ws vs)) ∧ RepL xs vs (sub F f p)
  | .obj f c ns xs, v, F => ∃ p dx vs, v = .ref p ∧ ns.length = xs.length ∧ Cell H I M F f p (.ins (cl.cl c) dx ((ns.map cl.nm).zip vs)) ∧ RepL xs vs (sub F f p)
def RepL : List D → List V → AS → Prop
  | [], vs, _ => vs = []
  | d :: ds, vs, F => ∃ v ws F1 F2, vs = v :: ws ∧ Rep d v F1 ∧ RepL ds ws F2 ∧ (∀ a, F1 a → F a) ∧ (∀ a, F2 a → F a) ∧ (∀ a, F1 a → ¬ F2 a)
end
end
section
variable {K : PySem.W.Frag} {cl : Tb} {H H' : Hp} {I I' M M' F F' : AS}
theorem cell_mono {f : Fl} {p : Addr} {o : HO} (h1 : ∀ a o, H a = some o → ¬ I a → H' a = some o ∧ ¬ I' a) (h2 : ∀ a o, H a = some o → ¬ M a → H' a = some o ∧ ¬ M' a) (h3 : ∀ a o, H a = some o → F a → H' a = some o) (hF : ∀ a, F a → F' a)
    (c : Cell H I M F f p o) : Cell H' I' M' F' f p o := by
  cases f with
  | imm => exact ⟨(h1 _ _ c.1 c.2).1, (h1 _ _ c.1 c.2).2⟩
  | bor => exact ⟨(h2 _ _ c.1 c.2).1, (h2 _ _ c.1 c.2).2⟩
  | own => exact ⟨h3 _ _ c.1 c.2, hF _ c.2⟩
  | frz =>
    obtain ⟨r, n⟩ := c
    rcases r with r | ⟨ob, r⟩
    · exact ⟨.inl (h1 _ _ r n).1, (h1 _ _ r n).2⟩
    · exact ⟨.inr ⟨ob, (h1 _ _ r n).1⟩, (h1 _ _ r n).2⟩
theorem sub_mono {f : Fl} {p : Addr} (hF : ∀ a, F a → F' a) : ∀ a, sub F f p a → sub F' f p a := by
  intro a h
  cases f with
  | own => exact ⟨hF _ h.1, h.2⟩
  | _ => exact h
theorem sub_le {f : Fl} {p : Addr} : ∀ a, sub F f p a → F a := by
  intro a h
  cases f with
  | own => exact h.1
  | _ => exact h.elim

mutual
theorem Rep.mono (h1 : ∀ a o, H a = some o → ¬ I a → H' a = some o ∧ ¬ I' a) (h2 : ∀ a o, H a = some o → ¬ M a → H' a = some o ∧ ¬ M' a) : ∀ (d : D) (v : V) (F F' : AS), (∀ a o, H a = some o → F a → H' a = some o) → (∀ a, F a → F' a) → Rep K cl H I M d v F → Rep K cl H' I' M' d v F'
  | .non, _, _, _, _, _, h => h
  | .bl _, _, _, _, _, _, h => h
  | .int _, _, _, _, _, _, h => h
  | .str _, _, _, _, _, _, h => h
  | .tup xs, v, F, F', h3, hF, h => by
    obtain ⟨p, vs, e, c, r⟩ := h
    exact ⟨p, vs, e, h1 _ _ c.1 c.2, RepL.mono h1 h2 xs vs F F' h3 hF r⟩
  | .ktup xs, v, F, F', h3, hF, h => by
    obtain ⟨p, vs, e, c, r⟩ := h
    exact ⟨p, vs, e, c, RepL.mono h1 h2 xs vs none_ none_ (fun _ _ _ z => z.elim) (fun _ z => z) r⟩
  | .lst f xs, v, F, F', h3, hF, h => by
    obtain ⟨p, vs, e, c, r⟩ := h
    refine ⟨p, vs, e, ?_, RepL.mono h1 h2 xs vs _ _ (fun a o q z => h3 a o q (sub_le a z)) (sub_mono hF) r⟩
    rcases c with c | c
    · exact .inl (cell_mono h1 h2 h3 hF c)
    · exact .inr c
  | .dk f ks xs, v, F, F', h3, hF, h => by
    obtain ⟨p, vs, e, l, c, r⟩ := h
    exact ⟨p, vs, e, l, cell_mono h1 h2 h3 hF c, RepL.mono h1 h2 xs vs _ _ (fun a o q z => h3 a o q (sub_le a z)) (sub_mono hF) r⟩
  | .dt f ks xs, v, F, F', h3, hF, h => by
    obtain ⟨p, vs, e, l, c, r⟩ := h
    exact ⟨p, vs, e, l, cell_mono h1 h2 h3 hF c, RepL.mono h1 h2 xs vs _ _ (fun a o q z => h3 a o q (sub_le a z)) (sub_mono hF) r⟩
  | .dn f ks xs, v, F, F', h3, hF, h => by
    obtain ⟨p, ws, vs, e, l, kk, c, r⟩ := h
    exact ⟨p, ws, vs, e, l, RepKL.mono h1 ks ws kk, cell_mono h1 h2 h3 hF c, RepL.mono h1 h2 xs vs _ _ (fun a o q z => h3 a o q (sub_le a z)) (sub_mono hF) r⟩
  | .obj f c ns xs, v, F, F', h3, hF, h => by
    obtain ⟨p, dx, vs, e, l, c, r⟩ := h
    exact ⟨p, dx, vs, e, l, cell_mono h1 h2 h3 hF c, RepL.mono h1 h2 xs vs _ _ (fun a o q z => h3 a o q (sub_le a z)) (sub_mono hF) r⟩
theorem RepL.mono (h1 : ∀ a o, H a = some o → ¬ I a → H' a = some o ∧ ¬ I' a) (h2 : ∀ a o, H a = some o → ¬ M a → H' a = some o ∧ ¬ M' a) : ∀ (xs : List D) (vs : List V) (F F' : AS), (∀ a o, H a = some o → F a → H' a = some o) → (∀ a, F a → F' a) → RepL K cl H I M xs vs F → RepL K cl H' I' M' xs vs F'
  | [], _, _, _, _, _, h => h
  | d :: ds, vs, F, F', h3, hF, h => by
    obtain ⟨v, ws, F1, F2, e, r1, r2, a1, a2, a3⟩ := h
    exact ⟨v, ws, F1, F2, e, Rep.mono h1 h2 d v F1 F1 (fun a o q z => h3 a o q (a1 a z)) (fun _ z => z) r1, RepL.mono h1 h2 ds ws F2 F2 (fun a o q z => h3 a o q (a2 a z)) (fun _ z => z) r2, fun a z => hF a (a1 a z), fun a z => hF a (a2 a z), a3⟩
end
theorem cell_noOwn {f : Fl} {p : Addr} {o : HO} (h : f ≠ .own) (c : Cell H I M F f p o) : Cell H I M F' f p o := by
  cases f with
  | own => exact absurd rfl h
  | _ => exact c
mutual
theorem Rep.noOwn : ∀ (d : D) (v : V) (F F' : AS), d.noOwn = true → Rep K cl H I M d v F → Rep K cl H I M d v F'
  | .non, _, _, _, _, h => h
  | .bl _, _, _, _, _, h => h
  | .int _, _, _, _, _, h => h
  | .str _, _, _, _, _, h => h
  | .tup xs, v, F, F', n, h => by
    simp only [D.noOwn] at n
    obtain ⟨p, vs, e, c, r⟩ := h
    exact ⟨p, vs, e, c, RepL.noOwn xs vs _ _ n r⟩
  | .ktup xs, v, F, F', _, h => h
  | .lst f xs, v, F, F', n, h => by
    simp only [D.noOwn, Bool.and_eq_true, decide_eq_true_eq] at n
    obtain ⟨p, vs, e, c, r⟩ := h
    refine ⟨p, vs, e, ?_, RepL.noOwn xs vs _ _ n.2 r⟩
    rcases c with c | c
    · exact .inl (cell_noOwn n.1 c)
    · exact .inr c
  | .dk f ks xs, v, F, F', n, h => by
    simp only [D.noOwn, Bool.and_eq_true, decide_eq_true_eq] at n
    obtain ⟨p, vs, e, l, c, r⟩ := h
    exact ⟨p, vs, e, l, cell_noOwn n.1 c, RepL.noOwn xs vs _ _ n.2 r⟩
  | .dt f ks xs, v, F, F', n, h => by
    simp only [D.noOwn, Bool.and_eq_true, decide_eq_true_eq] at n
    obtain ⟨p, vs, e, l, c, r⟩ := h
    exact ⟨p, vs, e, l, cell_noOwn n.1 c, RepL.noOwn xs vs _ _ n.2 r⟩
  | .dn f ks xs, v, F, F', n, h => by
    simp only [D.noOwn, Bool.and_eq_true, decide_eq_true_eq] at n
    obtain ⟨p, ws, vs, e, l, kk, c, r⟩ := h
    exact ⟨p, ws, vs, e, l, kk, cell_noOwn n.1 c, RepL.noOwn xs vs _ _ n.2 r⟩
  | .obj f c ns xs, v, F, F', n, h => by
    simp only [D.noOwn, Bool.and_eq_true, decide_eq_true_eq] at n
    obtain ⟨p, dx, vs, e, l, c, r⟩ := h
    exact ⟨p, dx, vs, e, l, cell_noOwn n.1 c, RepL.noOwn xs vs _ _ n.2 r⟩
theorem RepL.noOwn : ∀ (xs : List D) (vs : List V) (F F' : AS), noOwnL xs = true → RepL K cl H I M xs vs F → RepL K cl H I M xs vs F'
  | [], _, _, _, _, h => h
  | d :: ds, vs, F, F', n, h => by
    simp only [noOwnL, Bool.and_eq_true] at n
    obtain ⟨v, ws, F1, F2, e, r1, r2, a1, a2, a3⟩ := h
    exact ⟨v, ws, none_, none_, e, Rep.noOwn d v F1 none_ n.1 r1, RepL.noOwn ds ws F2 none_ n.2 r2, fun _ z => z.elim, fun _ z => z.elim, fun _ z => z.elim⟩
end
/-- imm: nothing borrowed either -/
theorem cell_imm {f : Fl} {p : Addr} {o : HO} (h : f = .imm) (c : Cell H I M F f p o) : Cell H I M' F' f p o := by
  subst h
  exact c
mutual
theorem Rep.imm : ∀ (d : D) (v : V) (F F' : AS), d.imm = true → Rep K cl H I M d v F → Rep K cl H I M' d v F'
  | .non, _, _, _, _, h => h
  | .bl _, _, _, _, _, h => h
  | .int _, _, _, _, _, h => h
  | .str _, _, _, _, _, h => h
  | .tup xs, v, F, F', n, h => by
    simp only [D.imm] at n
    obtain ⟨p, vs, e, c, r⟩ := h
    exact ⟨p, vs, e, c, RepL.imm xs vs _ _ n r⟩
  | .ktup xs, v, F, F', n, h => by
    simp only [D.imm] at n
    obtain ⟨p, vs, e, c, r⟩ := h
    exact ⟨p, vs, e, c, RepL.imm xs vs _ _ n r⟩
  | .lst f xs, v, F, F', n, h => by
    simp only [D.imm, Bool.and_eq_true, decide_eq_true_eq] at n
    obtain ⟨p, vs, e, c, r⟩ := h
    refine ⟨p, vs, e, ?_, RepL.imm xs vs _ _ n.2 r⟩
    rcases c with c | c
    · exact .inl (cell_imm n.1 c)
    · exact .inr c
  | .dk f ks xs, v, F, F', n, h => by
    simp only [D.imm, Bool.and_eq_true, decide_eq_true_eq] at n
    obtain ⟨p, vs, e, l, c, r⟩ := h
    exact ⟨p, vs, e, l, cell_imm n.1 c, RepL.imm xs vs _ _ n.2 r⟩
  | .dt f ks xs, v, F, F', n, h => by
    simp only [D.imm, Bool.and_eq_true, decide_eq_true_eq] at n
    obtain ⟨p, vs, e, l, c, r⟩ := h
    exact ⟨p, vs, e, l, cell_imm n.1 c, RepL.imm xs vs _ _ n.2 r⟩
  | .dn f ks xs, v, F, F', n, h => by
    simp only [D.imm, Bool.and_eq_true, decide_eq_true_eq] at n
    obtain ⟨p, ws, vs, e, l, kk, c, r⟩ := h
    exact ⟨p, ws, vs, e, l, kk, cell_imm n.1 c, RepL.imm xs vs _ _ n.2 r⟩
  | .obj f c ns xs, v, F, F', n, h => by
    simp only [D.imm, Bool.and_eq_true, decide_eq_true_eq] at n
    obtain ⟨p, dx, vs, e, l, c, r⟩ := h
    exact ⟨p, dx, vs, e, l, cell_imm n.1 c, RepL.imm xs vs _ _ n.2 r⟩
theorem RepL.imm : ∀ (xs : List D) (vs : List V) (F F' : AS), immL xs = true → RepL K cl H I M xs vs F → RepL K cl H I M' xs vs F'
  | [], _, _, _, _, h => h
  | d :: ds, vs, F, F', n, h => by
    simp only [immL, Bool.and_eq_true] at n
    obtain ⟨v, ws, F1, F2, e, r1, r2, a1, a2, a3⟩ := h
    exact ⟨v, ws, none_, none_, e, Rep.imm d v F1 none_ n.1 r1, RepL.imm ds ws F2 none_ n.2 r2, fun _ z => z.elim, fun _ z => z.elim, fun _ z => z.elim⟩
end
/-- own becomes imm -/
theorem cell_fr {f : Fl} {p : Addr} {o : HO} (h1 : ∀ a, I' a → I a) (h3 : ∀ a, F a → ¬ I' a) (c : Cell H I M F f p o) : Cell H I' M none_ f.fr p o := by
  cases f with
  | imm => exact ⟨c.1, fun z => c.2 (h1 _ z)⟩
  | bor => exact c
  | own => exact ⟨c.1, h3 _ c.2⟩
  | frz => exact ⟨c.1, fun z => c.2 (h1 _ z)⟩
theorem sub_fr {f : Fl} {p : Addr} : sub none_ f.fr p = none_ := by cases f <;> rfl
mutual
theorem Rep.fr (h1 : ∀ a, I' a → I a) : ∀ (d : D) (v : V) (F : AS), (∀ a, F a → ¬ I' a) → Rep K cl H I M d v F → Rep K cl H I' M d.fr v none_
  | .non, _, _, _, h => h
  | .bl _, _, _, _, h => h
  | .int _, _, _, _, h => h
  | .str _, _, _, _, h => h
  | .tup xs, v, F, h3, h => by
    obtain ⟨p, vs, e, c, r⟩ := h
    exact ⟨p, vs, e, ⟨c.1, fun z => c.2 (h1 _ z)⟩, RepL.fr h1 xs vs _ h3 r⟩
  | .ktup xs, v, F, h3, h => by
    obtain ⟨p, vs, e, c, r⟩ := h
    exact ⟨p, vs, e, c, RepL.fr h1 xs vs _ (fun _ z => z.elim) r⟩
  | .lst f xs, v, F, h3, h => by
    obtain ⟨p, vs, e, c, r⟩ := h
    refine ⟨p, vs, e, ?_, by rw [sub_fr]; exact RepL.fr h1 xs vs _ (fun a z => h3 a (sub_le a z)) r⟩
    rcases c with c | ⟨c1, c2⟩
    · exact .inl (cell_fr h1 h3 c)
    · exact .inr ⟨by rw [c1]; rfl, c2⟩
  | .dk f ks xs, v, F, h3, h => by
    obtain ⟨p, vs, e, l, c, r⟩ := h
    exact ⟨p, vs, e, by rw [frL_eq, List.length_map]; exact l, cell_fr h1 h3 c, by rw [sub_fr]; exact RepL.fr h1 xs vs _ (fun a z => h3 a (sub_le a z)) r⟩
  | .dt f ks xs, v, F, h3, h => by
    obtain ⟨p, vs, e, l, c, r⟩ := h
    exact ⟨p, vs, e, by rw [frL_eq, List.length_map]; exact l, cell_fr h1 h3 c, by rw [sub_fr]; exact RepL.fr h1 xs vs _ (fun a z => h3 a (sub_le a z)) r⟩
  | .dn f ks xs, v, F, h3, h => by
    obtain ⟨p, ws, vs, e, l, kk, c, r⟩ := h
    exact ⟨p, ws, vs, e, by rw [frL_eq, List.length_map]; exact l, RepKL.mono (fun a o q n => ⟨q, fun z => n (h1 _ z)⟩) ks ws kk, cell_fr h1 h3 c, by rw [sub_fr]; exact RepL.fr h1 xs vs _ (fun a z => h3 a (sub_le a z)) r⟩
  | .obj f c ns xs, v, F, h3, h => by
    obtain ⟨p, dx, vs, e, l, c, r⟩ := h
    exact ⟨p, dx, vs, e, by rw [frL_eq, List.length_map]; exact l, cell_fr h1 h3 c, by rw [sub_fr]; exact RepL.fr h1 xs vs _ (fun a z => h3 a (sub_le a z)) r⟩
theorem RepL.fr (h1 : ∀ a, I' a → I a) : ∀ (xs : List D) (vs : List V) (F : AS), (∀ a, F a → ¬ I' a) → RepL K cl H I M xs vs F → RepL K cl H I' M (frL xs) vs none_
  | [], _, _, _, h => h
  | d :: ds, vs, F, h3, h => by
    obtain ⟨v, ws, F1, F2, e, r1, r2, a1, a2, a3⟩ := h
    exact ⟨v, ws, none_, none_, e, Rep.fr h1 d v F1 (fun a z => h3 a (a1 a z)) r1, RepL.fr h1 ds ws F2 (fun a z => h3 a (a2 a z)) r2, fun _ z => z.elim, fun _ z => z.elim, fun _ z => z.elim⟩
end
/-- own becomes bor -/
theorem cell_dm {f : Fl} {p : Addr} {o : HO} (h1 : ∀ a, I' a → I a) (h2 : ∀ a, M' a → M a) (h3 : ∀ a, F a → ¬ M' a) (c : Cell H I M F f p o) : Cell H I' M' none_ f.dm p o := by
  cases f with
  | imm => exact ⟨c.1, fun z => c.2 (h1 _ z)⟩
  | bor => exact ⟨c.1, fun z => c.2 (h2 _ z)⟩
  | own => exact ⟨c.1, h3 _ c.2⟩
  | frz => exact ⟨c.1, fun z => c.2 (h1 _ z)⟩
theorem sub_dm {f : Fl} {p : Addr} : sub none_ f.dm p = none_ := by cases f <;> rfl
mutual
theorem Rep.dm (h1 : ∀ a, I' a → I a) (h2 : ∀ a, M' a → M a) : ∀ (d : D) (v : V) (F : AS), (∀ a, F a → ¬ M' a) → Rep K cl H I M d v F → Rep K cl H I' M' d.dm v none_
  | .non, _, _, _, h => h
  | .bl _, _, _, _, h => h
  | .int _, _, _, _, h => h
  | .str _, _, _, _, h => h
  | .tup xs, v, F, h3, h => by
    obtain ⟨p, vs, e, c, r⟩ := h
    exact ⟨p, vs, e, ⟨c.1, fun z => c.2 (h1 _ z)⟩, RepL.dm h1 h2 xs vs _ h3 r⟩
  | .ktup xs, v, F, h3, h => by
    obtain ⟨p, vs, e, c, r⟩ := h
    exact ⟨p, vs, e, c, RepL.dm h1 h2 xs vs _ (fun _ z => z.elim) r⟩
  | .lst f xs, v, F, h3, h => by
    obtain ⟨p, vs, e, c, r⟩ := h
    refine ⟨p, vs, e, ?_, by rw [sub_dm]; exact RepL.dm h1 h2 xs vs _ (fun a z => h3 a (sub_le a z)) r⟩
    rcases c with c | ⟨c1, c2⟩
    · exact .inl (cell_dm h1 h2 h3 c)
    · exact .inr ⟨by rw [c1]; rfl, c2⟩
  | .dk f ks xs, v, F, h3, h => by
    obtain ⟨p, vs, e, l, c, r⟩ := h
    exact ⟨p, vs, e, by rw [dmL_eq, List.length_map]; exact l, cell_dm h1 h2 h3 c, by rw [sub_dm]; exact RepL.dm h1 h2 xs vs _ (fun a z => h3 a (sub_le a z)) r⟩
  | .dt f ks xs, v, F, h3, h => by
    obtain ⟨p, vs, e, l, c, r⟩ := h
    exact ⟨p, vs, e, by rw [dmL_eq, List.length_map]; exact l, cell_dm h1 h2 h3 c, by rw [sub_dm]; exact RepL.dm h1 h2 xs vs _ (fun a z => h3 a (sub_le a z)) r⟩
  | .dn f ks xs, v, F, h3, h => by
    obtain ⟨p, ws, vs, e, l, kk, c, r⟩ := h
    exact ⟨p, ws, vs, e, by rw [dmL_eq, List.length_map]; exact l, RepKL.mono (fun a o q n => ⟨q, fun z => n (h1 _ z)⟩) ks ws kk, cell_dm h1 h2 h3 c, by rw [sub_dm]; exact RepL.dm h1 h2 xs vs _ (fun a z => h3 a (sub_le a z)) r⟩
  | .obj f c ns xs, v, F, h3, h => by
    obtain ⟨p, dx, vs, e, l, c, r⟩ := h
    exact ⟨p, dx, vs, e, by rw [dmL_eq, List.length_map]; exact l, cell_dm h1 h2 h3 c, by rw [sub_dm]; exact RepL.dm h1 h2 xs vs _ (fun a z => h3 a (sub_le a z)) r⟩
theorem RepL.dm (h1 : ∀ a, I' a → I a) (h2 : ∀ a, M' a → M a) : ∀ (xs : List D) (vs : List V) (F : AS), (∀ a, F a → ¬ M' a) → RepL K cl H I M xs vs F → RepL K cl H I' M' (dmL xs) vs none_
  | [], _, _, _, h => h
  | d :: ds, vs, F, h3, h => by
    obtain ⟨v, ws, F1, F2, e, r1, r2, a1, a2, a3⟩ := h
    exact ⟨v, ws, none_, none_, e, Rep.dm h1 h2 d v F1 (fun a z => h3 a (a1 a z)) r1, RepL.dm h1 h2 ds ws F2 (fun a z => h3 a (a2 a z)) r2, fun _ z => z.elim, fun _ z => z.elim, fun _ z => z.elim⟩
end
theorem RepL.length : ∀ {xs : List D} {vs : List V} {F : AS}, RepL K cl H I M xs vs F → vs.length = xs.length
  | [], _, _, h => by rw [show _ = [] from h]; rfl
  | d :: ds, vs, F, h => by
    obtain ⟨v, ws, F1, F2, e, r1, r2, _⟩ := h
    rw [e, List.length_cons, List.length_cons, RepL.length r2]
theorem RepL.get : ∀ {xs : List D} {vs : List V} {F : AS} {i : Nat} {d : D}, RepL K cl H I M xs vs F → xs[i]? = some d → ∃ v F', vs[i]? = some v ∧ (∀ a, F' a → F a) ∧ Rep K cl H I M d v F'
  | [], _, _, i, _, _, e => by simp at e
  | d :: ds, vs, F, 0, d', h, e => by
    obtain ⟨v, ws, F1, F2, q, r1, r2, a1, a2, a3⟩ := h
    simp at e
    subst e q
    exact ⟨v, F1, rfl, a1, r1⟩
  | d :: ds, vs, F, i + 1, d', h, e => by
    obtain ⟨v, ws, F1, F2, q, r1, r2, a1, a2, a3⟩ := h
    obtain ⟨w, F', g, b, r⟩ := RepL.get (i := i) r2 (by simpa using e)
    subst q
    exact ⟨w, F', by simpa using g, fun a z => a2 a (b a z), r⟩
/-- no footprint: any parts of parts -/
theorem RepL.none_cons {d : D} {ds : List D} {v : V} {vs : List V} (r1 : Rep K cl H I M d v none_) (r2 : RepL K cl H I M ds vs none_) : RepL K cl H I M (d :: ds) (v :: vs) none_ :=
  ⟨v, vs, none_, none_, rfl, r1, r2, fun _ z => z, fun _ z => z, fun _ z => z.elim⟩
theorem RepL.uncons {d : D} {ds : List D} {vs : List V} (h : RepL K cl H I M (d :: ds) vs none_) : ∃ v ws, vs = v :: ws ∧ Rep K cl H I M d v none_ ∧ RepL K cl H I M ds ws none_ := by
  obtain ⟨v, ws, F1, F2, e, r1, r2, a1, a2, a3⟩ := h
  have e1 : F1 = none_ := funext fun a => propext ⟨a1 a, fun z => z.elim⟩
  have e2 : F2 = none_ := funext fun a => propext ⟨a2 a, fun z => z.elim⟩
  subst e1 e2
  exact ⟨v, ws, e, r1, r2⟩
theorem RepL.append : ∀ {xs ys : List D} {vs ws : List V}, RepL K cl H I M xs vs none_ → RepL K cl H I M ys ws none_ → RepL K cl H I M (xs ++ ys) (vs ++ ws) none_
  | [], _, _, _, h, g => by rw [show _ = [] from h]; exact g
  | d :: ds, ys, vs, ws, h, g => by
    obtain ⟨v, us, e, r1, r2⟩ := h.uncons
    subst e
    exact RepL.none_cons r1 (RepL.append r2 g)
theorem RepL.take : ∀ {xs : List D} {vs : List V} (n : Nat), RepL K cl H I M xs vs none_ → RepL K cl H I M (xs.take n) (vs.take n) none_
  | [], vs, n, h => by rw [show vs = [] from h]; simp [RepL]
  | d :: ds, vs, 0, h => by simp [RepL]
  | d :: ds, vs, n + 1, h => by
    obtain ⟨v, us, e, r1, r2⟩ := h.uncons
    subst e
    exact RepL.none_cons r1 (RepL.take n r2)
theorem RepL.drop : ∀ {xs : List D} {vs : List V} (n : Nat), RepL K cl H I M xs vs none_ → RepL K cl H I M (xs.drop n) (vs.drop n) none_
  | [], vs, n, h => by rw [show vs = [] from h]; simp [RepL]
  | d :: ds, vs, 0, h => h
  | d :: ds, vs, n + 1, h => by
    obtain ⟨v, us, e, r1, r2⟩ := h.uncons
    subst e
    exact RepL.drop n r2
theorem RepL.get0 {xs : List D} {vs : List V} {i : Nat} {d : D} (h : RepL K cl H I M xs vs none_) (e : xs[i]? = some d) : ∃ v, vs[i]? = some v ∧ Rep K cl H I M d v none_ := by
  obtain ⟨v, F', g, b, r⟩ := h.get e
  have e1 : F' = none_ := funext fun a => propext ⟨b a, fun z => z.elim⟩
  subst e1
  exact ⟨v, g, r⟩
theorem RepL.weaken {xs : List D} {vs : List V} {F F' : AS} (h : ∀ a, F a → F' a) (r : RepL K cl H I M xs vs F) : RepL K cl H I M xs vs F' := RepL.mono (fun _ _ q n => ⟨q, n⟩) (fun _ _ q n => ⟨q, n⟩) xs vs F F' (fun _ _ q _ => q) h r
theorem Rep.weaken {d : D} {v : V} {F F' : AS} (h : ∀ a, F a → F' a) (r : Rep K cl H I M d v F) : Rep K cl H I M d v F' := Rep.mono (fun _ _ q n => ⟨q, n⟩) (fun _ _ q n => ⟨q, n⟩) d v F F' (fun _ _ q _ => q) h r
end

def Step (H : Hp) (W : AS) (H' : Hp) (W' : AS) : Prop := (∀ a o, H a = some o → ¬ W a → H' a = some o) ∧ (∀ a, H a ≠ none → H' a ≠ none) ∧ (∀ a, W' a → W a ∨ H a = none)
theorem Step.refl (H : Hp) (W : AS) : Step H W H W := ⟨fun _ _ h _ => h, fun _ h => h, fun _ h => .inl h⟩
theorem Step.trans {H H1 H2 : Hp} {W W1 W2 : AS} (s : Step H W H1 W1) (t : Step H1 W1 H2 W2) : Step H W H2 W2 := by
  refine ⟨fun a o h n => t.1 a o (s.1 a o h n) fun z => ?_, fun a h => t.2.1 a (s.2.1 a h), fun a z => ?_⟩
  · rcases s.2.2 a z with q | q
    · exact n q
    · rw [h] at q; cases q
  · rcases t.2.2 a z with q | q
    · exact s.2.2 a q
    · by_cases e : H a = none
      · exact .inr e
      · exact absurd q (s.2.1 a e)
theorem ne_of_some {H : Hp} {a : Addr} {o : HO} (h : H a = some o) : H a ≠ none := by rw [h]; exact fun z => nomatch z
theorem Step.same {H H' : Hp} {W : AS} (h : Same H H') : Step H W H' W := ⟨fun a o q _ => h a o q, fun a q => by
  cases e : H a with
  | none => exact absurd e q
  | some o => exact ne_of_some (h a o e), fun _ z => .inl z⟩
theorem Same.some_ {H H' : Hp} (h : Same H H') {a : Addr} (q : H a ≠ none) : H' a ≠ none := by
  cases e : H a with
  | none => exact absurd e q
  | some o => exact ne_of_some (h a o e)
theorem Same.new {H : Hp} {p : Addr} {o : HO} (h : H p = none) : Same H (upd H p o) := fun a u e => by
  rw [upd_ne (ne_of_none e h)]
  exact e
/-- where a def's code stands: its classes, what is borrowed, what is known besides, what is wished of an exception -/
structure Cc where
  cl : Tb
  B : AS
  Z : AS → Hp → Prop
  zs : ∀ H W H' W', Step H W H' W' → Z W H → Z W' H'
  Wx : WX
  p0 : Nat → Option V
  S : AS
/-- what may change some day -/
abbrev Cc.I (c : Cc) (W : AS) : AS := fun a => W a ∨ c.B a
/-- what nothing borrowed stands in: what is ours, what is set aside -/
abbrev Cc.M (c : Cc) (W : AS) : AS := fun a => W a ∨ c.S a
structure Sat (K : PySem.W.Frag) (c : Cc) (E : Env) (σ : St) (H : Hp) (W : AS) : Prop where
  wb : ∀ a, W a → ¬ c.B a
  ws : ∀ a, W a → ¬ c.S a
  sb : ∀ a, c.S a → c.B a
  wh : ∀ a, W a → H a ≠ none
  bh : ∀ a, c.B a → H a ≠ none
  z : c.Z W H
  p0 : ∀ i v, c.p0 i = some v → σ[i]? = some (some v)
  len : E.length = σ.length
  at_ : ∃ fp : Nat → AS, (∀ i a, fp i a → W a) ∧ (∀ i j a, i ≠ j → fp i a → ¬ fp j a) ∧ ∀ i d, E[i]? = some (some d) → ∃ v, σ[i]? = some (some v) ∧ Rep K c.cl H (c.I W) (c.M W) d v (fp i)
/-- so much more that is not ours -/
abbrev Cc.addB (c : Cc) (F : AS) : Cc := { c with B := fun a => c.B a ∨ F a }
/-- set aside: not ours, and nothing borrowed stands in it -/
abbrev Cc.aside (c : Cc) (F : AS) : Cc := { c with B := fun a => c.B a ∨ F a, S := fun a => c.S a ∨ F a }
section
variable {K : PySem.W.Frag} {cl : Tb} {c : Cc} {H H' : Hp} {B W : AS} {E : Env} {σ : St}
theorem Rep.same {I M F : AS} {d : D} {v : V} (h : Same H H') (r : Rep K cl H I M d v F) : Rep K cl H' I M d v F :=
  Rep.mono (fun a o q n => ⟨h a o q, n⟩) (fun a o q n => ⟨h a o q, n⟩) d v F F (fun a o q _ => h a o q) (fun _ z => z) r
theorem RepL.same {I M F : AS} {ds : List D} {vs : List V} (h : Same H H') (r : RepL K cl H I M ds vs F) : RepL K cl H' I M ds vs F :=
  RepL.mono (fun a o q n => ⟨h a o q, n⟩) (fun a o q n => ⟨h a o q, n⟩) ds vs F F (fun a o q _ => h a o q) (fun _ z => z) r
theorem Sat.same (s : Sat K c E σ H W) (h : Same H H') : Sat K c E σ H' W := by
  obtain ⟨w1, ws, sb, w2, w3, wz, wp, w4, fp, f1, f2, f3⟩ := s
  refine ⟨w1, ws, sb, fun a z => Same.some_ h (w2 a z), fun a z => Same.some_ h (w3 a z), c.zs _ _ _ _ (Step.same h) wz, wp, w4, fp, f1, f2, fun i d e => ?_⟩
  obtain ⟨v, q, r⟩ := f3 i d e
  exact ⟨v, q, r.same h⟩
theorem Sat.get {i : Nat} {d : D} (s : Sat K c E σ H W) (e : E[i]? = some (some d)) : ∃ v F, σ[i]? = some (some v) ∧ (∀ a, F a → W a) ∧ Rep K c.cl H (c.I W) (c.M W) d v F := by
  obtain ⟨w1, ws, sb, w2, w3, wz, wp, w4, fp, f1, f2, f3⟩ := s
  obtain ⟨v, q, r⟩ := f3 i d e
  exact ⟨v, fp i, q, f1 i, r⟩
theorem Sat.fresh (s : Sat K c E σ H W) {p : Addr} (h : H p = none) : ¬ c.I W p := fun z => by
  rcases z with z | z
  · exact s.wh p z h
  · exact s.bh p z h
end
end PD
namespace PD
open PySem L2

/-- how an exception lies: its class, its own dict -/
def ERep (K : PySem.W.Frag) (cl : Tb) (H : Hp) (I : AS) (e : Exc) (u : Value) (d : Option Addr) : Prop :=
  u = .ref (cl.cl e.c) ∧ ((e.ns = [] ∧ e.vs = [] ∧ d = none) ∨ ∃ dd vs, d = some dd ∧ H dd = some (.xd ((e.ns.map cl.nm).zip vs)) ∧ ¬ I dd ∧ e.ns.length = e.vs.length ∧ RepL K cl H I (fun _ => True) e.vs vs none_)
/-- what is wanted of a result -/
def resV (K : PySem.W.Frag) (c : Cc) (W : AS) (σ : St) (H : Hp) (r : Res D) (Q : VK) : Prop := match r with
  | .ok d => ∀ v H', Same H H' → (∃ F, (∀ a, F a → W a) ∧ Rep K c.cl H' (c.I W) (c.M W) d v F) → Q v H'
  | .ex e => ∀ u dd H', Same H H' → ERep K c.cl H' (c.I W) e u dd → c.Wx u dd σ H'
  | .bad => False
def resN (K : PySem.W.Frag) (c : Cc) (W : AS) (σ : St) (H : Hp) (r : Res D) (Q : VK) : Prop := match r with
  | .ok d => ∀ v H' F, Same H H' → (∀ a, F a → H a = none ∧ H' a ≠ none) → Rep K c.cl H' (fun a => c.I W a ∨ F a) (fun _ => True) d v F → Q v H'
  | .ex e => ∀ u dd H', Same H H' → ERep K c.cl H' (c.I W) e u dd → c.Wx u dd σ H'
  | .bad => False
def resT (K : PySem.W.Frag) (c : Cc) (W : AS) (σ : St) (H : Hp) (r : Res Bool) (Q : Bool → Hp → Prop) : Prop := match r with
  | .ok b => ∀ H', Same H H' → Q b H'
  | .ex e => ∀ u dd H', Same H H' → ERep K c.cl H' (c.I W) e u dd → c.Wx u dd σ H'
  | .bad => False
/-- arguments: no own marks, borrowed ones are of any cell -/
def resA (K : PySem.W.Frag) (c : Cc) (W : AS) (σ : St) (H : Hp) (r : Res (List D)) (Q : List V → Hp → Prop) : Prop := match r with
  | .ok ds => ∀ vs H', Same H H' → RepL K c.cl H' (c.I W) c.S ds vs none_ → Q vs H'
  | .ex e => ∀ u dd H', Same H H' → ERep K c.cl H' (c.I W) e u dd → c.Wx u dd σ H'
  | .bad => False
def tV (K : PySem.W.Frag) (c : Cc) (g : Env → Res D) : TE := fun σ H Q => ∃ E W, Sat K c E σ H W ∧ resV K c W σ H (g E) Q
def tN (K : PySem.W.Frag) (c : Cc) (g : Env → Res D) : TE := fun σ H Q => ∃ E W, Sat K c E σ H W ∧ resN K c W σ H (g E) Q
def tT (K : PySem.W.Frag) (c : Cc) (g : Env → Res Bool) : TT := fun σ H Q => ∃ E W, Sat K c E σ H W ∧ resT K c W σ H (g E) Q
def tA (K : PySem.W.Frag) (c : Cc) (g : Env → Res (List D)) : TA := fun σ H Q => ∃ E W, Sat K c E σ H W ∧ resA K c W σ H (g E) Q
structure JV (X : Cx) (c : Cc) (e : Expr) (g : Env → Res D) : Prop where pe : PE X e (tV X.K c g)
structure JN (X : Cx) (c : Cc) (e : Expr) (g : Env → Res D) : Prop where pe : PE X e (tN X.K c g)
structure JT (X : Cx) (c : Cc) (e : Expr) (g : Env → Res Bool) : Prop where pt : PT X e (tT X.K c g)
/-- and, or -/
structure JW (X : Cx) (c : Cc) (e : Expr) (g : Env → Res Bool) : Prop where pw : PW X e (tT X.K c g)
structure JA (X : Cx) (c : Cc) (es : List Expr) (g : Env → Res (List D)) : Prop where pa : PA X es (tA X.K c g)

theorem PE.weak {X : Cx} {e : Expr} {t t' : TE} (h : PE X e t) (w : ∀ σ H Q, t' σ H Q → t σ H Q) : PE X e t' := ⟨fun pins s σ H Q I q => h.run pins s σ H Q I (w _ _ _ q)⟩
theorem PT.weak {X : Cx} {e : Expr} {t t' : TT} (h : PT X e t) (w : ∀ σ H Q, t' σ H Q → t σ H Q) : PT X e t' := ⟨fun pins s σ H Q I q => h.run pins s σ H Q I (w _ _ _ q)⟩
theorem PW.weak {X : Cx} {e : Expr} {t t' : TT} (h : PW X e t) (w : ∀ σ H Q, t' σ H Q → t σ H Q) : PW X e t' := ⟨fun wh pins s σ H Q I q => h.run wh pins s σ H Q I (w _ _ _ q)⟩
theorem PA.weak {X : Cx} {es : List Expr} {t t' : TA} (h : PA X es t) (w : ∀ σ H Q, t' σ H Q → t σ H Q) : PA X es t' := ⟨fun pos pins s σ H Q I q => h.run pos pins s σ H Q I (w _ _ _ q)⟩
theorem PC.weak {X : Cx} {op : CmpOp} {a b : Expr} {t t' : TE} (h : PC X op a b t) (w : ∀ σ H Q, t' σ H Q → t σ H Q) : PC X op a b t' := ⟨fun pins s σ H Q I q => h.run pins s σ H Q I (w _ _ _ q)⟩
theorem PS.weak {X : Cx} {st : Stmt} {t t' : TS} (h : PS X st t) (w : ∀ D σ H, t' D σ H → t D σ H) : PS X st t' := ⟨fun pins s σ H D I q => h.run pins s σ H D I (w _ _ _ q)⟩
theorem PSs.weak {X : Cx} {st : List Stmt} {t t' : TS} (h : PSs X st t) (w : ∀ D σ H, t' D σ H → t D σ H) : PSs X st t' := ⟨fun pins s σ H D I q => h.run pins s σ H D I (w _ _ _ q)⟩

section
variable {K : PySem.W.Frag} {c : Cc} {W : AS} {σ : St} {H H' : Hp}
theorem same_refl {H : Hp} : Same H H := fun _ _ h => h
theorem ERep.same {cl : Tb} {I : AS} {e : Exc} {u : Value} {d : Option Addr} (h : Same H H') (r : ERep K cl H I e u d) : ERep K cl H' I e u d := by
  obtain ⟨r1, r2⟩ := r
  refine ⟨r1, ?_⟩
  rcases r2 with r2 | ⟨dd, vs, e1, e2, e3, e4, e5⟩
  · exact .inl r2
  · exact .inr ⟨dd, vs, e1, h _ _ e2, e3, e4, e5.same h⟩
/-- one thing behind another -/
theorem resV_back {r : Res D} {Q : VK} (h : Same H H') (q : resV K c W σ H r Q) : resV K c W σ H' r Q := by
  cases r with
  | ok d => exact fun v H2 s r => q v H2 (h.trans s) r
  | ex e => exact fun u dd H2 s r => q u dd H2 (h.trans s) r
  | bad => exact q
theorem resN_back {r : Res D} {Q : VK} (h : Same H H') (q : resN K c W σ H r Q) : resN K c W σ H' r Q := by
  cases r with
  | ok d => exact fun v H2 F s f r => q v H2 F (h.trans s) (fun a z => ⟨h.free (f a z).1, (f a z).2⟩) r
  | ex e => exact fun u dd H2 s r => q u dd H2 (h.trans s) r
  | bad => exact q
theorem resT_back {r : Res Bool} {Q : Bool → Hp → Prop} (h : Same H H') (q : resT K c W σ H r Q) : resT K c W σ H' r Q := by
  cases r with
  | ok d => exact fun H2 s => q H2 (h.trans s)
  | ex e => exact fun u dd H2 s r => q u dd H2 (h.trans s) r
  | bad => exact q
/-- an expression ahead, its view used -/
theorem tV_use {E : Env} {g : Env → Res D} {Q : VK} (s : Sat K c E σ H W) (hx : ∀ e, g E = .ex e → ∀ u dd H', Same H H' → ERep K c.cl H' (c.I W) e u dd → c.Wx u dd σ H') (hb : g E ≠ .bad)
    (h : ∀ d, g E = .ok d → ∀ v H' F, Same H H' → Sat K c E σ H' W → (∀ a, F a → W a) → Rep K c.cl H' (c.I W) (c.M W) d v F → Q v H') : tV K c g σ H Q := by
  refine ⟨E, W, s, ?_⟩
  cases e : g E with
  | ok d => exact fun v H' sm ⟨F, f, r⟩ => h d e v H' F sm (s.same sm) f r
  | ex x => exact hx x e
  | bad => exact hb e
theorem tN_use {E : Env} {g : Env → Res D} {Q : VK} (s : Sat K c E σ H W) (hx : ∀ e, g E = .ex e → ∀ u dd H', Same H H' → ERep K c.cl H' (c.I W) e u dd → c.Wx u dd σ H') (hb : g E ≠ .bad)
    (h : ∀ d, g E = .ok d → ∀ v H' F, Same H H' → Sat K c E σ H' W → (∀ a, F a → H a = none ∧ H' a ≠ none) → Rep K c.cl H' (fun a => c.I W a ∨ F a) (fun _ => True) d v F → Q v H') : tN K c g σ H Q := by
  refine ⟨E, W, s, ?_⟩
  cases e : g E with
  | ok d => exact fun v H' F sm f r => h d e v H' F sm (s.same sm) f r
  | ex x => exact hx x e
  | bad => exact hb e
end

def gVar (i : Nat) : Env → Res D := fun E => match E[i]? with
  | some (some d) => .ok d
  | _ => .bad
def gC (d : D) : Env → Res D := fun _ => .ok d
section
variable {X : Cx} {c : Cc} {pos : Pos}
theorem jv_var {i : Nat} {x : Str} (h : PE X (.Name x pos) (tVar i)) : JV X c (.Name x pos) (gVar i) := ⟨PE.weak h fun σ H Q ⟨E, W, s, q⟩ => by
  unfold gVar at q
  split at q
  · rename_i d e
    obtain ⟨v, F, e2, f, r⟩ := s.get e
    exact ⟨v, e2, q v H same_refl ⟨F, f, r⟩⟩
  · exact q.elim⟩
theorem jn_int {i j pos} : JN X c (.Constant (.int i) j pos) (gC (.int i)) := ⟨PE.weak pe_int fun σ H Q ⟨E, W, s, q⟩ => q _ H none_ same_refl (fun _ z => z.elim) rfl⟩
theorem jn_bl {b j pos} : JN X c (.Constant (.bool b) j pos) (gC (.bl b)) := ⟨PE.weak pe_bl fun σ H Q ⟨E, W, s, q⟩ => q _ H none_ same_refl (fun _ z => z.elim) rfl⟩
theorem jn_non {j pos} : JN X c (.Constant .none j pos) (gC .non) := ⟨PE.weak pe_non fun σ H Q ⟨E, W, s, q⟩ => q _ H none_ same_refl (fun _ z => z.elim) rfl⟩
theorem jn_str {x j pos} : JN X c (.Constant (.str x) j pos) (gC (.str x)) := ⟨PE.weak pe_str fun σ H Q ⟨E, W, s, q⟩ => q _ H none_ same_refl (fun _ z => z.elim) rfl⟩
/-- a module's number, text -/
theorem jn_gint {x : Str} {i : Int} (hg : Gl X x) (hm : ∃ t, X.mg x = some (.int i t)) (hd : (x == ("__debug__" : Str)) = false := by decide) : JN X c (.Name x pos) (gC (.int i)) := by
  obtain ⟨t, hm⟩ := hm
  exact ⟨PE.weak (pe_glob hg hm (v := .int i) ⟨t, rfl⟩ hd) fun σ H Q ⟨E, W, s, q⟩ => q _ H none_ same_refl (fun _ z => z.elim) rfl⟩
theorem jn_gstr {x z : Str} (hg : Gl X x) (hm : ∃ t, X.mg x = some (.str z t)) (hd : (x == ("__debug__" : Str)) = false := by decide) : JN X c (.Name x pos) (gC (.str z)) := by
  obtain ⟨t, hm⟩ := hm
  exact ⟨PE.weak (pe_glob hg hm (v := .str z) ⟨t, rfl⟩ hd) fun σ H Q ⟨E, W, s, q⟩ => q _ H none_ same_refl (fun _ z => z.elim) rfl⟩
def gDm (g : Env → Res D) : Env → Res D := fun E => g E >>= fun d => .ok d.dm
def chk (d : D) : Res D := if d.imm then .ok d else .bad
def gChk (g : Env → Res D) : Env → Res D := fun E => g E >>= chk
def gFr (g : Env → Res D) : Env → Res D := fun E => g E >>= fun d => .ok d.fr
variable {e : Expr} {g : Env → Res D}
/-- a new value looked at -/
theorem jv_of_jn (h : JN X c e g) : JV X c e (gDm g) := ⟨PE.weak h.pe fun σ H Q ⟨E, W, s, q⟩ => by
  refine ⟨E, W, s, ?_⟩
  unfold gDm at q
  cases e1 : g E with
  | ok d =>
    rw [e1] at q
    exact fun v H' F sm f r => q v H' sm ⟨none_, fun _ z => z.elim, Rep.dm (fun a z => .inl z) (fun _ _ => trivial) d v F (fun a z w => s.fresh (f a z).1 (w.elim .inl fun y => .inr (s.sb a y))) r⟩
  | ex x =>
    rw [e1] at q
    exact q
  | bad =>
    rw [e1] at q
    exact q⟩
/-- a view that holds nothing that changes -/
theorem jn_of_jv (h : JV X c e g) : JN X c e (gChk g) := ⟨PE.weak h.pe fun σ H Q ⟨E, W, s, q⟩ => by
  refine ⟨E, W, s, ?_⟩
  unfold gChk at q
  cases e1 : g E with
  | ok d =>
    rw [e1] at q
    show ∀ v H', Same H H' → (∃ F, (∀ a, F a → W a) ∧ Rep X.K c.cl H' (c.I W) (c.M W) d v F) → Q v H'
    rintro v H' sm ⟨F, f, r⟩
    simp only [res_bind_ok, chk] at q
    split at q
    · rename_i hi
      refine q v H' none_ sm (fun _ z => z.elim) ?_
      have r2 : Rep X.K c.cl H' (c.I W) (fun _ => True) d v none_ := Rep.imm d v F none_ hi r
      have e2 : (fun a => c.I W a ∨ none_ a) = c.I W := funext fun a => propext ⟨fun z => z.elim id fun y => y.elim, .inl⟩
      rw [e2]
      exact r2
    · exact q.elim
  | ex x =>
    rw [e1] at q
    exact q
  | bad =>
    rw [e1] at q
    exact q⟩
/-- a new value that will not change any more -/
theorem jn_fr (h : JN X c e g) : JN X c e (gFr g) := ⟨PE.weak h.pe fun σ H Q ⟨E, W, s, q⟩ => by
  refine ⟨E, W, s, ?_⟩
  unfold gFr at q
  cases e1 : g E with
  | ok d =>
    rw [e1] at q
    refine fun v H' F sm f r => q v H' none_ sm (fun _ z => z.elim) ?_
    have e2 : (fun a => c.I W a ∨ none_ a) = c.I W := funext fun a => propext ⟨fun z => z.elim id fun y => y.elim, .inl⟩
    rw [e2]
    exact Rep.fr (fun a z => .inl z) d v F (fun a z w => s.fresh (f a z).1 w) r
  | ex x =>
    rw [e1] at q
    exact q
  | bad =>
    rw [e1] at q
    exact q⟩

def gBin (f : D → D → Res D) (ga gb : Env → Res D) : Env → Res D := fun E => ga E >>= fun a => gb E >>= fun b => f a b
def gUn (f : D → Res D) (ga : Env → Res D) : Env → Res D := fun E => ga E >>= f
/-- a two-place operation on values does f -/
def Op2 (K : PySem.W.Frag) (r : R2) (f : D → D → Res D) : Prop := ∀ (cl : Tb) (I M : AS) (H : Hp) (da db d : D) (x y : V) (Fa Fb : AS) (Q : VK), (∀ a, I a → H a ≠ none) → (∀ a, M a → I a) → Rep K cl H I M da x Fa → Rep K cl H I M db y Fb → f da db = .ok d →
  (∀ v H' F, Same H H' → (∀ a, F a → H a = none ∧ H' a ≠ none) → Rep K cl H' (fun a => I a ∨ F a) (fun _ => True) d v F → Q v H') → r x y H Q
/-- f raises nothing -/
def NoX {α β : Type} (f : α → β → Res D) : Prop := ∀ a b e, f a b ≠ .ex e
theorem Sat.mi {K : PySem.W.Frag} {E : Env} {σ : St} {H : Hp} {W : AS} (s : Sat K c E σ H W) : ∀ a, c.M W a → c.I W a := fun a z => z.imp id (s.sb a)
theorem Sat.ih {K : PySem.W.Frag} {E : Env} {σ : St} {H : Hp} {W : AS} (s : Sat K c E σ H W) : ∀ a, c.I W a → H a ≠ none := fun a z => z.elim (s.wh a) (s.bh a)
theorem opsem {a b : Expr} {ga gb : Env → Res D} {r : R2} {f : D → D → Res D} (ha : JV X c a ga) (hb : JV X c b gb) (ho : Op2 X.K r f) (nx : NoX f) {σ : St} {H : Hp} {Q : VK} (h : tN X.K c (gBin f ga gb) σ H Q) : tOp r (tV X.K c ga) (tV X.K c gb) σ H Q := by
  obtain ⟨E, W, s, q⟩ := h
  unfold gBin at q
  refine tV_use s (fun e e1 => by rw [e1] at q; exact q) (fun e1 => by rw [e1] at q; exact q) fun da e1 x H1 Fa sm1 s1 fa ra => ?_
  rw [e1] at q
  simp only [res_bind_ok] at q
  refine tV_use s1 (fun e e2 => by rw [e2] at q; exact fun u dd H' sm => q u dd H' (sm1.trans sm)) (fun e2 => by rw [e2] at q; exact q) fun db e2 y H2 Fb sm2 s2 fb rb => ?_
  rw [e2] at q
  simp only [res_bind_ok] at q
  cases e3 : f da db with
  | ok d =>
    rw [e3] at q
    refine ho c.cl (c.I W) (c.M W) H2 da db d x y Fa Fb Q s2.ih s2.mi (ra.same sm2) rb e3 fun v H' F sm f r => ?_
    exact q v H' F ((sm1.trans sm2).trans sm) (fun a z => ⟨(sm1.trans sm2).free (f a z).1, (f a z).2⟩) r
  | ex e => exact absurd e3 (nx da db e)
  | bad =>
    rw [e3] at q
    exact q.elim
theorem jn_op {a b : Expr} {ga gb : Env → Res D} {op : Operator} {r : R2} {f : D → D → Res D} (ho : OpR X (binaryOp op) r) (hf : Op2 X.K r f) (nx : NoX f) (ha : JV X c a ga) (hb : JV X c b gb) : JN X c (.BinOp a op b pos) (gBin f ga gb) :=
  ⟨PE.weak (pe_op ho ha.pe hb.pe) fun _ _ _ h => opsem ha hb hf nx h⟩
theorem jn_cmp {a b : Expr} {ga gb : Env → Res D} {op : CmpOp} {r : R2} {f : D → D → Res D} (ho : OpR X (compareOp op) r) (hf : Op2 X.K r f) (nx : NoX f) (ha : JV X c a ga) (hb : JV X c b gb) (hm : behindInMarks op b = false := by first | exact nomark _ | rfl) :
    JN X c (.Compare a [op] [b] pos) (gBin f ga gb) := ⟨PE.weak (pe_cmpR ho ha.pe hb.pe hm) fun _ _ _ h => opsem ha hb hf nx h⟩
end

section
variable {K : PySem.W.Frag} {cl : Tb} {H : Hp} {I M F : AS} {p : Addr} {xs : List D} {vs : List V}
theorem i_none : (fun a => I a ∨ none_ a) = I := funext fun a => propext ⟨fun z => z.elim id fun y => y.elim, .inl⟩
theorem repL_new {o : HO} (hp : H p = none) (r : RepL K cl H I M xs vs F) (hi : immL xs = true) : RepL K cl (upd H p o) (fun a => I a ∨ a = p) (fun _ => True) xs vs none_ := by
  have r1 : RepL K cl H I (fun _ => True) xs vs none_ := RepL.imm xs vs F none_ hi r
  refine RepL.mono (fun a ob q n => ?_) (fun a ob q n => absurd trivial n) xs vs _ _ (fun _ _ _ z => z.elim) (fun _ z => z) r1
  have hne : a ≠ p := ne_of_none q hp
  exact ⟨by rw [upd_ne hne]; exact q, fun z => z.elim n hne⟩
theorem rep_lst (hp : H p = none) (r : RepL K cl H I M xs vs F) (hi : immL xs = true) : Rep K cl (upd H p (.lst vs)) (fun a => I a ∨ a = p) (fun _ => True) (.lst .own xs) (.ref p) (fun a => a = p) := by
  refine ⟨p, vs, rfl, .inl ⟨upd_same, rfl⟩, ?_⟩
  exact RepL.weaken (fun _ z => z.elim) (repL_new hp r hi)
theorem rep_tup (hI : ∀ a, I a → H a ≠ none) (hp : H p = none) (r : RepL K cl H I M xs vs F) (hi : immL xs = true) : Rep K cl (upd H p (.tup vs)) (fun a => I a ∨ none_ a) (fun _ => True) (.tup xs) (.ref p) none_ := by
  rw [i_none]
  refine ⟨p, vs, rfl, ⟨upd_same, fun z => hI p z hp⟩, ?_⟩
  exact RepL.mono (fun a o q n => ⟨q, fun z => n (.inl z)⟩) (fun a ob q n => absurd trivial n) xs vs _ _ (fun _ _ _ z => z.elim) (fun _ z => z) (repL_new hp r hi)
theorem new_own {o : HO} (hp : H p = none) : ∀ a, (fun a => a = p) a → H a = none ∧ upd H p o a ≠ none := fun a z => by
  have e : a = p := z
  subst e
  exact ⟨hp, by rw [upd_same]; exact fun z => nomatch z⟩
/-- what a list's node says -/
theorem cell_some {f : Fl} {o : HO} (c : Cell H I M F f p o) (h : f ≠ .frz) : H p = some o := by
  cases f with
  | imm => exact c.1
  | bor => exact c.1
  | own => exact c.1
  | frz => exact absurd rfl h
theorem cell_sql {f : Fl} (c : Cell H I M F f p (.lst vs) ∨ (f = .frz ∧ KL K p vs)) : SqL K H p vs := by
  rcases c with c | ⟨_, c⟩
  · cases f with
    | imm => exact .inl (.inl c.1)
    | bor => exact .inl (.inl c.1)
    | own => exact .inl (.inl c.1)
    | frz => exact .inl c.1
  · exact .inr c
end
end PD
namespace PD
open PySem L2

mutual
def D.py : D → Option PyData
  | .non => some .none
  | .bl b => some (.bool b)
  | .int i => some (.int i)
  | .str s => some (.str s)
  | .tup xs => (pyL xs).map .tuple
  | .ktup xs => (pyL xs).map .tuple
  | .lst _ xs => (pyL xs).map .list
  | _ => none
def pyL : List D → Option (List PyData)
  | [] => some []
  | d :: ds => match d.py, pyL ds with
    | some p, some ps => some (p :: ps)
    | _, _ => none
end
section
variable {K : PySem.W.Frag} {cl : Tb} {H : Hp} {I M : AS}
mutual
theorem rep_dp : ∀ (d : D) (v : V) (F : AS) (p : PyData), Rep K cl H I M d v F → d.py = some p → Dp K H v p
  | .non, v, F, p, r, e => by
    simp only [D.py, Option.some.injEq] at e
    subst e
    rw [show v = .non from r]
    exact .non
  | .bl b, v, F, p, r, e => by
    simp only [D.py, Option.some.injEq] at e
    subst e
    rw [show v = .bl b from r]
    exact .bl b
  | .int i, v, F, p, r, e => by
    simp only [D.py, Option.some.injEq] at e
    subst e
    rw [show v = .int i from r]
    exact .int i
  | .str s, v, F, p, r, e => by
    simp only [D.py, Option.some.injEq] at e
    subst e
    rw [show v = .str s from r]
    exact .str s
  | .tup xs, v, F, p, r, e => by
    simp only [D.py, Option.map_eq_some_iff] at e
    obtain ⟨ps, e1, rfl⟩ := e
    obtain ⟨a, vs, rfl, c, q⟩ := r
    exact .tup (.inl (.inl c.1)) (rep_dpL xs vs _ ps q e1)
  | .ktup xs, v, F, p, r, e => by
    simp only [D.py, Option.map_eq_some_iff] at e
    obtain ⟨ps, e1, rfl⟩ := e
    obtain ⟨a, vs, rfl, c, q⟩ := r
    exact .tup (.inr c) (rep_dpL xs vs _ ps q e1)
  | .lst f xs, v, F, p, r, e => by
    simp only [D.py, Option.map_eq_some_iff] at e
    obtain ⟨ps, e1, rfl⟩ := e
    obtain ⟨a, vs, rfl, c, q⟩ := r
    exact .lst (cell_sql c) (rep_dpL xs vs _ ps q e1)
  | .dk f ks xs, v, F, p, r, e => by simp [D.py] at e
  | .dt f ks xs, v, F, p, r, e => by simp [D.py] at e
  | .dn f ks xs, v, F, p, r, e => by simp [D.py] at e
  | .obj f c ns xs, v, F, p, r, e => by simp [D.py] at e
theorem rep_dpL : ∀ (xs : List D) (vs : List V) (F : AS) (ps : List PyData), RepL K cl H I M xs vs F → pyL xs = some ps → DpAll K H vs ps
  | [], vs, F, ps, r, e => by
    simp only [pyL, Option.some.injEq] at e
    subst e
    rw [show vs = [] from r]
    exact .nil
  | d :: ds, vs, F, ps, r, e => by
    obtain ⟨v, ws, F1, F2, rfl, r1, r2, _⟩ := r
    simp only [pyL] at e
    split at e
    · rename_i p ps' e1 e2
      cases e
      exact .cons (rep_dp d v F1 p r1 e1) (rep_dpL ds ws F2 ps' r2 e2)
    · cases e
end
end
def shp (p : PyData) : Bool := SeqAt.shaped p
def eqD (a b : D) : Res D := match a.py, b.py with
  | some p, some q => if shp p && shp q then .ok (.bl (PyData.eqv p q)) else .bad
  | _, _ => .bad
def neD (a b : D) : Res D := match a.py, b.py with
  | some p, some q => if shp p && shp q then .ok (.bl (!PyData.eqv p q)) else .bad
  | _, _ => .bad
theorem nx_eq : NoX eqD := fun a b e h => by
  unfold eqD at h
  split at h
  · split at h <;> cases h
  · cases h
theorem nx_ne : NoX neD := fun a b e h => by
  unfold neD at h
  split at h
  · split at h <;> cases h
  · cases h
section
variable {K : PySem.W.Frag}
/-- a scalar result -/
theorem scal_ok {cl : Tb} {I : AS} {H : Hp} {d : D} {v : V} {Q : VK} (h : ∀ v H' F, Same H H' → (∀ a, F a → H a = none ∧ H' a ≠ none) → Rep K cl H' (fun a => I a ∨ F a) (fun _ => True) d v F → Q v H')
    (r : Rep K cl H (fun a => I a ∨ none_ a) (fun _ => True) d v none_) : Q v H := h v H none_ same_refl (fun _ z => z.elim) r
theorem op2_eq : Op2 K (rEqD K) eqD := fun cl I M H da db d x y Fa Fb Q hi hm ra rb e q => by
  unfold eqD at e
  split at e
  · rename_i p p' e1 e2
    split at e
    · rename_i h
      cases e
      rw [Bool.and_eq_true] at h
      exact ⟨p, p', rep_dp da x Fa p ra e1, rep_dp db y Fb p' rb e2, h.1, h.2, scal_ok q rfl⟩
    · cases e
  · cases e
theorem op2_ne : Op2 K (rNeD K) neD := fun cl I M H da db d x y Fa Fb Q hi hm ra rb e q => by
  unfold neD at e
  split at e
  · rename_i p p' e1 e2
    split at e
    · rename_i h
      cases e
      rw [Bool.and_eq_true] at h
      exact ⟨p, p', rep_dp da x Fa p ra e1, rep_dp db y Fb p' rb e2, h.1, h.2, scal_ok q rfl⟩
    · cases e
  · cases e
/-- a flat value -/
def flatD : D → Option V
  | .non => some .non
  | .bl b => some (.bl b)
  | .int i => some (.int i)
  | .str s => some (.str s)
  | _ => none
def flatL : List D → Option (List V)
  | [] => some []
  | d :: ds => match flatD d, flatL ds with
    | some v, some vs => some (v :: vs)
    | _, _ => none
theorem flat_rep {cl : Tb} {H : Hp} {I M F : AS} {d : D} {v w : V} (h : flatD d = some w) (r : Rep K cl H I M d v F) : v = w ∧ flatV v = true := by
  cases d with
  | non => cases h; rw [show v = .non from r]; exact ⟨rfl, rfl⟩
  | bl b => cases h; rw [show v = .bl b from r]; exact ⟨rfl, rfl⟩
  | int b => cases h; rw [show v = .int b from r]; exact ⟨rfl, rfl⟩
  | str b => cases h; rw [show v = .str b from r]; exact ⟨rfl, rfl⟩
  | _ => cases h
theorem flat_repL {cl : Tb} {H : Hp} {I M : AS} : ∀ {xs : List D} {vs ws : List V} {F : AS}, flatL xs = some ws → RepL K cl H I M xs vs F → vs = ws ∧ vs.all flatV = true
  | [], vs, ws, F, h, r => by
    cases h
    rw [show vs = [] from r]
    exact ⟨rfl, rfl⟩
  | d :: ds, vs, ws, F, h, r => by
    obtain ⟨v, us, F1, F2, rfl, r1, r2, _⟩ := r
    simp only [flatL] at h
    split at h
    · rename_i w ws' e1 e2
      cases h
      obtain ⟨a1, a2⟩ := flat_rep e1 r1
      obtain ⟨b1, b2⟩ := flat_repL e2 r2
      subst a1 b1
      exact ⟨rfl, by rw [List.all_cons, a2, b2]; rfl⟩
    · cases h
/-- d in s: a list of data, a tuple of flat things, a text, a dict -/
def strIn (a b : Str) : Bool := match a.cps.toList with
  | [c] => decide (c ∈ b.cps.toList)
  | _ => !(Builtin.Str.occurrences b a 0 b.length 1).isEmpty
def keyD : D → Option Key
  | .int i => some (.inl i)
  | .str s => some (.inr s)
  | _ => none
def keyL : List D → Option (List Key)
  | [] => some []
  | d :: ds => match keyD d, keyL ds with
    | some k, some ks => some (k :: ks)
    | _, _ => none
/-- where a key stands -/
def kIx {κ : Type} [DecidableEq κ] (ks : List κ) (k : κ) : Option Nat := ks.findIdx? fun z => decide (z = k)
def inB (a b : D) : Res Bool := match b with
  | .lst _ ds => match a.py, pyL ds with
    | some p, some ps => if shp p && shp (.list ps) then .ok (ps.any fun z => PyData.eqv z p) else .bad
    | _, _ => .bad
  | .tup ds => match flatD a, flatL ds with
    | some v, some vs => .ok (inV v vs)
    | _, _ => .bad
  | .ktup ds => match flatD a, flatL ds with
    | some v, some vs => .ok (inV v vs)
    | _, _ => .bad
  | .str t => match a with
    | .str s => .ok (strIn s t)
    | _ => .bad
  | .dk f ks _ => match keyD a with
    | some k => if f = .frz then .bad else .ok (kIx ks k).isSome
    | none => match a with
      | .non => if f = .frz then .bad else .ok false
      | _ => .bad
  | .dt f ks _ => match a with
    | .tup ds => match keyL ds with
      | some k => if f = .frz then .bad else .ok (kIx ks k).isSome
      | none => .bad
    | _ => .bad
  | _ => .bad
def inD (a b : D) : Res D := inB a b >>= fun k => .ok (.bl k)
def ninD (a b : D) : Res D := inB a b >>= fun k => .ok (.bl (!k))
theorem inB_nx (a b : D) (e : Exc) : inB a b ≠ .ex e := fun h => by
  unfold inB at h
  repeat' split at h
  all_goals cases h
theorem nx_in : NoX inD := fun a b e h => by
  unfold inD at h
  cases q : inB a b with
  | ok k => rw [q] at h; cases h
  | ex x => exact inB_nx a b x q
  | bad => rw [q] at h; cases h
theorem nx_nin : NoX ninD := fun a b e h => by
  unfold ninD at h
  cases q : inB a b with
  | ok k => rw [q] at h; cases h
  | ex x => exact inB_nx a b x q
  | bad => rw [q] at h; cases h
/-- what in asks of values -/
def rInA (K : PySem.W.Frag) (g : Bool → Bool) : R2 := fun x y H Q =>
  (∃ d ds, Dp K H x d ∧ Dp K H y (.list ds) ∧ SeqAt.shaped d = true ∧ SeqAt.shaped (.list ds) = true ∧ Q (.bl (g (ds.any fun z => PyData.eqv z d))) H) ∨
  (∃ p xs, y = .ref p ∧ (SqL K H p xs ∨ SqT K H p xs) ∧ flatV x = true ∧ xs.all flatV = true ∧ Q (.bl (g (inV x xs))) H) ∨
  (∃ s t, x = .str s ∧ y = .str t ∧ Q (.bl (g (strIn s t))) H) ∨
  (∃ a o, y = .ref a ∧ DGet H a x o ∧ Q (.bl (g o.isSome)) H) ∨
  (∃ a kvs, y = .ref a ∧ x = .non ∧ Rd H a (.dK kvs) ∧ Q (.bl (g false)) H)
theorem strIn_eq {s t : Str} : strIn s t = !(Builtin.Str.occurrences t s 0 t.length 1).isEmpty := by
  unfold strIn
  split
  · rename_i c h
    have e : s = ⟨#[c]⟩ := by
      obtain ⟨a⟩ := s
      have : a = #[c] := by simpa using congrArg List.toArray h
      rw [this]
    subst e
    exact (PySem.StrLaws.found_one t c).symm
  · rfl
theorem op_inA {X : Cx} (hu : X.A.units + 65 < cLine) : OpR X (compareOp .In) (rInA X.K id) := by
  refine OpR.or (op_inD hu) (OpR.or op_in_seq (OpR.or ?_ (OpR.or ?_ ?_)))
  · intro pins s σ H x y v u Q I rx ry ⟨a, b, e1, e2, q⟩
    exact op_in_str pins s σ H x y v u Q I rx ry ⟨a, b, e1, e2, by rw [← strIn_eq]; exact q⟩
  · intro pins s σ H x y v u Q I rx ry ⟨a, o, e, g, q⟩
    subst e
    obtain rfl : u = Value.ref a := ry
    exact d_in (by omega) I g rx fun s3 I3 => ⟨.bl _, H, I3, rfl, q⟩
  · intro pins s σ H x y v u Q I rx ry ⟨a, kvs, e, en, g, q⟩
    subst e en
    obtain rfl : u = Value.ref a := ry
    obtain rfl : v = Value.none := rx
    exact d_inNone I g fun s3 I3 => ⟨.bl _, H, I3, rfl, q⟩
theorem op_ninA {X : Cx} (hu : X.A.units + 65 < cLine) : OpR X (compareOp .NotIn) (rInA X.K not) := by
  refine OpR.or (op_notInD hu) (OpR.or op_notIn_seq (OpR.or ?_ (OpR.or ?_ ?_)))
  · intro pins s σ H x y v u Q I rx ry ⟨a, b, e1, e2, q⟩
    exact op_notin_str pins s σ H x y v u Q I rx ry ⟨a, b, e1, e2, by rw [← strIn_eq]; exact q⟩
  · intro pins s σ H x y v u Q I rx ry ⟨a, o, e, g, q⟩
    subst e
    obtain rfl : u = Value.ref a := ry
    exact d_notIn (by omega) I g rx fun s3 I3 => ⟨.bl _, H, I3, rfl, q⟩
  · intro pins s σ H x y v u Q I rx ry ⟨a, kvs, e, en, g, q⟩
    subst e en
    obtain rfl : u = Value.ref a := ry
    obtain rfl : v = Value.none := rx
    exact d_notInNone I g fun s3 I3 => ⟨.bl _, H, I3, rfl, q⟩
theorem valV_zip {κ : Type} [DecidableEq κ] : ∀ {ks : List κ} {vs : List V} {k : κ}, ks.length = vs.length → valV (ks.zip vs) k = (kIx ks k).bind fun i => vs[i]?
  | [], vs, k, _ => by simp [kIx, valV]
  | a :: ks, [], k, h => by simp at h
  | a :: ks, v :: vs, k, h => by
    unfold kIx
    rw [List.zip_cons_cons, List.findIdx?_cons]
    by_cases e : a = k
    · rw [valV_pos e]; simp [e]
    · rw [valV_neg e, valV_zip (by simpa using h)]
      simp only [e, decide_false, Bool.false_eq_true, if_false, kIx]
      cases ks.findIdx? (fun z => decide (z = k)) with
      | none => rfl
      | some i => simp
theorem kIx_lt {κ : Type} [DecidableEq κ] {ks : List κ} {k : κ} {i : Nat} (h : kIx ks k = some i) : i < ks.length := (List.findIdx?_eq_some_iff_getElem.mp h).1
theorem keyD_rep {cl : Tb} {H : Hp} {I M F : AS} {d : D} {v : V} {k : Key} (h : keyD d = some k) (r : Rep K cl H I M d v F) : v = kV k := by
  cases d with
  | int i => cases h; exact r
  | str i => cases h; exact r
  | _ => cases h
theorem keyL_rep {cl : Tb} {H : Hp} {I M : AS} : ∀ {ds : List D} {vs : List V} {ks : List Key} {F : AS}, keyL ds = some ks → RepL K cl H I M ds vs F → vs = ks.map kV
  | [], vs, ks, F, h, r => by
    cases h
    exact r
  | d :: ds, vs, ks, F, h, r => by
    obtain ⟨v, us, F1, F2, rfl, r1, r2, _⟩ := r
    simp only [keyL] at h
    split at h
    · rename_i k ks' e1 e2
      cases h
      rw [keyD_rep e1 r1, keyL_rep e2 r2, List.map_cons]
    · cases h
/-- a dict's look -/
theorem dget_k {cl : Tb} {H : Hp} {I M F : AS} {f : Fl} {p : Addr} {ks : List Key} {vs : List V} {k : Key} (hf : f ≠ .frz) (c : Cell H I M F f p (.dK (ks.zip vs))) (hl : ks.length = vs.length) : DGet H p (kV k) ((kIx ks k).bind fun i => vs[i]?) := by
  rw [← valV_zip hl]
  exact DGet.k (cell_some c hf)
theorem dget_t {cl : Tb} {H : Hp} {I M F : AS} {f : Fl} {p b : Addr} {ks : List (List Key)} {vs : List V} {k : List Key} (hf : f ≠ .frz) (c : Cell H I M F f p (.dT (ks.zip vs))) (hl : ks.length = vs.length) (hb : H b = some (.tup (k.map kV))) :
    DGet H p (.ref b) ((kIx ks k).bind fun i => vs[i]?) := by
  rw [← valV_zip hl]
  exact DGet.t (cell_some c hf) hb
theorem kIx_some {κ : Type} [DecidableEq κ] {ks : List κ} {vs : List V} {k : κ} (hl : ks.length = vs.length) : ((kIx ks k).bind fun i => vs[i]?).isSome = (kIx ks k).isSome := by
  cases e : kIx ks k with
  | none => rfl
  | some i =>
    have := kIx_lt e
    simp [List.getElem?_eq_getElem (show i < vs.length by omega)]
theorem inA_of {cl : Tb} {I M : AS} {H : Hp} {da db : D} {k : Bool} {x y : V} {Fa Fb : AS} {Q : VK} {g : Bool → Bool} (ra : Rep K cl H I M da x Fa) (rb : Rep K cl H I M db y Fb) (e : inB da db = .ok k) (q : Q (.bl (g k)) H) : rInA K g x y H Q := by
  cases db with
  | lst f ds =>
    simp only [inB] at e
    split at e
    · rename_i p ps e1 e2
      split at e
      · rename_i h
        cases e
        rw [Bool.and_eq_true] at h
        refine .inl ⟨p, ps, rep_dp da x Fa p ra e1, rep_dp (.lst f ds) y Fb (.list ps) rb (by simp [D.py, e2]), h.1, h.2, q⟩
      · cases e
    · cases e
  | tup ds =>
    simp only [inB] at e
    split at e
    · rename_i v vs e1 e2
      cases e
      obtain ⟨p, ws, rfl, c, r⟩ := rb
      obtain ⟨a1, a2⟩ := flat_rep e1 ra
      obtain ⟨b1, b2⟩ := flat_repL e2 r
      subst a1 b1
      exact .inr (.inl ⟨p, ws, rfl, .inr (.inl (.inl c.1)), a2, b2, q⟩)
    · cases e
  | ktup ds =>
    simp only [inB] at e
    split at e
    · rename_i v vs e1 e2
      cases e
      obtain ⟨p, ws, rfl, c, r⟩ := rb
      obtain ⟨a1, a2⟩ := flat_rep e1 ra
      obtain ⟨b1, b2⟩ := flat_repL e2 r
      subst a1 b1
      exact .inr (.inl ⟨p, ws, rfl, .inr (.inr c), a2, b2, q⟩)
    · cases e
  | str t =>
    cases da with
    | str s =>
      cases e
      exact .inr (.inr (.inl ⟨s, t, ra, rb, q⟩))
    | _ => cases e
  | dk f ks vs =>
    simp only [inB] at e
    split at e
    · rename_i k1 e1
      split at e
      · cases e
      · rename_i hf
        cases e
        obtain ⟨p, ws, rfl, hl, c, r⟩ := rb
        have hl2 : ks.length = ws.length := by rw [hl, r.length]
        refine .inr (.inr (.inr (.inl ⟨p, _, rfl, by rw [keyD_rep e1 ra]; exact dget_k (cl := cl) hf c hl2, ?_⟩)))
        rw [kIx_some hl2]
        exact q
    · split at e
      · split at e
        · cases e
        · rename_i hf
          cases e
          obtain ⟨p, ws, rfl, hl, c, r⟩ := rb
          exact .inr (.inr (.inr (.inr ⟨p, _, rfl, ra, .inl (cell_some c hf), q⟩)))
      · cases e
  | dt f ks vs =>
    simp only [inB] at e
    cases da with
    | tup ds =>
      simp only at e
      split at e
      · rename_i k1 e1
        split at e
        · cases e
        · rename_i hf
          cases e
          obtain ⟨p, ws, rfl, hl, c, r⟩ := rb
          obtain ⟨b, us, rfl, cb, rb2⟩ := ra
          have hl2 : ks.length = ws.length := by rw [hl, r.length]
          refine .inr (.inr (.inr (.inl ⟨p, _, rfl, dget_t (cl := cl) hf c hl2 (k := k1) (by rw [← keyL_rep e1 rb2]; exact cb.1), ?_⟩)))
          rw [kIx_some hl2]
          exact q
      · cases e
    | _ => cases e
  | _ => cases e
theorem op2_in : Op2 K (rInA K id) inD := fun cl I M H da db d x y Fa Fb Q hi hm ra rb e q => by
  unfold inD at e
  cases e1 : inB da db with
  | ok k =>
    rw [e1] at e
    cases e
    exact inA_of ra rb e1 (scal_ok q rfl)
  | ex _ => rw [e1] at e; cases e
  | bad => rw [e1] at e; cases e
theorem op2_nin : Op2 K (rInA K not) ninD := fun cl I M H da db d x y Fa Fb Q hi hm ra rb e q => by
  unfold ninD at e
  cases e1 : inB da db with
  | ok k =>
    rw [e1] at e
    cases e
    exact inA_of ra rb e1 (scal_ok q rfl)
  | ex _ => rw [e1] at e; cases e
  | bad => rw [e1] at e; cases e
def isnD : D → D → Res D
  | .non, .non => .ok (.bl true)
  | _, .non => .ok (.bl false)
  | _, _ => .bad
def notnD : D → D → Res D
  | .non, .non => .ok (.bl false)
  | _, .non => .ok (.bl true)
  | _, _ => .bad
theorem nx_isn : NoX isnD := fun a b e h => by
  unfold isnD at h
  split at h <;> cases h
theorem nx_notn : NoX notnD := fun a b e h => by
  unfold notnD at h
  split at h <;> cases h
def D.isNon : D → Bool
  | .non => true
  | _ => false
theorem rep_non {cl : Tb} {H : Hp} {I M F : AS} {d : D} {v : V} (r : Rep K cl H I M d v F) : decide (v = .non) = d.isNon := by
  cases d with
  | non => rw [show v = .non from r]; rfl
  | bl b => rw [show v = .bl b from r]; rfl
  | int b => rw [show v = .int b from r]; rfl
  | str b => rw [show v = .str b from r]; rfl
  | tup xs => obtain ⟨p, vs, rfl, _⟩ := r; rfl
  | ktup xs => obtain ⟨p, vs, rfl, _⟩ := r; rfl
  | lst f xs => obtain ⟨p, vs, rfl, _⟩ := r; rfl
  | dk f ks xs => obtain ⟨p, vs, rfl, _⟩ := r; rfl
  | dt f ks xs => obtain ⟨p, vs, rfl, _⟩ := r; rfl
  | dn f ks xs => obtain ⟨p, ws, vs, rfl, _⟩ := r; rfl
  | obj f c ns xs => obtain ⟨p, dx, vs, rfl, _⟩ := r; rfl
theorem op2_isn : Op2 K (fun x y H Q => y = .non ∧ Q (.bl (decide (x = .non))) H) isnD := fun cl I M H da db d x y Fa Fb Q hi hm ra rb e q => by
  unfold isnD at e
  split at e
  · cases e
    exact ⟨rb, by rw [rep_non ra]; exact scal_ok q rfl⟩
  · rename_i hn
    cases e
    refine ⟨rb, ?_⟩
    rw [rep_non ra]
    have : da.isNon = false := by
      cases da with
      | non => exact absurd rfl (hn)
      | _ => rfl
    rw [this]
    exact scal_ok q rfl
  · cases e
theorem op2_notn : Op2 K (fun x y H Q => y = .non ∧ Q (.bl (!decide (x = .non))) H) notnD := fun cl I M H da db d x y Fa Fb Q hi hm ra rb e q => by
  unfold notnD at e
  split at e
  · cases e
    exact ⟨rb, by rw [rep_non ra]; exact scal_ok q rfl⟩
  · rename_i hn
    cases e
    refine ⟨rb, ?_⟩
    rw [rep_non ra]
    have : da.isNon = false := by
      cases da with
      | non => exact absurd rfl (hn)
      | _ => rfl
    rw [this]
    exact scal_ok q rfl
  · cases e
def ii (C : Int → Int → Bool) (f : Int → Int → D) : D → D → Res D
  | .int i, .int j => if C i j then .ok (f i j) else .bad
  | _, _ => .bad
theorem nx_ii {C : Int → Int → Bool} {f : Int → Int → D} : NoX (ii C f) := fun a b e h => by
  unfold ii at h
  split at h
  · split at h <;> cases h
  · cases h
theorem op2_ii {C : Int → Int → Bool} {C' : Int → Int → Prop} {f : Int → Int → Int} (hc : ∀ i j, C i j = true → C' i j) : Op2 K (rI C' fun i j => .int (f i j)) (ii C fun i j => .int (f i j)) := fun cl I M H da db d x y Fa Fb Q hi hm ra rb e q => by
  unfold ii at e
  split at e
  · rename_i i j
    split at e
    · rename_i h
      cases e
      exact ⟨i, j, ra, rb, hc i j h, scal_ok q rfl⟩
    · cases e
  · cases e
theorem op2_ib0 {f : Int → Int → Bool} : Op2 K (rI0 fun i j => .bl (f i j)) (ii (fun _ _ => true) fun i j => .bl (f i j)) := fun cl I M H da db d x y Fa Fb Q hi hm ra rb e q => by
  unfold ii at e
  split at e
  · rename_i i j
    cases e
    exact ⟨i, j, ra, rb, scal_ok q rfl⟩
  · cases e
def mulD : D → D → Res D := ii (fun i j => (decide (-(2 ^ 64) < i) && decide (i < 2 ^ 64)) || (decide (-(2 ^ 64) < j) && decide (j < 2 ^ 64))) fun i j => .int (i * j)
def modD : D → D → Res D := ii (fun _ j => decide (0 < j)) fun i j => .int (i % j)
def fdivD : D → D → Res D := ii (fun _ j => decide (0 < j) && decide (j < 1073741824)) fun i j => .int (i / j)
def powD : D → D → Res D := ii (fun i j => decide (0 ≤ j) && (decide (j ≤ 1000000) && decide (i.natAbs < 2 ^ 64))) fun i j => .int (i ^ j.toNat)
def ltD : D → D → Res D := ii (fun _ _ => true) fun i j => .bl (decide (i < j))
def leD : D → D → Res D := ii (fun _ _ => true) fun i j => .bl (decide (i ≤ j))
def gtD : D → D → Res D := ii (fun _ _ => true) fun i j => .bl (decide (j < i))
def geD : D → D → Res D := ii (fun _ _ => true) fun i j => .bl (decide (j ≤ i))
def addD : D → D → Res D
  | .int i, .int j => .ok (.int (i + j))
  | .str a, .str b => if a.length + b.length ≤ sizeLine then .ok (.str (a ++ b)) else .bad
  | .lst f xs, .lst g ys => if f ≠ .frz ∧ g ≠ .frz ∧ immL xs = true ∧ immL ys = true ∧ xs.length + ys.length ≤ sizeLine then .ok (.lst .own (xs ++ ys)) else .bad
  | .tup xs, .tup ys => if immL xs = true ∧ immL ys = true ∧ xs.length + ys.length ≤ sizeLine then .ok (.tup (xs ++ ys)) else .bad
  | _, _ => .bad
theorem nx_add : NoX addD := fun a b e h => by
  unfold addD at h
  repeat' split at h
  all_goals cases h
def rAddA (K : PySem.W.Frag) : R2 := fun x y H Q => (∃ i j, x = .int i ∧ y = .int j ∧ Q (.int (i + j)) H) ∨ (∃ i j, x = .str i ∧ y = .str j ∧ i.length + j.length ≤ sizeLine ∧ Q (.str (i ++ j)) H) ∨ rCat x y H Q ∨ rCatA K x y H Q
theorem op_addA {X : Cx} : OpR X (binaryOp .Add) (rAddA X.K) := OpR.or op_add (OpR.or op_add_str (OpR.or op_cat op_catA))
theorem immL_app {xs ys : List D} (h1 : immL xs = true) (h2 : immL ys = true) : immL (xs ++ ys) = true := by
  rw [immL_eq, List.all_append, ← immL_eq, ← immL_eq, h1, h2]
  rfl
theorem RepL.appI {cl : Tb} {H : Hp} {I M M' F F' : AS} {xs ys : List D} {vs ws : List V} (r : RepL K cl H I M xs vs F) (t : RepL K cl H I M' ys ws F') (h1 : immL xs = true) (h2 : immL ys = true) : RepL K cl H I (fun _ => True) (xs ++ ys) (vs ++ ws) none_ :=
  RepL.append (RepL.imm xs vs F none_ h1 r) (RepL.imm ys ws F' none_ h2 t)
theorem op2_add : Op2 K (rAddA K) addD := fun cl I M H da db d x y Fa Fb Q hi hm ra rb e q => by
  unfold addD at e
  split at e
  · rename_i i j
    cases e
    exact .inl ⟨i, j, ra, rb, scal_ok q rfl⟩
  · rename_i a b
    split at e
    · rename_i hz
      cases e
      exact .inr (.inl ⟨a, b, ra, rb, hz, scal_ok q rfl⟩)
    · cases e
  · rename_i f xs g ys
    split at e
    · rename_i hz
      cases e
      obtain ⟨f1, g1, i1, i2, z⟩ := hz
      obtain ⟨p, vs, rfl, c, r⟩ := ra
      obtain ⟨p2, ws, rfl, c2, r2⟩ := rb
      have c' := cell_some (c.resolve_right fun z => f1 z.1) f1
      have c2' := cell_some (c2.resolve_right fun z => g1 z.1) g1
      refine .inr (.inr (.inl ⟨p, p2, vs, ws, rfl, rfl, c', c2', by rw [r.length, r2.length]; exact z, fun n hn => ?_⟩))
      exact q _ _ _ (Same.new hn) (new_own hn) (rep_lst hn (RepL.appI r r2 i1 i2) (immL_app i1 i2))
    · cases e
  · rename_i xs ys
    split at e
    · rename_i hz
      cases e
      obtain ⟨i1, i2, z⟩ := hz
      obtain ⟨p, vs, rfl, c, r⟩ := ra
      obtain ⟨p2, ws, rfl, c2, r2⟩ := rb
      have ap := RepL.appI r r2 i1 i2
      refine .inr (.inr (.inr ⟨p, p2, vs, ws, rfl, rfl, .inl (.inl c.1), .inl (.inl c2.1), by rw [r.length, r2.length]; exact z, fun h0 => ?_, fun _ h0 => ?_, fun _ _ n hn => ?_⟩))
      · refine q _ H none_ same_refl (fun _ z => z.elim) ?_
        rw [i_none]
        subst h0
        exact ⟨p2, [] ++ ws, rfl, c2, ap⟩
      · refine q _ H none_ same_refl (fun _ z => z.elim) ?_
        rw [i_none]
        subst h0
        exact ⟨p, vs ++ [], rfl, by rw [List.append_nil]; exact c, ap⟩
      · exact q _ _ none_ (Same.new hn) (fun _ z => z.elim) (rep_tup hi hn ap (immL_app i1 i2))
    · cases e
  · cases e
end
section
variable {X : Cx} {c : Cc} {pos : Pos} {a b : Expr} {ga gb : Env → Res D}
theorem jn_add (ha : JV X c a ga) (hb : JV X c b gb) : JN X c (.BinOp a .Add b pos) (gBin addD ga gb) := jn_op op_addA op2_add nx_add ha hb
theorem jn_mod (ha : JV X c a ga) (hb : JV X c b gb) : JN X c (.BinOp a .Mod b pos) (gBin modD ga gb) := jn_op op_mod (op2_ii fun i j h => of_decide_eq_true h) nx_ii ha hb
theorem jn_fdiv (ha : JV X c a ga) (hb : JV X c b gb) : JN X c (.BinOp a .FloorDiv b pos) (gBin fdivD ga gb) := jn_op op_fdiv (op2_ii fun i j h => by
  simp only [Bool.and_eq_true, decide_eq_true_eq] at h
  exact h) nx_ii ha hb
theorem jn_pow (ha : JV X c a ga) (hb : JV X c b gb) : JN X c (.BinOp a .Pow b pos) (gBin powD ga gb) := jn_op op_pow (op2_ii fun i j h => by
  simp only [Bool.and_eq_true, decide_eq_true_eq] at h
  exact h) nx_ii ha hb
theorem jn_eq (hu : X.A.units + 65 < cLine) (ha : JV X c a ga) (hb : JV X c b gb) : JN X c (.Compare a [.Eq] [b] pos) (gBin eqD ga gb) := jn_cmp (op_eqD (by omega)) op2_eq nx_eq ha hb (nomark _)
theorem jn_isn (ha : JV X c a ga) (hb : JV X c b gb) : JN X c (.Compare a [.Is] [b] pos) (gBin isnD ga gb) := jn_cmp op_isN op2_isn nx_isn ha hb (nomark _)
theorem jn_notn (ha : JV X c a ga) (hb : JV X c b gb) : JN X c (.Compare a [.IsNot] [b] pos) (gBin notnD ga gb) := jn_cmp op_notN op2_notn nx_notn ha hb (nomark _)
theorem jn_in (hu : X.A.units + 65 < cLine) (ha : JV X c a ga) (hb : JV X c b gb) (hm : behindInMarks .In b = false := by rfl) : JN X c (.Compare a [.In] [b] pos) (gBin inD ga gb) := jn_cmp (op_inA hu) op2_in nx_in ha hb hm
end
end PD
namespace PD
open PySem L2

section
variable {X : Cx} {c : Cc} {pos : Pos} {a b e : Expr} {ga gb g : Env → Res D}
def asB : D → Res Bool
  | .bl b => .ok b
  | _ => .bad
def truD : D → Res Bool
  | .non => .ok false
  | .bl b => .ok b
  | .int i => .ok (i != 0)
  | .str s => if s.length ≤ sizeLine then .ok ((s.length : Int) != 0) else .bad
  | .tup xs => .ok (!xs.isEmpty)
  | .ktup xs => .ok (!xs.isEmpty)
  | .lst _ xs => .ok (!xs.isEmpty)
  | .dk f ks _ => if f = .frz then .bad else .ok (!ks.isEmpty)
  | _ => .bad
theorem truD_nx (d : D) (x : Exc) : truD d ≠ .ex x := fun h => by
  unfold truD at h
  repeat' split at h
  all_goals cases h
def gTru (g : Env → Res D) : Env → Res Bool := fun E => g E >>= truD
def gB (g : Env → Res D) : Env → Res Bool := fun E => g E >>= asB
theorem isEmptyL {xs : List D} {vs : List V} (h : vs.length = xs.length) : vs.isEmpty = xs.isEmpty := by
  cases xs <;> cases vs <;> simp_all
theorem tru_rep {K : PySem.W.Frag} {cl : Tb} {H : Hp} {I M F : AS} {d : D} {v : V} {k : Bool} (r : Rep K cl H I M d v F) (h : truD d = .ok k) : TruV K v H k := by
  cases d with
  | non => cases h; rw [show v = .non from r]; rfl
  | bl b => cases h; rw [show v = .bl _ from r]; rfl
  | int i => cases h; rw [show v = .int _ from r]; rfl
  | str s =>
    simp only [truD] at h
    split at h
    · rename_i hs
      cases h
      rw [show v = .str _ from r]
      exact ⟨hs, rfl⟩
    · cases h
  | tup xs =>
    cases h
    obtain ⟨p, vs, rfl, q, rr⟩ := r
    exact .inr (.inl ⟨vs, .inl (.inl q.1), by rw [isEmptyL rr.length]⟩)
  | ktup xs =>
    cases h
    obtain ⟨p, vs, rfl, q, rr⟩ := r
    exact .inr (.inl ⟨vs, .inr q, by rw [isEmptyL rr.length]⟩)
  | lst f xs =>
    cases h
    obtain ⟨p, vs, rfl, q, rr⟩ := r
    exact .inl ⟨vs, cell_sql q, by rw [isEmptyL rr.length]⟩
  | dk f ks xs =>
    simp only [truD] at h
    split at h
    · cases h
    · rename_i hf
      cases h
      obtain ⟨p, vs, rfl, hl, q, rr⟩ := r
      refine .inr (.inr ⟨_, cell_some q hf, ?_⟩)
      have h1 := rr.length
      cases ks <;> cases vs <;> simp_all <;> omega
  | dt f ks xs => cases h
  | dn f ks xs => cases h
  | obj f c ns xs => cases h
theorem jt_tru (ha : JV X c a ga) (he : ∀ whole, isTrue a X.env whole = (do let v ← whole; standAt a.pos; holding [v] (truthy v)) := by intro _; rfl) : JT X c a (gTru ga) := ⟨PT.weak (pt_truth ha.pe he) fun σ H Q ⟨E, W, s, q⟩ => by
  unfold gTru at q
  refine tV_use s (fun e e1 => by rw [e1] at q; exact q) (fun e1 => by rw [e1] at q; exact q) fun d e1 v H1 F sm s1 f r => ?_
  rw [e1] at q
  simp only [res_bind_ok] at q
  cases e2 : truD d with
  | ok k =>
    rw [e2] at q
    exact ⟨k, tru_rep r e2, q H1 sm⟩
  | ex x => exact absurd e2 (truD_nx d x)
  | bad => rw [e2] at q; exact q.elim⟩
/-- a comparison as a test -/
theorem jt_cmp {op : CmpOp} {r : R2} {f : D → D → Res D} (ho : OpR X (compareOp op) r) (hf : Op2 X.K r f) (nx : NoX f) (ha : JV X c a ga) (hb : JV X c b gb) (hm : behindInMarks op b = false := by first | exact nomark _ | rfl) :
    JT X c (.Compare a [op] [b] pos) (gB (gBin f ga gb)) := ⟨PT.weak (pt_cmpR ho ha.pe hb.pe hm) fun σ H Q ⟨E, W, s, q⟩ => by
  refine opsem ha hb hf nx ⟨E, W, s, ?_⟩
  unfold gB at q
  cases e1 : gBin f ga gb E with
  | ok d =>
    rw [e1] at q
    simp only [res_bind_ok] at q
    cases d with
    | bl k => exact fun v H' F sm f r => ⟨k, r, q H' sm⟩
    | _ => exact q.elim
  | ex x => rw [e1] at q; exact q
  | bad => rw [e1] at q; exact q⟩
theorem jt_lt (ha : JV X c a ga) (hb : JV X c b gb) : JT X c (.Compare a [.Lt] [b] pos) (gB (gBin ltD ga gb)) := jt_cmp op_lt op2_ib0 nx_ii ha hb (nomark _)
theorem jt_gt (ha : JV X c a ga) (hb : JV X c b gb) : JT X c (.Compare a [.Gt] [b] pos) (gB (gBin gtD ga gb)) := jt_cmp op_gt op2_ib0 nx_ii ha hb (nomark _)
theorem jt_ge (ha : JV X c a ga) (hb : JV X c b gb) : JT X c (.Compare a [.GtE] [b] pos) (gB (gBin geD ga gb)) := jt_cmp op_ge op2_ib0 nx_ii ha hb (nomark _)
theorem jt_eq (hu : X.A.units + 65 < cLine) (ha : JV X c a ga) (hb : JV X c b gb) : JT X c (.Compare a [.Eq] [b] pos) (gB (gBin eqD ga gb)) := jt_cmp (op_eqD (by omega)) op2_eq nx_eq ha hb (nomark _)
theorem jt_ne (hu : X.A.units + 65 < cLine) (ha : JV X c a ga) (hb : JV X c b gb) : JT X c (.Compare a [.NotEq] [b] pos) (gB (gBin neD ga gb)) := jt_cmp (op_neD (by omega)) op2_ne nx_ne ha hb (nomark _)
theorem jt_isn (ha : JV X c a ga) (hb : JV X c b gb) : JT X c (.Compare a [.Is] [b] pos) (gB (gBin isnD ga gb)) := jt_cmp op_isN op2_isn nx_isn ha hb (nomark _)
theorem jt_notn (ha : JV X c a ga) (hb : JV X c b gb) : JT X c (.Compare a [.IsNot] [b] pos) (gB (gBin notnD ga gb)) := jt_cmp op_notN op2_notn nx_notn ha hb (nomark _)
theorem jt_in (hu : X.A.units + 65 < cLine) (ha : JV X c a ga) (hb : JV X c b gb) (hm : behindInMarks .In b = false := by rfl) : JT X c (.Compare a [.In] [b] pos) (gB (gBin inD ga gb)) := jt_cmp (op_inA hu) op2_in nx_in ha hb hm
theorem jt_nin (hu : X.A.units + 65 < cLine) (ha : JV X c a ga) (hb : JV X c b gb) (hm : behindInMarks .NotIn b = false := by rfl) : JT X c (.Compare a [.NotIn] [b] pos) (gB (gBin ninD ga gb)) := jt_cmp (op_ninA hu) op2_nin nx_nin ha hb hm
theorem tT_use {K : PySem.W.Frag} {W : AS} {σ : St} {H : Hp} {E : Env} {g : Env → Res Bool} {Q : Bool → Hp → Prop} (s : Sat K c E σ H W) (hx : ∀ e, g E = .ex e → ∀ u dd H', Same H H' → ERep K c.cl H' (c.I W) e u dd → c.Wx u dd σ H') (hb : g E ≠ .bad)
    (h : ∀ k, g E = .ok k → ∀ H', Same H H' → Sat K c E σ H' W → Q k H') : tT K c g σ H Q := by
  refine ⟨E, W, s, ?_⟩
  cases e : g E with
  | ok d => exact fun H' sm => h d e H' sm (s.same sm)
  | ex x => exact hx x e
  | bad => exact hb e
variable {ta tb : Env → Res Bool} {rest : List Expr}
def gAnd (ga gb : Env → Res Bool) : Env → Res Bool := fun E => ga E >>= fun k => if k = true then gb E else .ok false
def gOr (ga gb : Env → Res Bool) : Env → Res Bool := fun E => ga E >>= fun k => if k = true then .ok true else gb E
def gNot (ga : Env → Res Bool) : Env → Res Bool := fun E => ga E >>= fun k => .ok (!k)
theorem jw_and1 (ha : JT X c a ta) : JW X c (.BoolOp .And [a] pos) ta := ⟨pw_and1 ha.pt⟩
theorem jw_or1 (ha : JT X c a ta) : JW X c (.BoolOp .Or [a] pos) ta := ⟨pw_or1 ha.pt⟩
theorem jw_and (ha : JT X c a ta) (hb : JW X c (.BoolOp .And (b :: rest) pos) tb) : JW X c (.BoolOp .And (a :: b :: rest) pos) (gAnd ta tb) := ⟨PW.weak (pw_and ha.pt hb.pw) fun σ H Q ⟨E, W, s, q⟩ => by
  unfold gAnd at q
  refine tT_use s (fun e e1 => by rw [e1] at q; exact q) (fun e1 => by rw [e1] at q; exact q) fun k e1 H1 sm s1 => ?_
  rw [e1] at q
  simp only [res_bind_ok] at q
  cases k with
  | true => exact ⟨E, W, s1, resT_back sm q⟩
  | false => exact q H1 sm⟩
theorem jw_or (ha : JT X c a ta) (hb : JW X c (.BoolOp .Or (b :: rest) pos) tb) : JW X c (.BoolOp .Or (a :: b :: rest) pos) (gOr ta tb) := ⟨PW.weak (pw_or ha.pt hb.pw) fun σ H Q ⟨E, W, s, q⟩ => by
  unfold gOr at q
  refine tT_use s (fun e e1 => by rw [e1] at q; exact q) (fun e1 => by rw [e1] at q; exact q) fun k e1 H1 sm s1 => ?_
  rw [e1] at q
  simp only [res_bind_ok] at q
  cases k with
  | true => exact q H1 sm
  | false => exact ⟨E, W, s1, resT_back sm q⟩⟩
theorem jt_w (h : JW X c e ta) : JT X c e ta := ⟨h.pw.pt⟩
theorem jt_not (ha : JT X c a ta) : JT X c (.UnaryOp .Not a pos) (gNot ta) := ⟨PT.weak (pt_not ha.pt) fun σ H Q ⟨E, W, s, q⟩ => by
  unfold gNot at q
  refine tT_use s (fun e e1 => by rw [e1] at q; exact q) (fun e1 => by rw [e1] at q; exact q) fun k e1 H1 sm s1 => ?_
  rw [e1] at q
  exact q H1 sm⟩
/-- as values: bools ahead -/
def gAndV (ga gb : Env → Res D) : Env → Res D := fun E => ga E >>= fun x => asB x >>= fun k => if k = true then gb E else .ok (.bl false)
theorem jn_one {op} (ha : JN X c a ga) : JN X c (.BoolOp op [a] pos) ga := ⟨pe_one ha.pe⟩
theorem jn_and (ha : JN X c a ga) (hb : JN X c (.BoolOp .And (b :: rest) pos) gb) : JN X c (.BoolOp .And (a :: b :: rest) pos) (gAndV ga gb) := ⟨PE.weak (pe_and ha.pe hb.pe) fun σ H Q ⟨E, W, s, q⟩ => by
  unfold gAndV at q
  refine tN_use s (fun e e1 => by rw [e1] at q; exact q) (fun e1 => by rw [e1] at q; exact q) fun d e1 v H1 F sm s1 f r => ?_
  rw [e1] at q
  simp only [res_bind_ok] at q
  cases d with
  | bl k =>
    simp only [asB, res_bind_ok] at q
    refine ⟨k, r, ?_⟩
    cases k with
    | true => exact ⟨E, W, s1, resN_back sm q⟩
    | false => exact q _ H1 none_ sm (fun _ z => z.elim) rfl
  | _ => exact q.elim⟩
variable {t : Expr} {gt : Env → Res Bool}
def gIf (gt : Env → Res Bool) (ga gb : Env → Res D) : Env → Res D := fun E => gt E >>= fun k => if k = true then ga E else gb E
theorem jn_if (ht : JT X c t gt) (ha : JN X c a ga) (hb : JN X c b gb) : JN X c (.IfExp t a b pos) (gIf gt ga gb) := ⟨PE.weak (pe_ifExp ht.pt ha.pe hb.pe) fun σ H Q ⟨E, W, s, q⟩ => by
  unfold gIf at q
  refine tT_use s (fun e e1 => by rw [e1] at q; exact q) (fun e1 => by rw [e1] at q; exact q) fun k e1 H1 sm s1 => ?_
  rw [e1] at q
  simp only [res_bind_ok] at q
  cases k with
  | true => exact ⟨E, W, s1, resN_back sm q⟩
  | false => exact ⟨E, W, s1, resN_back sm q⟩⟩
theorem jv_if (ht : JT X c t gt) (ha : JV X c a ga) (hb : JV X c b gb) : JV X c (.IfExp t a b pos) (gIf gt ga gb) := ⟨PE.weak (pe_ifExp ht.pt ha.pe hb.pe) fun σ H Q ⟨E, W, s, q⟩ => by
  unfold gIf at q
  refine tT_use s (fun e e1 => by rw [e1] at q; exact q) (fun e1 => by rw [e1] at q; exact q) fun k e1 H1 sm s1 => ?_
  rw [e1] at q
  simp only [res_bind_ok] at q
  cases k with
  | true => exact ⟨E, W, s1, resV_back sm q⟩
  | false => exact ⟨E, W, s1, resV_back sm q⟩⟩
variable {d : Expr} {gd : Env → Res D}
def gChain (f f' : D → D → Res D) (ga gb gd : Env → Res D) : Env → Res D := fun E => ga E >>= fun x => gb E >>= fun y => f x y >>= fun z => asB z >>= fun k => if k = true then gd E >>= fun w => f' y w else .ok (.bl false)
theorem chainsem {r r' : R2} {f f' : D → D → Res D} (hf : Op2 X.K r f) (nx : NoX f) (hf' : Op2 X.K r' f') (nx' : NoX f') {σ : St} {H : Hp} {Q : VK} (h : tN X.K c (gChain f f' ga gb gd) σ H Q) : tChain r r' (tV X.K c ga) (tV X.K c gb) (tV X.K c gd) σ H Q := by
  obtain ⟨E, W, s, q⟩ := h
  unfold gChain at q
  refine tV_use s (fun e e1 => by rw [e1] at q; exact q) (fun e1 => by rw [e1] at q; exact q) fun da e1 x H1 Fa sm1 s1 fa ra => ?_
  rw [e1] at q
  simp only [res_bind_ok] at q
  refine tV_use s1 (fun e e2 => by rw [e2] at q; exact fun u dd H' sm => q u dd H' (sm1.trans sm)) (fun e2 => by rw [e2] at q; exact q) fun db e2 y H2 Fb sm2 s2 fb rb => ?_
  rw [e2] at q
  simp only [res_bind_ok] at q
  cases e3 : f da db with
  | ex e => exact absurd e3 (nx da db e)
  | bad => rw [e3] at q; exact q.elim
  | ok z =>
    rw [e3] at q
    simp only [res_bind_ok] at q
    cases z with
    | bl k =>
      simp only [asB, res_bind_ok] at q
      refine hf c.cl (c.I W) (c.M W) H2 da db _ x y Fa Fb _ s2.ih s2.mi (ra.same sm2) rb e3 fun v H3 F sm3 f r => ⟨k, r, ?_⟩
      have s3 := s2.same sm3
      cases k with
      | false => exact q _ H3 none_ ((sm1.trans sm2).trans sm3) (fun _ z => z.elim) rfl
      | true =>
        rw [if_pos rfl] at q
        show tV X.K c gd σ H3 _
        refine tV_use s3 (fun e e4 => by rw [e4] at q; exact fun u dd H' sm => q u dd H' (((sm1.trans sm2).trans sm3).trans sm)) (fun e4 => by rw [e4] at q; exact q) fun dw e4 w H4 Fw sm4 s4 fw rw' => ?_
        rw [e4] at q
        simp only [res_bind_ok] at q
        cases e5 : f' db dw with
        | ex e => exact absurd e5 (nx' db dw e)
        | bad => rw [e5] at q; exact q.elim
        | ok d5 =>
          rw [e5] at q
          refine hf' c.cl (c.I W) (c.M W) H4 db dw d5 y w Fb Fw Q s4.ih s4.mi ((rb.same sm3).same sm4) rw' e5 fun v H' F sm f r => ?_
          exact q v H' F ((((sm1.trans sm2).trans sm3).trans sm4).trans sm) (fun a z => ⟨(((sm1.trans sm2).trans sm3).trans sm4).free (f a z).1, (f a z).2⟩) r
    | _ => exact q.elim
theorem jt_chain_le (ha : JV X c a ga) (hb : JV X c b gb) (hd : JV X c d gd) (hm : lastMarks [.LtE, .LtE] [b, d] = false := by rfl) : JT X c (.Compare a [.LtE, .LtE] [b, d] pos) (gB (gChain leD leD ga gb gd)) := ⟨PT.weak (pt_chain op_le op_le ha.pe hb.pe hd.pe hm) fun σ H Q ⟨E, W, s, q⟩ => by
  refine chainsem (f := leD) (f' := leD) op2_ib0 nx_ii op2_ib0 nx_ii ⟨E, W, s, ?_⟩
  unfold gB at q
  cases e1 : gChain leD leD ga gb gd E with
  | ok d =>
    rw [e1] at q
    simp only [res_bind_ok] at q
    cases d with
    | bl k => exact fun v H' F sm f r => ⟨k, r, q H' sm⟩
    | _ => exact q.elim
  | ex x => rw [e1] at q; exact q
  | bad => rw [e1] at q; exact q⟩
/-- an operation that hands out a part of the first -/
def Op2V (K : PySem.W.Frag) (r : R2) (f : D → D → Res D) : Prop := ∀ (cl : Tb) (I M : AS) (H : Hp) (da db d : D) (x y : V) (Fa Fb : AS) (Q : VK), Rep K cl H I M da x Fa → Rep K cl H I M db y Fb → f da db = .ok d →
  (∀ v H' F, Same H H' → (∀ a, F a → Fa a ∨ Fb a) → Rep K cl H' I M d v F → Q v H') → r x y H Q
theorem opsemV {r : R2} {f : D → D → Res D} (ha : JV X c a ga) (hb : JV X c b gb) (ho : Op2V X.K r f) (nx : NoX f) {σ : St} {H : Hp} {Q : VK} (h : tV X.K c (gBin f ga gb) σ H Q) : tOp r (tV X.K c ga) (tV X.K c gb) σ H Q := by
  obtain ⟨E, W, s, q⟩ := h
  unfold gBin at q
  refine tV_use s (fun e e1 => by rw [e1] at q; exact q) (fun e1 => by rw [e1] at q; exact q) fun da e1 x H1 Fa sm1 s1 fa ra => ?_
  rw [e1] at q
  simp only [res_bind_ok] at q
  refine tV_use s1 (fun e e2 => by rw [e2] at q; exact fun u dd H' sm => q u dd H' (sm1.trans sm)) (fun e2 => by rw [e2] at q; exact q) fun db e2 y H2 Fb sm2 s2 fb rb => ?_
  rw [e2] at q
  simp only [res_bind_ok] at q
  cases e3 : f da db with
  | ok d =>
    rw [e3] at q
    refine ho c.cl (c.I W) (c.M W) H2 da db d x y Fa Fb Q (ra.same sm2) rb e3 fun v H' F sm f r => ?_
    exact q v H' ((sm1.trans sm2).trans sm) ⟨F, fun a z => (f a z).elim (fa a) (fb a), r⟩
  | ex e => exact absurd e3 (nx da db e)
  | bad =>
    rw [e3] at q
    exact q.elim
def atR {α : Type} (o : Option α) : Res α := match o with
  | some a => .ok a
  | none => .bad
@[simp] theorem atR_some {α : Type} (a : α) : atR (some a) = .ok a := rfl
@[simp] theorem atR_none {α : Type} : atR (none : Option α) = .bad := rfl
theorem atR_ok {α : Type} {o : Option α} {a : α} (h : atR o = .ok a) : o = some a := by
  cases o with
  | none => cases h
  | some b => cases h; rfl
theorem atR_nx {α : Type} {o : Option α} {e : Exc} : atR o ≠ .ex e := by cases o <;> exact fun z => nomatch z
def ixD (x y : D) : Res D := match x with
  | .lst _ xs => match y with
    | .int i => atR (atI xs i)
    | _ => .bad
  | .tup xs => match y with
    | .int i => atR (atI xs i)
    | _ => .bad
  | .ktup xs => match y with
    | .int i => atR (atI xs i)
    | _ => .bad
  | .str s => match y with
    | .int i => if s.length ≤ sizeLine then atR (atI s.cps.toList i) >>= fun k => .ok (.str ⟨#[k]⟩) else .bad
    | _ => .bad
  | .dk f ks vs => match keyD y with
    | some k => if f = .frz then .bad else atR ((kIx ks k).bind fun i => vs[i]?)
    | none => .bad
  | .dt f ks vs => match y with
    | .tup ds => match keyL ds with
      | some k => if f = .frz then .bad else atR ((kIx ks k).bind fun i => vs[i]?)
      | none => .bad
    | _ => .bad
  | _ => .bad
theorem bind_atR_nx {α : Type} {o : Option α} {f : α → Res D} {e : Exc} (hf : ∀ a e, f a ≠ .ex e) : (atR o >>= f) ≠ .ex e := by
  cases o with
  | none => exact fun z => nomatch z
  | some a => exact hf a e
theorem nx_ix : NoX ixD := fun x y e h => by
  unfold ixD at h
  repeat' split at h
  all_goals first | exact atR_nx h | exact bind_atR_nx (fun _ _ z => by cases z) h | cases h
def rIxA (K : PySem.W.Frag) : R2 := fun x y H Q => rIx K x y H Q ∨ ∃ a v, x = .ref a ∧ DGet H a y (some v) ∧ Q v H
theorem ix_dict (hu : X.A.units + 1 < cLine) : IxR X (fun x y H Q => ∃ a v, x = .ref a ∧ DGet H a y (some v) ∧ Q v H) := by
  intro value slice pins s σ H x y v u Q I rx ry h hs
  obtain ⟨a, v', rfl, g, q⟩ := h
  cases rx
  exact PyProof.Rows.tail_any (dict_typeIs I g) PySem.F.slot_dict_getitem.lookup (d_getItem hu I g ry fun w' s3 I3 rw' => ⟨v', H, I3, rw', q⟩) hs
theorem ix_A (hu : X.A.units + 1 < cLine) : IxR X (rIxA X.K) := ix_seq.or (ix_dict hu)
theorem atI_rep {K : PySem.W.Frag} {cl : Tb} {H : Hp} {I M F : AS} {xs : List D} {vs : List V} {i : Int} {d : D} (r : RepL K cl H I M xs vs F) (h : atI xs i = some d) : ∃ v F', atI vs i = some v ∧ (∀ a, F' a → F a) ∧ Rep K cl H I M d v F' := by
  unfold atI at h ⊢
  rw [r.length]
  cases e : ixN xs.length i with
  | none => rw [e] at h; cases h
  | some j =>
    rw [e] at h
    obtain ⟨v, F', g, b, rr⟩ := r.get (show xs[j]? = some d from h)
    exact ⟨v, F', g, b, rr⟩
theorem kIx_rep {K : PySem.W.Frag} {cl : Tb} {H : Hp} {I M F : AS} {κ : Type} [DecidableEq κ] {ks : List κ} {k : κ} {xs : List D} {vs : List V} {d : D} (r : RepL K cl H I M xs vs F) (h : ((kIx ks k).bind fun i => xs[i]?) = some d) :
    ∃ v F', ((kIx ks k).bind fun i => vs[i]?) = some v ∧ (∀ a, F' a → F a) ∧ Rep K cl H I M d v F' := by
  cases e : kIx ks k with
  | none => rw [e] at h; cases h
  | some j =>
    rw [e] at h
    obtain ⟨v, F', g, b, rr⟩ := r.get (show xs[j]? = some d from h)
    exact ⟨v, F', g, b, rr⟩
theorem op2_ix {K : PySem.W.Frag} : Op2V K (rIxA K) ixD := fun cl I M H da db d x y Fa Fb Q ra rb e q => by
  cases da with
  | lst f xs =>
    simp only [ixD] at e
    split at e
    · rename_i i
      have e := atR_ok e
      obtain ⟨p, vs, rfl, c, r⟩ := ra
      obtain ⟨v, F', g, b, rr⟩ := atI_rep r e
      exact .inl (.inl ⟨p, vs, i, v, rfl, rb, cell_sql c, g, q v H F' same_refl (fun a z => .inl (sub_le a (b a z))) rr⟩)
    · cases e
  | tup xs =>
    simp only [ixD] at e
    split at e
    · rename_i i
      have e := atR_ok e
      obtain ⟨p, vs, rfl, c, r⟩ := ra
      obtain ⟨v, F', g, b, rr⟩ := atI_rep r e
      exact .inl (.inr (.inl ⟨p, vs, i, v, rfl, rb, .inl (.inl c.1), g, q v H F' same_refl (fun a z => .inl (b a z)) rr⟩))
    · cases e
  | ktup xs =>
    simp only [ixD] at e
    split at e
    · rename_i i
      have e := atR_ok e
      obtain ⟨p, vs, rfl, c, r⟩ := ra
      obtain ⟨v, F', g, b, rr⟩ := atI_rep r e
      exact .inl (.inr (.inl ⟨p, vs, i, v, rfl, rb, .inr c, g, q v H F' same_refl (fun a z => (b a z).elim) rr⟩))
    · cases e
  | str s =>
    simp only [ixD] at e
    split at e
    · rename_i i
      split at e
      · rename_i hz
        cases e1 : atI s.cps.toList i with
        | none => rw [e1] at e; cases e
        | some k =>
          rw [e1] at e
          cases e
          exact .inl (.inr (.inr ⟨s, i, k, ra, rb, hz, e1, q _ H none_ same_refl (fun _ z => z.elim) rfl⟩))
      · cases e
    · cases e
  | dk f ks xs =>
    simp only [ixD] at e
    split at e
    · rename_i k e1
      split at e
      · cases e
      · rename_i hf
        have e := atR_ok e
        obtain ⟨p, ws, rfl, hl, c, r⟩ := ra
        have hl2 : ks.length = ws.length := by rw [hl, r.length]
        obtain ⟨v, F', g, b, rr⟩ := kIx_rep r e
        refine .inr ⟨p, v, rfl, ?_, q v H F' same_refl (fun a z => .inl (sub_le a (b a z))) rr⟩
        rw [keyD_rep e1 rb, ← g]
        exact dget_k (cl := cl) hf c hl2
    · cases e
  | dt f ks xs =>
    simp only [ixD] at e
    split at e
    · split at e
      · rename_i k e1
        split at e
        · cases e
        · rename_i hf
          have e := atR_ok e
          obtain ⟨p, ws, rfl, hl, c, r⟩ := ra
          obtain ⟨b', us, rfl, cb, rb2⟩ := rb
          have hl2 : ks.length = ws.length := by rw [hl, r.length]
          obtain ⟨v, F', g, b, rr⟩ := kIx_rep r e
          refine .inr ⟨p, v, rfl, ?_, q v H F' same_refl (fun a z => .inl (sub_le a (b a z))) rr⟩
          rw [← g]
          exact dget_t (cl := cl) hf c hl2 (by rw [← keyL_rep e1 rb2]; exact cb.1)
      · cases e
    · cases e
  | _ => cases e
theorem jv_ix (hu : X.A.units + 1 < cLine) (ha : JV X c a ga) (hb : JV X c b gb) (hs : PlainIx b := by intro _ _; rfl) : JV X c (.Subscript a b pos) (gBin ixD ga gb) := ⟨PE.weak (pe_ix (ix_A hu) ha.pe hb.pe hs) fun _ _ _ h => opsemV ha hb op2_ix nx_ix h⟩
abbrev GO := Env → Res (Option Int)
def asI : D → Res Int
  | .int i => .ok i
  | _ => .bad
def gO (g : Env → Res D) : GO := fun E => g E >>= fun d => asI d >>= fun i => .ok (some i)
def gO0 : GO := fun _ => .ok none
def tO (K : PySem.W.Frag) (c : Cc) (g : GO) : TO := fun σ H Q => ∃ E W, Sat K c E σ H W ∧ match g E with
  | .ok o => ∀ H', Same H H' → Q o H'
  | .ex e => ∀ u dd H', Same H H' → ERep K c.cl H' (c.I W) e u dd → c.Wx u dd σ H'
  | .bad => False
structure JO (X : Cx) (c : Cc) (e : Option Expr) (g : GO) : Prop where po : PO X e (tO X.K c g)
theorem jo_none : JO X c none gO0 := ⟨⟨fun pins s σ H Q I ⟨E, W, st, q⟩ => po_none.run pins s σ H Q I (q H same_refl)⟩⟩
theorem jo_some (h : JV X c e g) : JO X c (some e) (gO g) := ⟨⟨fun pins s σ H Q I ⟨E, W, st, q⟩ => (po_some h.pe).run pins s σ H Q I (by
  unfold gO at q
  refine tV_use st (fun e e1 => by rw [e1] at q; exact q) (fun e1 => by rw [e1] at q; exact q) fun d e1 v H1 F sm s1 f r => ?_
  rw [e1] at q
  cases d with
  | int i => exact ⟨i, r, q H1 sm⟩
  | _ => exact q.elim)⟩⟩
def cutD (xs : List D) (lo hi : Option Int) : List D := (xs.drop (HT.sIx xs.length 0 lo)).take (HT.sIx xs.length xs.length hi - HT.sIx xs.length 0 lo)
def slD (x : D) (lo hi : Option Int) : Res D := match x with
  | .lst _ xs => if immL xs then .ok (.lst .own (cutD xs lo hi)) else .bad
  | .tup xs => if immL xs then .ok (.tup (cutD xs lo hi)) else .bad
  | .str s => if s.length ≤ sizeLine then .ok (.str (cutS s lo hi)) else .bad
  | _ => .bad
def gSl (g : Env → Res D) (gl gh : GO) : Env → Res D := fun E => g E >>= fun x => gl E >>= fun lo => gh E >>= fun hi => slD x lo hi
theorem immL_take {xs : List D} {n : Nat} (h : immL xs = true) : immL (xs.take n) = true := by
  rw [immL_eq, List.all_eq_true] at h ⊢
  exact fun d z => h d (List.mem_of_mem_take z)
theorem immL_drop {xs : List D} {n : Nat} (h : immL xs = true) : immL (xs.drop n) = true := by
  rw [immL_eq, List.all_eq_true] at h ⊢
  exact fun d z => h d (List.mem_of_mem_drop z)
def rSlAll (K : PySem.W.Frag) : V → Option Int → Option Int → Hp → VK → Prop := fun x lo hi H Q => rSlL K x lo hi H Q ∨ rSlA K x lo hi H Q ∨ rSlS x lo hi H Q
theorem sl_all : SlR X (rSlAll X.K) := SlR.or sl_list (SlR.or sl_tupA sl_str)
theorem jn_slice {lo hi : Option Expr} {p2 : Pos} {gl gh : GO} (ha : JV X c a ga) (hl : JO X c lo gl) (hh : JO X c hi gh) : JN X c (.Subscript a (.Slice lo hi none p2) pos) (gSl ga gl gh) := ⟨PE.weak (pe_slice sl_all ha.pe hl.po hh.po) fun σ H Q ⟨E, W, s, q⟩ => by
  unfold gSl at q
  refine tV_use s (fun e e1 => by rw [e1] at q; exact q) (fun e1 => by rw [e1] at q; exact q) fun d e1 v H1 F sm s1 f r => ?_
  rw [e1] at q
  simp only [res_bind_ok] at q
  refine ⟨E, W, s1, ?_⟩
  cases e2 : gl E with
  | ex x => rw [e2] at q; exact fun u dd H' sm2 => q u dd H' (sm.trans sm2)
  | bad => rw [e2] at q; exact q
  | ok l =>
    rw [e2] at q
    simp only [res_bind_ok] at q
    refine fun H2 sm2 => ⟨E, W, s1.same sm2, ?_⟩
    cases e3 : gh E with
    | ex x => rw [e3] at q; exact fun u dd H' sm3 => q u dd H' ((sm.trans sm2).trans sm3)
    | bad => rw [e3] at q; exact q
    | ok h =>
      rw [e3] at q
      simp only [res_bind_ok] at q
      intro H3 sm3
      have r3 := (r.same sm2).same sm3
      have sm4 := (sm.trans sm2).trans sm3
      have s3 := (s1.same sm2).same sm3
      cases d with
      | lst fl xs =>
        simp only [slD] at q
        split at q
        · rename_i hi
          obtain ⟨p, vs, rfl, cc, rr⟩ := r3
          refine .inl ⟨p, vs, rfl, cell_sql cc, fun n hn => ?_⟩
          have ec : cutV vs l h = (vs.drop (HT.sIx xs.length 0 l)).take (HT.sIx xs.length xs.length h - HT.sIx xs.length 0 l) := by
            unfold cutV
            rw [rr.length]
          have rc : RepL X.K c.cl H3 (c.I W) (fun _ => True) (cutD xs l h) (cutV vs l h) none_ := by
            rw [ec]
            exact RepL.take _ (RepL.drop _ (RepL.imm (M' := fun _ => True) xs vs _ none_ hi rr))
          exact q _ _ _ (sm4.trans (Same.new hn)) (fun a z => ⟨sm4.free ((new_own (o := .lst (cutV vs l h)) hn) a z).1, ((new_own (o := .lst (cutV vs l h)) hn) a z).2⟩) (rep_lst hn rc (immL_take (immL_drop hi)))
        · exact q.elim
      | tup xs =>
        simp only [slD] at q
        split at q
        · rename_i hi
          obtain ⟨p, vs, rfl, cc, rr⟩ := r3
          have ec : cutV vs l h = (vs.drop (HT.sIx xs.length 0 l)).take (HT.sIx xs.length xs.length h - HT.sIx xs.length 0 l) := by
            unfold cutV
            rw [rr.length]
          have rc : RepL X.K c.cl H3 (c.I W) (fun _ => True) (cutD xs l h) (cutV vs l h) none_ := by
            rw [ec]
            exact RepL.take _ (RepL.drop _ (RepL.imm (M' := fun _ => True) xs vs _ none_ hi rr))
          refine .inr (.inl ⟨p, vs, rfl, .inl (.inl cc.1), fun hw => ?_, fun hw n hn => ?_⟩)
          · refine q _ H3 none_ sm4 (fun _ z => z.elim) ?_
            rw [i_none]
            have e5 : cutV vs l h = vs := by
              unfold cutV
              rw [hw.1, hw.2]
              simp
            rw [e5] at rc
            exact ⟨p, vs, rfl, cc, rc⟩
          · exact q _ _ none_ (sm4.trans (Same.new hn)) (fun _ z => z.elim) (rep_tup s3.ih hn rc (immL_take (immL_drop hi)))
        · exact q.elim
      | str z =>
        simp only [slD] at q
        split at q
        · rename_i hz
          exact .inr (.inr ⟨z, r3, hz, q _ H3 none_ sm4 (fun _ z => z.elim) rfl⟩)
        · exact q.elim
      | _ => exact q.elim⟩
variable {es : List Expr} {gs gr : Env → Res (List D)}
def gNil : Env → Res (List D) := fun _ => .ok []
def gCons (g : Env → Res D) (gs : Env → Res (List D)) : Env → Res (List D) := fun E => g E >>= fun d => gs E >>= fun ds => .ok (d :: ds)
/-- parts that do not change -/
def resL (K : PySem.W.Frag) (c : Cc) (W : AS) (σ : St) (H : Hp) (r : Res (List D)) (Q : List V → Hp → Prop) : Prop := match r with
  | .ok ds => ∀ vs H', Same H H' → RepL K c.cl H' (c.I W) (fun _ => True) ds vs none_ → Q vs H'
  | .ex e => ∀ u dd H', Same H H' → ERep K c.cl H' (c.I W) e u dd → c.Wx u dd σ H'
  | .bad => False
def tL (K : PySem.W.Frag) (c : Cc) (g : Env → Res (List D)) : TA := fun σ H Q => ∃ E W, Sat K c E σ H W ∧ resL K c W σ H (g E) Q
structure JL (X : Cx) (c : Cc) (es : List Expr) (g : Env → Res (List D)) : Prop where pa : PA X es (tL X.K c g)
theorem jl_nil : JL X c [] gNil := ⟨PA.weak pa_nil fun σ H Q ⟨E, W, s, q⟩ => q [] H same_refl rfl⟩
theorem jl_cons (h : JN X c e g) (hr : JL X c es gs) (hs : starEach (e :: es) X.env = (false, eval e X.env) :: starEach es X.env := by rfl) : JL X c (e :: es) (gCons (gFr g) gs) := ⟨PA.weak (pa_cons (jn_fr h).pe hr.pa hs) fun σ H Q ⟨E, W, s, q⟩ => by
  have hfr : ∀ d, gFr g E = .ok d → ∃ d' : D, d = d'.fr := fun d e1 => by
    unfold gFr at e1
    cases e2 : g E with
    | ok d' => rw [e2] at e1; cases e1; exact ⟨d', rfl⟩
    | ex x => rw [e2] at e1; cases e1
    | bad => rw [e2] at e1; cases e1
  unfold gCons at q
  refine ⟨E, W, s, ?_⟩
  cases e1 : gFr g E with
  | ex x => rw [e1] at q; exact q
  | bad => rw [e1] at q; exact q
  | ok d =>
    rw [e1] at q
    simp only [res_bind_ok] at q
    intro v H1 F sm f r
    refine ⟨E, W, s.same sm, ?_⟩
    -- the frozen part bears no footprint
    cases e2 : gs E with
    | ex x => rw [e2] at q; exact fun u dd H' sm2 => q u dd H' (sm.trans sm2)
    | bad => rw [e2] at q; exact q
    | ok ds =>
      rw [e2] at q
      obtain ⟨d', rfl⟩ := hfr d e1
      refine fun vs H2 sm2 r2 => q (v :: vs) H2 (sm.trans sm2) (RepL.none_cons ?_ r2)
      have r3 : Rep X.K c.cl H1 (c.I W) (fun _ => True) d'.fr.fr v none_ := Rep.fr (fun a z => Or.inl z) d'.fr v F (fun a z w => s.fresh (f a z).1 w) r
      have e3 : d'.fr.fr = d'.fr := fr_fr d'
      rw [e3] at r3
      exact r3.same sm2⟩
def gTup (gs : Env → Res (List D)) : Env → Res D := fun E => gs E >>= fun ds => if immL ds ∧ ds.length ≤ sizeLine then .ok (.tup ds) else .bad
def gLst (gs : Env → Res (List D)) : Env → Res D := fun E => gs E >>= fun ds => if immL ds ∧ ds.length ≤ sizeLine then .ok (.lst .own ds) else .bad
theorem tL_use {K : PySem.W.Frag} {W : AS} {σ : St} {H : Hp} {E : Env} {Q : List V → Hp → Prop} (s : Sat K c E σ H W) (hx : ∀ e, gs E = .ex e → ∀ u dd H', Same H H' → ERep K c.cl H' (c.I W) e u dd → c.Wx u dd σ H') (hb : gs E ≠ .bad)
    (h : ∀ ds, gs E = .ok ds → ∀ vs H', Same H H' → Sat K c E σ H' W → RepL K c.cl H' (c.I W) (fun _ => True) ds vs none_ → Q vs H') : tL K c gs σ H Q := by
  refine ⟨E, W, s, ?_⟩
  cases e : gs E with
  | ok d => exact fun v H' sm r => h d e v H' sm (s.same sm) r
  | ex x => exact hx x e
  | bad => exact hb e
theorem jn_tup {x1} (h : JL X c es gs) : JN X c (.Tuple es x1 pos) (gTup gs) := ⟨PE.weak (pe_tup h.pa) fun σ H Q ⟨E, W, s, q⟩ => by
  unfold gTup at q
  refine tL_use s (fun e e1 => by rw [e1] at q; exact q) (fun e1 => by rw [e1] at q; exact q) fun ds e1 vs H1 sm s1 r => ?_
  rw [e1] at q
  simp only [res_bind_ok] at q
  split at q
  · rename_i hz
    exact ⟨by rw [r.length]; exact hz.2, fun n hn => q _ _ none_ (sm.trans (Same.new hn)) (fun _ z => z.elim) (rep_tup s1.ih hn r hz.1)⟩
  · exact q.elim⟩
theorem jn_lst (h : JL X c es gs) : JN X c (.List es pos) (gLst gs) := ⟨PE.weak (pe_lst h.pa) fun σ H Q ⟨E, W, s, q⟩ => by
  unfold gLst at q
  refine tL_use s (fun e e1 => by rw [e1] at q; exact q) (fun e1 => by rw [e1] at q; exact q) fun ds e1 vs H1 sm s1 r => ?_
  rw [e1] at q
  simp only [res_bind_ok] at q
  split at q
  · rename_i hz
    exact ⟨by rw [r.length]; exact hz.2, fun n hn => q _ _ _ (sm.trans (Same.new hn)) (fun a z => ⟨sm.free (new_own (o := .lst vs) hn a z).1, (new_own (o := .lst vs) hn a z).2⟩) (rep_lst hn r hz.1)⟩
  · exact q.elim⟩
/-- arguments: views, what is own lent -/
theorem ja_nil : JA X c [] gNil := ⟨PA.weak pa_nil fun σ H Q ⟨E, W, s, q⟩ => q [] H same_refl rfl⟩
theorem ja_cons (h : JV X c e g) (hr : JA X c es gs) (hs : starEach (e :: es) X.env = (false, eval e X.env) :: starEach es X.env := by rfl) : JA X c (e :: es) (gCons (gDm g) gs) := ⟨PA.weak (pa_cons h.pe hr.pa hs) fun σ H Q ⟨E, W, s, q⟩ => by
  unfold gCons gDm at q
  refine tV_use s (fun e e1 => by rw [e1] at q; exact q) (fun e1 => by rw [e1] at q; exact q) fun d e1 v H1 F sm s1 f r => ?_
  rw [e1] at q
  simp only [res_bind_ok] at q
  refine ⟨E, W, s1, ?_⟩
  cases e2 : gs E with
  | ex x => rw [e2] at q; exact fun u dd H' sm2 => q u dd H' (sm.trans sm2)
  | bad => rw [e2] at q; exact q
  | ok ds =>
    rw [e2] at q
    refine fun vs H2 sm2 r2 => q (v :: vs) H2 (sm.trans sm2) (RepL.none_cons ?_ r2)
    exact Rep.dm (fun a z => z) (fun _ z => Or.inr z) d v F (fun a z y => s.ws a (f a z) y) (r.same sm2)⟩
end
end PD
namespace PD
open PySem L2

section
variable {X : Cx} {c : Cc} {pos : Pos} {a b e : Expr} {ga gb g : Env → Res D}
theorem lookup_zip {nm : Nat → Str} (inj : ∀ i j, nm i = nm j → i = j) (n : Nat) : ∀ (ns : List Nat) (vs : List V), ns.length = vs.length → ((ns.map nm).zip vs).lookup (nm n) = (kIx ns n).bind fun i => vs[i]?
  | [], vs, _ => by simp [kIx]
  | m :: ns, [], h => by simp at h
  | m :: ns, v :: vs, h => by
    unfold kIx
    rw [List.map_cons, List.zip_cons_cons, List.lookup_cons, List.findIdx?_cons]
    by_cases e : m = n
    · subst e
      simp
    · have e1 : (nm n == nm m) = false := by
        rw [beq_eq_false_iff_ne]
        exact fun z => e (inj _ _ z).symm
      rw [e1]
      simp only [e, decide_false, Bool.false_eq_true, if_false]
      rw [lookup_zip inj n ns vs (by simpa using h)]
      unfold kIx
      cases ns.findIdx? (fun z => decide (z = n)) with
      | none => rfl
      | some i => simp
end

def resS (K : PySem.W.Frag) (c : Cc) (W : AS) (H : Hp) (o : Out) (D : Ends) : Prop := match o with
  | .nx E => ∀ σ' H' W', Step H W H' W' → Sat K c E σ' H' W' → D.nx σ' H'
  | .bk E => ∀ σ' H' W', Step H W H' W' → Sat K c E σ' H' W' → D.bk σ' H'
  | .ct E => ∀ σ' H' W', Step H W H' W' → Sat K c E σ' H' W' → D.ct σ' H'
  | .rt d E => ∀ v σ' H' W' F, Step H W H' (fun a => W' a ∨ F a) → Sat K (c.addB F) E σ' H' W' → Rep K c.cl H' ((c.addB F).I W') (fun _ => True) d v F → D.rt v H'
  | .ex e E => ∀ u dd σ' H' W', Step H W H' W' → Sat K c E σ' H' W' → ERep K c.cl H' (c.I W') e u dd → c.Wx u dd σ' H'
  | .bad => False
def tS (K : PySem.W.Frag) (c : Cc) (s : Env → Out) : TS := fun D σ H => ∃ E W, Sat K c E σ H W ∧ resS K c W H (s E) D
structure JS (X : Cx) (c : Cc) (st : Stmt) (s : Env → Out) : Prop where ps : PS X st (tS X.K c s)
structure JSs (X : Cx) (c : Cc) (st : List Stmt) (s : Env → Out) : Prop where ps : PSs X st (tS X.K c s)
section
variable {K : PySem.W.Frag} {X : Cx} {c : Cc} {pos : Pos} {a b e : Expr} {ga gb g : Env → Res D} {W W' : AS} {σ : St} {H H' : Hp} {E : Env} {Dn : Ends}
theorem resS_back {o : Out} (t : Step H W H' W') (q : resS K c W H o Dn) : resS K c W' H' o Dn := by
  cases o with
  | nx E => exact fun σ2 H2 W2 t2 => q σ2 H2 W2 (t.trans t2)
  | bk E => exact fun σ2 H2 W2 t2 => q σ2 H2 W2 (t.trans t2)
  | ct E => exact fun σ2 H2 W2 t2 => q σ2 H2 W2 (t.trans t2)
  | rt d E => exact fun v σ2 H2 W2 F t2 => q v σ2 H2 W2 F (t.trans t2)
  | ex e E => exact fun u dd σ2 H2 W2 t2 => q u dd σ2 H2 W2 (t.trans t2)
  | bad => exact q
/-- a new value is stored at slot i -/
theorem Sat.store {i : Nat} {d : D} {v : V} {F : AS} (s : Sat K c E σ H W) (sm : Same H H') (hF : ∀ a, F a → H a = none ∧ H' a ≠ none) (r : Rep K c.cl H' (fun a => c.I W a ∨ F a) (fun _ => True) d v F) (hi : i < E.length) (h0 : c.p0 i = none) :
    Sat K c (E.set i (some d)) (σ.set i (some v)) H' (fun a => W a ∨ F a) ∧ Step H W H' (fun a => W a ∨ F a) := by
  obtain ⟨w1, ws, sb, w2, w3, wz, wp, w4, fp, f1, f2, f3⟩ := id s
  have st : Step H W H' (fun a => W a ∨ F a) := ⟨fun a o q _ => sm a o q, fun a q => Same.some_ sm q, fun a z => z.elim .inl fun y => .inr (hF a y).1⟩
  refine ⟨⟨fun a z => ?_, fun a z => ?_, sb, fun a z => z.elim (fun y => Same.some_ sm (w2 a y)) fun y => (hF a y).2, fun a z => Same.some_ sm (w3 a z), c.zs _ _ _ _ st wz, fun j v e => ?_, by rw [List.length_set, List.length_set]; exact w4,
    fun j => if j = i then F else fp j, fun j a z => ?_, fun j k a hjk z => ?_, fun j d' e => ?_⟩, st⟩
  · rcases z with z | z
    · exact w1 a z
    · exact fun y => w3 a y (hF a z).1
  · rcases z with z | z
    · exact ws a z
    · exact fun y => w3 a (sb a y) (hF a z).1
  · by_cases hj : j = i
    · rw [hj, h0] at e; cases e
    · rw [List.getElem?_set_ne (Ne.symm hj)]
      exact wp j v e
  · simp only at z
    split at z
    · exact .inr z
    · exact .inl (f1 j a z)
  · simp only at z ⊢
    split at z
    · rename_i hj
      split
      · rename_i hk
        exact absurd (hj.trans hk.symm) hjk
      · exact fun y => w2 a (f1 k a y) (hF a z).1
    · split
      · exact fun y => w2 a (f1 j a z) (hF a y).1
      · exact f2 j k a hjk z
  · by_cases hj : j = i
    · subst hj
      rw [List.getElem?_set_self (by omega)] at e
      cases e
      refine ⟨v, List.getElem?_set_self (by omega), ?_⟩
      simp only [if_pos]
      refine Rep.mono (fun a o q n => ⟨q, fun y => n ?_⟩) (fun a o q n => absurd trivial n) d v F F (fun _ _ q _ => q) (fun _ z => z) r
      rcases y with (y | y) | y
      · exact .inl (.inl y)
      · exact .inr y
      · exact .inl (.inr y)
    · rw [List.getElem?_set_ne (Ne.symm hj)] at e
      obtain ⟨v', q, r'⟩ := f3 j d' e
      refine ⟨v', by rw [List.getElem?_set_ne (Ne.symm hj)]; exact q, ?_⟩
      simp only [if_neg hj]
      refine Rep.mono (fun a o q n => ⟨sm a o q, fun y => ?_⟩) (fun a o q n => ⟨sm a o q, fun y => ?_⟩) d' v' _ _ (fun a o q _ => sm a o q) (fun _ z => z) r'
      · rcases y with (y | y) | y
        · exact n (.inl y)
        · rw [(hF a y).1] at q; cases q
        · exact n (.inr y)
      · rcases y with (y | y) | y
        · exact n (.inl y)
        · rw [(hF a y).1] at q; cases q
        · exact n (.inr y)
/-- slot i emptied, what it held set free: W without it -/
theorem Sat.drop0 {i : Nat} {d : D} (s : Sat K c E σ H W) (e0 : E[i]? = some (some d)) : ∃ v F, σ[i]? = some (some v) ∧ (∀ a, F a → W a) ∧ Rep K c.cl H (c.I W) (c.M W) d v F ∧ Sat K (c.aside F) (E.set i none) σ H (fun a => W a ∧ ¬ F a) ∧ Sat K (c.addB F) (E.set i none) σ H (fun a => W a ∧ ¬ F a) := by
  obtain ⟨w1, ws, sb, w2, w3, wz, wp, w4, fp, f1, f2, f3⟩ := id s
  obtain ⟨v, e2, r⟩ := f3 i d e0
  have st : Step H W H (fun a => W a ∧ ¬ fp i a) := ⟨fun a o q _ => q, fun a q => q, fun a z => .inl z.1⟩
  have g1 : ∀ j a, (if j = i then none_ else fp j) a → W a ∧ ¬ fp i a := fun j a z => by
    split at z
    · exact z.elim
    · rename_i hj
      exact ⟨f1 j a z, f2 j i a hj z⟩
  have g2 : ∀ j k a, j ≠ k → (if j = i then none_ else fp j) a → ¬ (if k = i then none_ else fp k) a := fun j k a hjk z => by
    split at z
    · exact z.elim
    · split
      · exact fun y => y
      · exact f2 j k a hjk z
  refine ⟨v, fp i, e2, f1 i, r, ⟨fun a z y => y.elim (w1 a z.1) z.2, fun a z y => y.elim (ws a z.1) z.2, fun a z => z.imp (sb a) id, fun a z => w2 a z.1, fun a z => z.elim (w3 a) fun y => w2 a (f1 i a y), c.zs _ _ _ _ st wz, wp, by rw [List.length_set]; exact w4, fun j => if j = i then none_ else fp j, g1, g2, fun j d' e => ?_⟩,
    ⟨fun a z y => y.elim (w1 a z.1) z.2, fun a z => ws a z.1, fun a z => .inl (sb a z), fun a z => w2 a z.1, fun a z => z.elim (w3 a) fun y => w2 a (f1 i a y), c.zs _ _ _ _ st wz, wp, by rw [List.length_set]; exact w4, fun j => if j = i then none_ else fp j, g1, g2, fun j d' e => ?_⟩⟩
  · by_cases hj : j = i
    · subst hj
      rw [List.getElem?_set_self (List.getElem?_eq_some_iff.mp e0).1] at e
      cases e
    · rw [List.getElem?_set_ne (Ne.symm hj)] at e
      obtain ⟨v', q, r'⟩ := f3 j d' e
      refine ⟨v', q, ?_⟩
      simp only [if_neg hj]
      refine Rep.mono (fun a o q n => ⟨q, fun y => n ?_⟩) (fun a o q n => ⟨q, fun y => n ?_⟩) d' v' _ _ (fun _ _ q _ => q) (fun _ z => z) r'
      · rcases y with y | y | y
        · exact .inl y.1
        · exact .inr y
        · exact .inl (f1 i a y)
      · rcases y with y | y | y
        · exact .inl y.1
        · exact .inr y
        · exact .inl (f1 i a y)
  · by_cases hj : j = i
    · subst hj
      rw [List.getElem?_set_self (List.getElem?_eq_some_iff.mp e0).1] at e
      cases e
    · rw [List.getElem?_set_ne (Ne.symm hj)] at e
      obtain ⟨v', q, r'⟩ := f3 j d' e
      refine ⟨v', q, ?_⟩
      simp only [if_neg hj]
      refine Rep.mono (fun a o q n => ⟨q, fun y => n ?_⟩) (fun a o q n => ⟨q, fun y => n ?_⟩) d' v' _ _ (fun _ _ q _ => q) (fun _ z => z) r'
      · rcases y with y | y | y
        · exact .inl y.1
        · exact .inr y
        · exact .inl (f1 i a y)
      · rcases y with y | y
        · exact .inl y.1
        · exact .inr y
/-- a view of nothing that is ours is stored -/
theorem Sat.storeV {i : Nat} {d : D} {v : V} {F : AS} (s : Sat K c E σ H W) (r : Rep K c.cl H (c.I W) (c.M W) d v F) (hd : d.noOwn = true) (hi : i < E.length) (h0 : c.p0 i = none) : Sat K c (E.set i (some d)) (σ.set i (some v)) H W := by
  obtain ⟨w1, ws, sb, w2, w3, wz, wp, w4, fp, f1, f2, f3⟩ := s
  refine ⟨w1, ws, sb, w2, w3, wz, fun j v e => ?_, by rw [List.length_set, List.length_set]; exact w4, fun j => if j = i then none_ else fp j, fun j a z => ?_, fun j k a hjk z => ?_, fun j d' e => ?_⟩
  · by_cases hj : j = i
    · rw [hj, h0] at e; cases e
    · rw [List.getElem?_set_ne (Ne.symm hj)]
      exact wp j v e
  · simp only at z
    split at z
    · exact z.elim
    · exact f1 j a z
  · simp only at z ⊢
    split at z
    · exact z.elim
    · split
      · exact fun y => y
      · exact f2 j k a hjk z
  · by_cases hj : j = i
    · subst hj
      rw [List.getElem?_set_self (by omega)] at e
      cases e
      refine ⟨v, List.getElem?_set_self (by omega), ?_⟩
      simp only [if_pos]
      exact Rep.noOwn d v F none_ hd r
    · rw [List.getElem?_set_ne (Ne.symm hj)] at e
      obtain ⟨v', q, r'⟩ := f3 j d' e
      refine ⟨v', by rw [List.getElem?_set_ne (Ne.symm hj)]; exact q, ?_⟩
      simp only [if_neg hj]
      exact r'
/-- a slot's own things change no more -/
def frzE (i : Nat) (E : Env) : Env := match E[i]? with
  | some (some d) => E.set i (some d.fr)
  | _ => E
theorem Sat.frz (s : Sat K c E σ H W) (i : Nat) : ∃ W', Sat K c (frzE i E) σ H W' ∧ Step H W H W' := by
  unfold frzE
  split
  · rename_i d e0
    obtain ⟨w1, ws, sb, w2, w3, wz, wp, w4, fp, f1, f2, f3⟩ := s
    have hi : i < E.length := (List.getElem?_eq_some_iff.mp e0).1
    have st : Step H W H (fun a => W a ∧ ¬ fp i a) := ⟨fun a o q _ => q, fun a q => q, fun a z => .inl z.1⟩
    refine ⟨fun a => W a ∧ ¬ fp i a, ⟨fun a z => w1 a z.1, fun a z => ws a z.1, sb, fun a z => w2 a z.1, w3, c.zs _ _ _ _ st wz, wp, by rw [List.length_set]; exact w4, fun j => if j = i then none_ else fp j, fun j a z => ?_, fun j k a hjk z => ?_, fun j d' e => ?_⟩, st⟩
    · simp only at z
      split at z
      · exact z.elim
      · rename_i hj
        exact ⟨f1 j a z, f2 j i a hj z⟩
    · simp only at z ⊢
      split at z
      · exact z.elim
      · split
        · exact fun y => y
        · exact f2 j k a hjk z
    · by_cases hj : j = i
      · subst hj
        rw [List.getElem?_set_self hi] at e
        cases e
        obtain ⟨v, q, r⟩ := f3 j d e0
        refine ⟨v, q, ?_⟩
        simp only [if_pos]
        have r2 := Rep.fr (I' := fun a => (W a ∧ ¬ fp j a) ∨ c.B a) (fun a z => z.elim (fun y => Or.inl y.1) .inr) d v (fp j) (fun a z y => y.elim (fun x => x.2 z) (w1 a (f1 j a z))) r
        exact Rep.mono (fun a o q n => ⟨q, n⟩) (fun a o q n => ⟨q, fun y => n (y.imp (·.1) id)⟩) _ v none_ none_ (fun _ _ q _ => q) (fun _ z => z) r2
      · rw [List.getElem?_set_ne (Ne.symm hj)] at e
        obtain ⟨v', q, r'⟩ := f3 j d' e
        refine ⟨v', q, ?_⟩
        simp only [if_neg hj]
        exact Rep.mono (fun a o q n => ⟨q, fun y => n (y.elim (fun x => .inl x.1) .inr)⟩) (fun a o q n => ⟨q, fun y => n (y.imp (·.1) id)⟩) d' v' _ _ (fun _ _ q _ => q) (fun _ z => z) r'
  · exact ⟨W, s, Step.refl H W⟩
/-- so much more borrowed: fresh things -/
theorem Sat.addF {F : AS} (s : Sat K c E σ H W) (sm : Same H H') (hF : ∀ a, F a → H a = none ∧ H' a ≠ none) : Sat K (c.addB F) E σ H' W := by
  obtain ⟨w1, ws, sb, w2, w3, wz, wp, w4, fp, f1, f2, f3⟩ := s
  refine ⟨fun a z y => y.elim (w1 a z) fun x => w2 a z (hF a x).1, ws, fun a z => .inl (sb a z), fun a z => Same.some_ sm (w2 a z), fun a z => z.elim (fun y => Same.some_ sm (w3 a y)) fun y => (hF a y).2, c.zs _ _ _ _ (Step.same sm) wz, wp, w4, fp, f1, f2, fun i d e => ?_⟩
  obtain ⟨v, q, r⟩ := f3 i d e
  refine ⟨v, q, Rep.mono (fun a o q n => ⟨sm a o q, fun y => ?_⟩) (fun a o q n => ⟨sm a o q, n⟩) d v _ _ (fun a o q _ => sm a o q) (fun _ z => z) r⟩
  rcases y with y | y | y
  · exact n (.inl y)
  · exact n (.inr y)
  · rw [(hF a y).1] at q; cases q
def seqS (s t : Env → Out) : Env → Out := fun E => match s E with
  | .nx E1 => t E1
  | o => o
def nilS : Env → Out := .nx
theorem jss_nil : JSs X c [] nilS := ⟨PSs.weak pss_nil fun D σ H ⟨E, W, s, q⟩ => q σ H W (Step.refl H W) s⟩
theorem seq_sem {s t : Env → Out} {D : Ends} (h : tS K c (seqS s t) D σ H) : tS K c s { D with nx := tS K c t D } σ H := by
  obtain ⟨E, W, st, q⟩ := h
  refine ⟨E, W, st, ?_⟩
  unfold seqS at q
  cases e : s E with
  | nx E1 =>
    rw [e] at q
    exact fun σ' H' W' t2 s2 => ⟨E1, W', s2, resS_back t2 q⟩
  | bk E => rw [e] at q; exact q
  | ct E => rw [e] at q; exact q
  | rt d E => rw [e] at q; exact q
  | ex x E => rw [e] at q; exact q
  | bad => rw [e] at q; exact q
theorem jss_cons {st : Stmt} {rest : List Stmt} {s t : Env → Out} (h : JS X c st s) (hr : JSs X c rest t) : JSs X c (st :: rest) (seqS s t) := ⟨PSs.weak (pss_cons h.ps hr.ps) fun _ _ _ h => seq_sem h⟩
theorem jss_one {st : Stmt} {s : Env → Out} (h : JS X c st s) : JSs X c [st] s := ⟨pss_one h.ps⟩
/-- ahead of a statement: slot i changes no more -/
def frS (i : Nat) (s : Env → Out) : Env → Out := fun E => s (frzE i E)
theorem js_fr {st : Stmt} {s : Env → Out} (i : Nat) (h : JS X c st s) : JS X c st (frS i s) := ⟨PS.weak h.ps fun D σ H ⟨E, W, s1, q⟩ => by
  obtain ⟨W', s2, t⟩ := s1.frz i
  exact ⟨_, W', s2, resS_back t q⟩⟩
def asgS (i : Nat) (g : Env → Res D) : Env → Out := fun E => match g E with
  | .ok d => if i < E.length then .nx (E.set i (some d)) else .bad
  | .ex e => .ex e E
  | .bad => .bad
theorem ex_ok {e : Exc} (s : Sat K c E σ H W) (q : resS K c W H (.ex e E) Dn) : ∀ u dd H', Same H H' → ERep K c.cl H' (c.I W) e u dd → c.Wx u dd σ H' := fun u dd H' sm r => q u dd σ H' W (Step.same sm) (s.same sm) r
theorem js_set {i : Nat} {x : Str} {pos' : Pos} (hN : X.N.Nodup) (hi : X.N[i]? = some x) (hx : Loc X.env.scope x) (h : JN X c e g) (h0 : c.p0 i = none) (hs : swapsWith e (some (.Name x pos')) pos.line X.env = pure false := by rfl)
    (hf : X.fn x = true ∨ X.env.scope.names.lookup x = some .local := by first | exact .inl rfl | exact .inr rfl | assumption) : JS X c (.Assign [.Name x pos'] e pos) (asgS i g) := ⟨PS.weak (ps_set hN hi hx h.pe hs hf) fun D σ H ⟨E, W, s, q⟩ => by
  unfold asgS at q
  refine ⟨E, W, s, ?_⟩
  cases e1 : g E with
  | ok d =>
    rw [e1] at q
    simp only at q
    split at q
    · rename_i hlt
      intro v H' F sm f r
      obtain ⟨s2, t⟩ := s.store sm f r hlt h0
      exact q _ H' _ t s2
    · exact q.elim
  | ex x => rw [e1] at q; exact ex_ok s q
  | bad => rw [e1] at q; exact q⟩
/-- x = e, a view of nothing own -/
def asgVS (i : Nat) (g : Env → Res D) : Env → Out := fun E => match g E with
  | .ok d => if i < E.length ∧ d.noOwn = true then .nx (E.set i (some d)) else .bad
  | .ex e => .ex e E
  | .bad => .bad
theorem js_setV {i : Nat} {x : Str} {pos' : Pos} (hN : X.N.Nodup) (hi : X.N[i]? = some x) (hx : Loc X.env.scope x) (h : JV X c e g) (h0 : c.p0 i = none) (hs : swapsWith e (some (.Name x pos')) pos.line X.env = pure false := by rfl)
    (hf : X.fn x = true ∨ X.env.scope.names.lookup x = some .local := by first | exact .inl rfl | exact .inr rfl | assumption) : JS X c (.Assign [.Name x pos'] e pos) (asgVS i g) := ⟨PS.weak (ps_set hN hi hx h.pe hs hf) fun D σ H ⟨E, W, s, q⟩ => by
  unfold asgVS at q
  refine ⟨E, W, s, ?_⟩
  cases e1 : g E with
  | ok d =>
    rw [e1] at q
    simp only at q
    split at q
    · rename_i hlt
      rintro v H' sm ⟨F, f, r⟩
      exact q _ H' W (Step.same sm) ((s.same sm).storeV r hlt.2 hlt.1 h0)
    · exact q.elim
  | ex x => rw [e1] at q; exact ex_ok s q
  | bad => rw [e1] at q; exact q⟩
/-- return -/
def retS (g : Env → Res D) : Env → Out := fun E => match g E with
  | .ok d => .rt d E
  | .ex e => .ex e E
  | .bad => .bad
theorem js_ret (h : JN X c e g) : JS X c (.Return (some e) pos) (retS g) := ⟨PS.weak (ps_ret h.pe) fun D σ H ⟨E, W, s, q⟩ => by
  unfold retS at q
  refine ⟨E, W, s, ?_⟩
  cases e1 : g E with
  | ok d =>
    rw [e1] at q
    intro v H' F sm f r
    refine q v σ H' W F ⟨fun a o q _ => sm a o q, fun a q => Same.some_ sm q, fun a z => z.elim .inl fun y => .inr (f a y).1⟩ (s.addF sm f) (Rep.mono (fun a o q n => ⟨q, fun y => n ?_⟩) (fun a o q n => ⟨q, n⟩) d v F F (fun _ _ q _ => q) (fun _ z => z) r)
    rcases y with y | y | y
    · exact .inl (.inl y)
    · exact .inl (.inr y)
    · exact .inr y
  | ex x => rw [e1] at q; exact ex_ok s q
  | bad => rw [e1] at q; exact q⟩
mutual
def D.noBor : D → Bool
  | .tup xs => noBorL xs
  | .ktup xs => noBorL xs
  | .lst f xs => decide (f ≠ .bor) && noBorL xs
  | .dk f _ vs => decide (f ≠ .bor) && noBorL vs
  | .dt f _ vs => decide (f ≠ .bor) && noBorL vs
  | .dn f _ vs => decide (f ≠ .bor) && noBorL vs
  | .obj f _ _ vs => decide (f ≠ .bor) && noBorL vs
  | _ => true
def noBorL : List D → Bool
  | [] => true
  | d :: ds => d.noBor && noBorL ds
end
theorem cell_noBor {I M M' F : AS} {f : Fl} {p : Addr} {o : HO} (h : f ≠ .bor) (c : Cell H I M F f p o) : Cell H I M' F f p o := by
  cases f with
  | bor => exact absurd rfl h
  | _ => exact c
mutual
theorem Rep.noBor {cl : Tb} {I M M' : AS} : ∀ (d : D) (v : V) (F : AS), d.noBor = true → Rep K cl H I M d v F → Rep K cl H I M' d v F
  | .non, _, _, _, h => h
  | .bl _, _, _, _, h => h
  | .int _, _, _, _, h => h
  | .str _, _, _, _, h => h
  | .tup xs, v, F, n, h => by
    simp only [D.noBor] at n
    obtain ⟨p, vs, e, c, r⟩ := h
    exact ⟨p, vs, e, c, RepL.noBor xs vs _ n r⟩
  | .ktup xs, v, F, n, h => by
    simp only [D.noBor] at n
    obtain ⟨p, vs, e, c, r⟩ := h
    exact ⟨p, vs, e, c, RepL.noBor xs vs _ n r⟩
  | .lst f xs, v, F, n, h => by
    simp only [D.noBor, Bool.and_eq_true, decide_eq_true_eq] at n
    obtain ⟨p, vs, e, c, r⟩ := h
    refine ⟨p, vs, e, ?_, RepL.noBor xs vs _ n.2 r⟩
    rcases c with c | c
    · exact .inl (cell_noBor n.1 c)
    · exact .inr c
  | .dk f ks xs, v, F, n, h => by
    simp only [D.noBor, Bool.and_eq_true, decide_eq_true_eq] at n
    obtain ⟨p, vs, e, l, c, r⟩ := h
    exact ⟨p, vs, e, l, cell_noBor n.1 c, RepL.noBor xs vs _ n.2 r⟩
  | .dt f ks xs, v, F, n, h => by
    simp only [D.noBor, Bool.and_eq_true, decide_eq_true_eq] at n
    obtain ⟨p, vs, e, l, c, r⟩ := h
    exact ⟨p, vs, e, l, cell_noBor n.1 c, RepL.noBor xs vs _ n.2 r⟩
  | .dn f ks xs, v, F, n, h => by
    simp only [D.noBor, Bool.and_eq_true, decide_eq_true_eq] at n
    obtain ⟨p, ws, vs, e, l, kk, c, r⟩ := h
    exact ⟨p, ws, vs, e, l, kk, cell_noBor n.1 c, RepL.noBor xs vs _ n.2 r⟩
  | .obj f c ns xs, v, F, n, h => by
    simp only [D.noBor, Bool.and_eq_true, decide_eq_true_eq] at n
    obtain ⟨p, dx, vs, e, l, c, r⟩ := h
    exact ⟨p, dx, vs, e, l, cell_noBor n.1 c, RepL.noBor xs vs _ n.2 r⟩
theorem RepL.noBor {cl : Tb} {I M M' : AS} : ∀ (xs : List D) (vs : List V) (F : AS), noBorL xs = true → RepL K cl H I M xs vs F → RepL K cl H I M' xs vs F
  | [], _, _, _, h => h
  | d :: ds, vs, F, n, h => by
    simp only [noBorL, Bool.and_eq_true] at n
    obtain ⟨v, ws, F1, F2, e, r1, r2, a1, a2, a3⟩ := h
    exact ⟨v, ws, F1, F2, e, Rep.noBor d v F1 n.1 r1, RepL.noBor ds ws F2 n.2 r2, a1, a2, a3⟩
end
/-- return x: what is ours goes out -/
def retVS (i : Nat) : Env → Out := fun E => match E[i]? with
  | some (some d) => if d.noBor = true then .rt d (E.set i none) else .bad
  | _ => .bad
theorem js_retV {i : Nat} {x : Str} {px : Pos} (h : PE X (.Name x px) (tVar i)) : JS X c (.Return (some (.Name x px)) pos) (retVS i) := ⟨PS.weak (ps_ret h) fun D σ H ⟨E, W, s, q⟩ => by
  unfold retVS at q
  split at q
  · rename_i d e0
    split at q
    · rename_i hb
      obtain ⟨v, F, e2, f, r, _, s2⟩ := s.drop0 e0
      refine ⟨v, e2, ?_⟩
      refine q v σ H (fun a => W a ∧ ¬ F a) F ⟨fun a o q _ => q, fun a q => q, fun a z => .inl (z.elim (·.1) (f a))⟩ s2 ?_
      have r2 : Rep X.K c.cl H (c.I W) (fun _ => True) d v F := Rep.noBor d v F hb r
      refine Rep.mono (fun a o q n => ⟨q, fun y => n ?_⟩) (fun a o q n => ⟨q, n⟩) d v _ _ (fun _ _ q _ => q) (fun _ z => z) r2
      rcases y with y | y | y
      · exact .inl y.1
      · exact .inr y
      · exact .inl (f a y)
    · exact q.elim
  · exact q.elim⟩
/-- if -/
def ifS (gt : Env → Res Bool) (s t : Env → Out) : Env → Out := fun E => match gt E with
  | .ok k => if k = true then s E else t E
  | .ex e => .ex e E
  | .bad => .bad
theorem js_if {t : Expr} {x y : List Stmt} {gt : Env → Res Bool} {s1 s2 : Env → Out} (ht : JT X c t gt) (h1 : JSs X c x s1) (h2 : JSs X c y s2) : JS X c (.If t x y pos) (ifS gt s1 s2) := ⟨PS.weak (ps_if ht.pt h1.ps h2.ps) fun D σ H ⟨E, W, s, q⟩ => by
  unfold ifS at q
  refine ⟨E, W, s, ?_⟩
  cases e1 : gt E with
  | ok k =>
    rw [e1] at q
    intro H' sm
    cases k with
    | true => exact ⟨E, W, s.same sm, resS_back (Step.same sm) q⟩
    | false => exact ⟨E, W, s.same sm, resS_back (Step.same sm) q⟩
  | ex x => rw [e1] at q; exact ex_ok s q
  | bad => rw [e1] at q; exact q⟩
end
end PD
namespace PD
open PySem L2

/-- slots outside idx are as they were -/
def SameOut (idx : List Nat) (σ σ' : St) : Prop := σ'.length = σ.length ∧ ∀ j, j ∉ idx → σ'[j]? = σ[j]?
theorem SameOut.refl (σ : St) : SameOut [] σ σ := ⟨rfl, fun _ _ => rfl⟩
def tG (K : PySem.W.Frag) (c : Cc) (idx : List Nat) (ud : D → Env → Res Env) : TG := fun v σ H Q => ∃ E W d, Sat K c E σ H W ∧ (d.noOwn = true → Rep K c.cl H (c.I W) (c.M W) d v none_) ∧ match ud d E with
  | .ok E' => ∀ σ', SameOut idx σ σ' → Sat K c E' σ' H W → Q σ' H
  | _ => False
/-- several targets -/
def tGs (K : PySem.W.Frag) (c : Cc) (idx : List Nat) (uds : List D → Env → Res Env) : TGs := fun vs σ H Q => ∃ E W ds, Sat K c E σ H W ∧ (noOwnL ds = true → RepL K c.cl H (c.I W) (c.M W) ds vs none_) ∧ match uds ds E with
  | .ok E' => ∀ σ', SameOut idx σ σ' → Sat K c E' σ' H W → Q σ' H
  | _ => False
structure JG (X : Cx) (c : Cc) (t : Expr) (idx : List Nat) (ud : D → Env → Res Env) : Prop where pg : PG X t (tG X.K c idx ud)
structure JGs (X : Cx) (c : Cc) (ts : List Expr) (idx : List Nat) (uds : List D → Env → Res Env) : Prop where pg : PGs X ts (tGs X.K c idx uds)
theorem PG.weak {X : Cx} {e : Expr} {t t' : TG} (h : PG X e t) (w : ∀ v σ H Q, t' v σ H Q → t v σ H Q) : PG X e t' := ⟨fun pins s σ H v u Q I r q => h.run pins s σ H v u Q I r (w _ _ _ _ q)⟩
def udName (i : Nat) (d : D) (E : Env) : Res Env := if i < E.length ∧ d.noOwn = true then .ok (E.set i (some d)) else .bad
def udNil (ds : List D) (E : Env) : Res Env := match ds with
  | [] => .ok E
  | _ => .bad
def udCons (ud : D → Env → Res Env) (uds : List D → Env → Res Env) (ds : List D) (E : Env) : Res Env := match ds with
  | d :: r => ud d E >>= fun E1 => uds r E1
  | [] => .bad
def udTup (uds : List D → Env → Res Env) (d : D) (E : Env) : Res Env := match d with
  | .tup ds => if noOwnL ds then uds ds E else .bad
  | .ktup ds => if noOwnL ds then uds ds E else .bad
  | _ => .bad
section
variable {K : PySem.W.Frag} {X : Cx} {c : Cc} {pos : Pos}
theorem jg_name {i : Nat} {x : Str} (hN : X.N.Nodup) (hi : X.N[i]? = some x) (hx : Loc X.env.scope x) (h0 : c.p0 i = none) (hf : X.fn x = true ∨ X.env.scope.names.lookup x = some .local := by first | exact .inl rfl | exact .inr rfl | assumption) : JG X c (.Name x pos) [i] (udName i) :=
  ⟨PG.weak (pg_name hN hi hx hf) fun v σ H Q ⟨E, W, d, s, r, q⟩ => by
  unfold udName at q
  split at q
  · rename_i E' e1
    split at e1
    · rename_i hh
      cases e1
      refine q (σ.set i (some v)) ⟨List.length_set, fun j hj => List.getElem?_set_ne (fun z => hj (by simp [z]))⟩ (s.storeV (r hh.2) hh.2 hh.1 h0)
    · cases e1
  · exact q.elim⟩
theorem PGs.weak {X : Cx} {es : List Expr} {t t' : TGs} (h : PGs X es t) (w : ∀ v σ H Q, t' v σ H Q → t v σ H Q) : PGs X es t' := ⟨fun pins s σ H v u Q I r q => h.run pins s σ H v u Q I r (w _ _ _ _ q)⟩
theorem jgs_nil : JGs X c [] [] udNil := ⟨PGs.weak pgs_nil fun vs σ H Q ⟨E, W, ds, s, r, q⟩ => by
  cases ds with
  | nil => exact ⟨r rfl, q σ (SameOut.refl σ) s⟩
  | cons d ds => exact q.elim⟩
theorem SameOut.trans {i1 i2 : List Nat} {σ σ1 σ2 : St} (a : SameOut i1 σ σ1) (b : SameOut i2 σ1 σ2) : SameOut (i1 ++ i2) σ σ2 := ⟨b.1.trans a.1, fun j hj => by
  rw [List.mem_append, not_or] at hj
  exact (b.2 j hj.2).trans (a.2 j hj.1)⟩
/-- own marks are looked for by each target -/
def udChk (ud : D → Env → Res Env) : Prop := ∀ d E E', ud d E = .ok E' → d.noOwn = true
def udChks (uds : List D → Env → Res Env) : Prop := ∀ ds E E', uds ds E = .ok E' → noOwnL ds = true
theorem chk_name {i : Nat} : udChk (udName i) := fun d E E' h => by
  unfold udName at h
  split at h
  · rename_i hh; exact hh.2
  · cases h
theorem chk_nil : udChks udNil := fun ds E E' h => by
  cases ds with
  | nil => rfl
  | cons d ds => cases h
theorem chk_cons {ud : D → Env → Res Env} {uds : List D → Env → Res Env} (h1 : udChk ud) (h2 : udChks uds) : udChks (udCons ud uds) := fun ds E E' h => by
  cases ds with
  | nil => cases h
  | cons d ds =>
    simp only [udCons] at h
    cases e : ud d E with
    | ok E1 =>
      rw [e] at h
      simp only [noOwnL, h1 d E E1 e, h2 ds E1 E' h, Bool.and_self]
    | ex x => rw [e] at h; cases h
    | bad => rw [e] at h; cases h
theorem chk_tup {uds : List D → Env → Res Env} : udChk (udTup uds) := fun d E E' h => by
  cases d with
  | tup ds =>
    simp only [udTup] at h
    split at h
    · assumption
    · cases h
  | ktup ds =>
    simp only [udTup] at h
    split at h
    · assumption
    · cases h
  | _ => cases h
theorem jgs_cons {t : Expr} {ts : List Expr} {i1 i2 : List Nat} {ud : D → Env → Res Env} {uds : List D → Env → Res Env} (h : JG X c t i1 ud) (hc : udChk ud) (hr : JGs X c ts i2 uds) (hcs : udChks uds) (hs : (assignEach (t :: ts) X.env).map (·.2) = assign t X.env :: (assignEach ts X.env).map (·.2) := by rfl) : JGs X c (t :: ts) (i1 ++ i2) (udCons ud uds) :=
  ⟨PGs.weak (pgs_cons h.pg hr.pg hs) fun vs σ H Q ⟨E, W, ds, s, r, q⟩ => by
  cases ds with
  | nil => exact q.elim
  | cons d ds =>
    simp only [udCons] at q
    cases e : ud d E with
    | ok E1 =>
      rw [e] at q
      simp only [res_bind_ok] at q
      split at q
      · rename_i E2 e2
        have n1 := hc d E E1 e
        have n2 := hcs ds E1 E2 e2
        obtain ⟨v, ws, rfl, r1, r2⟩ := (r (by simp only [noOwnL, n1, n2, Bool.and_self])).uncons
        refine ⟨v, ws, rfl, E, W, d, s, fun _ => r1, ?_⟩
        rw [e]
        intro σ1 so1 s1
        refine ⟨E1, W, ds, s1, fun _ => r2, ?_⟩
        rw [e2]
        exact fun σ2 so2 s2 => q σ2 (so1.trans so2) s2
      · exact q.elim
    | ex x => rw [e] at q; exact q.elim
    | bad => rw [e] at q; exact q.elim⟩
theorem jg_tup {es : List Expr} {k n : Nat} {idx : List Nat} {uds : List D → Env → Res Env} (hcalm : X.calm = true) (h : JGs X c es idx uds) (hn : ∀ ds E E', uds ds E = .ok E' → ds.length = n) (hl : (assignEach es X.env).length = n := by rfl) (hst : (assignEach es X.env).findIdx? (·.1) = none := by rfl) :
    JG X c (.Tuple es k pos) idx (udTup uds) :=
  ⟨PG.weak (pg_tup hcalm h.pg hl hst) fun v σ H Q ⟨E, W, d, s, r, q⟩ => by
  cases d with
  | tup ds =>
    simp only [udTup] at q
    by_cases hh : noOwnL ds = true
    · rw [if_pos hh] at q
      cases e1 : uds ds E with
      | ok E1 =>
        rw [e1] at q
        obtain ⟨p, vs, rfl, cc, rr⟩ := r hh
        refine ⟨p, vs, rfl, .inl (.inl cc.1), by rw [rr.length, hn ds E E1 e1], E, W, ds, s, fun _ => rr, ?_⟩
        rw [e1]
        exact q
      | ex x => rw [e1] at q; exact q.elim
      | bad => rw [e1] at q; exact q.elim
    · rw [if_neg hh] at q
      exact q.elim
  | ktup ds =>
    simp only [udTup] at q
    by_cases hh : noOwnL ds = true
    · rw [if_pos hh] at q
      cases e1 : uds ds E with
      | ok E1 =>
        rw [e1] at q
        obtain ⟨p, vs, rfl, cc, rr⟩ := r hh
        refine ⟨p, vs, rfl, .inr cc, by rw [rr.length, hn ds E E1 e1], E, W, ds, s, fun _ => rr, ?_⟩
        rw [e1]
        exact q
      | ex x => rw [e1] at q; exact q.elim
      | bad => rw [e1] at q; exact q.elim
    · rw [if_neg hh] at q
      exact q.elim
  | _ => exact q.elim⟩
def lenIs (uds : List D → Env → Res Env) (n : Nat) : Prop := ∀ ds E E', uds ds E = .ok E' → ds.length = n
theorem len_nil : lenIs udNil 0 := fun ds E E' h => by
  cases ds with
  | nil => rfl
  | cons d ds => cases h
theorem len_cons {ud : D → Env → Res Env} {uds : List D → Env → Res Env} {n : Nat} (h : lenIs uds n) : lenIs (udCons ud uds) (n + 1) := fun ds E E' e => by
  cases ds with
  | nil => cases e
  | cons d ds =>
    simp only [udCons] at e
    cases e1 : ud d E with
    | ok E1 => rw [e1] at e; rw [List.length_cons, h ds E1 E' e]
    | ex x => rw [e1] at e; cases e
    | bad => rw [e1] at e; cases e
def unpS (ud : D → Env → Res Env) (g : Env → Res D) : Env → Out := fun E => match g E with
  | .ok d => match ud d E with
    | .ok E' => .nx E'
    | _ => .bad
  | .ex e => .ex e E
  | .bad => .bad
theorem js_unp {t e : Expr} {idx : List Nat} {ud : D → Env → Res Env} {g : Env → Res D} (he : JV X c e g) (hg : JG X c t idx ud) (hck : udChk ud) (hs : swapsWithSole [t] e pos.line X.env = pure false := by rfl) (hw : swappedStores [t] e X.env = pure none := by rfl) (h1 : (assignEach [t] X.env).map (·.2) = [assign t X.env] := by rfl) : JS X c (.Assign [t] e pos) (unpS ud g) :=
  ⟨PS.weak (ps_asg he.pe hg.pg hs hw h1) fun D σ H ⟨E, W, s, q⟩ => by
  unfold unpS at q
  refine tV_use s (fun e e1 => by rw [e1] at q; exact ex_ok s q) (fun e1 => by rw [e1] at q; exact q) fun d e1 v H1 F sm s1 f r => ?_
  rw [e1] at q
  simp only at q
  split at q
  · rename_i E' e2
    refine ⟨E, W, d, s1, fun hn => Rep.noOwn d v F none_ hn r, ?_⟩
    rw [e2]
    exact fun σ' so s2 => q σ' H1 W (Step.same sm) s2
  · exact q.elim⟩
end

/-- the walk J gives the items ds; strong: whatever the body does -/
def Ws (K : PySem.W.Frag) (c : Cc) (J : It) (ds : List D) (H : Hp) (W : AS) (strong : Bool) : Prop := ∃ G : Hp → AS → Prop, G H W ∧
  (∀ H W H' W', G H W → Step H W H' W' → (strong = true ∨ (W' = W ∧ Same H H')) → G H' W') ∧ (∀ i H W, i < ds.length → G H W → J.go i H) ∧ (∀ H W, G H W → J.stop ds.length H) ∧
  ∀ i H1 W x H' (Nw : AS), i < ds.length → (∀ a, c.I W a → H1 a ≠ none) → (∀ a, Nw a → H a = none ∧ H1 a ≠ none) → G H1 W → J.yld i H1 x H' → Same H1 H' ∧ ∃ d, ds[i]? = some d ∧ d.noOwn = true ∧ Rep K c.cl H' (fun a => c.I W a ∨ Nw a) (c.M W) d x none_
def tI (K : PySem.W.Frag) (c : Cc) (strong : Bool) (g : Env → Res (List D)) : TI := fun σ H R => ∃ E W, Sat K c E σ H W ∧ match g E with
  | .ok ds => ∀ J H', Same H H' → Ws K c J ds H' W strong → R J H'
  | .ex e => ∀ u dd H', Same H H' → ERep K c.cl H' (c.I W) e u dd → c.Wx u dd σ H'
  | .bad => False
structure JI (X : Cx) (c : Cc) (strong : Bool) (t it : Expr) (g : Env → Res (List D)) : Prop where pi : PI X t it (tI X.K c strong g)
theorem PI.weak {X : Cx} {t e : Expr} {w w' : TI} (h : PI X t e w) (f : ∀ σ H R, w' σ H R → w σ H R) : PI X t e w' := ⟨fun pins s σ H R I q => h.run pins s σ H R I (f _ _ _ q)⟩
theorem PI.or {X : Cx} {t e : Expr} {w w' : TI} (h : PI X t e w) (h' : PI X t e w') : PI X t e (fun σ H R => w σ H R ∨ w' σ H R) := ⟨fun pins s σ H R I q => q.elim (h.run pins s σ H R I) (h'.run pins s σ H R I)⟩
section
variable {K : PySem.W.Frag} {X : Cx} {c : Cc} {pos : Pos} {e t : Expr} {g : Env → Res D} {strong : Bool} {W : AS} {H : Hp}
def chars (s : Str) : List D := s.cps.toList.map fun k => .str ⟨#[k]⟩
def itD (strong : Bool) : D → Res (List D)
  | .lst f xs => if (f ≠ .own ∨ strong = false) ∧ noOwnL xs then .ok xs else .bad
  | .tup xs => if noOwnL xs then .ok xs else .bad
  | .ktup xs => if noOwnL xs then .ok xs else .bad
  | .str s => .ok (chars s)
  | _ => .bad
/-- a list that stays -/
theorem ws_m1 {H0 H1 H2 : Hp} {W1 W2 : AS} (st : Step H1 W1 H2 W2) : ∀ a o, H1 a = some o → ¬ (c.I W1 a ∨ H0 a = none) → H2 a = some o ∧ ¬ (c.I W2 a ∨ H0 a = none) := fun a o q n => ⟨st.1 a o q fun z => n (.inl (.inl z)), fun z => z.elim (fun z => z.elim (fun y => (st.2.2 a y).elim (fun x => n (.inl (.inl x))) fun x => by rw [x] at q; cases q) fun y => n (.inl (.inr y))) fun z => n (.inr z)⟩
theorem ws_m2 {H1 H2 : Hp} {W1 W2 : AS} (st : Step H1 W1 H2 W2) : ∀ a o, H1 a = some o → ¬ c.M W1 a → H2 a = some o ∧ ¬ c.M W2 a := fun a o q n => ⟨st.1 a o q fun z => n (.inl z), fun y => y.elim (fun y => (st.2.2 a y).elim (fun z => n (.inl z)) fun x => by rw [x] at q; cases q) fun z => n (.inr z)⟩
theorem ws_m0 {H1 H2 : Hp} {W1 W2 : AS} (st : Step H1 W1 H2 W2) : ∀ a o, H1 a = some o → ¬ c.I W1 a → H2 a = some o ∧ ¬ c.I W2 a := fun a o q n => ⟨st.1 a o q fun z => n (.inl z), fun z => z.elim (fun y => (st.2.2 a y).elim (fun x => n (.inl x)) fun x => by rw [x] at q; cases q) fun y => n (.inr y)⟩
theorem repL_old {xs : List D} {vs : List V} (r : RepL K c.cl H (c.I W) (c.M W) xs vs none_) : RepL K c.cl H (fun a => c.I W a ∨ H a = none) (c.M W) xs vs none_ :=
  RepL.mono (fun a o q n => ⟨q, fun z => z.elim n fun y => by rw [y] at q; cases q⟩) (fun a o q n => ⟨q, n⟩) xs vs _ _ (fun _ _ _ z => z.elim) (fun _ z => z) r
theorem rep_old {H1 : Hp} {W1 Nw : AS} {d : D} {v : V} (hN : ∀ a, Nw a → H a = none ∧ H1 a ≠ none) (r : Rep K c.cl H1 (fun a => c.I W1 a ∨ H a = none) (c.M W1) d v none_) : Rep K c.cl H1 (fun a => c.I W1 a ∨ Nw a) (c.M W1) d v none_ :=
  Rep.mono (fun a o q n => ⟨q, fun z => n (z.imp id fun y => (hN a y).1)⟩) (fun a o q n => ⟨q, n⟩) d v _ _ (fun _ _ _ z => z.elim) (fun _ z => z) r
theorem ws_list {f : Fl} {xs : List D} {p : Addr} {vs : List V} {F : AS} (h : f ≠ .own ∨ strong = false) (hn : noOwnL xs = true) (cc : Cell H (c.I W) (c.M W) F f p (.lst vs) ∨ (f = .frz ∧ KL K p vs)) (r : RepL K c.cl H (c.I W) (c.M W) xs vs (sub F f p)) : Ws K c (Itl K p) xs H W strong := by
  have hl := r.length
  have r0 : RepL K c.cl H (c.I W) (c.M W) xs vs none_ := RepL.noOwn xs vs _ none_ hn r
  refine ⟨fun H' W' => SqL K H' p vs ∧ RepL K c.cl H' (fun a => c.I W' a ∨ H a = none) (c.M W') xs vs none_ ∧ (f ≠ .own → Cell H' (c.I W') (c.M W') none_ f p (.lst vs) ∨ (f = .frz ∧ KL K p vs)), ⟨cell_sql cc, repL_old r0, fun hf => cc.imp (cell_noOwn hf) id⟩, ?_, ?_, ?_, ?_⟩
  · rintro H1 W1 H2 W2 ⟨a3, a4, a5⟩ st sg
    refine ⟨?_, RepL.mono (ws_m1 st) (ws_m2 st) xs vs _ _ (fun _ _ _ z => z.elim) (fun _ z => z) a4, fun hf => (a5 hf).imp (cell_mono (ws_m0 st) (ws_m2 st) (fun _ _ _ z => z.elim) (fun _ z => z)) id⟩
    by_cases hf : f = .own
    · rcases sg with sg | ⟨_, sm⟩
      · rcases h with h | h
        · exact absurd hf h
        · rw [h] at sg; cases sg
      · exact Same.seq sm a3
    · exact cell_sql ((a5 hf).imp (cell_mono (ws_m0 st) (ws_m2 st) (fun _ _ _ z => z.elim) (fun _ z => z)) id)
  · exact fun i H1 W1 hi ⟨a3, _⟩ => walk_list.goes i H1 (by rw [hl]; exact hi) a3
  · exact fun H1 W1 ⟨a3, _⟩ => by
      have := walk_list.stops H1 a3
      rwa [hl] at this
  · rintro i H1 W1 x H' Nw hi hI hN ⟨a3, a4, _⟩ y
    obtain ⟨rfl, gx⟩ := walk_list.yields i H1 x H' (by rw [hl]; exact hi) a3 y
    refine ⟨same_refl, xs[i], by simp [hi], ?_, ?_⟩
    · rw [noOwnL_eq, List.all_eq_true] at hn
      exact hn _ (List.getElem_mem hi)
    · obtain ⟨v, gv, rv⟩ := a4.get0 (show xs[i]? = some xs[i] by simp [hi])
      rw [gx] at gv
      cases gv
      exact rep_old hN rv
theorem ws_tup {xs : List D} {p : Addr} {vs : List V} (hn : noOwnL xs = true) (cc : (H p = some (.tup vs) ∧ ¬ c.I W p) ∨ KT K p vs) (r : RepL K c.cl H (c.I W) (c.M W) xs vs none_) : Ws K c (Itt K p) xs H W strong := by
  have hl := r.length
  refine ⟨fun H' W' => ((H' p = some (.tup vs) ∧ ¬ c.I W' p) ∨ KT K p vs) ∧ RepL K c.cl H' (fun a => c.I W' a ∨ H a = none) (c.M W') xs vs none_, ⟨cc, repL_old r⟩, ?_, ?_, ?_, ?_⟩
  · rintro H1 W1 H2 W2 ⟨a3, a4⟩ st _
    exact ⟨a3.imp (fun z => ws_m0 st _ _ z.1 z.2) id, RepL.mono (ws_m1 st) (ws_m2 st) xs vs _ _ (fun _ _ _ z => z.elim) (fun _ z => z) a4⟩
  · exact fun i H1 W1 hi ⟨a3, _⟩ => walk_tup.goes i H1 (by rw [hl]; exact hi) (a3.elim (fun z => .inl (.inl z.1)) .inr)
  · exact fun H1 W1 ⟨a3, _⟩ => by
      have := (walk_tup (K := K) (a := p) (xs := vs)).stops H1 (a3.elim (fun z => .inl (.inl z.1)) .inr)
      rwa [hl] at this
  · rintro i H1 W1 x H' Nw hi hI hN ⟨a3, a4⟩ y
    obtain ⟨rfl, gx⟩ := (walk_tup (K := K) (a := p) (xs := vs)).yields i H1 x H' (by rw [hl]; exact hi) (a3.elim (fun z => .inl (.inl z.1)) .inr) y
    refine ⟨same_refl, xs[i], by simp [hi], ?_, ?_⟩
    · rw [noOwnL_eq, List.all_eq_true] at hn
      exact hn _ (List.getElem_mem hi)
    · obtain ⟨v, gv, rv⟩ := a4.get0 (show xs[i]? = some xs[i] by simp [hi])
      rw [gx] at gv
      cases gv
      exact rep_old hN rv
theorem ws_str {z : Str} : Ws K c (Its z) (chars z) H W strong := by
  have hl : (chars z).length = z.cps.size := by simp [chars]
  refine ⟨fun _ _ => True, trivial, fun _ _ _ _ _ _ _ => trivial, fun i H1 W1 hi _ => walk_str.goes i H1 (by rw [← hl]; exact hi) trivial, fun H1 W1 _ => by rw [hl]; exact walk_str.stops H1 trivial, ?_⟩
  rintro i H1 W1 x H' Nw hi hI hN _ y
  obtain ⟨rfl, k, gk, rfl⟩ := walk_str.yields i H1 x H' (by rw [← hl]; exact hi) trivial y
  refine ⟨same_refl, .str ⟨#[k]⟩, ?_, rfl, rfl⟩
  simp [chars, gk]
def gIt (strong : Bool) (g : Env → Res D) : Env → Res (List D) := fun E => g E >>= itD strong
theorem ji_seq (h : JV X c e g) : JI X c strong t e (gIt strong g) := ⟨PI.weak (PI.or (pi_list h.pe) (PI.or (pi_tup h.pe) (pi_str h.pe))) fun σ H R ⟨E, W, s, q⟩ => by
  unfold gIt at q
  cases e1 : g E with
  | ex x =>
    rw [e1] at q
    exact .inl ⟨E, W, s, by rw [e1]; exact q⟩
  | bad => rw [e1] at q; exact q.elim
  | ok d =>
    rw [e1] at q
    simp only [res_bind_ok] at q
    cases d with
    | lst f xs =>
      simp only [itD] at q
      by_cases hh : (f ≠ .own ∨ strong = false) ∧ noOwnL xs = true
      · rw [if_pos hh] at q
        refine .inl ⟨E, W, s, ?_⟩
        rw [e1]
        rintro v H' sm ⟨F, fF, p, vs, rfl, cc, r⟩
        exact ⟨p, rfl, ⟨vs, cell_sql cc⟩, q _ H' sm (ws_list hh.1 hh.2 cc r)⟩
      · rw [if_neg hh] at q; exact q.elim
    | tup xs =>
      simp only [itD] at q
      by_cases hh : noOwnL xs = true
      · rw [if_pos hh] at q
        refine .inr (.inl ⟨E, W, s, ?_⟩)
        rw [e1]
        rintro v H' sm ⟨F, fF, p, vs, rfl, cc, r⟩
        exact ⟨p, rfl, ⟨vs, .inl (.inl cc.1)⟩, q _ H' sm (ws_tup hh (.inl cc) (RepL.noOwn xs vs F none_ hh r))⟩
      · rw [if_neg hh] at q; exact q.elim
    | ktup xs =>
      simp only [itD] at q
      by_cases hh : noOwnL xs = true
      · rw [if_pos hh] at q
        refine .inr (.inl ⟨E, W, s, ?_⟩)
        rw [e1]
        rintro v H' sm ⟨F, fF, p, vs, rfl, cc, r⟩
        exact ⟨p, rfl, ⟨vs, .inr cc⟩, q _ H' sm (ws_tup hh (.inr cc) r)⟩
      · rw [if_neg hh] at q; exact q.elim
    | str z =>
      refine .inr (.inr ⟨E, W, s, ?_⟩)
      rw [e1]
      rintro v H' sm ⟨F, fF, r⟩
      exact ⟨z, r, q _ H' sm ws_str⟩
    | _ => exact q.elim⟩
/-- ints from lo on -/
def intsD (lo : Int) (n : Nat) : List D := (List.range n).map fun (i : Nat) => .int (lo + i)
theorem ws_range {lo : Int} {n : Nat} : Ws K c (Itr lo n) (intsD lo n) H W strong := by
  have hl : (intsD lo n).length = n := by simp [intsD]
  refine ⟨fun _ _ => True, trivial, fun _ _ _ _ _ _ _ => trivial, fun i H1 W1 hi _ => walk_range.goes i H1 (by rw [← hl]; exact hi) trivial, fun H1 W1 _ => by rw [hl]; exact walk_range.stops H1 trivial, ?_⟩
  rintro i H1 W1 x H' Nw hi hI hN _ y
  obtain ⟨rfl, rfl⟩ := walk_range.yields i H1 x H' (by rw [← hl]; exact hi) trivial y
  rw [hl] at hi
  refine ⟨same_refl, .int (lo + i), ?_, rfl, rfl⟩
  simp [intsD, hi]
/-- (not computed by the kernel: by a choice) -/
noncomputable def rngOk (i : Int) : Bool := @decide (-4611686018427387904 ≤ i ∧ i < 4611686018427387904) (Classical.propDecidable _)
noncomputable def gRng1 (g : Env → Res D) : Env → Res (List D) := fun E => g E >>= fun d => asI d >>= fun j => if rngOk j then .ok (intsD 0 j.toNat) else .bad
theorem rngOk_ok {i : Int} (h : rngOk i = true) : -(2 ^ 62) ≤ i ∧ i < 2 ^ 62 := by
  simp only [rngOk, decide_eq_true_eq] at h
  exact h
theorem ji_range1 {a : Expr} {p : Pos} (hg : Gl X "range") (hm : X.mg "range" = none) (ha : JV X c a g) (hs : starEach [a] X.env = [(false, eval a X.env)] := by rfl) : JI X c strong t (.Call (.Name "range" p) [a] [] pos) (gRng1 g) := ⟨PI.weak (pi_range1 hg hm (pa_cons ha.pe pa_nil (by rw [hs]; rfl)) hs) fun σ H R ⟨E, W, s, q⟩ => by
  unfold gRng1 at q
  refine tV_use s (fun e e1 => by rw [e1] at q; exact q) (fun e1 => by rw [e1] at q; exact q) fun d e1 v H1 F sm s1 f r => ?_
  rw [e1] at q
  simp only [res_bind_ok] at q
  cases d with
  | int j =>
    simp only [asI, res_bind_ok] at q
    by_cases hh : rngOk j = true
    · rw [if_pos hh] at q
      exact ⟨j, by rw [show v = .int j from r], (rngOk_ok hh).1, (rngOk_ok hh).2, q _ H1 sm ws_range⟩
    · rw [if_neg hh] at q; exact q.elim
  | _ => exact q.elim⟩
def forS (ud : D → Env → Res Env) (body : Env → Out) : List D → Env → Out
  | [], E => .nx E
  | d :: ds, E => match ud d E with
    | .ok E1 => match body E1 with
      | .nx E2 => forS ud body ds E2
      | .ct E2 => forS ud body ds E2
      | .bk E2 => .nx E2
      | o => o
    | _ => .bad
def gFor (gi : Env → Res (List D)) (ud : D → Env → Res Env) (body : Env → Out) : Env → Out := fun E => match gi E with
  | .ok ds => forS ud body ds E
  | .ex e => .ex e E
  | .bad => .bad
theorem js_for {it : Expr} {body : List Stmt} {gi : Env → Res (List D)} {idx : List Nat} {ud : D → Env → Res Env} {sb : Env → Out} (hp : PassesOwn (model X.prog X.w) X.A X.env X.xe) (hcalm : X.calm = true) (hi : JI X c true t it gi) (hg : JG X c t idx ud) (hb : JSs X c body sb)
    (hf : ∀ x, foldedSetIterable it X.env x = pure x := by intro _; rfl) : JS X c (.For t it body [] pos) (gFor gi ud sb) := ⟨PS.weak (ps_for hp hcalm hi.pi hg.pg hb.ps hf) fun D σ H ⟨E, W, s, q⟩ => by
  unfold gFor at q
  refine ⟨E, W, s, ?_⟩
  cases e1 : gi E with
  | ex x => rw [e1] at q; exact ex_ok s q
  | bad => rw [e1] at q; exact q.elim
  | ok ds =>
    rw [e1] at q
    rintro J H1 sm ⟨G, g0, gs, gg, gp, gy⟩
    have wk : Walk J ds.length (fun H => ∃ W, (∀ a, c.I W a → H a ≠ none) ∧ G H W) (fun i H x H' => J.yld i H x H') := ⟨fun i H hi ⟨W, _, h⟩ => gg i H W hi h, fun H ⟨W, _, h⟩ => gp H W h, fun i H x H' hi _ y => y⟩
    refine for_it wk (fun i σ H => ∃ E W, Sat X.K c E σ H W ∧ G H W ∧ resS X.K c W H (forS ud sb (ds.drop i) E) D) ⟨E, W, s.same sm, g0, resS_back (Step.same sm) q⟩ (fun i σ H hi ⟨E, W, s, g, _⟩ => ⟨W, s.ih, g⟩) ?_ ?_
    · rintro i x σ1 H2 H3 hi ⟨E1, W1, s1, g1, q1⟩ y
      obtain ⟨sm3, d, ed, hd, rd⟩ := gy i H2 W1 x H3 none_ hi s1.ih (fun _ z => z.elim) g1 y
      rw [i_none] at rd
      have s3 := s1.same sm3
      have ed2 : ds.drop i = d :: ds.drop (i + 1) := by
        rw [List.drop_eq_getElem_cons hi]
        rw [List.getElem?_eq_getElem hi] at ed
        cases ed
        rfl
      rw [ed2] at q1
      simp only [forS] at q1
      refine ⟨E1, W1, d, s3, fun _ => rd, ?_⟩
      cases e2 : ud d E1 with
      | ok E2 =>
        rw [e2] at q1
        simp only at q1 ⊢
        intro σ2 so s4
        refine ⟨E2, W1, s4, ?_⟩
        have g3 : G H3 W1 := gs _ _ _ _ g1 (Step.same sm3) (.inl rfl)
        have q3 := resS_back (Step.same sm3) q1
        cases e3 : sb E2 with
        | nx E3 =>
          rw [e3] at q3
          exact fun σ' H' W' t2 s5 => ⟨E3, W', s5, gs _ _ _ _ g3 t2 (.inl rfl), resS_back t2 q3⟩
        | ct E3 =>
          rw [e3] at q3
          exact fun σ' H' W' t2 s5 => ⟨E3, W', s5, gs _ _ _ _ g3 t2 (.inl rfl), resS_back t2 q3⟩
        | bk E3 => rw [e3] at q3; exact q3
        | rt d E3 => rw [e3] at q3; exact q3
        | ex x E3 => rw [e3] at q3; exact q3
        | bad => rw [e3] at q3; exact q3
      | ex x => rw [e2] at q1; exact q1.elim
      | bad => rw [e2] at q1; exact q1.elim
    · rintro σ1 H2 ⟨E1, W1, s1, g1, q1⟩
      rw [List.drop_length] at q1
      exact q1 σ1 H2 W1 (Step.refl _ _) s1⟩
/-- so many turns at most -/
def whileS (gt : Env → Res Bool) (body : Env → Out) : Nat → Env → Out
  | 0, _ => .bad
  | n + 1, E => match gt E with
    | .ok true => match body E with
      | .nx E2 => whileS gt body n E2
      | .ct E2 => whileS gt body n E2
      | .bk E2 => .nx E2
      | o => o
    | .ok false => .nx E
    | .ex e => .ex e E
    | .bad => .bad
theorem js_while {t : Expr} {body : List Stmt} {gt : Env → Res Bool} {sb : Env → Out} (n : Nat) (hp : PassesOwn (model X.prog X.w) X.A X.env X.xe) (ht : JT X c t gt) (hb : JSs X c body sb) : JS X c (.While t body [] pos) (whileS gt sb n) := ⟨PS.weak (ps_while hp ht.pt hb.ps) fun D σ H ⟨E, W, s, q⟩ => by
  refine ⟨fun m σ H => ∃ E W, Sat X.K c E σ H W ∧ resS X.K c W H (whileS gt sb m E) D, ⟨n, E, W, s, q⟩, ?_⟩
  rintro m σ1 H1 ⟨E1, W1, s1, q1⟩
  cases m with
  | zero => exact q1.elim
  | succ m =>
    simp only [whileS] at q1
    refine ⟨E1, W1, s1, ?_⟩
    cases e1 : gt E1 with
    | ex x => rw [e1] at q1; exact ex_ok s1 q1
    | bad => rw [e1] at q1; exact q1.elim
    | ok k =>
      rw [e1] at q1
      intro H2 sm
      cases k with
      | false => exact resS_back (Step.same sm) q1 σ1 H2 W1 (Step.refl _ _) (s1.same sm)
      | true =>
        simp only at q1
        rw [if_pos rfl]
        refine ⟨fun σ' H' => ∃ E W, Sat X.K c E σ' H' W ∧ resS X.K c W H' (whileS gt sb m E) D, fun σ' H' h => ⟨m, Nat.lt_succ_self m, h⟩, E1, W1, s1.same sm, ?_⟩
        have q2 := resS_back (Step.same sm) q1
        cases e3 : sb E1 with
        | nx E3 =>
          rw [e3] at q2
          exact fun σ' H' W' t2 s5 => ⟨E3, W', s5, resS_back t2 q2⟩
        | ct E3 =>
          rw [e3] at q2
          exact fun σ' H' W' t2 s5 => ⟨E3, W', s5, resS_back t2 q2⟩
        | bk E3 => rw [e3] at q2; exact q2
        | rt d E3 => rw [e3] at q2; exact q2
        | ex x E3 => rw [e3] at q2; exact q2
        | bad => rw [e3] at q2; exact q2⟩
end
end PD
namespace PD
open PySem L2

theorem wipe_in {σ : St} {i : Nat} : ∀ {vs : List Nat}, i ∈ vs → i < σ.length → (wipe σ vs)[i]? = some none
  | [], h, _ => by simp at h
  | v :: vs, h, hl => by
    unfold wipe
    by_cases e : v = i
    · subst e
      rw [List.getElem?_set_self (by rw [wipe_length]; exact hl)]
    · rw [List.getElem?_set_ne e]
      exact wipe_in ((List.mem_cons.mp h).resolve_left fun z => e z.symm) hl
theorem wipe_same {σ σ' : St} {vs idx : List Nat} (h : SameOut idx (wipe σ vs) σ') (hi : ∀ i ∈ idx, i ∈ vs) : wipe σ' vs = wipe σ vs := by
  have hl : σ'.length = σ.length := by rw [h.1, wipe_length]
  apply List.ext_getElem?
  intro j
  by_cases hj : j ∈ vs
  · by_cases hlt : j < σ.length
    · rw [wipe_in hj (by rw [hl]; exact hlt), wipe_in hj hlt]
    · rw [List.getElem?_eq_none (by rw [wipe_length]; omega), List.getElem?_eq_none (by rw [wipe_length]; omega)]
  · rw [wipe_out hj, h.2 j (fun z => hj (hi j z))]
/-- the block of a comprehension whose new object stands at d -/
abbrev Cc.blk (c : Cc) (d : Addr) : Cc := { cl := c.cl, B := fun a => c.B a ∨ a = d, Z := c.Z, zs := c.zs, Wx := fun _ _ _ _ => False, p0 := fun _ => none, S := c.S }
def wipeE (E : Env) : List Nat → Env
  | [] => E
  | v :: vs => (wipeE E vs).set v none
theorem wipeE_length (E : Env) : ∀ vs : List Nat, (wipeE E vs).length = E.length
  | [] => rfl
  | v :: vs => by unfold wipeE; rw [List.length_set, wipeE_length E vs]
theorem wipeE_some {E : Env} {i : Nat} {d : D} : ∀ {vs : List Nat}, (wipeE E vs)[i]? = some (some d) → E[i]? = some (some d) ∧ i ∉ vs
  | [], h => ⟨h, by simp⟩
  | v :: vs, h => by
    unfold wipeE at h
    by_cases hi : v = i
    · subst hi
      by_cases hv : v < (wipeE E vs).length
      · rw [List.getElem?_set_self hv] at h; cases h
      · rw [List.getElem?_eq_none (by simpa using hv)] at h; cases h
    · rw [List.getElem?_set_ne hi] at h
      obtain ⟨h1, h2⟩ := wipeE_some h
      exact ⟨h1, by simp only [List.mem_cons, not_or]; exact ⟨fun e => hi e.symm, h2⟩⟩
section
variable {K : PySem.W.Frag} {X : Cx} {c : Cc} {pos : Pos} {W : AS} {σ : St} {H H' : Hp} {E : Env} {p : Addr}
/-- from a frame to the block -/
theorem Sat.toBlk (s : Sat K c E σ H W) (hp : H p = none) (sm : Same H H') (hp' : H' p ≠ none) (vs : List Nat) : Sat K (c.blk p) (wipeE E vs) (wipe σ vs) H' W := by
  obtain ⟨w1, ws, sb, w2, w3, wz, wp, w4, fp, f1, f2, f3⟩ := s
  refine ⟨fun a z y => y.elim (w1 a z) fun x => w2 a z (by rw [x]; exact hp), ws, fun a z => .inl (sb a z), fun a z => Same.some_ sm (w2 a z), fun a z => z.elim (fun y => Same.some_ sm (w3 a y)) (fun y => by rw [y]; exact hp'), c.zs _ _ _ _ (Step.same sm) wz, fun _ v e => (by cases e), (by rw [wipe_length, wipeE_length]; exact w4), fp, f1, f2, fun i d e => ?_⟩
  obtain ⟨e1, e2⟩ := wipeE_some e
  obtain ⟨v, q, r⟩ := f3 i d e1
  refine ⟨v, by rw [wipe_out e2]; exact q, ?_⟩
  refine Rep.mono (fun a o q n => ⟨sm a o q, fun y => ?_⟩) (fun a o q n => ⟨sm a o q, n⟩) d v _ _ (fun a o q _ => sm a o q) (fun _ z => z) r
  rcases y with y | y | y
  · exact n (.inl y)
  · exact n (.inr y)
  · rw [y, hp] at q; cases q
structure JTs (X : Cx) (c : Cc) (ifs : List Expr) (g : Env → Res Bool) : Prop where pt : PTs X ifs (tT X.K c g)
def gYes : Env → Res Bool := fun _ => .ok true
theorem jts_nil : JTs X c [] gYes := ⟨⟨fun pins s σ H Q I ⟨E, W, st, q⟩ => pts_nil.run pins s σ H Q I (q H same_refl)⟩⟩
theorem jts_one {e : Expr} {g : Env → Res Bool} (h : JT X c e g) : JTs X c [e] g := ⟨pts_one h.pt⟩
theorem PTs.ex {ι : Type} {ifs : List Expr} {t : ι → TT} (h : ∀ i, PTs X ifs (t i)) : PTs X ifs (fun σ H Q => ∃ i, t i σ H Q) := ⟨fun pins s σ H Q I ⟨i, q⟩ => (h i).run pins s σ H Q I q⟩
theorem PE.ex {ι : Type} {e : Expr} {t : ι → TE} (h : ∀ i, PE X e (t i)) : PE X e (fun σ H Q => ∃ i, t i σ H Q) := ⟨fun pins s σ H Q I ⟨i, q⟩ => (h i).run pins s σ H Q I q⟩
theorem PG.ex {ι : Type} {e : Expr} {t : ι → TG} (h : ∀ i, PG X e (t i)) : PG X e (fun v σ H Q => ∃ i, t i v σ H Q) := ⟨fun pins s σ H v u Q I r ⟨i, q⟩ => (h i).run pins s σ H v u Q I r q⟩
def tGx (K : PySem.W.Frag) (c : Cc) (idx : List Nat) (ud : D → Env → Res Env) : TG := fun v σ H Q => ∃ d, tG K (c.blk d) idx ud v σ H Q
def tTx (K : PySem.W.Frag) (c : Cc) (g : Env → Res Bool) : TT := fun σ H Q => ∃ d, tT K (c.blk d) g σ H Q
def tNx (K : PySem.W.Frag) (c : Cc) (g : Env → Res D) : TE := fun σ H Q => ∃ d, tN K (c.blk d) g σ H Q
/-- the items made -/
def lcS (ud : D → Env → Res Env) (gt : Env → Res Bool) (ge : Env → Res D) (E : Env) : List D → Res (List D)
  | [] => .ok []
  | d :: ds => match ud d E with
    | .ok E2 => match gt E2 with
      | .ok k => if k = true then (match ge E2 with
          | .ok y => lcS ud gt ge E ds >>= fun ys => .ok (y.fr :: ys)
          | _ => .bad) else lcS ud gt ge E ds
      | _ => .bad
    | _ => .bad
def gLc (gi : Env → Res (List D)) (vs : List Nat) (ud : D → Env → Res Env) (gt : Env → Res Bool) (ge : Env → Res D) : Env → Res D := fun E => gi E >>= fun ds => lcS ud gt ge (wipeE E vs) ds >>= fun ys => if immL ys ∧ ys.length ≤ sizeLine then .ok (.lst .own ys) else .bad
theorem lcS_nx {ud : D → Env → Res Env} {gt : Env → Res Bool} {ge : Env → Res D} {E : Env} {x : Exc} : ∀ ds : List D, lcS ud gt ge E ds ≠ .ex x
  | [], h => by simp [lcS] at h
  | d :: ds, h => by
    simp only [lcS] at h
    repeat' split at h
    all_goals first | exact lcS_nx ds h | (cases h; done) | skip
    cases e : lcS ud gt ge E ds with
    | ok ys => rw [e] at h; cases h
    | ex y => exact lcS_nx ds (by rw [e] at h; cases h; exact e)
    | bad => rw [e] at h; cases h
theorem RepL.snoc {cl : Tb} {I M : AS} {xs : List D} {vs : List V} {d : D} {v : V} (r : RepL K cl H I M xs vs none_) (q : Rep K cl H I M d v none_) : RepL K cl H I M (xs ++ [d]) (vs ++ [v]) none_ := RepL.append r (RepL.none_cons q rfl)
theorem lcsem {own : List (Str × Nat)} {idx : List Nat} {gi : Env → Res (List D)} {ud : D → Env → Res Env} {gt : Env → Res Bool} {ge : Env → Res D} (hidx : ∀ i ∈ idx, i ∈ own.map (·.2)) {σ : St} {H : Hp} {Q : VK}
    (h : tN X.K c (gLc gi (own.map (·.2)) ud gt ge) σ H Q) :
    tLc (tI X.K c false gi) (tGx X.K c idx ud) (tTx X.K c gt) (tNx X.K c ge) (own.map (·.2)) σ H Q := by
  obtain ⟨E, W, s, q⟩ := h
  unfold gLc at q
  refine ⟨E, W, s, ?_⟩
  cases e1 : gi E with
  | ex x => rw [e1] at q; exact q
  | bad => rw [e1] at q; exact q
  | ok ds =>
    rw [e1] at q
    simp only [res_bind_ok] at q
    rintro J H1 sm ⟨G, g0, gs, gg, gp, gy⟩ p hp
    have s1 := s.same sm
    cases e2 : lcS ud gt ge (wipeE E (own.map (·.2))) ds with
    | ex x => exact absurd e2 (lcS_nx ds)
    | bad => rw [e2] at q; exact q.elim
    | ok ys =>
      rw [e2] at q
      simp only [res_bind_ok] at q
      by_cases hh : immL ys = true ∧ ys.length ≤ sizeLine
      · rw [if_pos hh] at q
        have wk : Walk J ds.length (fun H => Same H1 H) (fun i H x H' => J.yld i H x H') := ⟨fun i H hi h => gg i H W hi (gs _ _ _ _ g0 (Step.same h) (.inr ⟨rfl, h⟩)), fun H h => gp H W (gs _ _ _ _ g0 (Step.same h) (.inr ⟨rfl, h⟩)), fun i H x H' hi _ y => y⟩
        refine lc_it wk (g := tGx X.K c idx ud) (tt := tTx X.K c gt) (te := tNx X.K c ge) (vs := own.map (·.2)) (σ := σ) (D := p) (Qd := fun H => Q (.ref p) H) (fun i H => Same H1 H ∧ ∃ acc as bs, H p = some (.lst acc) ∧ RepL X.K c.cl H ((c.blk p).I W) (fun _ => True) as acc none_ ∧ lcS ud gt ge (wipeE E (own.map (·.2))) (ds.drop i) = .ok bs ∧ ys = as ++ bs)
          ⟨Same.new hp, [], [], ys, upd_same, rfl, e2, rfl⟩ (fun i H _ z => z.1) ?_ ?_
        · rintro i x H2 H3 hi ⟨sm2, acc, as, bs, ha, ra, eb, ey⟩ y
          have g2 := gs _ _ _ _ g0 (Step.same sm2) (.inr ⟨rfl, sm2⟩)
          obtain ⟨sm3, d, ed, hd, rd⟩ := gy i H2 W x H3 (fun a => a = p) hi (s1.same sm2).ih (fun a z => by
            have z : a = p := z
            subst z
            exact ⟨hp, ne_of_some ha⟩) g2 y
          have ed2 : ds.drop i = d :: ds.drop (i + 1) := by
            rw [List.drop_eq_getElem_cons hi]
            rw [List.getElem?_eq_getElem hi] at ed
            cases ed
            rfl
          rw [ed2] at eb
          simp only [lcS] at eb
          have ha3 := sm3 p _ ha
          have sb := s1.toBlk hp (sm2.trans sm3) (ne_of_some ha3) (own.map (·.2))
          refine ⟨p, wipeE E (own.map (·.2)), W, d, sb, fun hn => ?_, ?_⟩
          · -- the item as the block sees it
            refine Rep.mono (fun a o q n => ⟨q, fun z => n ?_⟩) (fun a o q n => ⟨q, n⟩) d x _ _ (fun _ _ _ z => z.elim) (fun _ z => z) rd
            rcases z with z | z | z
            · exact .inl (.inl z)
            · exact .inl (.inr z)
            · exact .inr z
          · cases e3 : ud d (wipeE E (own.map (·.2))) with
            | ex z => rw [e3] at eb; cases eb
            | bad => rw [e3] at eb; cases eb
            | ok E2 =>
              rw [e3] at eb
              simp only at eb ⊢
              intro σ2 so s4
              refine ⟨wipe_same so hidx, p, E2, W, s4, ?_⟩
              cases e4 : gt E2 with
              | ex z => rw [e4] at eb; cases eb
              | bad => rw [e4] at eb; cases eb
              | ok k =>
                rw [e4] at eb
                simp only at eb
                intro H4 sm4
                cases k with
                | false =>
                  rw [if_neg Bool.false_ne_true] at eb
                  rw [if_neg Bool.false_ne_true]
                  exact ⟨(sm2.trans sm3).trans sm4, acc, as, bs, sm4 p _ ha3, (ra.same sm3).same sm4, eb, ey⟩
                | true =>
                  rw [if_pos rfl] at eb
                  rw [if_pos rfl]
                  refine ⟨p, E2, W, s4.same sm4, ?_⟩
                  cases e5 : ge E2 with
                  | ex z => rw [e5] at eb; cases eb
                  | bad => rw [e5] at eb; cases eb
                  | ok y2 =>
                    rw [e5] at eb
                    simp only at eb
                    intro v H5 F sm5 f r5
                    cases e6 : lcS ud gt ge (wipeE E (own.map (·.2))) (ds.drop (i + 1)) with
                    | ex z => rw [e6] at eb; cases eb
                    | bad => rw [e6] at eb; cases eb
                    | ok zs =>
                      rw [e6] at eb
                      cases eb
                      have ha5 := sm5 p _ (sm4 p _ ha3)
                      have ra5 := ((ra.same sm3).same sm4).same sm5
                      have rf : Rep X.K c.cl H5 ((c.blk p).I W) (fun _ => True) y2.fr v none_ := Rep.fr (fun a z => Or.inl z) y2 v F (fun a z w => (s4.same sm4).fresh (f a z).1 w) r5
                      have rs := RepL.snoc ra5 rf
                      refine ⟨acc, ha5, ?_, fun a o z => ?_, acc ++ [v], as ++ [y2.fr], zs, upd_same, ?_, rfl, by rw [ey, List.append_assoc]; rfl⟩
                      · have h1 := ra5.length
                        have h2 := hh.2
                        rw [ey, List.length_append, List.length_cons] at h2
                        omega
                      · rw [upd_ne (ne_of_none z hp)]
                        exact sm5 a o (sm4 a o (sm3 a o (sm2 a o z)))
                      · refine RepL.mono (fun a o q n => ⟨?_, n⟩) (fun a o q n => absurd trivial n) _ _ _ _ (fun _ _ _ z => z.elim) (fun _ z => z) rs
                        rw [upd_ne fun z => n (.inr (.inr z))]
                        exact q
        · rintro H2 ⟨sm2, acc, as, bs, ha, ra, eb, ey⟩
          rw [List.drop_length] at eb
          simp only [lcS] at eb
          cases eb
          rw [List.append_nil] at ey
          subst ey
          refine q _ H2 (fun a => a = p) (sm.trans sm2) (fun a z => ?_) ⟨p, acc, rfl, .inl ⟨ha, rfl⟩, ?_⟩
          · have e : a = p := z
            subst e
            exact ⟨sm.free hp, ne_of_some ha⟩
          · refine RepL.weaken (fun _ z => z.elim) (RepL.mono (fun a o q n => ⟨q, fun y => n ?_⟩) (fun a o q n => absurd trivial n) _ _ _ _ (fun _ _ _ z => z.elim) (fun _ z => z) ra)
            rcases y with (y | y) | y
            · exact .inl y
            · exact .inr (.inl y)
            · exact .inr (.inr y)
      · rw [if_neg hh] at q
        exact q.elim
/-- [elt for tg in iter if ..] -/
theorem jn_lc {iter tg elt : Expr} {ifs : List Expr} {scope : Scope} {own : List (Str × Nat)} {idx : List Nat} {gi : Env → Res (List D)} {ud : D → Env → Res Env} {gt : Env → Res Bool} {ge : Env → Res D} (hc : X.calm = true) (hN : X.N.Nodup) (hi : JI X c false tg iter gi) (ok : BlkOk X.N X.env.scope scope own)
    (hg : ∀ (s : Shared) (H : Hp) (C : Addr) (cl : List (Str × Addr)) (fp : List Addr) (d : Addr), JG (X.blk s H scope (compEnvC scope cl C X.env) fp) (c.blk d) tg idx ud)
    (ht : ∀ (s : Shared) (H : Hp) (C : Addr) (cl : List (Str × Addr)) (fp : List Addr) (d : Addr), JTs (X.blk s H scope (compEnvC scope cl C X.env) fp) (c.blk d) ifs gt)
    (he : ∀ (s : Shared) (H : Hp) (C : Addr) (cl : List (Str × Addr)) (fp : List Addr) (d : Addr), JN (X.blk s H scope (compEnvC scope cl C X.env) fp) (c.blk d) elt ge)
    (hidx : ∀ i ∈ idx, i ∈ own.map (·.2) := by decide) (hs : ∀ x, foldedSetIterable iter X.env x = pure x := by intro _; rfl) : JN X c (.ListComp elt [⟨tg, iter, ifs, 0⟩] scope pos) (gLc gi (own.map (·.2)) ud gt ge) :=
  ⟨PE.weak (pe_lc hc hN hi.pi ok (g := tGx X.K c idx ud) (tt := tTx X.K c gt) (te := tNx X.K c ge) (fun s H C cl fp => PG.ex fun d => (hg s H C cl fp d).pg) (fun s H C cl fp => PTs.ex fun d => (ht s H C cl fp d).pt) (fun s H C cl fp => PE.ex fun d => (he s H C cl fp d).pe) hs) fun _ _ _ h => lcsem hidx h⟩
/-- y = [..] on one line, y a local name -/
theorem js_setLc {i : Nat} {y : Str} {py spos : Pos} {iter tg elt : Expr} {ifs : List Expr} {scope : Scope} {own : List (Str × Nat)} {idx : List Nat} {gi : Env → Res (List D)} {ud : D → Env → Res Env} {gt : Env → Res Bool} {ge : Env → Res D} (hc : X.calm = true) (hN : X.N.Nodup) (hy : X.N[i]? = some y) (hyl : X.env.scope.names.lookup y = some .local)
    (hsw : swapsWith (.ListComp elt [⟨tg, iter, ifs, 0⟩] scope pos) (some (.Name y py)) spos.line X.env = pure true) (hi : JI X c false tg iter gi) (ok : BlkOk X.N X.env.scope scope own)
    (hg : ∀ (s : Shared) (H : Hp) (C : Addr) (cl : List (Str × Addr)) (fp : List Addr) (d : Addr), JG (X.blk s H scope (compEnvC scope cl C X.env) fp) (c.blk d) tg idx ud)
    (ht : ∀ (s : Shared) (H : Hp) (C : Addr) (cl : List (Str × Addr)) (fp : List Addr) (d : Addr), JTs (X.blk s H scope (compEnvC scope cl C X.env) fp) (c.blk d) ifs gt)
    (he : ∀ (s : Shared) (H : Hp) (C : Addr) (cl : List (Str × Addr)) (fp : List Addr) (d : Addr), JN (X.blk s H scope (compEnvC scope cl C X.env) fp) (c.blk d) elt ge)
    (h0 : c.p0 i = none) (hidx : ∀ i ∈ idx, i ∈ own.map (·.2) := by decide) (hs : ∀ x, foldedSetIterable iter X.env x = pure x := by intro _; rfl) : JS X c (.Assign [.Name y py] (.ListComp elt [⟨tg, iter, ifs, 0⟩] scope pos) spos) (asgS i (gLc gi (own.map (·.2)) ud gt ge)) :=
  ⟨PS.weak (ps_setLc hc hN hy hyl hsw hi.pi ok (g := tGx X.K c idx ud) (tt := tTx X.K c gt) (te := tNx X.K c ge) (fun s H C cl fp => PG.ex fun d => (hg s H C cl fp d).pg) (fun s H C cl fp => PTs.ex fun d => (ht s H C cl fp d).pt) (fun s H C cl fp => PE.ex fun d => (he s H C cl fp d).pe) hs) fun D σ H ⟨E, W, s, q⟩ => by
  unfold asgS at q
  refine lcsem hidx ⟨E, W, s, ?_⟩
  cases e1 : gLc gi (own.map (·.2)) ud gt ge E with
  | ok d =>
    rw [e1] at q
    simp only at q
    split at q
    · rename_i hlt
      intro v H' F sm f r
      obtain ⟨s2, t⟩ := s.store sm f r hlt h0
      exact q _ H' _ t s2
    · exact q.elim
  | ex x => rw [e1] at q; exact ex_ok s q
  | bad => rw [e1] at q; exact q⟩
end
end PD
namespace PD
open PySem L2

section
variable {X : Cx} {CX : CXT} {k n : Nat} {f C : Addr} {fd : FuncData} {ps ks : List Str} {sp : Sp} {E : St → XK} {x m : Str} {p pos apos : Pos} {e o : Expr} {es : List Expr} {kws : List Keyword} {ta : TE} {t tk : TA} {dvs : List V} {ds : List Value} {g : List Value → List Value → List Value} {gV : List V → List V → List V}
theorem run_fnP {pins : List (Addr × Obj)} {σ : St} {H : Hp} {s : Shared} {Q : VK} {us : List Value} {vs : List V} (F : FnOk X.prog X.w X.K X.mg X.base CX k f fd ps sp) (hr : Room k X.A) (hb : Binds X.K fd ps ds) (hd : Vals dvs ds) (hx : PassesAt CX X σ (E σ))
    (I : Inv X pins σ H s) (r : Vals vs us) (h : sp (vs ++ dvs) H Q (E σ)) : wpAny (model X.prog X.w) X.A (call (.ref f) us) (EP X pins σ Q) X.xe s := by
  have r2 : Vals (vs ++ dvs) (us ++ ds) := r.append hd
  have hl : (us ++ ds).length = ps.length := by rw [← r2.length]; exact F.len _ _ _ _ h
  refine wpAny_call (codeAny_mono (F.run X.A X.stack s H ⟨us, []⟩ (us ++ ds) (vs ++ dvs) Q (E σ) hr I.env0 (hb s us I.kIn hl) r2 h) fun r s' hq => ?_)
  cases r with
  | error e => exact hx pins H s e s' I hq
  | ok fl =>
    cases fl with
    | ret u => exact I.after hq
    | next => exact False.elim hq
    | brk => exact False.elim hq
    | cont => exact False.elim hq
theorem pe_callP (F : FnOk X.prog X.w X.K X.mg X.base CX k f fd ps sp) (hr : Room k X.A) (hg : Gl X x) (hm : X.mg x = some (.ref f)) (hk : PySem.W.keepIn X.K (.ref f) = true) (hb : Binds X.K fd ps ds) (hd : Vals dvs ds) (hx : ∀ σ, PassesAt CX X σ (E σ))
    (ha : PA X (e :: es) t) (hdb : (x == ("__debug__" : Str)) = false := by decide) (he : starEach (e :: es) X.env = (false, eval e X.env) :: starEach es X.env := by rfl) (hpl : (backTo pos (starEach es X.env)).any (·.1) = false := by rfl) :
    PE X (.Call (.Name x p) (e :: es) [] pos) (fun σ H Q => t σ H fun vs H1 => sp (vs ++ dvs) H1 Q (E σ)) := by
  refine ⟨fun pins s σ H Q I h => ?_⟩
  refine wpAny_Call_Name_kw (ld_glob I hg hm ?_ hdb)
  refine PySem.W.callWith_K (h₀ := X.base) I.ok.mod.kin hk (thn (ha.run pos pins s σ H _ I h) fun us s1 ⟨vs, H1, I1, r, q⟩ => ⟨I1.kIn, ?_⟩) he hpl
  exact run_fnP F hr hb hd (hx σ) I1 r q
end
end PD
namespace PD
open PySem L2 PySem.Spec PyProof.Rows

/-- what a def that changes its first argument gives -/
inductive MR where
  | ok (d d0 : D)
  | ex (e : Exc) (d0 : D)
  | bad
/-- the arguments are looked at alone -/
def spF (K : PySem.W.Frag) (T : Tb) (F : List D → Res D) : Sp := fun vs H Q E => ∃ (ds : List D) (I : AS), (∀ a, I a → H a ≠ none) ∧ RepL K T H I none_ ds vs none_ ∧ match F ds with
  | .ok d => ∀ v H' F', Same H H' → (∀ a, F' a → H a = none ∧ H' a ≠ none) → Rep K T H' (fun a => I a ∨ F' a) (fun _ => True) d v F' → Q v H'
  | .ex e => ∀ u dd H', Same H H' → ERep K T H' I e u dd → E u dd H'
  | .bad => False
def startE (m : Nat) (ds : List D) : Env := ds.map some ++ List.replicate (m - ds.length) none
def bodyF (n m : Nat) (s : Env → Out) (ds : List D) : Res D := if ds.length = n then match s (startE m ds) with
  | .rt d _ => .ok d
  | .nx _ => .ok .non
  | .ex e _ => .ex e
  | _ => .bad else .bad
/-- the context at a def's entry -/
def cc0 (T : Tb) (I : AS) (E : XK) (p0 : Nat → Option V) : Cc := { cl := T, B := I, Z := fun _ _ => True, zs := fun _ _ _ _ _ _ => trivial, Wx := fun u d _ H => E u d H, p0 := p0, S := none_ }
section
variable {P : Program} {w : World} {K : PySem.W.Frag} {mg : Str → Option Value} {base : Heap} {T : Tb}
theorem startE_get {m : Nat} {ds : List D} {i : Nat} {d : D} (h : (startE m ds)[i]? = some (some d)) : ds[i]? = some d := by
  unfold startE at h
  by_cases hi : i < ds.length
  · rw [List.getElem?_append_left (by simpa using hi), List.getElem?_map] at h
    cases e : ds[i]? with
    | none => rw [e] at h; cases h
    | some x => rw [e] at h; cases h; rfl
  · rw [List.getElem?_append_right (by simpa using hi)] at h
    obtain ⟨h1, h2⟩ := List.getElem?_eq_some_iff.mp h
    simp at h2
theorem start_get {N : List Str} {vs : List V} {i : Nat} {v : V} (h : vs[i]? = some v) : (L2.start N vs)[i]? = some (some v) := by
  have hi : i < vs.length := (List.getElem?_eq_some_iff.mp h).1
  unfold L2.start
  rw [List.getElem?_append_left (by simpa using hi), List.getElem?_map, h]
  rfl
theorem start_len {N : List Str} {ds : List D} {vs : List V} (h : vs.length = ds.length) : (startE N.length ds).length = (L2.start N vs).length := by
  unfold startE L2.start
  simp [h]
theorem fn_pure {k n : Nat} {x qual : Str} {params : Arguments} {body : List Stmt} {scope : Scope} {dvs : List V} {kws : List (Str × V)} {f : Addr} {fd : FuncData} {N ps : List Str} {s : Env → Out} (F : FunD K x qual params body scope dvs kws f fd) (S : FnScope N ps scope) (hn : ps.length = n)
    (hb : ∀ (cdv : Value) (A : Around) (outer : List PySem.Env) (s0 : Shared) (H : Hp) (E : XK) (c : Cc), Room k (A.deeper (envOfC qual scope s0.heap.objs.size f cdv)) → c.cl = T → (∀ i, c.p0 i = none) → Takes (cxOf (L2.CX P w) P w K mg base N qual scope f cdv A outer s0 H E) c.Wx →
      JSs (cxOf (L2.CX P w) P w K mg base N qual scope f cdv A outer s0 H E) c body s) : FnOk P w K mg base (L2.CX P w) (k + 1) f fd ps (spF K T (bodyF n N.length s)) := by
  refine F.ok S (fun vs H Q E h => ?_) (fun cdv A outer s0 H vs Q E hr h => ?_)
  · obtain ⟨ds, I, _, r, q⟩ := h
    unfold bodyF at q
    split at q
    · rename_i d e
      split at e
      · rename_i hl
        rw [r.length, hn, hl]
      · cases e
    · rename_i d e
      split at e
      · rename_i hl
        rw [r.length, hn, hl]
      · cases e
    · exact q.elim
  · obtain ⟨ds, I, hI, r, q⟩ := h
    have J := hb cdv A outer s0 H E (cc0 T I E fun _ => none) hr rfl (fun _ => rfl) (takes_of rfl rfl rfl rfl)
    refine ⟨_, J.ps, startE N.length ds, none_, ⟨fun _ z => z.elim, fun _ z => z.elim, fun _ z => z.elim, fun _ z => z.elim, hI, trivial, fun _ v e => (by cases e), start_len r.length, fun _ => none_, fun _ _ z => z.elim, fun _ _ _ _ z => z.elim, fun i d e => ?_⟩, ?_⟩
    · obtain ⟨v, g, rr⟩ := r.get0 (startE_get e)
      exact ⟨v, start_get g, Rep.mono (fun a o q n => ⟨q, fun z => n (z.elim (fun y => y.elim) id)⟩) (fun a o q n => ⟨q, fun z => z.elim (fun y => y) fun y => y⟩) d v _ _ (fun _ _ _ z => z.elim) (fun _ z => z) rr⟩
    · unfold bodyF at q
      by_cases hl : ds.length = n
      · rw [if_pos hl] at q
        cases e : s (startE N.length ds) with
        | nx E1 =>
          rw [e] at q
          exact fun σ' H' W' t s2 => q .non H' none_ (fun a o z => t.1 a o z fun y => y) (fun _ z => z.elim) rfl
        | rt d E1 =>
          rw [e] at q
          refine fun v σ' H' W' F' t s2 rr => q v H' F' (fun a o z => t.1 a o z fun y => y) (fun a z => ⟨(t.2.2 a (.inr z)).resolve_left fun y => y, s2.bh a (.inr z)⟩) (Rep.mono (fun a o q n => ⟨q, fun z => n (.inr z)⟩) (fun a o q n => ⟨q, n⟩) d v _ _ (fun _ _ q _ => q) (fun _ z => z) rr)
        | ex x E1 =>
          rw [e] at q
          refine fun u dd σ' H' W' t s2 er => q u dd H' (fun a o z => t.1 a o z fun y => y) ?_
          obtain ⟨e1, e2⟩ := er
          refine ⟨e1, e2.imp id ?_⟩
          rintro ⟨dx, vs2, h1, h2, h3, h4, h5⟩
          exact ⟨dx, vs2, h1, h2, fun z => h3 (.inr z), h4, RepL.mono (fun a o q n => ⟨q, fun z => n (.inr z)⟩) (fun a o q n => ⟨q, n⟩) _ _ _ _ (fun _ _ _ z => z.elim) (fun _ z => z) h5⟩
        | bk E1 => rw [e] at q; exact q.elim
        | ct E1 => rw [e] at q; exact q.elim
        | bad => rw [e] at q; exact q.elim
      · rw [if_neg hl] at q; exact q.elim
theorem ERep.mono {H : Hp} {I I' : AS} {e : Exc} {u : Value} {d : Option Addr} (h : ∀ a, I' a → I a) (r : ERep K T H I e u d) : ERep K T H I' e u d := by
  obtain ⟨e1, e2⟩ := r
  refine ⟨e1, e2.imp id ?_⟩
  rintro ⟨dx, vs2, h1, h2, h3, h4, h5⟩
  exact ⟨dx, vs2, h1, h2, fun z => h3 (h _ z), h4, RepL.mono (fun a o q n => ⟨q, fun z => n (h _ z)⟩) (fun a o q n => ⟨q, n⟩) _ _ _ _ (fun _ _ _ z => z.elim) (fun _ z => z) h5⟩
end
end PD
namespace PD
open PySem L2

/-- values of defaults: texts of the module -/
def DflRep (K : PySem.W.Frag) (T : Tb) (dds : List D) (dvs : List V) : Prop := ∀ H I M, RepL K T H I M dds dvs none_
theorem dfl_nil {K : PySem.W.Frag} {T : Tb} : DflRep K T [] [] := fun _ _ _ => rfl
theorem PK.weak {X : Cx} {es : List Keyword} {t t' : TA} (h : PK X es t) (w : ∀ σ H Q, t' σ H Q → t σ H Q) : PK X es t' := ⟨fun pos pins s σ H Q I q => h.run pos pins s σ H Q I (w _ _ _ q)⟩
section
variable {X : Cx} {c : Cc} {pos : Pos} {e : Expr} {g : Env → Res D} {gs : Env → Res (List D)}
theorem tA_use {K : PySem.W.Frag} {W : AS} {σ : St} {H : Hp} {E : Env} {Q : List V → Hp → Prop} (s : Sat K c E σ H W) (hx : ∀ e, gs E = .ex e → ∀ u dd H', Same H H' → ERep K c.cl H' (c.I W) e u dd → c.Wx u dd σ H') (hb : gs E ≠ .bad)
    (h : ∀ ds, gs E = .ok ds → ∀ vs H', Same H H' → Sat K c E σ H' W → RepL K c.cl H' (c.I W) c.S ds vs none_ → Q vs H') : tA K c gs σ H Q := by
  refine ⟨E, W, s, ?_⟩
  cases e : gs E with
  | ok d => exact fun v H' sm r => h d e v H' sm (s.same sm) r
  | ex x => exact hx x e
  | bad => exact hb e
end

section
variable {X : Cx} {c : Cc} {T : Tb} {k n : Nat} {f C : Addr} {fd : FuncData} {ps ks : List Str} {x m : Str} {p pos apos : Pos} {e o : Expr} {es : List Expr} {kws : List Keyword} {dvs : List V} {dds : List D} {ds : List Value} {g : List Value → List Value → List Value} {gV : List V → List V → List V}
  {Ff : List D → Res D} {Fm : List D → MR} {ga gk gl : Env → Res (List D)} {go : Env → Res D}
/-- the promise out of what is wanted -/
theorem spF_of {W : AS} {σ : St} {H : Hp} {Q : VK} {ds : List D} {vs : List V} {I : AS} (hI : ∀ a, c.I W a → H a ≠ none) (hT : c.cl = T) (r : RepL X.K c.cl H (c.I W) none_ ds vs none_) (q : resN X.K c W σ H (Ff ds) Q) : spF X.K T Ff vs H Q (WE c.Wx σ) := by
  subst hT
  refine ⟨ds, c.I W, hI, r, ?_⟩
  cases e : Ff ds with
  | ok d => rw [e] at q; exact q
  | ex x => rw [e] at q; exact q
  | bad => rw [e] at q; exact q
theorem lo_M {K : PySem.W.Frag} {cl : Tb} {H : Hp} {I M : AS} {ds : List D} {vs : List V} (r : RepL K cl H I M ds vs none_) : RepL K cl H I none_ ds vs none_ := RepL.mono (fun a o q n => ⟨q, n⟩) (fun a o q n => ⟨q, fun z => z⟩) ds vs _ _ (fun _ _ _ z => z.elim) (fun _ z => z) r
def gCall (F : List D → Res D) (dds : List D) (ga : Env → Res (List D)) : Env → Res D := fun E => ga E >>= fun ds => F (ds ++ dds)
theorem jn_call (F : FnOk X.prog X.w X.K X.mg X.base (L2.CX X.prog X.w) k f fd ps (spF X.K T Ff)) (hT : c.cl = T) (tk : Takes X c.Wx) (hr : Room k X.A) (hg : Gl X x) (hm : X.mg x = some (.ref f)) (hk : PySem.W.keepIn X.K (.ref f) = true) (hb : Binds X.K fd ps ds) (hd : Vals dvs ds) (hdd : DflRep X.K T dds dvs)
    (ha : JA X c (e :: es) ga) (hdb : (x == ("__debug__" : Str)) = false := by decide) (he : starEach (e :: es) X.env = (false, eval e X.env) :: starEach es X.env := by rfl) (hpl : (backTo pos (starEach es X.env)).any (·.1) = false := by rfl) :
    JN X c (.Call (.Name x p) (e :: es) [] pos) (gCall Ff dds ga) := ⟨PE.weak (pe_callP F hr hg hm hk hb hd (fun σ => passAt tk σ) ha.pa hdb he hpl) fun σ H Q ⟨E, W, s, q⟩ => by
  unfold gCall at q
  refine tA_use s (fun e e1 => by rw [e1] at q; exact q) (fun e1 => by rw [e1] at q; exact q) fun as e1 vs H1 sm s1 r => ?_
  rw [e1] at q
  refine spF_of (I := none_) s1.ih hT ?_ (resN_back sm q)
  subst hT
  exact RepL.append (lo_M r) (hdd H1 _ _)⟩
end
end PD
namespace PD
open PySem L2

def kids : D → List D
  | .lst .own xs => xs
  | .dk .own _ xs => xs
  | .dt .own _ xs => xs
  | .obj .own _ _ xs => xs
  | .tup xs => xs
  | _ => []
def setK (ys : List D) : D → D
  | .lst .own _ => .lst .own ys
  | .dk .own ks _ => .dk .own ks ys
  | .dt .own ks _ => .dt .own ks ys
  | .obj .own c ns _ => .obj .own c ns ys
  | .tup _ => .tup ys
  | d => d
def getP : List Nat → D → Option D
  | [], d => some d
  | j :: r, d => (kids d)[j]?.bind (getP r)
def setP : List Nat → D → D → D
  | [], x, _ => x
  | j :: r, x, d => match (kids d)[j]? with
    | some y => setK ((kids d).set j (setP r x y)) d
    | none => d
def valsOf : HO → List V
  | .lst vs => vs
  | .dK kvs => kvs.map (·.2)
  | .dT kvs => kvs.map (·.2)
  | .ins _ _ fs => fs.map (·.2)
  | .tup vs => vs
  | _ => []
def walkV (H : Hp) : List Nat → V → Option V
  | [], v => some v
  | j :: r, v => match v with
    | .ref p => match H p with
      | some o => (valsOf o)[j]?.bind (walkV H r)
      | none => none
    | _ => none
section
variable {K : PySem.W.Frag} {cl : Tb} {H : Hp} {I M : AS}
theorem lensL : ∀ (xs : List D) (vs : List V) (F : AS) (j : Nat) (x : D), RepL K cl H I M xs vs F → xs[j]? = some x → ∃ v Fj, vs[j]? = some v ∧ (∀ a, Fj a → F a) ∧ Rep K cl H I M x v Fj ∧ ∀ (H' : Hp) (I' M' : AS) (x' : D) (G : AS),
    (∀ a o, H a = some o → ¬ I a → H' a = some o ∧ ¬ I' a) → (∀ a o, H a = some o → ¬ M a → H' a = some o ∧ ¬ M' a) → (∀ a o, H a = some o → F a → ¬ Fj a → H' a = some o) → (∀ a, G a → Fj a ∨ H a = none) → (∀ a, F a → H a ≠ none) → Rep K cl H' I' M' x' v G → RepL K cl H' I' M' (xs.set j x') vs (fun a => (F a ∧ ¬ Fj a) ∨ G a)
  | [], _, _, _, _, _, e => by simp at e
  | d :: ds, vs, F, j, x, h, e => by
    obtain ⟨v, ws, F1, F2, rfl, r1, r2, a1, a2, a3⟩ := h
    cases j with
    | zero =>
      cases e
      refine ⟨v, F1, rfl, a1, r1, fun H' I' M' x' G h1 h2 h3 hG hF r => ⟨v, ws, G, F2, rfl, r, ?_, fun a z => .inr z, fun a z => .inl ⟨a2 a z, fun y => a3 a y z⟩, fun a z y => ?_⟩⟩
      · exact RepL.mono h1 h2 ds ws F2 F2 (fun a o q z => h3 a o q (a2 a z) fun y => a3 a y z) (fun _ z => z) r2
      · rcases hG a z with q | q
        · exact a3 a q y
        · exact hF a (a2 a y) q
    | succ j =>
      obtain ⟨w, Fj, e1, b1, b2, b3⟩ := lensL ds ws F2 j x r2 (by simpa using e)
      refine ⟨w, Fj, by simpa using e1, fun a z => a2 a (b1 a z), b2, fun H' I' M' x' G h1 h2 h3 hG hF r => ⟨v, ws, F1, fun a => (F2 a ∧ ¬ Fj a) ∨ G a, rfl, ?_, b3 H' I' M' x' G h1 h2 (fun a o q z n => h3 a o q (a2 a z) n) hG (fun a z => hF a (a2 a z)) r, fun a z => .inl ⟨a1 a z, fun y => a3 a z (b1 a y)⟩, fun a z => z.imp (fun y => ⟨a2 a y.1, y.2⟩) id, fun a z y => ?_⟩⟩
      · exact Rep.mono h1 h2 d v F1 F1 (fun a o q z => h3 a o q (a1 a z) fun y => a3 a z (b1 a y)) (fun _ z => z) r1
      · rcases y with y | y
        · exact a3 a z y.1
        · rcases hG a y with q | q
          · exact a3 a z (b1 a q)
          · exact hF a (a1 a z) q
theorem kid_rep {d : D} {v : V} {F : AS} {j : Nat} {x : D} (h : (kids d)[j]? = some x) (r : Rep K cl H I M d v F) : ∃ p o, v = .ref p ∧ H p = some o ∧ ((F p ∧ RepL K cl H I M (kids d) (valsOf o) (fun a => F a ∧ a ≠ p) ∧
    ∀ (H' : Hp) (I' M' F' : AS) (ys : List D), H' p = some o → F' p → ys.length = (kids d).length → RepL K cl H' I' M' ys (valsOf o) (fun a => F' a ∧ a ≠ p) → Rep K cl H' I' M' (setK ys d) v F') ∨
    (¬ I p ∧ RepL K cl H I M (kids d) (valsOf o) F ∧ ∀ (H' : Hp) (I' M' F' : AS) (ys : List D), H' p = some o → ¬ I' p → RepL K cl H' I' M' ys (valsOf o) F' → Rep K cl H' I' M' (setK ys d) v F')) := by
  cases d with
  | lst f xs =>
    cases f with
    | own =>
      obtain ⟨p, vs, rfl, c, rr⟩ := r
      rcases c with ⟨c1, c2⟩ | c
      · exact ⟨p, _, rfl, c1, .inl ⟨c2, rr, fun H' I' M' F' ys h1 h2 _ r2 => ⟨p, vs, rfl, .inl ⟨h1, h2⟩, r2⟩⟩⟩
      · cases c.1
    | _ => simp [kids] at h
  | dk f ks xs =>
    cases f with
    | own =>
      obtain ⟨p, vs, rfl, hl, ⟨c1, c2⟩, rr⟩ := r
      have hz : (ks.zip vs).map (·.2) = vs := by
        rw [← List.unzip_snd, List.unzip_zip (by rw [hl, rr.length])]
      refine ⟨p, _, rfl, c1, .inl ⟨c2, by simp only [valsOf, hz]; exact rr, fun H' I' M' F' ys h1 h2 h3 r2 => ?_⟩⟩
      simp only [valsOf, hz] at r2
      exact ⟨p, vs, rfl, by rw [hl]; exact h3.symm, ⟨h1, h2⟩, r2⟩
    | _ => simp [kids] at h
  | dt f ks xs =>
    cases f with
    | own =>
      obtain ⟨p, vs, rfl, hl, ⟨c1, c2⟩, rr⟩ := r
      have hz : (ks.zip vs).map (·.2) = vs := by
        rw [← List.unzip_snd, List.unzip_zip (by rw [hl, rr.length])]
      refine ⟨p, _, rfl, c1, .inl ⟨c2, by simp only [valsOf, hz]; exact rr, fun H' I' M' F' ys h1 h2 h3 r2 => ?_⟩⟩
      simp only [valsOf, hz] at r2
      exact ⟨p, vs, rfl, by rw [hl]; exact h3.symm, ⟨h1, h2⟩, r2⟩
    | _ => simp [kids] at h
  | obj f c ns xs =>
    cases f with
    | own =>
      obtain ⟨p, dx, vs, rfl, hl, ⟨c1, c2⟩, rr⟩ := r
      have hz : ((ns.map cl.nm).zip vs).map (·.2) = vs := by
        rw [← List.unzip_snd, List.unzip_zip (by rw [List.length_map, hl, rr.length])]
      refine ⟨p, _, rfl, c1, .inl ⟨c2, by simp only [valsOf, hz]; exact rr, fun H' I' M' F' ys h1 h2 h3 r2 => ?_⟩⟩
      simp only [valsOf, hz] at r2
      exact ⟨p, dx, vs, rfl, by rw [hl]; exact h3.symm, ⟨h1, h2⟩, r2⟩
    | _ => simp [kids] at h
  | tup xs =>
    obtain ⟨p, vs, rfl, ⟨c1, c2⟩, rr⟩ := r
    exact ⟨p, _, rfl, c1, .inr ⟨c2, rr, fun H' I' M' F' ys h1 h2 r2 => ⟨p, vs, rfl, ⟨h1, h2⟩, r2⟩⟩⟩
  | _ => simp [kids] at h
theorem lens : ∀ (path : List Nat) (d0 d : D) (v0 : V) (F : AS), getP path d0 = some d → Rep K cl H I M d0 v0 F → ∃ v F1, walkV H path v0 = some v ∧ (∀ a, F1 a → F a) ∧ Rep K cl H I M d v F1 ∧ ∀ (H' : Hp) (I' M' : AS) (d' : D) (G : AS),
    (∀ a o, H a = some o → ¬ I a → H' a = some o ∧ ¬ I' a) → (∀ a o, H a = some o → ¬ M a → H' a = some o ∧ ¬ M' a) → (∀ a o, H a = some o → F a → ¬ F1 a → H' a = some o) → (∀ a, G a → F1 a ∨ H a = none) → (∀ a, F a → H a ≠ none) → Rep K cl H' I' M' d' v G → Rep K cl H' I' M' (setP path d' d0) v0 (fun a => (F a ∧ ¬ F1 a) ∨ G a)
  | [], d0, d, v0, F, e, r => by
    cases e
    exact ⟨v0, F, rfl, fun _ z => z, r, fun H' I' M' d' G _ _ _ _ _ r2 => r2.weaken fun _ z => .inr z⟩
  | j :: path, d0, d, v0, F, e, r => by
    simp only [getP] at e
    cases e1 : (kids d0)[j]? with
    | none => rw [e1] at e; cases e
    | some x =>
      rw [e1] at e
      obtain ⟨p, o, rfl, hp, ⟨hFp, rl, put⟩ | ⟨hIp, rl, put⟩⟩ := kid_rep e1 r
      · obtain ⟨vj, Fj, g1, g2, g3, g4⟩ := lensL _ _ _ j x rl e1
        obtain ⟨v, F1, k1, k2, k3, k4⟩ := lens path x d vj Fj e g3
        refine ⟨v, F1, ?_, fun a z => (g2 a (k2 a z)).1, k3, fun H' I' M' d' G h1 h2 h3 hG hF r2 => ?_⟩
        · simp only [walkV, hp, g1]
          exact k1
        · have rj := k4 H' I' M' d' G h1 h2 (fun a o q z n => h3 a o q (g2 a z).1 n) hG (fun a z => hF a (g2 a z).1) r2
          have rl2 := g4 H' I' M' _ _ h1 h2 (fun a o q z n => h3 a o q z.1 fun y => n (k2 a y)) (fun a z => z.elim (fun y => .inl y.1) fun y => (hG a y).imp (k2 a) id) (fun a z => hF a z.1) rj
          simp only [setP, e1]
          refine put H' I' M' _ _ (h3 p o hp hFp fun y => (g2 p (k2 p y)).2 rfl) (.inl ⟨hFp, fun y => (g2 p (k2 p y)).2 rfl⟩) (by rw [List.length_set]) (rl2.weaken fun a z => ?_)
          rcases z with ⟨z, n⟩ | z | z
          · exact ⟨.inl ⟨z.1, fun y => n (k2 a y)⟩, z.2⟩
          · exact ⟨.inl ⟨(g2 a z.1).1, z.2⟩, (g2 a z.1).2⟩
          · refine ⟨.inr z, fun y => ?_⟩
            rcases hG a z with q | q
            · exact (g2 a (k2 a q)).2 y
            · rw [y, hp] at q; cases q
      · obtain ⟨vj, Fj, g1, g2, g3, g4⟩ := lensL _ _ _ j x rl e1
        obtain ⟨v, F1, k1, k2, k3, k4⟩ := lens path x d vj Fj e g3
        refine ⟨v, F1, ?_, fun a z => g2 a (k2 a z), k3, fun H' I' M' d' G h1 h2 h3 hG hF r2 => ?_⟩
        · simp only [walkV, hp, g1]
          exact k1
        · have rj := k4 H' I' M' d' G h1 h2 (fun a o q z n => h3 a o q (g2 a z) n) hG (fun a z => hF a (g2 a z)) r2
          have rl2 := g4 H' I' M' _ _ h1 h2 (fun a o q z n => h3 a o q z fun y => n (k2 a y)) (fun a z => z.elim (fun y => .inl y.1) fun y => (hG a y).imp (k2 a) id) hF rj
          simp only [setP, e1]
          refine put H' I' M' _ _ (h1 p o hp hIp).1 (h1 p o hp hIp).2 (rl2.weaken fun a z => ?_)
          rcases z with ⟨z, n⟩ | z | z
          · exact .inl ⟨z, fun y => n (k2 a y)⟩
          · exact .inl ⟨g2 a z.1, z.2⟩
          · exact .inr z
end
section
variable {K : PySem.W.Frag} {c : Cc} {W : AS} {σ : St} {H : Hp} {E : Env}
/-- slot i emptied, what it held set aside -/
theorem Sat.dropA {i : Nat} {d : D} {fp : Nat → AS} (s : Sat K c E σ H W) (f1 : ∀ i a, fp i a → W a) (f2 : ∀ i j a, i ≠ j → fp i a → ¬ fp j a) (f3 : ∀ i d, E[i]? = some (some d) → ∃ v, σ[i]? = some (some v) ∧ Rep K c.cl H (c.I W) (c.M W) d v (fp i)) (e0 : E[i]? = some (some d)) :
    Sat K (c.aside (fp i)) (E.set i none) σ H (fun a => W a ∧ ¬ fp i a) := by
  obtain ⟨w1, ws, sb, w2, w3, wz, wp, w4, _⟩ := id s
  have st : Step H W H (fun a => W a ∧ ¬ fp i a) := ⟨fun a o q _ => q, fun a q => q, fun a z => .inl z.1⟩
  have g1 : ∀ j a, (if j = i then none_ else fp j) a → W a ∧ ¬ fp i a := fun j a z => by
    split at z
    · exact z.elim
    · rename_i hj
      exact ⟨f1 j a z, f2 j i a hj z⟩
  have g2 : ∀ j k a, j ≠ k → (if j = i then none_ else fp j) a → ¬ (if k = i then none_ else fp k) a := fun j k a hjk z => by
    split at z
    · exact z.elim
    · split
      · exact fun y => y
      · exact f2 j k a hjk z
  refine ⟨fun a z y => y.elim (w1 a z.1) z.2, fun a z y => y.elim (ws a z.1) z.2, fun a z => z.imp (sb a) id, fun a z => w2 a z.1, fun a z => z.elim (w3 a) fun y => w2 a (f1 i a y), c.zs _ _ _ _ st wz, wp, by rw [List.length_set]; exact w4, fun j => if j = i then none_ else fp j, g1, g2, fun j d' e => ?_⟩
  by_cases hj : j = i
  · subst hj
    rw [List.getElem?_set_self (List.getElem?_eq_some_iff.mp e0).1] at e
    cases e
  · rw [List.getElem?_set_ne (Ne.symm hj)] at e
    obtain ⟨v', q, r'⟩ := f3 j d' e
    refine ⟨v', q, ?_⟩
    simp only [if_neg hj]
    refine Rep.mono (fun a o q n => ⟨q, fun y => n ?_⟩) (fun a o q n => ⟨q, fun y => n ?_⟩) d' v' _ _ (fun _ _ q _ => q) (fun _ z => z) r'
    · rcases y with y | y | y
      · exact .inl y.1
      · exact .inr y
      · exact .inl (f1 i a y)
    · rcases y with y | y | y
      · exact .inl y.1
      · exact .inr y
      · exact .inl (f1 i a y)
/-- a part of slot i changes, some of it may go out -/
theorem Sat.mut {i : Nat} {path : List Nat} {d0 d : D} (s : Sat K c E σ H W) (e0 : E[i]? = some (some d0)) (hg : getP path d0 = some d) : ∃ v0 v F1, σ[i]? = some (some v0) ∧ walkV H path v0 = some v ∧ (∀ a, F1 a → W a) ∧ Rep K c.cl H (c.I W) (c.M W) d v F1 ∧
    (∃ Fs, (∀ a, F1 a → Fs a) ∧ (∀ a, Fs a → W a) ∧ Sat K (c.aside Fs) (E.set i none) σ H (fun a => W a ∧ ¬ Fs a)) ∧
    ∀ (H' : Hp) (Fx G : AS) (d' : D), (∀ a o, H a = some o → ¬ F1 a → H' a = some o) → (∀ a, H a ≠ none → H' a ≠ none) → (∀ a, Fx a → (F1 a ∨ H a = none) ∧ H' a ≠ none) → (∀ a, G a → (F1 a ∨ H a = none) ∧ H' a ≠ none) → (∀ a, G a → ¬ Fx a) →
      (∀ I' M' : AS, (∀ a, I' a → ((W a ∧ ¬ F1 a) ∨ G a) ∨ (c.B a ∨ Fx a)) → (∀ a, M' a → ((W a ∧ ¬ F1 a) ∨ G a) ∨ (c.S a ∨ Fx a)) → Rep K c.cl H' I' M' d' v G) →
      Sat K (c.aside Fx) (E.set i (some (setP path d' d0))) σ H' (fun a => (W a ∧ ¬ F1 a) ∨ G a) ∧ Step H W H' (fun a => ((W a ∧ ¬ F1 a) ∨ G a) ∨ Fx a) := by
  obtain ⟨w1, ws, sb, w2, w3, wz, wp, w4, fp, f1, f2, f3⟩ := id s
  obtain ⟨v0, q0, r0⟩ := f3 i d0 e0
  obtain ⟨v, F1, k1, k2, k3, k4⟩ := lens path d0 d v0 (fp i) hg r0
  refine ⟨v0, v, F1, q0, k1, fun a z => f1 i a (k2 a z), k3, ⟨fp i, k2, f1 i, s.dropA f1 f2 f3 e0⟩, fun H' Fx G d' hH hN hFx hG hGx hr => ?_⟩
  have hFW : ∀ a, F1 a → W a := fun a z => f1 i a (k2 a z)
  have hGW : ∀ a, G a → W a ∨ H a = none := fun a z => (hG a z).1.imp (hFW a) id
  have hXW : ∀ a, Fx a → W a ∨ H a = none := fun a z => (hFx a z).1.imp (hFW a) id
  have hW' : ∀ a, ((W a ∧ ¬ F1 a) ∨ G a) → W a ∨ H a = none := fun a z => z.elim (fun y => .inl y.1) (hGW a)
  have st1 : Step H W H' (fun a => (W a ∧ ¬ F1 a) ∨ G a) := ⟨fun a o q n => hH a o q fun z => n (hFW a z), hN, hW'⟩
  have st : Step H W H' (fun a => ((W a ∧ ¬ F1 a) ∨ G a) ∨ Fx a) := ⟨fun a o q n => hH a o q fun z => n (hFW a z), hN, fun a z => z.elim (hW' a) (hXW a)⟩
  have hI : ∀ a o, H a = some o → ¬ c.I W a → H' a = some o ∧ ¬ (c.aside Fx).I (fun a => (W a ∧ ¬ F1 a) ∨ G a) a := fun a o q n => by
    refine ⟨hH a o q fun z => n (.inl (hFW a z)), fun z => ?_⟩
    rcases z with z | z | z
    · rcases hW' a z with y | y
      · exact n (.inl y)
      · rw [y] at q; cases q
    · exact n (.inr z)
    · rcases hXW a z with y | y
      · exact n (.inl y)
      · rw [y] at q; cases q
  have hM : ∀ a o, H a = some o → ¬ c.M W a → H' a = some o ∧ ¬ (c.aside Fx).M (fun a => (W a ∧ ¬ F1 a) ∨ G a) a := fun a o q n => by
    refine ⟨hH a o q fun z => n (.inl (hFW a z)), fun z => ?_⟩
    rcases z with z | z | z
    · rcases hW' a z with y | y
      · exact n (.inl y)
      · rw [y] at q; cases q
    · exact n (.inr z)
    · rcases hXW a z with y | y
      · exact n (.inl y)
      · rw [y] at q; cases q
  have hG1 : ∀ a, G a → F1 a ∨ H a = none := fun a z => (hG a z).1
  refine ⟨⟨fun a z y => ?_, fun a z y => ?_, fun a z => z.imp (sb a) id, fun a z => ?_, fun a z => ?_, c.zs _ _ _ _ st1 wz, wp, by rw [List.length_set]; exact w4, fun j => if j = i then (fun a => (fp i a ∧ ¬ F1 a) ∨ G a) else fp j, fun j a z => ?_, fun j k a hjk z => ?_, fun j d2 e => ?_⟩, st⟩
  · rcases y with y | y
    · rcases z with z | z
      · exact w1 a z.1 y
      · rcases hG1 a z with q | q
        · exact w1 a (hFW a q) y
        · exact w3 a y q
    · rcases z with z | z
      · rcases (hFx a y).1 with q | q
        · exact z.2 q
        · exact w2 a z.1 q
      · exact hGx a z y
  · rcases y with y | y
    · rcases z with z | z
      · exact ws a z.1 y
      · rcases hG1 a z with q | q
        · exact ws a (hFW a q) y
        · exact w3 a (sb a y) q
    · rcases z with z | z
      · rcases (hFx a y).1 with q | q
        · exact z.2 q
        · exact w2 a z.1 q
      · exact hGx a z y
  · rcases z with z | z
    · exact hN a (w2 a z.1)
    · exact (hG a z).2
  · rcases z with z | z
    · exact hN a (w3 a z)
    · exact (hFx a z).2
  · simp only at z
    split at z
    · rcases z with z | z
      · exact .inl ⟨f1 i a z.1, z.2⟩
      · exact .inr z
    · rename_i hj
      exact .inl ⟨f1 j a z, fun y => f2 j i a hj z (k2 a y)⟩
  · simp only at z ⊢
    have hd : ∀ m, m ≠ i → fp m a → ¬ ((fp i a ∧ ¬ F1 a) ∨ G a) := fun m hm zz y => by
      rcases y with y | y
      · exact f2 m i a hm zz y.1
      · rcases hG1 a y with q | q
        · exact f2 m i a hm zz (k2 a q)
        · exact w2 a (f1 m a zz) q
    split at z
    · rename_i hj
      split
      · rename_i hk
        exact absurd (hj.trans hk.symm) hjk
      · rename_i hk
        exact fun y => hd k hk y z
    · rename_i hj
      split
      · exact hd j hj z
      · exact f2 j k a hjk z
  · by_cases hj : j = i
    · subst hj
      rw [List.getElem?_set_self (List.getElem?_eq_some_iff.mp e0).1] at e
      cases e
      refine ⟨v0, q0, ?_⟩
      simp only [if_pos]
      exact k4 H' _ _ d' G hI hM (fun a o q _ n => hH a o q n) hG1 (fun a z => w2 a (f1 j a z)) (hr _ _ (fun _ z => z) fun _ z => z)
    · rw [List.getElem?_set_ne (Ne.symm hj)] at e
      obtain ⟨v', q, r'⟩ := f3 j d2 e
      refine ⟨v', q, ?_⟩
      simp only [if_neg hj]
      exact Rep.mono hI hM d2 v' _ _ (fun a o q z => hH a o q fun y => f2 j i a hj z (k2 a y)) (fun _ z => z) r'
/-- what was set aside is forgotten -/
theorem Sat.unaside {F : AS} (hsb : ∀ a, c.S a → c.B a) (s : Sat K (c.aside F) E σ H W) : Sat K c E σ H W := by
  obtain ⟨w1, ws, sb, w2, w3, wz, wp, w4, fp, f1, f2, f3⟩ := s
  refine ⟨fun a z y => w1 a z (.inl y), fun a z y => ws a z (.inl y), hsb, w2, fun a z => w3 a (.inl z), wz, wp, w4, fp, f1, f2, fun i d e => ?_⟩
  · obtain ⟨v, q, r⟩ := f3 i d e
    exact ⟨v, q, Rep.mono (fun a o q n => ⟨q, fun y => n (y.imp id .inl)⟩) (fun a o q n => ⟨q, fun y => n (y.imp id .inl)⟩) d v _ _ (fun _ _ q _ => q) (fun _ z => z) r⟩
end
end PD
namespace PD
open PySem L2

def partOf (E : Env) (i : Nat) (p : List Nat) : Option D := match E[i]? with
  | some (some d0) => getP p d0
  | _ => none
def updE (E : Env) (i : Nat) (p : List Nat) (d : D) : Env := match E[i]? with
  | some (some d0) => E.set i (some (setP p d d0))
  | _ => E
def toM {α : Type} (r : Res α) (E : Env) (f : α → MRes) : MRes := match r with
  | .ok a => f a
  | .ex e => .ex e E
  | .bad => .bad
abbrev GP := Env → Res (List Nat)
def GoodP (i : Nat) (g : GP) : Prop := ∀ E p, g E = .ok p → ∃ d, partOf E i p = some d
theorem partOf_some {E : Env} {i : Nat} {p : List Nat} {d : D} (h : partOf E i p = some d) : ∃ d0, E[i]? = some (some d0) ∧ getP p d0 = some d := by
  unfold partOf at h
  split at h
  · rename_i d0 e
    exact ⟨d0, e, h⟩
  · cases h
theorem updE_eq {E : Env} {i : Nat} {p : List Nat} {d0 d : D} (h : E[i]? = some (some d0)) : updE E i p d = E.set i (some (setP p d d0)) := by
  unfold updE
  rw [h]
def tP (K : PySem.W.Frag) (c : Cc) (i : Nat) (g : GP) : TE := fun σ H Q => ∃ E W, Sat K c E σ H W ∧ match g E with
  | .ok p => ∀ v0 v H', Same H H' → σ[i]? = some (some v0) → walkV H' p v0 = some v → Q v H'
  | .ex e => ∀ u dd H', Same H H' → ERep K c.cl H' (c.I W) e u dd → c.Wx u dd σ H'
  | .bad => False
structure JP (X : Cx) (c : Cc) (i : Nat) (e : Expr) (g : GP) : Prop where
  pe : PE X e (tP X.K c i g)
  good : GoodP i g
section
variable {X : Cx} {c : Cc} {pos : Pos} {a b e : Expr} {i : Nat} {ga gb g : Env → Res D} {gp : GP}
/-- a place's value used -/
theorem tP_use {W : AS} {σ : St} {H : Hp} {E : Env} {Q : VK} (h : GoodP i gp) (s : Sat X.K c E σ H W) (hx : ∀ e, gp E = .ex e → ∀ u dd H', Same H H' → ERep X.K c.cl H' (c.I W) e u dd → c.Wx u dd σ H') (hb : gp E ≠ .bad)
    (hk : ∀ p, gp E = .ok p → ∀ d v H', Same H H' → partOf E i p = some d → Sat X.K c E σ H' W → (∃ v0, σ[i]? = some (some v0) ∧ walkV H' p v0 = some v) → Q v H') : tP X.K c i gp σ H Q := by
  refine ⟨E, W, s, ?_⟩
  cases e : gp E with
  | ok p =>
    obtain ⟨d, hd⟩ := h E p e
    exact fun v0 v H' sm q1 q2 => hk p e d v H' sm hd (s.same sm) ⟨v0, q1, q2⟩
  | ex x => exact hx x e
  | bad => exact hb e
def gP0 (i : Nat) : GP := fun E => match E[i]? with
  | some (some _) => .ok []
  | _ => .bad
theorem jp_var {x : Str} (h : PE X (.Name x pos) (tVar i)) : JP X c i (.Name x pos) (gP0 i) := ⟨PE.weak h fun σ H Q ⟨E, W, s, q⟩ => by
  unfold gP0 at q
  cases e : E[i]? with
  | none => rw [e] at q; exact q.elim
  | some o =>
    cases o with
    | none => rw [e] at q; exact q.elim
    | some d =>
      rw [e] at q
      obtain ⟨v, F, e2, f, r⟩ := s.get e
      exact ⟨v, e2, q v v H same_refl e2 rfl⟩, fun E p h => by
  unfold gP0 at h
  split at h
  · rename_i d e
    cases h
    exact ⟨d, by unfold partOf; rw [e]; rfl⟩
  · cases h⟩
theorem walkV_part {σ : St} {W : AS} {H : Hp} {E : Env} {p : List Nat} {d : D} {v0 v : V} (s : Sat X.K c E σ H W) (h : partOf E i p = some d) (q : σ[i]? = some (some v0)) (w : walkV H p v0 = some v) : ∃ F, (∀ a, F a → W a) ∧ Rep X.K c.cl H (c.I W) (c.M W) d v F := by
  obtain ⟨d0, q1, q2⟩ := partOf_some h
  obtain ⟨v0', v', F1, g1, g2, g3, g4, _, _⟩ := s.mut q1 q2
  rw [q] at g1
  cases g1
  rw [w] at g2
  cases g2
  exact ⟨F1, g3, g4⟩
end
def resM (K : PySem.W.Frag) (c : Cc) (W : AS) (σ : St) (H : Hp) (o : MRes) (Q : VK) : Prop := match o with
  | .ok d E => ∀ v H' W' F, Step H W H' (fun a => W' a ∨ F a) → Sat K (c.aside F) E σ H' W' → Rep K c.cl H' ((c.aside F).I W') (fun _ => True) d v F → Q v H'
  | .ex e E => ∀ u dd H' W', Step H W H' W' → Sat K c E σ H' W' → ERep K c.cl H' (c.I W') e u dd → c.Wx u dd σ H'
  | .bad => False
def tM (K : PySem.W.Frag) (c : Cc) (g : Env → MRes) : TE := fun σ H Q => ∃ E W, Sat K c E σ H W ∧ resM K c W σ H (g E) Q
structure JM (X : Cx) (c : Cc) (e : Expr) (g : Env → MRes) : Prop where pe : PE X e (tM X.K c g)
section
variable {X : Cx} {c : Cc} {pos : Pos} {a b e : Expr} {i : Nat} {ga gb g : Env → Res D} {gp : GP} {gm : Env → MRes} {K : PySem.W.Frag} {W W' : AS} {σ : St} {H H' : Hp} {E : Env}
theorem resM_back {o : MRes} {Q : VK} (t : Step H W H' W') (q : resM K c W σ H o Q) : resM K c W' σ H' o Q := by
  cases o with
  | ok d E => exact fun v H2 W2 F t2 => q v H2 W2 F (t.trans t2)
  | ex e E => exact fun u dd H2 W2 t2 => q u dd H2 W2 (t.trans t2)
  | bad => exact q
theorem exM_ok {x : Exc} {Q : VK} (s : Sat K c E σ H W) (q : resM K c W σ H (.ex x E) Q) : ∀ u dd H', Same H H' → ERep K c.cl H' (c.I W) x u dd → c.Wx u dd σ H' := fun u dd H' sm r => q u dd H' W (Step.same sm) (s.same sm) r
end
end PD
namespace PD
open PySem L2

section
variable {K : PySem.W.Frag} {cl : Tb} {H : Hp} {I M : AS}
theorem RepL.append2 : ∀ {xs ys : List D} {vs ws : List V} {F1 F2 : AS}, RepL K cl H I M xs vs F1 → RepL K cl H I M ys ws F2 → (∀ a, F1 a → ¬ F2 a) → RepL K cl H I M (xs ++ ys) (vs ++ ws) (fun a => F1 a ∨ F2 a)
  | [], ys, vs, ws, F1, F2, h1, h2, _ => by
    have h1 : vs = [] := h1
    subst h1
    exact RepL.weaken (fun a z => .inr z) h2
  | x :: xs, ys, vs, ws, F1, F2, h1, h2, hd => by
    obtain ⟨v, vs2, G1, G2, rfl, r1, r2, a1, a2, a3⟩ := h1
    exact ⟨v, vs2 ++ ws, G1, fun a => G2 a ∨ F2 a, rfl, r1, RepL.append2 r2 h2 fun a z => hd a (a2 a z), fun a z => .inl (a1 a z), fun a z => z.imp (a2 a) id, fun a z y => y.elim (a3 a z) (hd a (a1 a z))⟩
theorem RepL.split : ∀ {xs ys : List D} {vs : List V} {F : AS}, RepL K cl H I M (xs ++ ys) vs F → ∃ vs1 vs2 F1 F2, vs = vs1 ++ vs2 ∧ RepL K cl H I M xs vs1 F1 ∧ RepL K cl H I M ys vs2 F2 ∧ (∀ a, F1 a → F a) ∧ (∀ a, F2 a → F a) ∧ (∀ a, F1 a → ¬ F2 a)
  | [], ys, vs, F, h => ⟨[], vs, none_, F, rfl, rfl, h, fun _ z => z.elim, fun _ z => z, fun _ z => z.elim⟩
  | x :: xs, ys, vs, F, h => by
    obtain ⟨v, ws, G1, G2, rfl, r1, r2, a1, a2, a3⟩ := h
    obtain ⟨vs1, vs2, F1, F2, rfl, s1, s2, b1, b2, b3⟩ := RepL.split r2
    exact ⟨v :: vs1, vs2, fun a => G1 a ∨ F1 a, F2, rfl, ⟨v, vs1, G1, F1, rfl, r1, s1, fun a z => .inl z, fun a z => .inr z, fun a z y => a3 a z (b1 a y)⟩, s2, fun a z => z.elim (a1 a) fun y => a2 a (b1 a y), fun a z => a2 a (b2 a z), fun a z y => z.elim (fun x => a3 a x (b2 a y)) fun x => b3 a x y⟩
theorem RepL.one {x : D} {v : V} {F : AS} (r : Rep K cl H I M x v F) : RepL K cl H I M [x] [v] F := ⟨v, [], F, none_, rfl, r, rfl, fun _ z => z, fun _ z => z.elim, fun _ _ z => z.elim⟩
end
/-- a method that changes a part of ours -/
def MutR (K : PySem.W.Frag) (r : V → List V → Hp → VK → Prop) (f : List D → List D → Res (D × List D)) : Prop :=
  ∀ (cl : Tb) (H : Hp) (I M F1 Fa : AS) (d : List D) (v : V) (ds : List D) (vs : List V) (Q : VK) (res : D) (d' : List D), (∀ a, F1 a → I a) → (∀ a, F1 a → M a) → (∀ a, F1 a ∨ Fa a → H a ≠ none) → (∀ a, F1 a → ¬ Fa a) → Rep K cl H I M (.lst .own d) v F1 → RepL K cl H I (fun _ => True) ds vs Fa → f d ds = .ok (res, d') →
    (∀ w H' Fx G, (∀ a o, H a = some o → ¬ F1 a → H' a = some o) → (∀ a, H a ≠ none → H' a ≠ none) → (∀ a, Fx a ∨ G a → (F1 a ∨ Fa a ∨ H a = none) ∧ H' a ≠ none) → (∀ a, G a → ¬ Fx a) → (∀ I', (∀ a, I' a → I a ∨ H a = none) → Rep K cl H' I' (fun _ => True) res w Fx) →
      (∀ I' M', (∀ a, I' a → I a ∨ H a = none) → (∀ a, M' a → M a ∨ H a = none) → Rep K cl H' I' M' (.lst .own d') v G) → Q w H') → r v vs H Q
def gMut (i : Nat) (f : List D → List D → Res (D × List D)) (gp : GP) (ga : Env → Res (List D)) : Env → MRes := fun E => toM (gp E) E fun p => match partOf E i p with
  | some (.lst .own xs) => toM (ga E) E fun ds => toM (f xs ds) E fun rd => .ok rd.1 (updE E i p (.lst .own rd.2))
  | _ => .bad
def noXf (f : List D → List D → Res (D × List D)) : Prop := ∀ d ds x, f d ds ≠ .ex x
def gOne (g : Env → Res D) : Env → Res (List D) := fun E => g E >>= fun d => .ok [d]
section
variable {X : Cx} {c : Cc} {pos apos : Pos} {a b e e1 e2 : Expr} {i : Nat} {ga gb g g1 g2 : Env → Res D} {gs : Env → Res (List D)} {gp : GP} {gm : Env → MRes} {W W' : AS} {σ : St} {H H' : Hp} {E : Env} {r : V → List V → Hp → VK → Prop} {f : List D → List D → Res (D × List D)} {name : Str} {id : String}
/-- the change itself, behind the arguments -/
theorem mutsem {H1 : Hp} {Q : VK} {p : List Nat} {d : List D} {v : V} {ds : List D} {vs : List V} {Fa : AS} (hf : MutR X.K r f) (s : Sat X.K c E σ H W) (hd : partOf E i p = some (.lst .own d)) (hw : ∃ v0, σ[i]? = some (some v0) ∧ walkV H p v0 = some v) (sm : Same H H1) (ha : ∀ a, Fa a → H a = none ∧ H1 a ≠ none)
    (ra : RepL X.K c.cl H1 (fun a => c.I W a ∨ Fa a) (fun _ => True) ds vs Fa) (q : resM X.K c W σ H (toM (f d ds) E fun rd => .ok rd.1 (updE E i p (.lst .own rd.2))) Q) (nx : noXf f) : r v vs H1 Q := by
  obtain ⟨d0, q1, q2⟩ := partOf_some hd
  obtain ⟨v0, v', F1, g1, g2, g3, g4, _, g5⟩ := s.mut q1 q2
  obtain ⟨v0', w1, w2⟩ := hw
  rw [g1] at w1
  cases w1
  rw [g2] at w2
  cases w2
  cases e1 : f d ds with
  | bad => rw [e1] at q; exact q.elim
  | ex x => exact absurd e1 (nx _ _ _)
  | ok rd =>
    obtain ⟨res, d'⟩ := rd
    rw [e1] at q
    simp only [toM] at q
    rw [updE_eq q1] at q
    refine hf c.cl H1 (fun a => c.I W a ∨ Fa a) (fun a => c.M W a ∨ Fa a) F1 Fa d v ds vs Q res d' (fun a z => .inl (.inl (g3 a z))) (fun a z => .inl (.inl (g3 a z))) (fun a z => z.elim (fun y => Same.some_ sm (s.wh a (g3 a y))) fun y => (ha a y).2) (fun a z y => s.wh a (g3 a z) (ha a y).1) ?_ ra e1 ?_
    · refine Rep.mono (fun a o q n => ⟨sm a o q, fun y => ?_⟩) (fun a o q n => ⟨sm a o q, fun y => ?_⟩) (.lst .own d) v F1 F1 (fun a o q _ => sm a o q) (fun _ z => z) g4
      · rcases y with y | y
        · exact n y
        · rw [(ha a y).1] at q; cases q
      · rcases y with y | y
        · exact n y
        · rw [(ha a y).1] at q; cases q
    · intro w H2 Fx G k1 k2 k3 k4 k5 k6
      have fr : ∀ a, Fx a ∨ G a → (F1 a ∨ H a = none) ∧ H2 a ≠ none := fun a z => ⟨by
        rcases (k3 a z).1 with y | y | y
        · exact .inl y
        · exact .inr (ha a y).1
        · exact .inr (sm.free y), (k3 a z).2⟩
      have hI : ∀ I' : AS, (∀ a, I' a → ((W a ∧ ¬ F1 a) ∨ G a) ∨ (c.B a ∨ Fx a)) → ∀ a, I' a → (c.I W a ∨ Fa a) ∨ H1 a = none := fun I' h a z => by
        rcases h a z with (y | y) | y | y
        · exact .inl (.inl (.inl y.1))
        · rcases (k3 a (.inr y)).1 with x | x | x
          · exact .inl (.inl (.inl (g3 a x)))
          · exact .inl (.inr x)
          · exact .inr x
        · exact .inl (.inl (.inr y))
        · rcases (k3 a (.inl y)).1 with x | x | x
          · exact .inl (.inl (.inl (g3 a x)))
          · exact .inl (.inr x)
          · exact .inr x
      obtain ⟨t1, t2⟩ := g5 H2 Fx G (.lst .own d') (fun a o q n => k1 a o (sm a o q) n) (fun a q => k2 a (Same.some_ sm q)) (fun a z => fr a (.inl z)) (fun a z => fr a (.inr z)) k4 fun I' M' hI' hM' => k6 I' M' (hI I' hI') fun a z => by
        rcases hM' a z with (y | y) | y | y
        · exact .inl (.inl (.inl y.1))
        · rcases (k3 a (.inr y)).1 with x | x | x
          · exact .inl (.inl (.inl (g3 a x)))
          · exact .inl (.inr x)
          · exact .inr x
        · exact .inl (.inl (.inr y))
        · rcases (k3 a (.inl y)).1 with x | x | x
          · exact .inl (.inl (.inl (g3 a x)))
          · exact .inl (.inr x)
          · exact .inr x
      exact q w H2 _ Fx t2 t1 (k5 _ (hI _ fun a z => z))
theorem list_ty {d : List D} {v : V} {F : AS} (r : Rep X.K c.cl H (c.I W) (c.M W) (.lst .own d) v F) : tyV X.K "list" v H := by
  obtain ⟨p, vs, rfl, cc, _⟩ := r
  exact .inl ⟨rfl, vs, cell_sql cc⟩
theorem jm_m1 (slot : Slot "list" name id) (hty : typeOf (.builtin id) = pure (.type "method_descriptor")) (hm : MtR X id r) (hf : MutR X.K r f) (nx : noXf f) (ha : JP X c i a gp) (he : JN X c e g) (hb : attributeBase a name X.env (eval a X.env) = eval a X.env := by rfl)
    (h1 : ((backTo pos (starEach [e] X.env)).all (!·.1) && (backToKw pos (keywordEach [] X.env)).all (·.1.isSome) && decide (([e] : List Expr).length + ([] : List Keyword).length + (if ([] : List Keyword).isEmpty = true then 0 else 1) < 30)) = true := by rfl)
    (hp : (apos.endLine == pos.line) = true := by rfl) (hs : starEach [e] X.env = [(false, eval e X.env)] := by rfl) :
    JM X c (.Call (.Attribute a name apos) [e] [] pos) (gMut i f gp (gOne g)) := ⟨PE.weak (pe_bm PySem.F.plainAttrs_list slot hty hm ha.pe (pa_cons he.pe pa_nil hs) hb h1 hp hs rfl) fun σ H Q ⟨E, W, s, q⟩ => by
  unfold gMut gOne at q
  refine tP_use ha.good s (fun e e1 => by rw [e1] at q; exact exM_ok s q) (fun e1 => by rw [e1] at q; exact q) fun p e1 d v H1 sm hd s1 hw => ?_
  rw [e1] at q
  simp only [toM, hd] at q
  obtain ⟨v0, w1, w2⟩ := hw
  obtain ⟨F, _, rr⟩ := walkV_part s1 hd w1 w2
  cases d with
  | lst fl xs =>
    cases fl with
    | own =>
      have q' : resM X.K c W σ H1 _ Q := resM_back (Step.same sm) q
      clear q
      refine ⟨list_ty rr, tN_use s1 (fun x e2 => by rw [e2] at q'; exact exM_ok s1 q') (fun e2 => by rw [e2] at q'; exact q') fun d2 e2 y H2 F2 sm2 s2 f2 r2 => ?_⟩
      rw [e2] at q'
      exact mutsem hf s1 hd ⟨v0, w1, w2⟩ sm2 f2 (RepL.one r2) q' nx
    | _ => exact q.elim
  | _ => exact q.elim⟩
end
section
variable {K : PySem.W.Frag}
def fApp (xs ds : List D) : Res (D × List D) := match ds with
  | [d] => if xs.length < sizeLine then .ok (.non, xs ++ [d]) else .bad
  | _ => .bad
theorem nx_fApp : noXf fApp := fun d ds x h => by
  unfold fApp at h
  repeat' split at h
  all_goals cases h
theorem mut_of {cl : Tb} {H : Hp} {I M F1 Fa : AS} {d' : List D} {res : D} {Q : VK} {p : Addr} {w : V} {vs vs' : List V} {Fx G : AS} (hF : ∀ a, F1 a ∨ Fa a → H a ≠ none) (hI : ∀ a, F1 a → I a) (hp : H p = some (.lst vs)) (hFp : F1 p)
    (hx : ∀ a, Fx a ∨ G a → F1 a ∨ Fa a) (hGp : G p) (hG : ∀ a, G a → ¬ Fx a) (hxp : ∀ a, Fx a → a ≠ p)
    (rr : ∀ H' I' M', (∀ a o, H a = some o → ¬ I a → H' a = some o ∧ ¬ I' a) → (∀ a o, H a = some o → ¬ M a → H' a = some o ∧ ¬ M' a) → (∀ a o, H a = some o → a ≠ p → H' a = some o) → Rep K cl H' I' (fun _ => True) res w Fx ∧ RepL K cl H' I' M' d' vs' (fun a => G a ∧ a ≠ p)) (hMI : ∀ a, F1 a → M a)
    (q : ∀ w H' Fx G, (∀ a o, H a = some o → ¬ F1 a → H' a = some o) → (∀ a, H a ≠ none → H' a ≠ none) → (∀ a, Fx a ∨ G a → (F1 a ∨ Fa a ∨ H a = none) ∧ H' a ≠ none) → (∀ a, G a → ¬ Fx a) → (∀ I', (∀ a, I' a → I a ∨ H a = none) → Rep K cl H' I' (fun _ => True) res w Fx) →
      (∀ I' M', (∀ a, I' a → I a ∨ H a = none) → (∀ a, M' a → M a ∨ H a = none) → Rep K cl H' I' M' (.lst .own d') (.ref p) G) → Q w H') : Q w (upd H p (.lst vs')) := by
  have hn : ∀ a, H a ≠ none → upd H p (.lst vs') a ≠ none := fun a z => by
    unfold upd
    split
    · exact fun y => nomatch y
    · exact z
  have h1 : ∀ I' : AS, (∀ a, I' a → I a ∨ H a = none) → ∀ a o, H a = some o → ¬ I a → upd H p (.lst vs') a = some o ∧ ¬ I' a := fun I' h a o e n => by
    refine ⟨?_, fun z => ?_⟩
    · rw [upd_ne (fun y => n (by rw [y]; exact hI p hFp))]
      exact e
    · rcases h a z with y | y
      · exact n y
      · rw [y] at e; cases e
  have h2 : ∀ M' : AS, (∀ a, M' a → M a ∨ H a = none) → ∀ a o, H a = some o → ¬ M a → upd H p (.lst vs') a = some o ∧ ¬ M' a := fun I' h a o e n => by
    refine ⟨?_, fun z => ?_⟩
    · rw [upd_ne (fun y => n (by rw [y]; exact hMI p hFp))]
      exact e
    · rcases h a z with y | y
      · exact n y
      · rw [y] at e; cases e
  have h3 : ∀ a o, H a = some o → a ≠ p → upd H p (.lst vs') a = some o := fun a o e n => by
    rw [upd_ne n]
    exact e
  refine q w _ Fx G (fun a o e n => h3 a o e fun y => n (by rw [y]; exact hFp)) hn (fun a z => ⟨(hx a z).elim .inl fun y => .inr (.inl y), hn a (hF a (hx a z))⟩) hG (fun I' h => (rr _ I' none_ (h1 I' h) (h2 _ fun a z => z.elim) h3).1) fun I' M' hI' hM' => ?_
  exact ⟨p, vs', rfl, .inl ⟨upd_same, hGp⟩, (rr _ I' M' (h1 I' hI') (h2 M' hM') h3).2⟩
theorem own_lst {cl : Tb} {H : Hp} {I M F1 : AS} {d : List D} {v : V} (r : Rep K cl H I M (.lst .own d) v F1) : ∃ p ws, v = .ref p ∧ H p = some (.lst ws) ∧ F1 p ∧ RepL K cl H I M d ws (fun a => F1 a ∧ a ≠ p) := by
  obtain ⟨p, ws, rfl, cc, rr⟩ := r
  obtain ⟨c1, c2⟩ : H p = some (.lst ws) ∧ F1 p := cc.elim id fun z => nomatch z.1
  exact ⟨p, ws, rfl, c1, c2, rr⟩
theorem mut_app : MutR K rAppend fApp := fun cl H I M F1 Fa d v ds vs Q res d' hI hM hF hd r ra e q => by
  unfold fApp at e
  split at e
  · rename_i d2
    split at e
    · rename_i hz
      cases e
      obtain ⟨p, ws, rfl, c1, c2, rr⟩ := own_lst r
      obtain ⟨y, ys, G1, G2, rfl, r1, r2, a1, a2, a3⟩ := ra
      have r2 : ys = [] := r2
      subst r2
      refine ⟨p, ws, y, rfl, rfl, c1, by rw [rr.length]; exact hz, ?_⟩
      refine mut_of (res := .non) (w := .non) (Fx := none_) (G := fun a => F1 a ∨ Fa a) hF hI c1 c2 (fun a z => z.elim (fun y => y.elim) id) (.inl c2) (fun _ _ z => z) (fun _ z => z.elim) (fun H' I' M' h1 h2 h3 => ⟨rfl, ?_⟩) hM q
      refine RepL.weaken (fun a z => ?_) (RepL.append2 (RepL.mono h1 h2 d ws _ _ (fun a o q z => h3 a o q z.2) (fun _ z => z) rr) (RepL.one (Rep.mono h1 (fun a o _ n => absurd trivial n) d2 y G1 G1 (fun a o q z => h3 a o q fun y => hd p c2 (a1 p (y ▸ z))) (fun _ z => z) r1)) fun a z y => hd a z.1 (a1 a y))
      rcases z with z | z
      · exact ⟨.inl z.1, z.2⟩
      · exact ⟨.inr (a1 a z), fun y => hd p c2 (a1 p (y ▸ z))⟩
    · cases e
  · cases e
theorem rep_ints {cl : Tb} {H : Hp} {I M : AS} : ∀ {ns : List Int} {F : AS}, RepL K cl H I M (ns.map D.int) (ns.map V.int) F
  | [], F => rfl
  | i :: ns, F => ⟨.int i, ns.map V.int, none_, F, rfl, rfl, rep_ints, fun _ z => z.elim, fun _ z => z, fun _ z => z.elim⟩
end
section
variable {X : Cx} {c : Cc} {pos apos : Pos} {a e : Expr} {i : Nat} {g : Env → Res D} {gp : GP}
theorem jm_append (ha : JP X c i a gp) (he : JN X c e g) (hb : attributeBase a "append" X.env (eval a X.env) = eval a X.env := by rfl)
    (h1 : ((backTo pos (starEach [e] X.env)).all (!·.1) && (backToKw pos (keywordEach [] X.env)).all (·.1.isSome) && decide (([e] : List Expr).length + ([] : List Keyword).length + (if ([] : List Keyword).isEmpty = true then 0 else 1) < 30)) = true := by rfl)
    (hp : (apos.endLine == pos.line) = true := by rfl) (hs : starEach [e] X.env = [(false, eval e X.env)] := by rfl) : JM X c (.Call (.Attribute a "append" apos) [e] [] pos) (gMut i fApp gp (gOne g)) := jm_m1 PySem.F.slot_list_append PySem.F.type_list_append mt_append mut_app nx_fApp ha he hb h1 hp hs
end
end PD
namespace PD
open PySem L2

/-- arguments of a call that changes slot i's thing: they lie outside of it -/
def tB (K : PySem.W.Frag) (c : Cc) (i : Nat) (g : Env → Res (List D)) : TA := fun σ H Q => ∃ E W Fs, Sat K c E σ H W ∧ Sat K (c.aside Fs) (E.set i none) σ H (fun a => W a ∧ ¬ Fs a) ∧ (∀ a, Fs a → W a) ∧ match g E with
  | .ok ds => ∀ vs H', Same H H' → RepL K c.cl H' (c.I W) Fs ds vs none_ → Q vs H'
  | .ex e => ∀ u dd H', Same H H' → ERep K c.cl H' (c.I W) e u dd → c.Wx u dd σ H'
  | .bad => False
structure JB (X : Cx) (c : Cc) (i : Nat) (es : List Expr) (g : Env → Res (List D)) : Prop where pa : PA X es (tB X.K c i g)
section
variable {X : Cx} {c : Cc} {pos apos : Pos} {a b e o : Expr} {es : List Expr} {kws : List Keyword} {i k n : Nat} {ga gk gs : Env → Res (List D)} {gp : GP} {K : PySem.W.Frag} {W W' : AS} {σ : St} {H H' : Hp} {E : Env} {T : Tb}
theorem PA.ex {ι : Type} {es : List Expr} {t : ι → TA} (h : ∀ i, PA X es (t i)) : PA X es (fun σ H Q => ∃ i, t i σ H Q) := ⟨fun pos pins s σ H Q I ⟨i, q⟩ => (h i).run pos pins s σ H Q I q⟩
theorem PK.ex {ι : Type} {es : List Keyword} {t : ι → TA} (h : ∀ i, PK X es (t i)) : PK X es (fun σ H Q => ∃ i, t i σ H Q) := ⟨fun pos pins s σ H Q I ⟨i, q⟩ => (h i).run pos pins s σ H Q I q⟩
end
end PD
namespace PD
open PySem L2

section
variable {X : Cx} {c : Cc} {T : Tb} {k n i : Nat} {f C : Addr} {fd : FuncData} {ps ks : List Str} {x m : Str} {p pos apos : Pos} {e o : Expr} {es : List Expr} {kws : List Keyword} {dvs : List V} {dds : List D} {ds : List Value} {g : List Value → List Value → List Value} {gV : List V → List V → List V}
  {Fm : List D → MR} {ga gk gl : Env → Res (List D)} {gp : GP}
end
section
variable {X : Cx} {c : Cc} {pos : Pos} {e : Expr} {gm : Env → MRes} {i : Nat} {x : Str}
def exprSM (g : Env → MRes) : Env → Out := fun E => match g E with
  | .ok _ E => .nx E
  | .ex e E => .ex e E
  | .bad => .bad
theorem js_exprM (h : JM X c e gm) (hs : swapsWith e none pos.line X.env = pure false := by rfl) : JS X c (.Expr e pos) (exprSM gm) := ⟨PS.weak (ps_expr h.pe hs) fun D σ H ⟨E, W, s, q⟩ => by
  unfold exprSM at q
  refine ⟨E, W, s, ?_⟩
  cases e1 : gm E with
  | ok d E1 =>
    rw [e1] at q
    intro v H' W' F st s2 r
    exact q σ H' W' ⟨st.1, st.2.1, fun a z => st.2.2 a (.inl z)⟩ (Sat.unaside s.sb s2)
  | ex x E1 =>
    rw [e1] at q
    exact fun u dd H' W' st s2 er => q u dd σ H' W' st s2 er
  | bad => rw [e1] at q; exact q⟩
end
inductive TO where
  | ok (b : Bool) (E : Env)
  | ex (e : Exc) (E : Env)
  | bad
def resMT (K : PySem.W.Frag) (c : Cc) (W : AS) (σ : St) (H : Hp) (o : TO) (Q : Bool → Hp → Prop) : Prop := match o with
  | .ok b E => ∀ H' W', Step H W H' W' → Sat K c E σ H' W' → Q b H'
  | .ex e E => ∀ u dd H' W', Step H W H' W' → Sat K c E σ H' W' → ERep K c.cl H' (c.I W') e u dd → c.Wx u dd σ H'
  | .bad => False
def tMT (K : PySem.W.Frag) (c : Cc) (g : Env → TO) : TT := fun σ H Q => ∃ E W, Sat K c E σ H W ∧ resMT K c W σ H (g E) Q
structure JMT (X : Cx) (c : Cc) (e : Expr) (g : Env → TO) : Prop where pt : PT X e (tMT X.K c g)
structure JMW (X : Cx) (c : Cc) (e : Expr) (g : Env → TO) : Prop where pw : PW X e (tMT X.K c g)
section
variable {X : Cx} {c : Cc} {pos : Pos} {a b e : Expr} {gm : Env → MRes} {g : Env → Res D} {gt : Env → Res Bool} {gx gy : Env → TO} {rest : List Expr} {K : PySem.W.Frag} {W W' : AS} {σ : St} {H H' : Hp} {E : Env}
end
end PD
namespace PD
open PySem L2

/-- a built-in function of one thing that it looks at -/
def Un1 (K : PySem.W.Frag) (k : V → Hp → VK → Prop) (f : D → Res D) : Prop := ∀ (cl : Tb) (H : Hp) (I M F : AS) (d : D) (v : V) (Q : VK) (res : D), (∀ a, I a → H a ≠ none) → Rep K cl H I M d v F → f d = .ok res →
  (∀ w H' F', Same H H' → (∀ a, F' a → H a = none ∧ H' a ≠ none) → Rep K cl H' (fun a => I a ∨ F' a) (fun _ => True) res w F' → Q w H') → k v H Q
def NoX1 (f : D → Res D) : Prop := ∀ d e, f d ≠ .ex e
theorem CallR.or2 {X : Cx} {f : Value} {r1 r2 : List V → Hp → VK → Prop} (h1 : CallR X f r1) (h2 : CallR X f r2) : CallR X f (fun vs H Q => r1 vs H Q ∨ r2 vs H Q) := fun pins s σ H xs us Q I r h => h.elim (h1 pins s σ H xs us Q I r) (h2 pins s σ H xs us Q I r)
section
variable {X : Cx} {c : Cc} {pos p apos : Pos} {a b e o : Expr} {ga gb g : Env → Res D} {x : Str} {id T : String} {r : List V → Hp → VK → Prop} {k : V → Hp → VK → Prop} {f : D → Res D}
theorem unsem {W : AS} {σ : St} {H : Hp} {E : Env} {Q : VK} (u : Un1 X.K k f) (nx : NoX1 f) (s : Sat X.K c E σ H W) (q : resN X.K c W σ H (gUn f g E) Q) : tV X.K c g σ H fun v H1 => k v H1 Q := by
  unfold gUn at q
  refine tV_use s (fun e e1 => by rw [e1] at q; exact q) (fun e1 => by rw [e1] at q; exact q) fun d e1 v H1 F sm s1 fF rr => ?_
  rw [e1] at q
  simp only [res_bind_ok] at q
  cases e2 : f d with
  | ex x => exact absurd e2 (nx _ _)
  | bad => rw [e2] at q; exact q.elim
  | ok res =>
    rw [e2] at q
    exact u c.cl H1 (c.I W) (c.M W) F d v Q res s1.ih rr e2 fun w H2 F2 sm2 f2 r2 => q w H2 F2 (sm.trans sm2) (fun a z => ⟨sm.free (f2 a z).1, (f2 a z).2⟩) r2
/-- f(e): a built-in function -/
theorem jn_b1 (hc : CallR X (.builtin id) r) (hk : ∀ v H Q, k v H Q → r [v] H Q) (u : Un1 X.K k f) (nx : NoX1 f) (hg : Gl X x) (hm : X.mg x = none) (hv : bootBuiltins x = some (.builtin id)) (ha : JV X c a g)
    (h1 : x ≠ ("__name__" : Str) := by decide) (h2 : (x == ("__debug__" : Str)) = false := by decide) (h3 : starEach [a] X.env = (false, eval a X.env) :: starEach [] X.env := by rfl) (h4 : (backTo pos (starEach [] X.env)).any (·.1) = false := by rfl) :
    JN X c (.Call (.Name x p) [a] [] pos) (gUn f g) := ⟨PE.weak (pe_callB hc hg hm hv (pa_cons ha.pe pa_nil h3) h1 h2 h3 h4) fun σ H Q ⟨E, W, s, q⟩ => by
  have := unsem u nx s q
  obtain ⟨E1, W1, s1, q1⟩ := this
  refine ⟨E1, W1, s1, ?_⟩
  cases e : g E1 with
  | ok d => rw [e] at q1; exact fun v H' sm hr => hk v H' Q (q1 v H' sm hr)
  | ex x => rw [e] at q1; exact q1
  | bad => rw [e] at q1; exact q1⟩
theorem jn_t1 (hc : CallR X (.type T) r) (hk : ∀ v H Q, k v H Q → r [v] H Q) (u : Un1 X.K k f) (nx : NoX1 f) (hg : Gl X x) (hm : X.mg x = none) (hv : bootBuiltins x = some (.type T)) (ha : JV X c a g)
    (h1 : x ≠ ("__name__" : Str) := by decide) (h2 : (x == ("__debug__" : Str)) = false := by decide) (h3 : starEach [a] X.env = (false, eval a X.env) :: starEach [] X.env := by rfl) (h4 : (backTo pos (starEach [] X.env)).any (·.1) = false := by rfl) :
    JN X c (.Call (.Name x p) [a] [] pos) (gUn f g) := ⟨PE.weak (pe_callTy hc hg hm hv (pa_cons ha.pe pa_nil h3) h1 h2 h3 h4) fun σ H Q ⟨E, W, s, q⟩ => by
  have := unsem u nx s q
  obtain ⟨E1, W1, s1, q1⟩ := this
  refine ⟨E1, W1, s1, ?_⟩
  cases e : g E1 with
  | ok d => rw [e] at q1; exact fun v H' sm hr => hk v H' Q (q1 v H' sm hr)
  | ex x => rw [e] at q1; exact q1
  | bad => rw [e] at q1; exact q1⟩
end
theorem scal {K : PySem.W.Frag} {cl : Tb} {H : Hp} {I : AS} {Q : VK} {res : D} {w : V} (q : ∀ w H' F', Same H H' → (∀ a, F' a → H a = none ∧ H' a ≠ none) → Rep K cl H' (fun a => I a ∨ F' a) (fun _ => True) res w F' → Q w H') (r : Rep K cl H (fun a => I a ∨ none_ a) (fun _ => True) res w none_) : Q w H := q w H none_ same_refl (fun _ z => z.elim) r
def lenD : D → Res D
  | .lst _ xs => .ok (.int xs.length)
  | .tup xs => .ok (.int xs.length)
  | .ktup xs => .ok (.int xs.length)
  | .str s => if s.length ≤ sizeLine then .ok (.int s.length) else .bad
  | .dk f ks _ => if f = .frz then .bad else .ok (.int ks.length)
  | .dt f ks _ => if f = .frz then .bad else .ok (.int ks.length)
  | _ => .bad
theorem nx_len : NoX1 lenD := fun d e h => by
  unfold lenD at h
  repeat' split at h
  all_goals cases h
def kLen (K : PySem.W.Frag) : V → Hp → VK → Prop := fun x H Q => (∃ n, LenV K x H n ∧ Q (.int n) H) ∨ (∃ a kvs, x = V.ref a ∧ H a = some (.dK kvs) ∧ Q (.int kvs.length) H) ∨ ∃ (p : Addr) (kvs : List (List Key × V)), x = .ref p ∧ H p = some (.dT kvs) ∧ Q (.int ((kvs.length : Nat) : Int)) H
theorem un_len {K : PySem.W.Frag} : Un1 K (kLen K) lenD := fun cl H I M F d v Q res hi r e q => by
  unfold lenD at e
  split at e
  · cases e
    obtain ⟨p, vs, rfl, cc, rr⟩ := r
    exact .inl ⟨_, .inl ⟨vs, cell_sql cc, rfl⟩, by rw [rr.length]; exact scal q rfl⟩
  · cases e
    obtain ⟨p, vs, rfl, cc, rr⟩ := r
    exact .inl ⟨_, .inr ⟨vs, .inl (.inl cc.1), rfl⟩, by rw [rr.length]; exact scal q rfl⟩
  · cases e
    obtain ⟨p, vs, rfl, cc, rr⟩ := r
    exact .inl ⟨_, .inr ⟨vs, .inr cc, rfl⟩, by rw [rr.length]; exact scal q rfl⟩
  · split at e
    · rename_i hz
      cases e
      have r : v = .str _ := r
      subst r
      exact .inl ⟨_, ⟨hz, rfl⟩, scal q rfl⟩
    · cases e
  · split at e
    · cases e
    · rename_i hf
      cases e
      obtain ⟨p, vs, rfl, hl, cc, rr⟩ := r
      refine .inr (.inl ⟨p, _, rfl, cell_some cc hf, ?_⟩)
      rw [List.length_zip, rr.length, hl, Nat.min_self]
      rw [hl] at q
      exact scal q rfl
  · split at e
    · cases e
    · rename_i hf
      cases e
      obtain ⟨p, vs, rfl, hl, cc, rr⟩ := r
      refine .inr (.inr ⟨p, _, rfl, cell_some cc hf, ?_⟩)
      rw [List.length_zip, rr.length, hl, Nat.min_self]
      rw [hl] at q
      exact scal q rfl
  · cases e
section
variable {X : Cx} {c : Cc} {pos p apos : Pos} {a b e o : Expr} {ga gb g : Env → Res D}
theorem jn_len (hg : Gl X "len") (hm : X.mg "len" = none) (ha : JV X c a g) (h3 : starEach [a] X.env = (false, eval a X.env) :: starEach [] X.env := by rfl) (h4 : (backTo pos (starEach [] X.env)).any (·.1) = false := by rfl) : JN X c (.Call (.Name "len" p) [a] [] pos) (gUn lenD g) :=
  jn_b1 (CallR.or2 call_len (CallR.or2 call_lenD call_len_dT)) (fun v H Q h => by
    rcases h with ⟨n, h1, h2⟩ | ⟨a, kvs, rfl, h1, h2⟩ | ⟨a, kvs, rfl, h1, h2⟩
    · exact .inl ⟨v, n, rfl, h1, h2⟩
    · exact .inr (.inl ⟨a, kvs, rfl, h1, h2⟩)
    · exact .inr (.inr ⟨a, kvs, rfl, h1, h2⟩)) un_len nx_len hg hm (by decide +kernel) ha (by decide) (by decide) h3 h4
def intD : D → Res D
  | .int i => .ok (.int i)
  | .bl k => .ok (.int (if k then 1 else 0))
  | _ => .bad
theorem nx_int : NoX1 intD := fun d e h => by
  unfold intD at h
  split at h <;> cases h
theorem jn_intOf (hg : Gl X "int") (hm : X.mg "int" = none) (ha : JV X c a g) (h3 : starEach [a] X.env = (false, eval a X.env) :: starEach [] X.env := by rfl) (h4 : (backTo pos (starEach [] X.env)).any (·.1) = false := by rfl) : JN X c (.Call (.Name "int" p) [a] [] pos) (gUn intD g) :=
  jn_t1 (k := fun x H Q => (∃ i, x = .int i ∧ Q (.int i) H) ∨ ∃ k, x = .bl k ∧ Q (.int (if k then 1 else 0)) H) call_int1 (fun v H Q h => by
    rcases h with ⟨n, rfl, h2⟩ | ⟨n, rfl, h2⟩
    · exact .inl ⟨n, rfl, h2⟩
    · exact .inr ⟨n, rfl, h2⟩) (fun cl H I M F d v Q res hi r e q => by
      unfold intD at e
      split at e
      · cases e
        exact .inl ⟨_, r, scal q rfl⟩
      · cases e
        exact .inr ⟨_, r, scal q rfl⟩
      · cases e) nx_int hg hm (by decide +kernel) ha (by decide) (by decide) h3 h4
def absD : D → Res D
  | .int i => .ok (.int (if i < 0 then -i else i))
  | _ => .bad
theorem nx_abs : NoX1 absD := fun d e h => by
  unfold absD at h
  split at h <;> cases h
theorem jn_abs (hg : Gl X "abs") (hm : X.mg "abs" = none) (ha : JV X c a g) (h3 : starEach [a] X.env = (false, eval a X.env) :: starEach [] X.env := by rfl) (h4 : (backTo pos (starEach [] X.env)).any (·.1) = false := by rfl) : JN X c (.Call (.Name "abs" p) [a] [] pos) (gUn absD g) :=
  jn_b1 (k := fun x H Q => (∃ i, x = .int i ∧ Q (.int (if i < 0 then -i else i)) H)) call_abs (fun v H Q h => by
    obtain ⟨n, rfl, h2⟩ := h
    exact ⟨n, rfl, h2⟩) (fun cl H I M F d v Q res hi r e q => by
      unfold absD at e
      split at e
      · cases e
        exact ⟨_, r, scal q rfl⟩
      · cases e) nx_abs hg hm (by decide +kernel) ha (by decide) (by decide) h3 h4
def kD : Key → D
  | .inl i => .int i
  | .inr s => .str s
theorem immL_keys : ∀ ks : List Key, immL (ks.map kD) = true
  | [] => rfl
  | .inl _ :: ks => immL_keys ks
  | .inr _ :: ks => immL_keys ks
theorem repL_keys {K : PySem.W.Frag} {cl : Tb} {H : Hp} {I M : AS} : ∀ ks : List Key, RepL K cl H I M (ks.map kD) (ks.map kV) none_
  | [] => rfl
  | .inl i :: ks => RepL.none_cons (d := .int i) (v := .int i) rfl (repL_keys ks)
  | .inr s :: ks => RepL.none_cons (d := .str s) (v := .str s) rfl (repL_keys ks)
theorem zip_keys {ks : List Key} {ws : List V} (h : ks.length = ws.length) : (List.zip ks ws).map (fun kv => kV kv.1) = ks.map kV := by
  rw [show (fun kv : Key × V => kV kv.1) = kV ∘ Prod.fst from rfl, ← List.map_map, List.map_fst_zip (by omega)]
def listD : D → Res D
  | .lst f xs => if immL xs = true then .ok (.lst .own xs) else .bad
  | .tup xs => if immL xs = true then .ok (.lst .own xs) else .bad
  | .ktup xs => if immL xs = true then .ok (.lst .own xs) else .bad
  | .dk f ks _ => if f = .frz then .bad else .ok (.lst .own (ks.map kD))
  | _ => .bad
theorem nx_list : NoX1 listD := fun d e h => by
  unfold listD at h
  repeat' split at h
  all_goals cases h
theorem jn_listOf (hcalm : X.calm = true) (hg : Gl X "list") (hm : X.mg "list" = none) (ha : JV X c a g) (h3 : starEach [a] X.env = (false, eval a X.env) :: starEach [] X.env := by rfl) (h4 : (backTo pos (starEach [] X.env)).any (·.1) = false := by rfl) : JN X c (.Call (.Name "list" p) [a] [] pos) (gUn listD g) :=
  jn_t1 (k := fun x H Q => (∃ p ys, x = .ref p ∧ (SqL X.K H p ys ∨ SqT X.K H p ys) ∧ ∀ l, H l = none → Q (.ref l) (upd H l (.lst ys))) ∨ ∃ p kvs, x = .ref p ∧ Rd H p (.dK kvs) ∧ ∀ l, H l = none → Q (.ref l) (upd H l (.lst (kvs.map fun kv => kV kv.1)))) (CallR.or2 call_list_of (call_listD hcalm)) (fun v H Q h => by
    rcases h with ⟨p, ys, rfl, h2⟩ | ⟨p, kvs, rfl, h2⟩
    · exact .inl ⟨p, ys, rfl, h2⟩
    · exact .inr ⟨p, kvs, rfl, h2⟩) (fun cl H I M F d v Q res hi r e q => by
      have fin : ∀ {xs : List D} {p : Addr} {vs : List V} {G : AS}, immL xs = true → res = .lst .own xs → RepL X.K cl H I M xs vs G → ∀ l, H l = none → Q (.ref l) (upd H l (.lst vs)) := fun {xs p vs G} hm er rr l hl => by
        subst er
        exact q _ _ _ (Same.new hl) (new_own hl) (rep_lst hl rr hm)
      unfold listD at e
      split at e
      · split at e
        · rename_i hm
          cases e
          obtain ⟨p, vs, rfl, cc, rr⟩ := r
          exact .inl ⟨p, vs, rfl, .inl (cell_sql cc), fin (p := p) hm rfl rr⟩
        · cases e
      · split at e
        · rename_i hm
          cases e
          obtain ⟨p, vs, rfl, cc, rr⟩ := r
          exact .inl ⟨p, vs, rfl, .inr (.inl (.inl cc.1)), fin (p := p) hm rfl rr⟩
        · cases e
      · split at e
        · rename_i hm
          cases e
          obtain ⟨p, vs, rfl, cc, rr⟩ := r
          exact .inl ⟨p, vs, rfl, .inr (.inr cc), fin (p := p) hm rfl rr⟩
        · cases e
      · split at e
        · cases e
        · rename_i hf
          cases e
          obtain ⟨p, ws, rfl, hl, cc, rr⟩ := r
          have hl2 := hl.trans rr.length.symm
          refine .inr ⟨p, _, rfl, .inl (cell_some cc hf), fun l hl0 => ?_⟩
          rw [zip_keys hl2]
          exact q _ _ _ (Same.new hl0) (new_own hl0) (rep_lst hl0 (repL_keys (M := M) _) (immL_keys _))
      · cases e) nx_list hg hm (by decide +kernel) ha (by decide) (by decide) h3 h4
def tupleD : D → Res D
  | .lst f xs => if immL xs = true then .ok (.tup xs) else .bad
  | .tup xs => if immL xs = true then .ok (.tup xs) else .bad
  | .ktup xs => if immL xs = true then .ok (.ktup xs) else .bad
  | _ => .bad
theorem nx_tuple : NoX1 tupleD := fun d e h => by
  unfold tupleD at h
  repeat' split at h
  all_goals cases h
theorem jn_tupleOf (hg : Gl X "tuple") (hm : X.mg "tuple" = none) (ha : JV X c a g) (h3 : starEach [a] X.env = (false, eval a X.env) :: starEach [] X.env := by rfl) (h4 : (backTo pos (starEach [] X.env)).any (·.1) = false := by rfl) : JN X c (.Call (.Name "tuple" p) [a] [] pos) (gUn tupleD g) :=
  jn_t1 (k := fun x H Q => ∃ p ys, x = .ref p ∧ ((SqL X.K H p ys ∧ ∀ l, H l = none → Q (.ref l) (upd H l (.tup ys))) ∨ (SqT X.K H p ys ∧ Q (.ref p) H))) call_tuple_of (fun v H Q h => by
    obtain ⟨p, ys, rfl, h2⟩ := h
    exact ⟨p, ys, rfl, h2⟩) (fun cl H I M F d v Q res hi r e q => by
      unfold tupleD at e
      split at e
      · split at e
        · rename_i hm
          cases e
          obtain ⟨p, vs, rfl, cc, rr⟩ := r
          exact ⟨p, vs, rfl, .inl ⟨cell_sql cc, fun l hl => q _ _ none_ (Same.new hl) (fun _ z => z.elim) (rep_tup hi hl rr hm)⟩⟩
        · cases e
      · split at e
        · rename_i hm
          cases e
          obtain ⟨p, vs, rfl, cc, rr⟩ := r
          refine ⟨p, vs, rfl, .inr ⟨.inl (.inl cc.1), scal q ⟨p, vs, rfl, ⟨cc.1, fun z => z.elim cc.2 id⟩, ?_⟩⟩⟩
          exact RepL.mono (fun a o q n => ⟨q, fun z => z.elim n id⟩) (fun a o q n => ⟨q, n⟩) _ vs none_ none_ (fun _ _ q _ => q) (fun _ z => z) (RepL.imm (M' := fun _ => True) _ vs _ none_ hm rr)
        · cases e
      · split at e
        · rename_i hm
          cases e
          obtain ⟨p, vs, rfl, cc, rr⟩ := r
          refine ⟨p, vs, rfl, .inr ⟨.inr cc, scal q ⟨p, vs, rfl, cc, ?_⟩⟩⟩
          exact RepL.mono (fun a o q n => ⟨q, fun z => z.elim n id⟩) (fun a o q n => ⟨q, n⟩) _ vs none_ none_ (fun _ _ q _ => q) (fun _ z => z) (RepL.imm (M' := fun _ => True) _ vs _ none_ hm rr)
        · cases e
      · cases e) nx_tuple hg hm (by decide +kernel) ha (by decide) (by decide) h3 h4
def boolsOf : List D → Option (List Bool)
  | [] => some []
  | .bl k :: r => (boolsOf r).map (k :: ·)
  | _ => none
theorem boolsOf_rep {K : PySem.W.Frag} {cl : Tb} {H : Hp} {I M : AS} : ∀ {xs : List D} {ns : List Bool} {vs : List V} {F : AS}, boolsOf xs = some ns → RepL K cl H I M xs vs F → vs = ns.map V.bl
  | [], ns, vs, F, e, r => by
    cases e
    exact r
  | .bl i :: xs, ns, vs, F, e, r => by
    simp only [boolsOf] at e
    cases e1 : boolsOf xs with
    | none => rw [e1] at e; cases e
    | some ms =>
      rw [e1] at e
      cases e
      obtain ⟨v, ws, F1, F2, rfl, r1, r2, _⟩ := r
      have r1 : v = .bl i := r1
      rw [r1, boolsOf_rep e1 r2]
      rfl
  | .non :: xs, _, _, _, e, _ => by cases e
  | .int _ :: xs, _, _, _, e, _ => by cases e
  | .str _ :: xs, _, _, _, e, _ => by cases e
  | .tup _ :: xs, _, _, _, e, _ => by cases e
  | .ktup _ :: xs, _, _, _, e, _ => by cases e
  | .lst _ _ :: xs, _, _, _, e, _ => by cases e
  | .dk _ _ _ :: xs, _, _, _, e, _ => by cases e
  | .dt _ _ _ :: xs, _, _, _, e, _ => by cases e
  | .dn _ _ _ :: xs, _, _, _, e, _ => by cases e
  | .obj _ _ _ _ :: xs, _, _, _, e, _ => by cases e
def allD : D → Res D
  | .lst _ xs => match boolsOf xs with
    | some bs => .ok (.bl (bs.all id))
    | none => .bad
  | _ => .bad
theorem nx_all : NoX1 allD := fun d e h => by
  unfold allD at h
  repeat' split at h
  all_goals cases h
theorem jn_all (hcalm : X.calm = true) (hg : Gl X "all") (hm : X.mg "all" = none) (ha : JV X c a g) (h3 : starEach [a] X.env = (false, eval a X.env) :: starEach [] X.env := by rfl) (h4 : (backTo pos (starEach [] X.env)).any (·.1) = false := by rfl) : JN X c (.Call (.Name "all" p) [a] [] pos) (gUn allD g) :=
  jn_b1 (k := fun v H Q => rAll X.K [v] H Q) (cr_all hcalm) (fun v H Q h => h) (fun cl H I M F d v Q res hi r e q => by
      unfold allD at e
      split at e
      · split at e
        · rename_i bs e1
          cases e
          obtain ⟨p, vs, rfl, cc, rr⟩ := r
          have := boolsOf_rep e1 rr
          subst this
          exact ⟨p, bs, rfl, cell_sql cc, scal q rfl⟩
        · cases e
      · cases e) nx_all hg hm (by decide +kernel) ha (by decide) (by decide) h3 h4
def tyOf : D → Option String
  | .non => some "NoneType"
  | .bl _ => some "bool"
  | .int _ => some "int"
  | .str _ => some "str"
  | .tup _ => some "tuple"
  | .ktup _ => some "tuple"
  | .lst _ _ => some "list"
  | .dk f _ _ => if f = .frz then none else some "dict"
  | .dt f _ _ => if f = .frz then none else some "dict"
  | .dn _ _ _ => none
  | .obj _ _ _ _ => none
theorem tyOf_rep {K : PySem.W.Frag} {cl : Tb} {H : Hp} {I M F : AS} {d : D} {v : V} {T : String} (h : tyOf d = some T) (r : Rep K cl H I M d v F) : TyX K H v (.type T) := by
  cases d with
  | non => cases h; have r : v = .non := r; subst r; exact .base .non
  | bl b => cases h; have r : v = .bl b := r; subst r; exact .base (.bl b)
  | int i => cases h; have r : v = .int i := r; subst r; exact .base (.int i)
  | str s => cases h; have r : v = .str s := r; subst r; exact .base (.str s)
  | tup xs => cases h; obtain ⟨p, vs, rfl, cc, _⟩ := r; exact .base (.tup cc.1)
  | ktup xs =>
    cases h
    obtain ⟨p, vs, rfl, ⟨o, its, n, h1, h2, _⟩, _⟩ := r
    exact .kTuple h1 h2
  | lst f xs =>
    cases h
    obtain ⟨p, vs, rfl, cc, _⟩ := r
    rcases cc with cc | ⟨_, o, its, n, h1, h2, _⟩
    · cases f with
      | frz =>
        rcases cc.1 with z | ⟨o, z⟩
        · exact .base (.lst z)
        · exact .base (.frz z)
      | imm => exact .base (.lst cc.1)
      | bor => exact .base (.lst cc.1)
      | own => exact .base (.lst cc.1)
    · exact .kList h1 h2
  | dk f ks xs =>
    simp only [tyOf] at h
    split at h
    · cases h
    · rename_i hf
      cases h
      obtain ⟨p, vs, rfl, hl, cc, _⟩ := r
      exact .base (.dK (cell_some cc hf))
  | dt f ks xs =>
    simp only [tyOf] at h
    split at h
    · cases h
    · rename_i hf
      cases h
      obtain ⟨p, vs, rfl, hl, cc, _⟩ := r
      exact .base (.dT (cell_some cc hf))
  | dn f ks xs => cases h
  | obj f c ns xs => cases h
def isiD (T : String) (d : D) : Res D := match tyOf d with
  | some t => match kitB t T with
    | some b => .ok (.bl b)
    | none => .bad
  | none => .bad
theorem jn_isi {T : String} {y : Str} {py : Pos} (hg : Gl X "isinstance") (hm : X.mg "isinstance" = none) (hg2 : Gl X y) (hm2 : X.mg y = none) (hv : bootBuiltins y = some (.type T)) (ha : JV X c a g) (hd : (y == ("__debug__" : Str)) = false := by decide) (hn : y ≠ ("__name__" : Str) := by decide)
    (h3 : starEach [a, .Name y py] X.env = [(false, eval a X.env), (false, eval (.Name y py) X.env)] := by rfl) (h5 : starEach [.Name y py] X.env = [(false, eval (.Name y py) X.env)] := by rfl) (h4 : (backTo pos (starEach [.Name y py] X.env)).any (·.1) = false := by rfl) :
    JN X c (.Call (.Name "isinstance" p) [a, .Name y py] [] pos) (gUn (isiD T) g) := ⟨PE.weak (pe_callB call_isi hg hm (by decide +kernel) (pa_cons ha.pe (pa_cons (pe_bltn (v := .ty T) hg2 hm2 hv rfl hn hd) pa_nil h5) (by rw [h3, h5])) (by decide) (by decide) (by rw [h3, h5]) h4) fun σ H Q ⟨E, W, s, q⟩ => by
  unfold gUn at q
  refine tV_use s (fun e e1 => by rw [e1] at q; exact q) (fun e1 => by rw [e1] at q; exact q) fun d e1 v H1 F sm s1 f rr => ?_
  rw [e1] at q
  simp only [res_bind_ok, isiD] at q
  cases e2 : tyOf d with
  | none => rw [e2] at q; exact q.elim
  | some t =>
    rw [e2] at q
    simp only at q
    cases e3 : kitB t T with
    | none => rw [e3] at q; exact q.elim
    | some b =>
      rw [e3] at q
      exact ⟨v, .ty T, .type t, .type T, b, rfl, .ty T, tyOf_rep e2 rr, kit_ty e3, q _ _ none_ sm (fun _ z => z.elim) rfl⟩⟩
end
end PD
namespace PD
open PySem L2

def repS (s : Str) (n : Int) : Str := ⟨(List.replicate n.toNat s.cps).foldl (· ++ ·) #[]⟩
theorem foldl_empty : ∀ (n : Nat) (a : Array Nat), (List.replicate n (#[] : Array Nat)).foldl (· ++ ·) a = a
  | 0, a => rfl
  | n + 1, a => by
    rw [List.replicate_succ, List.foldl_cons, Array.append_empty]
    exact foldl_empty n a
theorem op_mul_str {X : Cx} : OpR X (binaryOp .Mult) (fun x y H Q => ∃ s n, x = .str s ∧ y = .int n ∧ -(2 ^ 63) ≤ n ∧ n < 2 ^ 63 ∧ s.length * n.toNat ≤ sizeLine ∧ Q (.str (repS s n)) H) := by
  intro pins s σ H x y v u Q I rx ry h
  obtain ⟨z, n, rfl, rfl, h1, h2, hz, q⟩ := h
  obtain ⟨t, rfl⟩ := rx
  obtain ⟨t', rfl⟩ := ry
  have e1 : n < 1 → Str.empty = repS z n := fun hn => by
    unfold repS
    have : n.toNat = 0 := by omega
    rw [this]
    rfl
  have e2 : (n == 1 || z.length == 0) = true → z = repS z n := fun hn => by
    unfold repS
    rw [Bool.or_eq_true] at hn
    rcases hn with hn | hn
    · have : n.toNat = 1 := by
        have := beq_iff_eq.mp hn
        omega
      rw [this]
      simp
    · have hl : z.cps.size = 0 := beq_iff_eq.mp hn
      have h0 : z.cps = #[] := Array.eq_empty_of_size_eq_zero hl
      rw [h0, foldl_empty]
      cases z
      simp at h0
      rw [h0]
  refine PySem.P.mul_str (t := t) ?_ (fun hn _ => ?_) (fun _ _ => ?_) ?_
  · rw [decide_eq_false (by omega), decide_eq_false (by omega)]
    rfl
  · have h3 : ((z.length * n.toNat : Nat) : Int) ≤ 16777216 := by
      have : sizeLine = 16777216 := rfl
      omega
    have h4 : ((n.toNat : Nat) : Int) = n := Int.toNat_of_nonneg (by omega)
    have h5 : (z.length : Int) * n ≤ 2 ^ 63 - 1 := by
      rw [← h4, ← Int.natCast_mul]
      omega
    have := Int.le_ediv_of_mul_le (by omega : (0 : Int) < n) h5
    omega
  · simp [Builtin.Str.tooLong, hz]
  · by_cases hn : n < 1
    · rw [if_pos hn]
      exact ⟨by decide, .str _, H, I.tok _, ⟨_, by rw [e1 hn]⟩, q⟩
    · rw [if_neg hn]
      by_cases hc : (n == 1 || z.length == 0) = true
      · rw [if_pos hc]
        exact ⟨.str _, H, I, ⟨t, by rw [← e2 hc]⟩, q⟩
      · rw [if_neg hc]
        exact ⟨PySem.fits_reps (by simp [Builtin.Str.tooLong, hz]), .str _, H, I.tok _, ⟨_, rfl⟩, q⟩
def mulA (x y : D) : Res D := match x with
  | .str s => match y with
    | .int n => if -(2 ^ 63) ≤ n ∧ n < 2 ^ 63 ∧ s.length * n.toNat ≤ sizeLine then .ok (.str (repS s n)) else .bad
    | _ => .bad
  | _ => mulD x y
theorem nx_mulA : NoX mulA := fun a b e h => by
  unfold mulA at h
  split at h
  · repeat' split at h
    all_goals cases h
  · exact nx_ii _ _ _ h
theorem op2_mulA {K : PySem.W.Frag} : Op2 K (fun x y H Q => (∃ s n, x = .str s ∧ y = .int n ∧ -(2 ^ 63) ≤ n ∧ n < 2 ^ 63 ∧ s.length * n.toNat ≤ sizeLine ∧ Q (.str (repS s n)) H) ∨ rI CMul (fun i j => V.int (i * j)) x y H Q) mulA := fun cl I M H da db d x y Fa Fb Q hi hm ra rb e q => by
  unfold mulA at e
  split at e
  · rename_i s
    split at e
    · rename_i n
      split at e
      · rename_i hz
        cases e
        have ra : x = .str s := ra
        have rb : y = .int n := rb
        subst ra rb
        exact .inl ⟨_, _, rfl, rfl, hz.1, hz.2.1, hz.2.2, q _ H none_ same_refl (fun _ z => z.elim) rfl⟩
      · cases e
    · cases e
  · exact .inr (op2_ii (fun i j h => by
    simp only [Bool.or_eq_true, Bool.and_eq_true, decide_eq_true_eq] at h
    exact h) cl I M H da db d x y Fa Fb Q hi hm ra rb e q)
section
variable {X : Cx} {c : Cc} {pos p apos : Pos} {a b e o : Expr} {ga gb g go : Env → Res D}
theorem jn_mulA (ha : JV X c a ga) (hb : JV X c b gb) : JN X c (.BinOp a .Mult b pos) (gBin mulA ga gb) := jn_op (OpR.or op_mul_str op_mul) op2_mulA nx_mulA ha hb
def maxD : D → D → Res D := ii (fun _ _ => true) fun i j => .int (if j > i then j else i)
def minD : D → D → Res D := ii (fun _ _ => true) fun i j => .int (if j < i then j else i)
theorem jn_b2 {id : String} {x : Str} {r : List V → Hp → VK → Prop} {k : R2} {f : D → D → Res D} (hc : CallR X (.builtin id) r) (hk : ∀ x y H Q, k x y H Q → r [x, y] H Q) (ho : Op2 X.K k f) (nx : NoX f) (hg : Gl X x) (hm : X.mg x = none) (hv : bootBuiltins x = some (.builtin id)) (ha : JV X c a ga) (hb : JV X c b gb)
    (h1 : x ≠ ("__name__" : Str) := by decide) (h2 : (x == ("__debug__" : Str)) = false := by decide) (h3 : starEach [a, b] X.env = (false, eval a X.env) :: starEach [b] X.env := by rfl) (h5 : starEach [b] X.env = (false, eval b X.env) :: starEach [] X.env := by rfl) (h4 : (backTo pos (starEach [b] X.env)).any (·.1) = false := by rfl) :
    JN X c (.Call (.Name x p) [a, b] [] pos) (gBin f ga gb) := ⟨PE.weak (pe_callB hc hg hm hv (pa_cons ha.pe (pa_cons hb.pe pa_nil h5) h3) h1 h2 h3 h4) fun σ H Q ⟨E, W, s, q⟩ => by
  unfold gBin at q
  refine tV_use s (fun e e1 => by rw [e1] at q; exact q) (fun e1 => by rw [e1] at q; exact q) fun da e1 x H1 Fa sm1 s1 fa ra => ?_
  rw [e1] at q
  simp only [res_bind_ok] at q
  refine tV_use s1 (fun e e2 => by rw [e2] at q; exact fun u dd H' sm => q u dd H' (sm1.trans sm)) (fun e2 => by rw [e2] at q; exact q) fun db e2 y H2 Fb sm2 s2 fb rb => ?_
  rw [e2] at q
  simp only [res_bind_ok] at q
  cases e3 : f da db with
  | ex x => exact absurd e3 (nx _ _ _)
  | bad => rw [e3] at q; exact q.elim
  | ok d =>
    rw [e3] at q
    refine hk _ _ _ _ (ho c.cl (c.I W) (c.M W) H2 da db d x y Fa Fb Q s2.ih s2.mi (ra.same sm2) rb e3 fun v H3 F sm3 f3 r3 => ?_)
    exact q v H3 F ((sm1.trans sm2).trans sm3) (fun a z => ⟨(sm1.trans sm2).free (f3 a z).1, (f3 a z).2⟩) r3⟩
theorem jn_max (hcalm : X.calm = true) (hg : Gl X "max") (hm : X.mg "max" = none) (ha : JV X c a ga) (hb : JV X c b gb) (h3 : starEach [a, b] X.env = (false, eval a X.env) :: starEach [b] X.env := by rfl) (h5 : starEach [b] X.env = (false, eval b X.env) :: starEach [] X.env := by rfl) (h4 : (backTo pos (starEach [b] X.env)).any (·.1) = false := by rfl) :
    JN X c (.Call (.Name "max" p) [a, b] [] pos) (gBin maxD ga gb) := jn_b2 (k := rI (fun _ _ => True) fun i j => .int (if j > i then j else i)) (call_max2 hcalm) (fun x y H Q ⟨i, j, e1, e2, _, q⟩ => ⟨i, j, by rw [e1, e2], q⟩) (op2_ii fun _ _ _ => trivial) nx_ii hg hm (by decide +kernel) ha hb (by decide) (by decide) h3 h5 h4
theorem jn_min (hcalm : X.calm = true) (hg : Gl X "min") (hm : X.mg "min" = none) (ha : JV X c a ga) (hb : JV X c b gb) (h3 : starEach [a, b] X.env = (false, eval a X.env) :: starEach [b] X.env := by rfl) (h5 : starEach [b] X.env = (false, eval b X.env) :: starEach [] X.env := by rfl) (h4 : (backTo pos (starEach [b] X.env)).any (·.1) = false := by rfl) :
    JN X c (.Call (.Name "min" p) [a, b] [] pos) (gBin minD ga gb) := jn_b2 (k := rI (fun _ _ => True) fun i j => .int (if j < i then j else i)) (call_min2 hcalm) (fun x y H Q ⟨i, j, e1, e2, _, q⟩ => ⟨i, j, by rw [e1, e2], q⟩) (op2_ii fun _ _ _ => trivial) nx_ii hg hm (by decide +kernel) ha hb (by decide) (by decide) h3 h5 h4
def strsOf : List D → Option (List Str)
  | [] => some []
  | .str k :: r => (strsOf r).map (k :: ·)
  | _ => none
theorem strsOf_rep {K : PySem.W.Frag} {cl : Tb} {H : Hp} {I M : AS} : ∀ {xs : List D} {ns : List Str} {vs : List V} {F : AS}, strsOf xs = some ns → RepL K cl H I M xs vs F → vs = ns.map V.str
  | [], ns, vs, F, e, r => by
    cases e
    exact r
  | .str i :: xs, ns, vs, F, e, r => by
    simp only [strsOf] at e
    cases e1 : strsOf xs with
    | none => rw [e1] at e; cases e
    | some ms =>
      rw [e1] at e
      cases e
      obtain ⟨v, ws, F1, F2, rfl, r1, r2, _⟩ := r
      have r1 : v = .str i := r1
      rw [r1, strsOf_rep e1 r2]
      rfl
  | .non :: xs, _, _, _, e, _ => by cases e
  | .int _ :: xs, _, _, _, e, _ => by cases e
  | .bl _ :: xs, _, _, _, e, _ => by cases e
  | .tup _ :: xs, _, _, _, e, _ => by cases e
  | .ktup _ :: xs, _, _, _, e, _ => by cases e
  | .lst _ _ :: xs, _, _, _, e, _ => by cases e
  | .dk _ _ _ :: xs, _, _, _, e, _ => by cases e
  | .dt _ _ _ :: xs, _, _, _, e, _ => by cases e
  | .dn _ _ _ :: xs, _, _, _, e, _ => by cases e
  | .obj _ _ _ _ :: xs, _, _, _, e, _ => by cases e
theorem rep_strs {K : PySem.W.Frag} {cl : Tb} {H : Hp} {I M : AS} : ∀ {ns : List Str} {F : AS}, RepL K cl H I M (ns.map D.str) (ns.map V.str) F
  | [], F => rfl
  | i :: ns, F => ⟨.str i, ns.map V.str, none_, F, rfl, rfl, rep_strs, fun _ z => z.elim, fun _ z => z, fun _ z => z.elim⟩
theorem imm_strs : ∀ ns : List Str, immL (ns.map D.str) = true
  | [] => rfl
  | i :: ns => by simp only [List.map_cons, immL, D.imm, imm_strs ns, Bool.and_self]
def joinD (x y : D) : Res D := match x with
  | .str a => match (match y with
    | .lst _ xs => strsOf xs
    | .tup xs => strsOf xs
    | _ => none) with
    | some ys => if (ys.map (·.length)).sum + ys.length * a.length ≤ 16777216 then .ok (.str (Txt.join a ys)) else .bad
    | none => .bad
  | _ => .bad
theorem nx_join : NoX joinD := fun a b e h => by
  unfold joinD at h
  split at h
  · split at h
    · split at h <;> cases h
    · cases h
  · cases h
/-- a text's method of one argument -/
def gBinS (f : D → D → Res D) (ga gb : Env → Res D) : Env → Res D := fun E => ga E >>= fun x => match x with
  | .str _ => gb E >>= fun y => f x y
  | _ => .bad
theorem jn_sm1 {id : String} {name : Str} {r : V → List V → Hp → VK → Prop} {k : R2} {f : D → D → Res D} (hsl : Slot "str" name id) (hty : typeOf (.builtin id) = pure (.type "method_descriptor")) (hm : MtR X id r) (hk : ∀ x y H Q, k x y H Q → r x [y] H Q) (ho : Op2 X.K k f) (nx : NoX f) (ha : JV X c a ga) (hb : JV X c b gb)
    (h1 : starEach [b] X.env = [(false, eval b X.env)] := by rfl) (h2 : attributeBase a name X.env (eval a X.env) = eval a X.env := by rfl) (h3 : (apos.endLine == pos.line) = true := by rfl) :
    JN X c (.Call (.Attribute a name apos) [b] [] pos) (gBinS f ga gb) := ⟨PE.weak (pe_m1 hsl hty hm ha.pe hb.pe h1 h2 h3) fun σ H Q ⟨E, W, s, q⟩ => by
  unfold gBinS at q
  refine tV_use s (fun e e1 => by rw [e1] at q; exact q) (fun e1 => by rw [e1] at q; exact q) fun da e1 x H1 Fa sm1 s1 fa ra => ?_
  rw [e1] at q
  simp only [res_bind_ok] at q
  cases da with
  | str z =>
    refine ⟨⟨z, ra⟩, tV_use s1 (fun e e2 => by rw [e2] at q; exact fun u dd H' sm => q u dd H' (sm1.trans sm)) (fun e2 => by rw [e2] at q; exact q) fun db e2 y H2 Fb sm2 s2 fb rb => ?_⟩
    rw [e2] at q
    simp only [res_bind_ok] at q
    cases e3 : f (.str z) db with
    | ex x => exact absurd e3 (nx _ _ _)
    | bad => rw [e3] at q; exact q.elim
    | ok d =>
      rw [e3] at q
      refine hk _ _ _ _ (ho c.cl (c.I W) (c.M W) H2 (.str z) db d x y Fa Fb Q s2.ih s2.mi (ra.same sm2) rb e3 fun v H3 F sm3 f3 r3 => ?_)
      exact q v H3 F ((sm1.trans sm2).trans sm3) (fun a z => ⟨(sm1.trans sm2).free (f3 a z).1, (f3 a z).2⟩) r3
  | _ => exact q.elim⟩
theorem op2_join {K : PySem.W.Frag} : Op2 K (fun x y H Q => ∃ a p, ∃ ys : List Str, x = .str a ∧ y = .ref p ∧ (SqL K H p (ys.map V.str) ∨ SqT K H p (ys.map V.str)) ∧ (ys.map (·.length)).sum + ys.length * a.length ≤ 16777216 ∧ Q (.str (Txt.join a ys)) H) joinD := fun cl I M H da db d x y Fa Fb Q hi hm ra rb e q => by
  unfold joinD at e
  split at e
  · rename_i a
    have ra : x = .str a := ra
    subst ra
    split at e
    · rename_i ys e1
      split at e
      · rename_i hz
        cases e
        split at e1
        · obtain ⟨p, vs, rfl, cc, rr⟩ := rb
          have := strsOf_rep e1 rr
          subst this
          exact ⟨a, p, ys, rfl, rfl, .inl (cell_sql cc), hz, q _ H none_ same_refl (fun _ z => z.elim) rfl⟩
        · obtain ⟨p, vs, rfl, cc, rr⟩ := rb
          have := strsOf_rep e1 rr
          subst this
          exact ⟨a, p, ys, rfl, rfl, .inr (.inl (.inl cc.1)), hz, q _ H none_ same_refl (fun _ z => z.elim) rfl⟩
        · cases e1
      · cases e
    · cases e
  · cases e
theorem jn_join (ha : JV X c a ga) (hb : JV X c b gb) (h1 : starEach [b] X.env = [(false, eval b X.env)] := by rfl) (h2 : attributeBase a "join" X.env (eval a X.env) = eval a X.env := by rfl) (h3 : (apos.endLine == pos.line) = true := by rfl) :
    JN X c (.Call (.Attribute a "join" apos) [b] [] pos) (gBinS joinD ga gb) := jn_sm1 PySem.F.slot_str_join PySem.F.type_str_join mt_join (fun x y H Q ⟨a, p, ys, e1, e2, h1, h2, q⟩ => ⟨a, p, ys, e1, by rw [e2], h1, h2, q⟩) op2_join nx_join ha hb h1 h2 h3
def splitD (x y : D) : Res D := match x, y with
  | .str a, .str b => if (b.length == 0) = false ∧ a.length + 2 ≤ sizeLine then .ok (.lst .own ((Txt.split a b).map D.str)) else .bad
  | _, _ => .bad
theorem nx_split : NoX splitD := fun a b e h => by
  unfold splitD at h
  repeat' split at h
  all_goals cases h
theorem op2_split {K : PySem.W.Frag} : Op2 K (fun x y H Q => ∃ a b, x = .str a ∧ y = .str b ∧ (b.length == 0) = false ∧ a.length + 2 ≤ sizeLine ∧ rNewStrs (Txt.split a b) H Q) splitD := fun cl I M H da db d x y Fa Fb Q hi hm ra rb e q => by
  unfold splitD at e
  split at e
  · rename_i a b
    have ra : x = .str a := ra
    have rb : y = .str b := rb
    subst ra rb
    split at e
    · rename_i hz
      cases e
      exact ⟨_, _, rfl, rfl, hz.1, hz.2, fun p hp => q _ _ _ (Same.new hp) (new_own hp) (rep_lst (F := none_) (M := none_) hp rep_strs (imm_strs _))⟩
    · cases e
  · cases e
theorem jn_split (ha : JV X c a ga) (hb : JV X c b gb) (h1 : starEach [b] X.env = [(false, eval b X.env)] := by rfl) (h2 : attributeBase a "split" X.env (eval a X.env) = eval a X.env := by rfl) (h3 : (apos.endLine == pos.line) = true := by rfl) :
    JN X c (.Call (.Attribute a "split" apos) [b] [] pos) (gBinS splitD ga gb) := jn_sm1 PySem.F.slot_str_split PySem.F.type_str_split mt_split (fun x y H Q ⟨a, b, e1, e2, h1, h2, q⟩ => ⟨a, b, e1, by rw [e2], h1, h2, q⟩) op2_split nx_split ha hb h1 h2 h3
end
end PD
namespace PD
open PySem L2

section
variable {X : Cx} {c : Cc} {pos : Pos} {a b e : Expr} {ga gb g : Env → Res D} {st : Stmt}
/-- things of the module's text -/
def TxtRep (K : PySem.W.Frag) (T : Tb) (d : D) (v : V) : Prop := ∀ (H : Hp) (I M F : AS), Rep K T H I M d v F
/-- a dict of the module, its keys texts -/
structure KTab (K : PySem.W.Frag) (w : World) (T : Tb) (d : Addr) (tab : List (Str × D)) : Prop where
  kd : ∃ es n, KDict K w d es n
  at_ : ∀ z, match tab.lookup z with
    | some dd => ∃ u0 v0, PySem.W.nsIn K d z = some (some u0) ∧ RelV v0 u0 ∧ TxtRep K T dd v0
    | none => PySem.W.nsIn K d z = some none
end
theorem tk_blk {X : Cx} {c : Cc} {s : Shared} {H : Hp} {scope : Scope} {cenv : PySem.Env} {fp : List Addr} {d : Addr} : Takes (X.blk s H scope cenv fp) (c.blk d).Wx := fun u s' ⟨_, _, _, _, _, _, _, _, _, _, _, _, _, _, _, _, q⟩ => q.elim
theorem ru {k : Nat} {A : Around} (r : Room k A) : A.units + 65 < cLine := by have := r.un; omega
theorem ru1 {k : Nat} {A : Around} (r : Room k A) : A.units + 1 < cLine := by have := r.un; omega
end PD
namespace PD
open PySem PySem.Spec PyProof.Rows L2

/-- names by number: those given, then signs that no name has -/
def nmOf (names : List Str) (i : Nat) : Str := match names[i]? with
  | some x => x
  | none => ⟨(List.replicate (i + 1) 35).toArray⟩
def nmOk (names : List Str) : Bool := decide names.Nodup && names.all fun x => x.cps.toList.head? != some 35
theorem nmOf_inj {names : List Str} (h : nmOk names = true) (i j : Nat) (e : nmOf names i = nmOf names j) : i = j := by
  unfold nmOk at h
  rw [Bool.and_eq_true] at h
  obtain ⟨h1, h2⟩ := h
  have h1 := of_decide_eq_true h1
  rw [List.all_eq_true] at h2
  unfold nmOf at e
  have hh : ∀ k : Nat, (Str.mk (List.replicate (k + 1) 35).toArray).cps.toList.head? = some 35 := fun k => rfl
  cases hi : names[i]? with
  | some x =>
    rw [hi] at e
    obtain ⟨li, gi⟩ := List.getElem?_eq_some_iff.mp hi
    cases hj : names[j]? with
    | some y =>
      rw [hj] at e
      obtain ⟨lj, gj⟩ := List.getElem?_eq_some_iff.mp hj
      have e : x = y := e
      have pw := List.pairwise_iff_getElem.mp h1
      rcases Nat.lt_trichotomy i j with q | q | q
      · exact absurd (by rw [gi, gj, e]) (pw i j li lj q)
      · exact q
      · exact absurd (by rw [gi, gj, e]) (pw j i lj li q)
    | none =>
      rw [hj] at e
      have e : x = ⟨(List.replicate (j + 1) 35).toArray⟩ := e
      have := h2 _ (gi ▸ List.getElem_mem li)
      rw [e, hh] at this
      simp at this
  | none =>
    rw [hi] at e
    cases hj : names[j]? with
    | some y =>
      rw [hj] at e
      obtain ⟨lj, gj⟩ := List.getElem?_eq_some_iff.mp hj
      have e : ⟨(List.replicate (i + 1) 35).toArray⟩ = y := e
      have := h2 _ (gj ▸ List.getElem_mem lj)
      rw [← e, hh] at this
      simp at this
    | none =>
      rw [hj] at e
      have e2 := congrArg (fun s : Str => s.cps.size) e
      simp at e2
      exact e2
def mkTb (cl : Nat → Addr) (names : List Str) (h : nmOk names = true) (hs : NestedKey → Int := fun _ => 0) : Tb := ⟨cl, nmOf names, nmOf_inj h, hs⟩
def spLaw (K : PySem.W.Frag) : Sp := fun vs H Q _ => ∃ (a : Addr) (ns : List Int), ns.length ≤ 63 ∧ vs = [.ref a] ∧ SqL K H a (ns.map V.int) ∧ ∀ H', Q (.bl true) H'
end PD
namespace PD
open PySem L2

section
variable {X : Cx} {c : Cc} {pos : Pos} {e : Expr} {es : List Expr} {g : Env → Res D} {gs : Env → Res (List D)}
def resO (K : PySem.W.Frag) (c : Cc) (W : AS) (σ : St) (H : Hp) (r : Res (List D)) (Q : List V → Hp → Prop) : Prop := match r with
  | .ok ds => ∀ vs H' F, Same H H' → (∀ a, F a → H a = none ∧ H' a ≠ none) → RepL K c.cl H' (fun a => c.I W a ∨ F a) (fun _ => True) ds vs F → Q vs H'
  | .ex e => ∀ u dd H', Same H H' → ERep K c.cl H' (c.I W) e u dd → c.Wx u dd σ H'
  | .bad => False
def tOw (K : PySem.W.Frag) (c : Cc) (g : Env → Res (List D)) : TA := fun σ H Q => ∃ E W, Sat K c E σ H W ∧ resO K c W σ H (g E) Q
structure JO2 (X : Cx) (c : Cc) (es : List Expr) (g : Env → Res (List D)) : Prop where pa : PA X es (tOw X.K c g)
end
end PD
namespace PD
open PySem L2
section
variable {X : Cx} {c : Cc} {pos apos : Pos} {a b e e1 e2 : Expr} {i : Nat} {ga gb g g1 g2 : Env → Res D} {gs : Env → Res (List D)} {gp : GP} {gm : Env → MRes} {W W' : AS} {σ : St} {H H' : Hp} {E : Env} {r : V → List V → Hp → VK → Prop} {f : D → List D → Res (D × D)} {name : Str} {id : String}
end
section
variable {K : PySem.W.Frag} {cl : Tb} {H : Hp} {I M : AS}
theorem RepL.put : ∀ {xs : List D} {vs : List V} {F G : AS} {j : Nat} {x : D} {w : V}, RepL K cl H I M xs vs F → Rep K cl H I M x w G → (∀ a, F a → ¬ G a) → RepL K cl H I M (xs.set j x) (vs.set j w) (fun a => F a ∨ G a)
  | [], vs, F, G, j, x, w, r, _, _ => by
    rw [show vs = [] from r]
    exact rfl
  | d :: ds, vs, F, G, 0, x, w, r, rx, hd => by
    obtain ⟨v, ws, F1, F2, rfl, r1, r2, a1, a2, a3⟩ := r
    exact ⟨w, ws, G, F2, rfl, rx, r2, fun a z => .inr z, fun a z => .inl (a2 a z), fun a z y => hd a (a2 a y) z⟩
  | d :: ds, vs, F, G, j + 1, x, w, r, rx, hd => by
    obtain ⟨v, ws, F1, F2, rfl, r1, r2, a1, a2, a3⟩ := r
    refine ⟨v, ws.set j w, F1, fun a => F2 a ∨ G a, rfl, r1, RepL.put r2 rx (fun a z => hd a (a2 a z)), fun a z => .inl (a1 a z), fun a z => z.elim (fun y => .inl (a2 a y)) .inr, fun a z y => ?_⟩
    rcases y with y | y
    · exact a3 a z y
    · exact hd a (a1 a z) y
end
section
variable {X : Cx} {c : Cc} {pos pos' : Pos} {o value : Expr} {i : Nat} {g : Env → Res D} {gp : GP}
end
end PD
namespace PySem
open Sem (wp)
open AutoSeq1 (wpAny_loadPart')
section
variable {prog : Program} {w : World} {A : Around} {E : Value → Shared → Prop} {s : Shared}
end
end PySem
namespace PD
open PySem PySem.Spec PyProof.Rows L2
/-- a source of items: a list, a tuple -/
structure Src (K : PySem.W.Frag) where
  at_ : Hp → Addr → List V → Prop
  it : Addr → Addr → Nat → Heap → Prop
  ob : Addr → Obj
  cls : String
  inv : ∀ {X : Cx} {pins : List (Addr × Obj)} {σ : L2.St} {H : Hp} {s : Shared} {a : Addr} {xs : List V}, X.K = K → Inv X pins σ H s → at_ H a xs → ∃ (its : List Value) (o : Obj), Vals xs its ∧ s.heap.get? a = some o ∧ o.cls = .type cls ∧ (∃ n, o.data = .seq its.toArray n) ∧
    (∀ (prog : Program) (w : World) (A : Around), A.handled = none → ∀ i, a ≠ i → ∃ St : Nat → Heap → Prop, Draws prog w A i [i, a] its.length (fun k v => its[k]? = some v) St ∧ (∀ k, it i a k s.heap → St k s.heap) ∧ ∀ k h, St k h → it i a k h) ∧
    ∃ (Hb : Heap → Prop), Begins (.ref a) (ob a) Hb ∧ Hb s.heap
  new : ∀ a i h, h.get? i = some (ob a) → it i a 0 h
  frm : ∀ i a k h, it i a k h → ∃ o, h.get? i = some o ∧ (∃ vs, o.data = .fields vs) ∧ ∀ h', h'.get? i = some o → it i a k h'
def srcL (K : PySem.W.Frag) : Src K where
  at_ := SqL K
  it := fun i a k h => h.IsListIter i a k
  ob := fun a => { cls := .type "list_iterator", data := .fields #[.ref a, .int 0 0] }
  cls := "list"
  inv := fun {X pins σ H s a xs} hK I h => by
    subst hK
    obtain ⟨its, rv, p, hz⟩ := I.list h
    have p2 := p.isList
    obtain ⟨o, e, c, n, d⟩ := id p2
    refine ⟨its, o, rv, e, c, ⟨_, d⟩, ?_, _, begins_list a its.toArray, p2⟩
    · intro prog w A hh i hne
      exact ⟨fun k h => h.IsListIter i a k ∧ h.IsList a its.toArray, by have := Draws.list (prog := prog) (w := w) hh i a hne its.toArray; simpa using this, fun k hk => ⟨hk, p2⟩, fun k h hk => hk.1⟩
  new := fun a i h e => ⟨_, e, rfl, rfl⟩
  frm := fun i a k h hh => by
    obtain ⟨o, e, c, d⟩ := hh
    exact ⟨o, e, ⟨_, d⟩, fun h' e' => ⟨o, e', c, d⟩⟩
def srcT (K : PySem.W.Frag) : Src K where
  at_ := SqT K
  it := fun i a k h => h.IsTupleIter i a k
  ob := fun a => { cls := .type "tuple_iterator", data := .fields #[.ref a, .int 0 0] }
  cls := "tuple"
  inv := fun {X pins σ H s a xs} hK I h => by
    subst hK
    obtain ⟨its, rv, p, hz⟩ := I.tuple h
    have p2 : s.heap.IsTuple a its.toArray := p
    obtain ⟨o, e, c, n, d⟩ := id p2
    refine ⟨its, o, rv, e, c, ⟨_, d⟩, ?_, _, begins_tuple a its.toArray, p2⟩
    · intro prog w A hh i hne
      exact ⟨fun k h => h.IsTupleIter i a k ∧ h.IsTuple a its.toArray, by have := Draws.tuple (prog := prog) (w := w) hh i a hne its.toArray; simpa using this, fun k hk => ⟨hk, p2⟩, fun k h hk => hk.1⟩
  new := fun a i h e => ⟨_, e, rfl, rfl⟩
  frm := fun i a k h hh => by
    obtain ⟨o, e, c, d⟩ := hh
    exact ⟨o, e, ⟨_, d⟩, fun h' e' => ⟨o, e', c, d⟩⟩
def Iea {K : PySem.W.Frag} (S : Src K) (k0 : Int) (a : Addr) : It :=
  ⟨fun i H => ∃ (xs : List V) (x : V), S.at_ H a xs ∧ xs[i]? = some x, fun i H v H' => ∃ T x, v = .ref T ∧ H T = none ∧ H' = upd H T (.tup [.int (k0 + (i : Nat)), x]) ∧ ∀ xs, S.at_ H a xs → xs[i]? = some x, fun i H => ∃ xs : List V, S.at_ H a xs ∧ xs.length = i⟩
theorem Src.inj {K : PySem.W.Frag} (S : Src K) {X : Cx} {pins : List (Addr × Obj)} {σ : L2.St} {H : Hp} {s : Shared} {a : Addr} {xs ys : List V} (hK : X.K = K) (I : Inv X pins σ H s) (h : S.at_ H a xs) (h' : S.at_ H a ys) : xs = ys := by
  obtain ⟨its, o, r, e, _, ⟨n, d⟩, _⟩ := S.inv hK I h
  obtain ⟨its', o', r', e', _, ⟨n', d'⟩, _⟩ := S.inv hK I h'
  rw [e] at e'; cases e'
  rw [d] at d'
  injection d' with d1 _
  have : its = its' := by simpa using congrArg Array.toList d1
  subst this
  exact r.inj r'
theorem turn_ea {P : Program} {w : World} {K : PySem.W.Frag} {S : Src K} {elts : List Expr} {kk : Nat} {tpos : Pos} (k0 : Int) (a e it : Addr) :
    Turn P w K (.Tuple elts kk tpos) (Iea S k0 a) [e, it] e (fun i h => (∃ old, IsEnum h e it (k0 + ((i : Nat) : Int)) old) ∧ S.it it a i h ∧ e ≠ it) where
  mem := by simp
  obj := fun i h st b hb => by
    obtain ⟨⟨old, he⟩, hs, _⟩ := st
    obtain ⟨o, ho, ⟨vs, hc⟩, hd⟩ := S.frm _ _ _ _ hs
    have e' : b = e ∨ b = it := by simpa using hb
    rcases e' with z | z
    · rw [z]; exact ⟨_, he, fun v q => nomatch q⟩
    · rw [z]; exact ⟨o, ho, fun v q => by rw [hc] at q; cases q⟩
  keep := fun i h h' st k => by
    obtain ⟨⟨old, he⟩, hs, hne⟩ := st
    obtain ⟨o, ho, hc, hd⟩ := S.frm _ _ _ _ hs
    exact ⟨⟨old, k e (by simp) _ he⟩, hd h' (k it (by simp) o ho), hne⟩
  item := by
    intro X hP hw hK hc i pins s σ H E I hf st hg
    subst hP hw
    obtain ⟨⟨old, he⟩, hit, hne⟩ := st
    obtain ⟨xs, x, hq, hx⟩ := hg
    obtain ⟨its, oa, rv, ea, ca, ⟨n, da⟩, hD, _⟩ := S.inv hK I hq
    obtain ⟨u, hu, ru⟩ := rv.get hx
    have hel : e < s.heap.objs.size := Heap.lt_size he
    obtain ⟨oi, hio, ⟨vi, hic⟩, hif⟩ := S.frm _ _ _ _ hit
    have hil : it < s.heap.objs.size := Heap.lt_size hio
    have hin : i < its.length := (List.getElem?_eq_some_iff.mp hu).1
    have hai : a ≠ it := fun q => by rw [q, hio] at ea; cases ea; rw [hic] at da; cases da
    have hae : e ≠ a := fun q => by rw [← q] at ea; rw [show s.heap.get? e = _ from he] at ea; cases ea; cases da
    obtain ⟨St, D, d1, d2⟩ := hD X.prog X.w X.A.in1 (I.ok.hd hc) it hai
    refine wpAny_pyNext_enum_itemC D he (d1 _ hit) hin hne (by simp [hne, hae]) fun x' h' tk hP ho hs' hT hsz hk => ?_
    rw [hu] at hP
    cases hP
    refine ⟨_, rfl, wpAny_letOwnedTupleGo_enum (s := { s with heap := h', toks := tk + 1 }) ho fun h'' he' sb => ?_⟩
    have hT2 : h''.get? s.heap.objs.size = some { cls := .type "tuple", data := .seq #[.int (k0 + (i : Int)) tk, u] } := (sb.2 _ (Nat.ne_of_gt hel)).trans hT
    have new : ObjOk X.prog X.w (upd H s.heap.objs.size (.tup [.int (k0 + (i : Nat)), x])) h'' s.heap.objs.size (.tup [.int (k0 + (i : Nat)), x]) :=
      ⟨by show 2 ≤ sizeLine; decide, [.int (k0 + (i : Int)) tk, u], .cons ⟨_, rfl⟩ (.cons ru .nil), ⟨_, hT2, rfl, _, rfl⟩⟩
    have I1 : Inv X pins σ (upd H s.heap.objs.size (.tup [.int (k0 + (i : Nat)), x])) { s with heap := h'', toks := tk + 1 } :=
      I.turnedNew (ch := [e, it]) (fun b ob hb q => (sb.2 b (fun z => hb (by simp [z]))).trans (hk b ob (fun z => hb (by simp [z])) (fun z => hb (by simp [z])) q)) hf (Nat.le_refl _) new
    refine ⟨.ref s.heap.objs.size, _, I1, rfl, ⟨_, x, rfl, I.hok.fresh (Nat.le_refl _), rfl, fun ys hy => ?_⟩, ⟨⟨u, ?_⟩, ?_, hne⟩, fun b hb => ?_⟩
    · rw [S.inj hK I hy hq]; exact hx
    · have e1 : k0 + ((i + 1 : Nat) : Int) = k0 + (i : Int) + 1 := by omega
      rw [e1]; exact he'
    · have q1 := d2 _ _ hs'
      obtain ⟨o1, p1, _, p3⟩ := S.frm _ _ _ _ q1
      exact p3 _ ((sb.2 it (Ne.symm hne)).trans p1)
    · have hb' : b < s.heap.objs.size := by
        have e' : b = e ∨ b = it := by simpa using hb
        rcases e' with z | z
        · rw [z]; exact hel
        · rw [z]; exact hil
      rw [upd_ne (Nat.ne_of_lt hb')]
      exact (hf b hb).1
  done := by
    intro X hP hw hK hc i pins s σ H E I hf st hg
    subst hP hw
    obtain ⟨⟨old, he⟩, hit, hne⟩ := st
    obtain ⟨xs, hq, hx⟩ := hg
    obtain ⟨its, oa, rv, ea, ca, ⟨n, da⟩, hD, _⟩ := S.inv hK I hq
    obtain ⟨oi, hio, ⟨vi, hic⟩, hif⟩ := S.frm _ _ _ _ hit
    have hai : a ≠ it := fun q => by rw [q, hio] at ea; cases ea; rw [hic] at da; cases da
    obtain ⟨St, D, d1, d2⟩ := hD X.prog X.w X.A.in1 (I.ok.hd hc) it hai
    obtain ⟨f0, f1, f2, f3, f4, f5⟩ := hf it (by simp)
    have hl := rv.length
    have hst : St its.length s.heap := by
      have e1 : its.length = i := by omega
      rw [e1]; exact d1 _ hit
    exact wpAny_pyNext_enum_endD D he hst fun h' eb => ⟨rfl, I.turned (t' := s.toks) (fun b o hb q => eb b o hb q) f0 f1 f3 f4 f5⟩
  self := fun A i s Q E st h => let ⟨⟨_, he⟩, _⟩ := st; wpAny_pyIter_enum he h
section
variable {X : Cx} {e e2 : Expr} {te : TE} {ta : TA} {p pos tpos : Pos} {elts : List Expr} {kk : Nat}
theorem ea_go {K : PySem.W.Frag} (S : Src K) {pins : List (Addr × Obj)} {σ : L2.St} {H : Hp} {s : Shared} {R : It → Hp → Prop} {a : Addr} {xs : List V} {k : Int} {h' : Heap} (hK : X.K = K) (I : Inv X pins σ H s) (hq : S.at_ H a xs)
    (he : IsEnum h' (s.heap.objs.size + 1) s.heap.objs.size k .none) (hi : h'.get? s.heap.objs.size = some (S.ob a)) (hk : ∀ b o, s.heap.get? b = some o → h'.get? b = some o) (q : R (Iea S k a) H) (E : Value → Shared → Prop) :
    wpAny (model X.prog X.w) X.A (pyIter (.ref (s.heap.objs.size + 1))) (PIE X pins σ (.Tuple elts kk tpos) R) E { s with heap := h' } := by
  subst hK
  refine wpAny_pyIter_enum he ?_
  have I2 : Inv X pins σ H { s with heap := h' } := I.kept (t' := s.toks) hk
  refine ⟨s.heap.objs.size + 1, [s.heap.objs.size + 1, s.heap.objs.size], _, _, H, rfl, I2, turn_ea k a (s.heap.objs.size + 1) s.heap.objs.size, ⟨⟨.none, ?_⟩, S.new _ _ _ hi, Nat.succ_ne_self _⟩, fun b hb => ?_, q⟩
  · have e1 : k + ((0 : Nat) : Int) = k := by simp
    rw [e1]; exact he
  · have e' : b = s.heap.objs.size + 1 ∨ b = s.heap.objs.size := by simpa using hb
    have hle : s.heap.objs.size ≤ b := by
      rcases e' with z | z
      · rw [z]; exact Nat.le_add_right _ _
      · rw [z]; exact Nat.le_refl _
    exact I.fpOk hle (I.hok.fresh hle)
/-- enumerate(e, k) -/
theorem pi_ea2 (S : Src X.K) (hg : Gl X "enumerate") (hm : X.mg "enumerate" = none) (ha : PA X [e, e2] ta) (hs : starEach [e, e2] X.env = (false, eval e X.env) :: starEach [e2] X.env := by rfl) (hs2 : (backTo pos (starEach [e2] X.env)).any (·.1) = false := by rfl) :
    PI X (.Tuple elts kk tpos) (.Call (.Name "enumerate" p) [e, e2] [] pos) (fun σ H R => ta σ H fun vs H1 => ∃ a xs k, vs = [.ref a, .int k] ∧ -(2 ^ 63) ≤ k ∧ k < 2 ^ 63 ∧ S.at_ H1 a xs ∧ R (Iea S k a) H1) := by
  refine ⟨fun pins s σ H R I h => ?_⟩
  refine Call_ (ld_blt I hg hm boot_enumerate (PyProof.Rows.callWith_type1 (thn (ha.run pos pins s σ H _ I h) fun us s1 ⟨vs, H1, I1, r1, q1⟩ => ?_) hs hs2))
  obtain ⟨a, xs, k, ex, k0, k1, hq, q⟩ := q1
  subst ex
  cases r1 with
  | cons r rr =>
    cases rr with
    | cons r2 r3 =>
      cases r3
      cases r
      obtain ⟨t, rfl⟩ := r2
      obtain ⟨its, oa, rv, ea, ca, da, _, Hb, B, hb⟩ := S.inv rfl I1 hq
      exact enum_begins B hb k0 k1 fun h' he hi hsz hk => ea_go S rfl I1 hq he hi hk q _
end
def enL (k : Int) (xs : List D) : List D := (List.range xs.length).zipWith (fun (i : Nat) d => .tup [.int (k + i), d]) xs
theorem enL_len (k : Int) (xs : List D) : (enL k xs).length = xs.length := by simp [enL]
theorem enL_get {k : Int} {xs : List D} {i : Nat} {d : D} (h : xs[i]? = some d) : (enL k xs)[i]? = some (.tup [.int (k + i), d]) := by
  have hi := (List.getElem?_eq_some_iff.mp h).1
  unfold enL
  rw [List.getElem?_zipWith, h, List.getElem?_range hi]
section
variable {K : PySem.W.Frag} {c : Cc} {strong : Bool} {W : AS} {H : Hp}
theorem ws_ea {S : Src K} {xs : List D} {p : Addr} {vs : List V} {k : Int} (hn : noOwnL xs = true) (hl : vs.length = xs.length) (G : Hp → AS → Prop) (g0 : G H W) (g1 : ∀ H W H' W', G H W → Step H W H' W' → (strong = true ∨ (W' = W ∧ Same H H')) → G H' W')
    (g2 : ∀ H' W', G H' W' → S.at_ H' p vs ∧ RepL K c.cl H' (fun a => c.I W' a ∨ H a = none) (c.M W') xs vs none_) : Ws K c (Iea S k p) (enL k xs) H W strong := by
  refine ⟨G, g0, g1, ?_, ?_, ?_⟩
  · intro i H1 W1 hi hG
    rw [enL_len] at hi
    exact ⟨vs, vs[i], (g2 _ _ hG).1, by simp [hl, hi]⟩
  · intro H1 W1 hG
    exact ⟨vs, (g2 _ _ hG).1, by rw [enL_len, hl]⟩
  · rintro i H1 W1 x H' Nw hi hI hN hG ⟨T, y, rfl, hT, rfl, hy⟩
    rw [enL_len] at hi
    obtain ⟨a1, a2⟩ := g2 _ _ hG
    have e1 : xs[i]? = some xs[i] := by simp [hi]
    obtain ⟨v, gv, rv⟩ := a2.get0 e1
    rw [hy _ a1] at gv
    cases gv
    have hw : noOwnL xs = true := hn
    rw [noOwnL_eq, List.all_eq_true] at hw
    have hx : (xs[i]).noOwn = true := hw _ (List.getElem_mem hi)
    refine ⟨Same.new hT, _, enL_get e1, by simp only [D.noOwn, noOwnL, hx, Bool.and_self], T, [.int (k + i), y], rfl, ⟨upd_same, fun z => z.elim (fun z => hI T z hT) fun z => (hN T z).2 hT⟩, ?_⟩
    refine RepL.none_cons rfl (RepL.none_cons ?_ rfl)
    exact (rep_old hN rv).same (Same.new hT)
def enD (strong : Bool) (k : Int) : D → Res (List D)
  | .lst f xs => if (f ≠ .own ∨ strong = false) ∧ noOwnL xs then .ok (enL k xs) else .bad
  | .tup xs => if noOwnL xs then .ok (enL k xs) else .bad
  | .ktup xs => if noOwnL xs then .ok (enL k xs) else .bad
  | _ => .bad
theorem ws_eaL {f : Fl} {xs : List D} {p : Addr} {vs : List V} {F : AS} {k : Int} (h : f ≠ .own ∨ strong = false) (hn : noOwnL xs = true) (cc : Cell H (c.I W) (c.M W) F f p (.lst vs) ∨ (f = .frz ∧ KL K p vs)) (r : RepL K c.cl H (c.I W) (c.M W) xs vs (sub F f p)) : Ws K c (Iea (srcL K) k p) (enL k xs) H W strong := by
  have hl := r.length
  have r0 : RepL K c.cl H (c.I W) (c.M W) xs vs none_ := RepL.noOwn xs vs _ none_ hn r
  refine ws_ea hn hl (fun H' W' => SqL K H' p vs ∧ RepL K c.cl H' (fun a => c.I W' a ∨ H a = none) (c.M W') xs vs none_ ∧ (f ≠ .own → Cell H' (c.I W') (c.M W') none_ f p (.lst vs) ∨ (f = .frz ∧ KL K p vs))) ⟨cell_sql cc, repL_old r0, fun hf => cc.imp (cell_noOwn hf) id⟩ ?_ fun H' W' g => ⟨g.1, g.2.1⟩
  rintro H1 W1 H2 W2 ⟨a3, a4, a5⟩ st sg
  refine ⟨?_, RepL.mono (ws_m1 st) (ws_m2 st) xs vs _ _ (fun _ _ _ z => z.elim) (fun _ z => z) a4, fun hf => (a5 hf).imp (cell_mono (ws_m0 st) (ws_m2 st) (fun _ _ _ z => z.elim) (fun _ z => z)) id⟩
  by_cases hf : f = .own
  · rcases sg with sg | ⟨_, sm⟩
    · rcases h with h | h
      · exact absurd hf h
      · rw [h] at sg; cases sg
    · exact Same.seq sm a3
  · exact cell_sql ((a5 hf).imp (cell_mono (ws_m0 st) (ws_m2 st) (fun _ _ _ z => z.elim) (fun _ z => z)) id)
theorem ws_eaT {xs : List D} {p : Addr} {vs : List V} {k : Int} (hn : noOwnL xs = true) (cc : (H p = some (.tup vs) ∧ ¬ c.I W p) ∨ KT K p vs) (r : RepL K c.cl H (c.I W) (c.M W) xs vs none_) : Ws K c (Iea (srcT K) k p) (enL k xs) H W strong := by
  have hl := r.length
  refine ws_ea hn hl (fun H' W' => ((H' p = some (.tup vs) ∧ ¬ c.I W' p) ∨ KT K p vs) ∧ RepL K c.cl H' (fun a => c.I W' a ∨ H a = none) (c.M W') xs vs none_) ⟨cc, repL_old r⟩ ?_ fun H' W' g => ⟨g.1.elim (fun z => .inl (.inl z.1)) .inr, g.2⟩
  rintro H1 W1 H2 W2 ⟨a3, a4⟩ st _
  exact ⟨a3.imp (fun z => ws_m0 st _ _ z.1 z.2) id, RepL.mono (ws_m1 st) (ws_m2 st) xs vs _ _ (fun _ _ _ z => z.elim) (fun _ z => z) a4⟩
end
section
variable {X : Cx} {c : Cc} {strong : Bool} {e e2 : Expr} {g g2 : Env → Res D} {p pos tpos : Pos} {elts : List Expr} {kk : Nat}
def gEn (strong : Bool) (k : Int) (g : Env → Res D) : Env → Res (List D) := fun E => g E >>= enD strong k
end
section
variable {X : Cx} {c : Cc} {e : Expr} {es : List Expr} {g : Env → Res D} {gs : Env → Res (List D)} {p : Pos}
end
section
variable {X : Cx} {c : Cc} {T : Tb} {k n : Nat} {f C : Addr} {fd : FuncData} {ps ks : List Str} {x : Str} {p pos : Pos} {kws : List Keyword} {g : List Value → List Value → List Value} {gV : List V → List V → List V}
  {Fm : List D → MR} {gk : Env → Res (List D)}
end
end PD
namespace PD
open PySem L2
section
variable {X : Cx} {c : Cc} {pos pos' : Pos} {o k value : Expr} {i : Nat} {gi g : Env → Res D} {gp : GP}
end
end PD
namespace PD
open PySem PySem.Spec PyProof.Rows L2
/-- the j-th statement of a class -/
def subSt (s : Stmt) (j : Nat) : Stmt := match s with
  | .ClassDef _ _ _ body _ _ _ _ _ _ _ => body.getD j (.Pass ⟨0, 0, 0, 0⟩)
  | _ => .Pass ⟨0, 0, 0, 0⟩
structure GetD where
  cl : Str
  nm : Str
  d : He.DefD
def pAd (K : PySem.W.Frag) (g : GetD) : Addr := He.ma K (He.ga K g.cl) g.nm
def gAd (K : PySem.W.Frag) (g : GetD) : Addr := match PySem.W.recIn K (pAd K g) "property" with
  | some (.ref a :: _) => a
  | _ => 0
def gW (K : PySem.W.Frag) (g : GetD) : He.FnW := match K.lookup (gAd K g) with
  | some ⟨_, _, .func fd, _⟩ => some (fd.name, fd.qualname, fd.params, fd.body, fd.scope, fd.globals, fd.closure, fd.builtins)
  | _ => none
def GetD.ok (K : PySem.W.Frag) (g : GetD) : Bool := He.eqO (PySem.W.findIn K (.ref (He.ga K g.cl)) g.nm) (some (some (.ref (pAd K g)))) && (He.eqO (PySem.W.specialIn K (.ref (pAd K g)) "__get__") (some (some (.builtin "property.__get__"))) &&
  (decide (PySem.W.takesIn K (.ref (pAd K g)) = some true) && ((match PySem.W.recIn K (pAd K g) "property" with
    | some (.ref _ :: _) => true
    | _ => false) && (PySem.W.keepIn K (.ref (gAd K g)) && (match K.lookup (gAd K g) with
  | some ⟨_, _, .func fd, _⟩ => PySem.W.codeIn K fd.code g.d.qual && (He.dflB K fd.defaults [] && He.kwdB K fd.kwdefaults [])
  | _ => false)))))
abbrev AlP : Type := He.AlX × (Bool × List He.FnW)
section
variable (n : Nat) (fa : List He.Fa) (fn : List He.DefD) (ts : List He.Tab) (tf : List He.Defn) (ex : PySem.W.Frag → Bool) (gs : List GetD)
def valP (w : World) : AlP := (He.valX fn ts w, (true, gs.map fun q => q.d.val))
structure SaysP (w : World) (h : Heap) (K : PySem.W.Frag) : Prop where
  x : He.SaysX fa fn ts tf ex w h K
  ok : (gs.all fun q => q.ok K) = true
  dv : (gs.map fun q => gW K q) = gs.map fun q => q.d.val
end
section
variable {n : Nat} {fa : List He.Fa} {fn : List He.DefD} {ts : List He.Tab} {tf : List He.Defn} {ex : PySem.W.Frag → Bool} {gs : List GetD} {w : World} {h : Heap} {K : PySem.W.Frag}
theorem SaysP.get (c : SaysP fa fn ts tf ex gs w h K) (i : Nat) {g : GetD} (e : gs[i]? = some g) : g.ok K = true ∧ gW K g = g.d.val := by
  have hm : g ∈ gs := List.mem_of_getElem? e
  refine ⟨List.all_eq_true.mp c.ok g hm, ?_⟩
  have := congrArg (fun l => l[i]?) c.dv
  simp only [List.getElem?_map, e, Option.map_some] at this
  exact Option.some.inj this
end
section
variable {X : Cx} {c : Cc} {T : Tb} {pos pos' apos : Pos} {a o e value : Expr} {es : List Expr} {f m : Str} {cs : List Nat} {n i cid mid k : Nat} {ga g go : Env → Res D} {gs : Env → Res (List D)} {gp : GP} {C fa pA : Addr} {fd : FuncData} {ps : List Str} {Ff : List D → Res D} {ds : List Value} {dvs : List V} {dds : List D}
end
end PD
namespace PD
open PySem L2
end PD
namespace PD
open PySem L2
section
variable {X : Cx} {c : Cc} {pos : Pos} {a : Expr} {ga : Env → Res D}
end
end PD
namespace PD
open PySem L2
section
variable {X : Cx} {c : Cc} {pos : Pos} {a : Expr} {ga : Env → Res D}
end
end PD
namespace PD
open PySem L2
section
variable {X : Cx} {c : Cc} {pos : Pos} {a b : Expr} {gs : Env → Res (List D)}
end
end PD
namespace PD
open PySem L2
def udLst (uds : List D → Env → Res Env) (d : D) (E : Env) : Res Env := match d with
  | .lst f ds => if f ≠ .own ∧ noOwnL ds then uds ds E else .bad
  | _ => .bad
theorem chk_lst {uds : List D → Env → Res Env} : udChk (udLst uds) := fun d E E' h => by
  cases d with
  | lst f ds =>
    simp only [udLst] at h
    split at h
    · rename_i hh
      simp only [D.noOwn, hh.2, Bool.and_true, decide_eq_true_eq]
      exact hh.1
    · cases h
  | _ => cases h
section
variable {K : PySem.W.Frag} {X : Cx} {c : Cc} {pos : Pos}
theorem jg_lst {es : List Expr} {k n : Nat} {idx : List Nat} {uds : List D → Env → Res Env} (hcalm : X.calm = true) (h : JGs X c es idx uds) (hn : ∀ ds E E', uds ds E = .ok E' → ds.length = n) (hl : (assignEach es X.env).length = n := by rfl) (hst : (assignEach es X.env).findIdx? (·.1) = none := by rfl) :
    JG X c (.Tuple es k pos) idx (udLst uds) :=
  ⟨PG.weak (pg_unl hcalm h.pg hl hst) fun v σ H Q ⟨E, W, d, s, r, q⟩ => by
  cases d with
  | lst f ds =>
    simp only [udLst] at q
    by_cases hh : f ≠ .own ∧ noOwnL ds = true
    · rw [if_pos hh] at q
      cases e1 : uds ds E with
      | ok E1 =>
        rw [e1] at q
        obtain ⟨p, vs, rfl, cc, rr⟩ := r (by simp only [D.noOwn, hh.2, Bool.and_true, decide_eq_true_eq]; exact hh.1)
        have rr : RepL X.K c.cl H (c.I W) (c.M W) ds vs none_ := by
          have : sub none_ f p = none_ := by cases f <;> first | rfl | exact absurd rfl hh.1
          rw [this] at rr
          exact rr
        refine ⟨p, vs, rfl, cell_sql cc, by rw [rr.length, hn ds E E1 e1], E, W, ds, s, fun _ => rr, ?_⟩
        rw [e1]
        exact q
      | ex x => rw [e1] at q; exact q.elim
      | bad => rw [e1] at q; exact q.elim
    · rw [if_neg hh] at q
      exact q.elim
  | _ => exact q.elim⟩
end
end PD
namespace PySem.W
open PySem PySem.Spec PySem.Calls PyProof.Rows
section
variable {prog : Program} {w : World} {A : Around} {E : Value → Shared → Prop} {s : Shared}
end
end PySem.W
namespace PD
open PySem PySem.Spec PyProof.Rows L2
section
variable {X : Cx} {c : Cc} {pos : Pos} {e : Expr} {g : Env → Res D}
end
end PD
namespace PD
open PySem PySem.Spec PyProof.Rows L2
section
variable {X : Cx} {c : Cc} {strong : Bool} {e e2 : Expr} {g g2 : Env → Res D} {p pos tpos : Pos} {elts : List Expr} {kk : Nat}
theorem ji_en2 {k : Int} (hk : -(2 ^ 63) ≤ k ∧ k < 2 ^ 63) (hg : Gl X "enumerate") (hm : X.mg "enumerate" = none) (ha : JV X c e g) (hb : JN X c e2 (gC (.int k))) (hs : starEach [e, e2] X.env = (false, eval e X.env) :: starEach [e2] X.env := by rfl) (hs1 : starEach [e2] X.env = (false, eval e2 X.env) :: starEach [] X.env := by rfl) (hs2 : (backTo pos (starEach [e2] X.env)).any (·.1) = false := by rfl) : JI X c strong (.Tuple elts kk tpos) (.Call (.Name "enumerate" p) [e, e2] [] pos) (gEn strong k g) :=
  ⟨PI.weak (PI.or (pi_ea2 (srcL X.K) hg hm (pa_cons ha.pe (pa_cons hb.pe pa_nil hs1) hs) hs hs2) (pi_ea2 (srcT X.K) hg hm (pa_cons ha.pe (pa_cons hb.pe pa_nil hs1) hs) hs hs2)) fun σ H R ⟨E, W, s, q⟩ => by
  unfold gEn at q
  cases e1 : g E with
  | ex x =>
    rw [e1] at q
    exact .inl ⟨E, W, s, by rw [e1]; exact q⟩
  | bad => rw [e1] at q; exact q.elim
  | ok d =>
    rw [e1] at q
    simp only [res_bind_ok] at q
    by_cases hd : ∃ f xs, d = .lst f xs
    · refine .inl ⟨E, W, s, ?_⟩
      rw [e1]
      rintro v H' sm ⟨F, fF, r⟩
      have s' := s.same sm
      have q' : match enD strong k d with
        | .ok ds => ∀ J H2, Same H' H2 → Ws X.K c J ds H2 W strong → R J H2
        | .ex e => ∀ u dd H2, Same H' H2 → ERep X.K c.cl H2 (c.I W) e u dd → c.Wx u dd σ H2
        | .bad => False := by
        cases e2 : enD strong k d with
        | ok ds => rw [e2] at q; exact fun J H2 s2 => q J H2 (sm.trans s2)
        | ex x => rw [e2] at q; exact fun u dd H2 s2 => q u dd H2 (sm.trans s2)
        | bad => rw [e2] at q; exact q
      obtain ⟨f, xs, rfl⟩ := hd
      simp only [enD] at q'
      by_cases hh : (f ≠ .own ∨ strong = false) ∧ noOwnL xs = true
      · rw [if_pos hh] at q'
        obtain ⟨p, vs, rfl, cc, r⟩ := r
        refine ⟨E, W, s', ?_⟩
        rintro kv H2 F2 sm2 f2 rk
        have cc2 : Cell H2 (c.I W) (c.M W) F f p (.lst vs) ∨ (f = .frz ∧ KL X.K p vs) := cc.imp (cell_mono (fun a o q n => ⟨sm2 a o q, n⟩) (fun a o q n => ⟨sm2 a o q, n⟩) (fun a o q _ => sm2 a o q) (fun _ z => z)) id
        exact ⟨p, vs, k, by rw [show kv = .int k from rk], hk.1, hk.2, cell_sql cc2, q' _ H2 sm2 (ws_eaL hh.1 hh.2 cc2 (r.same sm2))⟩
      · rw [if_neg hh] at q'; exact q'.elim
    · refine .inr ⟨E, W, s, ?_⟩
      rw [e1]
      rintro v H' sm ⟨F, fF, r⟩
      have s' := s.same sm
      have q' : match enD strong k d with
        | .ok ds => ∀ J H2, Same H' H2 → Ws X.K c J ds H2 W strong → R J H2
        | .ex e => ∀ u dd H2, Same H' H2 → ERep X.K c.cl H2 (c.I W) e u dd → c.Wx u dd σ H2
        | .bad => False := by
        cases e2 : enD strong k d with
        | ok ds => rw [e2] at q; exact fun J H2 s2 => q J H2 (sm.trans s2)
        | ex x => rw [e2] at q; exact fun u dd H2 s2 => q u dd H2 (sm.trans s2)
        | bad => rw [e2] at q; exact q
      cases d with
      | lst f xs => exact absurd ⟨f, xs, rfl⟩ hd
      | tup xs =>
        simp only [enD] at q'
        by_cases hh : noOwnL xs = true
        · rw [if_pos hh] at q'
          obtain ⟨p, vs, rfl, cc, r⟩ := r
          refine ⟨E, W, s', ?_⟩
          rintro kv H2 F2 sm2 f2 rk
          have cc2 : H2 p = some (.tup vs) ∧ ¬ c.I W p := ⟨sm2 _ _ cc.1, cc.2⟩
          exact ⟨p, vs, k, by rw [show kv = .int k from rk], hk.1, hk.2, .inl (.inl cc2.1), q' _ H2 sm2 (ws_eaT hh (.inl cc2) ((RepL.noOwn xs vs F none_ hh r).same sm2))⟩
        · rw [if_neg hh] at q'; exact q'.elim
      | ktup xs =>
        simp only [enD] at q'
        by_cases hh : noOwnL xs = true
        · rw [if_pos hh] at q'
          obtain ⟨p, vs, rfl, cc, r⟩ := r
          refine ⟨E, W, s', ?_⟩
          rintro kv H2 F2 sm2 f2 rk
          exact ⟨p, vs, k, by rw [show kv = .int k from rk], hk.1, hk.2, .inr cc, q' _ H2 sm2 (ws_eaT hh (.inr cc) (r.same sm2))⟩
        · rw [if_neg hh] at q'; exact q'.elim
      | _ => exact q'.elim⟩
end
end PD
namespace PD
open PySem L2
theorem PG.or {X : Cx} {e : Expr} {t t' : TG} (h : PG X e t) (h' : PG X e t') : PG X e (fun v σ H Q => t v σ H Q ∨ t' v σ H Q) := ⟨fun pins s σ H v u Q I r q => q.elim (h.run pins s σ H v u Q I r) (h'.run pins s σ H v u Q I r)⟩
/-- a target over a tuple or a list -/
def udSeq (uds : List D → Env → Res Env) (d : D) (E : Env) : Res Env := match d with
  | .lst f ds => udLst uds (.lst f ds) E
  | d => udTup uds d E
theorem chk_seq {uds : List D → Env → Res Env} : udChk (udSeq uds) := fun d E E' h => by
  cases d with
  | lst f ds => exact chk_lst (uds := uds) _ E E' h
  | _ => exact chk_tup (uds := uds) _ E E' h
theorem jg_seq {X : Cx} {c : Cc} {pos : Pos} {es : List Expr} {k n : Nat} {idx : List Nat} {uds : List D → Env → Res Env} (hcalm : X.calm = true) (h : JGs X c es idx uds) (hn : ∀ ds E E', uds ds E = .ok E' → ds.length = n) (hl : (assignEach es X.env).length = n := by rfl) (hst : (assignEach es X.env).findIdx? (·.1) = none := by rfl) :
    JG X c (.Tuple es k pos) idx (udSeq uds) := ⟨PG.weak (PG.or (jg_tup hcalm h hn hl hst).pg (jg_lst hcalm h hn hl hst).pg) fun v σ H Q ⟨E, W, d, s, r, q⟩ => by
  cases d with
  | lst f ds => exact .inr ⟨E, W, _, s, r, q⟩
  | _ => exact .inl ⟨E, W, _, s, r, q⟩⟩
end PD
namespace PD
open PySem PySem.Spec PyProof.Rows L2
end PD
namespace PD
open PySem PySem.Spec PyProof.Rows L2

section
variable {X : Cx} {pins : List (Addr × Obj)} {σ : L2.St} {H H' : Hp} {s : Shared}
end
section
variable {X : Cx}
end
section
variable {κ : Type} [DecidableEq κ] {β γ : Type}
end
section
variable {K : PySem.W.Frag} {cl : Tb} {H : Hp} {I M : AS}
end
/-- the dict at a, its values of nothing that changes -/
def Dic (K : PySem.W.Frag) (cl : Tb) (H : Hp) (I : AS) (a : Addr) (d : D) : Prop := match d with
  | .dk .own ks vs => ks.length = vs.length ∧ ∃ ws, H a = some (.dK (ks.zip ws)) ∧ RepL K cl H I (fun _ => True) vs ws none_
  | .dt .own ks vs => ks.length = vs.length ∧ ∃ ws, H a = some (.dT (ks.zip ws)) ∧ RepL K cl H I (fun _ => True) vs ws none_
  | _ => False
section
variable {K : PySem.W.Frag} {cl : Tb} {H H' : Hp} {I M M2 : AS} {a : Addr}
theorem Dic.same {d : D} (sm : Same H H') (h : Dic K cl H I a d) : Dic K cl H' I a d := by
  cases d with
  | dk f ks vs =>
    cases f with
    | own =>
      obtain ⟨h1, ws, h2, h3⟩ := h
      exact ⟨h1, ws, sm _ _ h2, h3.same sm⟩
    | _ => exact h.elim
  | dt f ks vs =>
    cases f with
    | own =>
      obtain ⟨h1, ws, h2, h3⟩ := h
      exact ⟨h1, ws, sm _ _ h2, h3.same sm⟩
    | _ => exact h.elim
  | _ => exact h.elim
theorem Dic.some_ {d : D} (h : Dic K cl H I a d) : H a ≠ none := by
  unfold Dic at h
  split at h
  · obtain ⟨h1, ws, h2, h3⟩ := h
    exact ne_of_some h2
  · obtain ⟨h1, ws, h2, h3⟩ := h
    exact ne_of_some h2
  · exact h.elim
end
section
variable {K : PySem.W.Frag} {X : Cx} {c : Cc} {pos : Pos}
end
end PD
namespace PD
open PySem PySem.Spec PyProof.Rows L2
section
variable {K : PySem.W.Frag} {cl : Tb} {H : Hp} {I M : AS}
end
section
variable {X : Cx} {c : Cc} {pos pos' : Pos} {o k value : Expr} {i : Nat} {gi g : Env → Res D} {gp : GP}
end
end PD
namespace PD
open PySem PySem.Spec PyProof.Rows L2
section
variable {K : PySem.W.Frag} {T : Tb} {n m : Nat} {dms : List D} {vms : List V}
end
section
variable {X : Cx} {c : Cc} {T : Tb} {pos pos' apos p : Pos} {a o e value : Expr} {es : List Expr} {f m x : Str} {cs : List Nat} {n i cid mid k : Nat} {ga g go : Env → Res D} {gs gk : Env → Res (List D)} {gp : GP} {C fa pA : Addr} {fd : FuncData} {ps ks : List Str} {Ff : List D → Res D} {Fm : List D → MR} {ds : List Value} {dvs : List V} {dds : List D}
  {kws : List Keyword} {gg : List Value → List Value → List Value} {gV : List V → List V → List V} {gD : List D → List D → List D}
end
end PD
namespace PD
open PySem PySem.Spec PyProof.Rows L2
end PD
namespace PD
open PySem L2
section
variable {K : PySem.W.Frag} {X : Cx} {c : Cc} {W W' : AS} {σ : St} {H H' : Hp} {E : Env} {i j k : Nat} {v : V} {d : D}
end
section
variable {X : Cx} {c : Cc} {pos : Pos} {a b : Expr} {gm : Env → MRes} {gb : Env → Res D}
end
end PD
namespace PD
open PySem L2
section
open Classical in
variable {X : Cx} {c : Cc} {i : Nat}
open Classical in
end
end PD
namespace PD
open PySem PySem.Spec L2
/-- a clause: the class, the name's slot, what its suite does with an exception -/
structure Cl where
  c : Value
  o : Option Nat
  ts : Addr → Value → Option Addr → TS
/-- an end behind a suite: the name is gone -/
def goneE (o : Option Nat) (N : Ends) : Ends := match o with
  | none => N
  | some i => { nx := fun τ G => N.nx (τ.set i none) G, rt := N.rt, bk := fun τ G => N.bk (τ.set i none) G, ct := fun τ G => N.ct (τ.set i none) G }
def setO (o : Option Nat) (τ : L2.St) (a : Addr) : L2.St := match o with
  | none => τ
  | some i => τ.set i (some (.ref a))
def wCl (K : PySem.W.Frag) (Out0 : WX) (N : Ends) : List Cl → WX
  | [] => Out0
  | q :: r => fun kl d τ G => ∃ b, PySem.W.exmOne K kl q.c = some b ∧ (b = true → ∀ a, G a = none → q.ts a kl d (goneE q.o N) (setO q.o τ a) G) ∧ (b = false → wCl K Out0 N r kl d τ G)
/-- the name of a clause -/
def NmOk (X : Cx) (n : Option Str) (o : Option Nat) : Prop := (n = none ∧ o = none) ∨ ∃ y i, n = some y ∧ o = some i ∧ X.N[i]? = some y ∧ X.env.kindOf y = some .local
inductive ClsOk (X : Cx) : List ExceptHandler → List Cl → Prop
  | nil : ClsOk X [] []
  | cons {x : Str} {q : Cl} {n : Option Str} {b₀ : Stmt} {suite : List Stmt} {np hp : Pos} {hds : List ExceptHandler} {l : List Cl} (hc : Names X x q.c) (hn : NmOk X n q.o)
      (hsu : ∀ (a : Addr) (oe : Obj) (kl : Value) (d : Option Addr) (pn : List (Addr × Obj)), Zc kl d oe → (∃ vs, oe.data = .fields vs) → PSs (X.suite a ((a, oe) :: pn)) (b₀ :: suite) (q.ts a kl d)) (r : ClsOk X hds l) :
      ClsOk X (.ExceptHandler (some (.Name x np)) n (b₀ :: suite) hp :: hds) (q :: l)
section
variable {X : Cx} {body : List Stmt} {h₀ : ExceptHandler} {hds : List ExceptHandler} {l : List Cl} {pos : Pos} {tb : WX → TS} {W0 : WX}
theorem ps_try_cl (stk : X.stack = X.env :: X.outer) (frm : X.env.frame = some X.env.locals) (nd : X.N.Nodup) (tk : Takes X W0)
    (bd : ∀ (W : WX) (pn : List (Addr × Obj)) (xe : Value → Shared → Prop), Takes (X.tr pn xe) W → PassesOwn (model X.prog X.w) X.A X.env xe → PSs (X.tr pn xe) body (tb W))
    (cl : ClsOk X (h₀ :: hds) l) : PS X (.Try body (h₀ :: hds) [] [] pos) (fun N τ G => tb (wCl X.K W0 N l) N τ G) := by
  refine ⟨fun pins st τ G N I want => ?_⟩
  have xok := I.ok
  have frs0 : X.A.frames = some (X.env :: X.outer) := by rw [xok.frames, stk]
  refine wpAny_Try_except (wpAny_mono ((bd (wCl X.K W0 N l) (X.pn ++ pins) (fun u z₁ => wpAny (model X.prog X.w) X.A (noteFrame u X.env) (fun _ z₂ => wpAny (model X.prog X.w) X.A (setFlight u none) (fun _ z₃ =>
    wpAny (model X.prog X.w) X.A (handleBy u X.env (h₀ :: hds)) (SP X pins N) X.xe z₃) X.xe z₂) X.xe z₁) (fun u z xx => ?caught) PassesOwn.looking).run [] st τ G N (I.toTry _) want) (fun fl z1 hz => ?done) fun _ _ y => y)
  case done =>
    cases fl with
    | next => obtain ⟨τ', G', J, y⟩ := hz; exact wpAny_execs_nil ⟨τ', G', J.ofTry xok, y⟩
    | brk => obtain ⟨τ', G', J, y⟩ := hz; exact ⟨τ', G', J.ofTry xok, y⟩
    | cont => obtain ⟨τ', G', J, y⟩ := hz; exact ⟨τ', G', J.ofTry xok, y⟩
    | ret w => obtain ⟨v, τ', G', J, rv, y⟩ := hz; exact ⟨v, τ', G', J.ofTry xok, rv, y⟩
  case caught =>
    obtain ⟨a, B, zI, pins1, τ1, G1, kl, d, rfl, J0, nb, up, sky, na, os, ag, want1⟩ := xx
    have J : Inv X pins τ1 G1 zI := J0.ofTry xok
    show wpAny (model X.prog X.w) X.A (noteFrame (.ref a) X.env) _ _ _
    refine Sky.land Zc.steady frs0 frm (by rw [← stk]; exact sky) fun k3 fl3 up3 => ?_
    have J3 : Inv X pins τ1 G1 { z with heap := k3 } := J.landed nb fl3.1 (up.trans up3) os ag
    obtain ⟨ob3, vs3, at3, zc3, dt3⟩ := fl3.there
    have nfr : a ∉ frs (X.env :: X.outer) := fun hm => by
      obtain ⟨_, o1, e1, nf⟩ := fl3.2.2.1.mem hm
      rw [at3] at e1
      cases e1
      exact nf _ dt3
    have nL : a ≠ X.env.locals := fun y => nfr (List.mem_filterMap.mpr ⟨X.env, List.mem_cons_self, by rw [frm, y]⟩)
    have nF : a ∉ X.fs := fun hm => by
      obtain ⟨en, hen, y⟩ := List.mem_filterMap.mp hm
      exact nfr (List.mem_filterMap.mpr ⟨en, List.mem_cons_of_mem _ hen, y⟩)
    have S3 := J3.suite at3 dt3 na nL nF
    have walk : ∀ {hs2 : List ExceptHandler} {l2 : List Cl}, ClsOk X hs2 l2 → wCl X.K W0 N l2 kl d τ1 G1 → wpAny (model X.prog X.w) X.A (handleBy (.ref a) X.env hs2) (SP X pins N) X.xe { z with heap := k3 } := by
      intro hs2 l2 ok2
      induction ok2 with
      | nil =>
        intro out
        refine wpAny_handleBy_nil ?_
        obtain ⟨_, _, _, ob, vs, Tb, oT, tv, e1, _, e2, e3, _⟩ := id fl3
        unfold PySem.passOn
        refine wpAny_bind (wpAny_field e1 e2 e3 ?_)
        rw [if_neg (show ¬ ((Value.ref Tb == Value.none) = true) from by simp)]
        have on : wpAny (model X.prog X.w) X.A (setFlight (.ref a) X.env.frame) (fun _ z4 => wpAny (model X.prog X.w) X.A (throw (.ref a) : Sem Flow) (SP X pins N) X.xe z4) X.xe { z with heap := k3 } := by
          rw [frm]
          exact HandSPX.setFlight_upZ fl3 fun k4 held up4 => wpAny_throw (tk _ _ ⟨a, B, zI, pins, τ1, G1, kl, d, rfl, J, nb, (up.trans up3).trans up4, .inr (.inr (by rw [stk]; exact held)), na, os, ag, out⟩)
        first
          | exact wpAny_bind (wpAny_pure (wpAny_bind on))
          | exact wpAny_bind on
      | @cons x q n b₀ suite np hp hs3 l3 hc hn hsu r ih =>
        rintro ⟨b, m1, yes, no⟩
        refine wpAny_handleBy_cons (codeAny_handlers_test ?_) (by intro y; cases y)
        have tyl : PySem.W.Looks (model X.prog X.w) k3 (typeOf (.ref a)) kl := fun _ _ _ _ kk y => wpAny_typeOf_ref (kk _ _ at3) (by rw [zc3.1]; exact y)
        have match_ := PySem.W.exm_one (M := model X.prog X.w) J3.kIn tyl m1
        have look : ∀ {Q : Value → Shared → Prop} {Ex : Value → Shared → Prop}, Q q.c { z with heap := k3 } → wpAny (model X.prog X.w) (X.A.mark (some (.ref a))) (eval (.Name x np) X.env) Q Ex { z with heap := k3 } := fun {Q Ex} y => by
          obtain ⟨g1, g2, g3 | ⟨g3, g4, g5⟩⟩ := hc
          · exact ld_glob (X := X.suite a ((a, ob3) :: (X.pn ++ pins))) S3 g1 g3 y g2
          · exact ld_blt (X := X.suite a ((a, ob3) :: (X.pn ++ pins))) S3 g1 g3 g4 y g5 g2
        refine look (match_.here ?_)
        cases b with
        | false =>
          show wpAny _ X.A (handleBy (.ref a) X.env hs3) _ _ _
          exact ih (no rfl)
        | true =>
          have w2 := yes rfl a na
          rcases hn with ⟨rfl, ho⟩ | ⟨y, i, rfl, ho, hi, hk⟩
          · rw [ho] at w2
            refine codeAny_handlers_suite (HandSPX.lands_againZ fl3 fun k4 fl4 up4 => ?_)
            obtain ⟨ob4, vs4, at4, zc4, dt4⟩ := fl4.there
            have J4 : Inv X pins τ1 G1 { z with heap := k4 } := J.landed nb fl4.1 ((up.trans up3).trans up4) os ag
            have S4 := J4.suite at4 dt4 na nL nF
            refine wpAny_mono ((hsu a ob4 kl d (X.pn ++ pins) zc4 ⟨_, dt4⟩).run [] _ _ G1 _ S4 w2) (fun fl z6 hz => ?_) fun _ _ no_ => no_.elim
            cases fl with
            | next => obtain ⟨τ6, G6, S6, y6⟩ := hz; exact ⟨_, _, S6.unsuite xok, y6⟩
            | brk => obtain ⟨τ6, G6, S6, y6⟩ := hz; exact ⟨_, _, S6.unsuite xok, y6⟩
            | cont => obtain ⟨τ6, G6, S6, y6⟩ := hz; exact ⟨_, _, S6.unsuite xok, y6⟩
            | ret w => obtain ⟨v6, τ6, G6, S6, r6, y6⟩ := hz; exact ⟨_, _, _, S6.unsuite xok, r6, y6⟩
          · rw [ho] at w2
            refine codeAny_handlers_suite_as (HandSPX.lands_againZ fl3 fun k4 fl4 up4 => ?_)
            obtain ⟨ob4, vs4, at4, zc4, dt4⟩ := fl4.there
            have J4 : Inv X pins τ1 G1 { z with heap := k4 } := J.landed nb fl4.1 ((up.trans up3).trans up4) os ag
            have S4 := J4.suite at4 dt4 na nL nF
            refine store_ok (X := X.suite a ((a, ob4) :: (X.pn ++ pins))) (v := .ref a) S4 nd hi (.inl hk) rfl (fun z5 S5 => ?_) (.inr hk)
            refine wpAny_mono ((hsu a ob4 kl d (X.pn ++ pins) zc4 ⟨_, dt4⟩).run [] z5 _ G1 _ S5 w2) (fun fl z6 hz => ?_) fun _ _ no_ => no_.elim
            have gone : ∀ {τ6 : L2.St} {G6 : Hp} {P : Shared → Prop}, Inv (X.suite a ((a, ob4) :: (X.pn ++ pins))) [] τ6 G6 z6 → (∀ z7, Inv X pins (τ6.set i none) G6 z7 → P z7) →
                wpAny (model X.prog X.w) X.A (do bindName X.env y .none; unbindBehindTheSuite X.env y hp) (fun _ z7 => P z7) X.xe z6 := fun {τ6 G6 P} S6 then_ => gone_ok (S6.unsuite xok) nd hi hk then_
            cases fl with
            | next => obtain ⟨τ6, G6, S6, y6⟩ := hz; exact gone S6 fun _ J7 => ⟨_, _, J7, y6⟩
            | brk => obtain ⟨τ6, G6, S6, y6⟩ := hz; exact gone S6 fun _ J7 => ⟨_, _, J7, y6⟩
            | cont => obtain ⟨τ6, G6, S6, y6⟩ := hz; exact gone S6 fun _ J7 => ⟨_, _, J7, y6⟩
            | ret w => obtain ⟨v6, τ6, G6, S6, r6, y6⟩ := hz; exact gone S6 fun _ J7 => ⟨_, _, _, J7, r6, y6⟩
    exact walk cl want1
end
end PD
namespace PySem.W
open PySem PySem.Spec PySem.Calls PyProof.Rows
section
variable {P : Program} {w : World} {A : Around} {Ex : Value → Shared → Prop} {z : Shared} {K : Frag} {a C : Addr} {ob : Obj} {dict : Option Obj}
end
end PySem.W
namespace PD
open PySem PySem.Spec L2
section
variable {X : Cx} {c : Cc} {T : Tb} {pos rpos p : Pos} {x : Str} {e : Expr} {g : Env → Res D} {cid : Nat} {C : Addr}
/-- an exception class without its own __init__ -/
structure ExN (K : PySem.W.Frag) (C : Addr) : Prop where
  a : PySem.W.excIn K C He.veBase "ValueError.__new__" = true
  b : PySem.W.keepIn K (.ref C) = true
  c : PySem.W.subIn K (.ref C) (.type "BaseException") = some true
  d : PySem.W.typeIn K (.ref C) = some (.type "type")
end
end PD
namespace PD
open PySem PySem.Spec L2
/-- a clause: the classes looked at, those taken, the name's slot, the suite -/
structure Hd where
  all : List Nat
  take : List Nat
  o : Option Nat
  h : Exc → Env → Out
def goneO (o : Option Nat) : Out → Out
  | .nx E => .nx (match o with | none => E | some i => E.set i none)
  | .bk E => .bk (match o with | none => E | some i => E.set i none)
  | .ct E => .ct (match o with | none => E | some i => E.set i none)
  | .rt d E => .rt d E
  | _ => .bad
def inO (o : Option Nat) (E : Env) : Env := match o with
  | none => E
  | some i => E.set i none
def oOk (o : Option Nat) (E : Env) : Bool := match o with
  | none => true
  | some i => decide (i < E.length)
def hdS (x : Exc) : List Hd → Env → Out
  | [], E => .ex x E
  | q :: r, E => if x.c ∈ q.all ∧ oOk q.o E = true then (if x.c ∈ q.take then goneO q.o (q.h x (inO q.o E)) else hdS x r E) else .bad
def tryS (s : Env → Out) (hs : List Hd) : Env → Out := fun E => match s E with
  | .ex x E1 => hdS x hs E1
  | o => o
theorem ERep.step {K : PySem.W.Frag} {c : Cc} {W W' : AS} {H H' : Hp} {x : Exc} {u : Value} {d : Option Addr} (st : Step H W H' W') (r : ERep K c.cl H (c.I W) x u d) : ERep K c.cl H' (c.I W') x u d := by
  obtain ⟨r1, r2⟩ := r
  refine ⟨r1, r2.imp id ?_⟩
  rintro ⟨dd, vs, e1, e2, e3, e4, e5⟩
  obtain ⟨a1, a2⟩ := ws_m0 st dd _ e2 e3
  exact ⟨dd, vs, e1, a1, a2, e4, RepL.mono (ws_m0 st) (fun a o q n => absurd trivial n) _ _ _ _ (fun _ _ _ z => z.elim) (fun _ z => z) e5⟩
def pinO (p : Nat → Option V) (o : Option Nat) (a : Addr) : Nat → Option V := fun z => match o with
  | none => p z
  | some i => if z = i then some (.ref a) else p z
/-- the context of a clause's suite: x is the exception, at a, its dict d -/
abbrev cS (K : PySem.W.Frag) (c : Cc) (o : Option Nat) (x : Exc) (a : Addr) (d : Option Addr) : Cc := { cl := c.cl, B := c.B, Z := fun W H => c.Z W H ∧ ERep K c.cl H (c.I W) x (.ref (c.cl.cl x.c)) d, zs := fun H W H' W' st z => ⟨c.zs _ _ _ _ st z.1, z.2.step (c := c) st⟩, Wx := fun _ _ _ _ => False, p0 := pinO c.p0 o a, S := c.S }
/-- the context of a try's body -/
abbrev cW (c : Cc) (W : WX) : Cc := { c with Wx := W }
section
variable {K : PySem.W.Frag} {X : Cx} {c : Cc} {T : Tb} {W W' : AS} {σ : L2.St} {H H' : Hp} {E : Env} {i : Nat} {pos : Pos}
theorem Sat.wx {W0 : WX} (s : Sat K c E σ H W) : Sat K (cW c W0) E σ H W := ⟨s.wb, s.ws, s.sb, s.wh, s.bh, s.z, s.p0, s.len, s.at_⟩
theorem Sat.unwx {W0 : WX} (s : Sat K (cW c W0) E σ H W) : Sat K c E σ H W := ⟨s.wb, s.ws, s.sb, s.wh, s.bh, s.z, s.p0, s.len, s.at_⟩
theorem Sat.out (s : Sat K c E σ H W) (u : Option V) (h0 : c.p0 i = none) : Sat K c (E.set i none) (σ.set i u) H W := by
  obtain ⟨w1, ws, sb, w2, w3, wz, wp, w4, fp, f1, f2, f3⟩ := s
  refine ⟨w1, ws, sb, w2, w3, wz, fun j v e => ?_, by simp [w4], fp, f1, f2, fun j d e => ?_⟩
  · by_cases hj : j = i
    · rw [hj, h0] at e; cases e
    · rw [List.getElem?_set_ne (Ne.symm hj)]; exact wp j v e
  · by_cases hj : j = i
    · subst hj
      rw [List.getElem?_set] at e
      simp only [if_true] at e
      split at e <;> cases e
    · rw [List.getElem?_set_ne (Ne.symm hj)] at e
      obtain ⟨v, q, r⟩ := f3 j d e
      exact ⟨v, by rw [List.getElem?_set_ne (Ne.symm hj)]; exact q, r⟩
theorem Sat.suite {o : Option Nat} {x : Exc} {a : Addr} {d : Option Addr} (s : Sat K c E σ H W) (er : ERep K c.cl H (c.I W) x (.ref (c.cl.cl x.c)) d) (h0 : ∀ i, o = some i → c.p0 i = none ∧ i < E.length) : Sat K (cS K c o x a d) (inO o E) (setO o σ a) H W := by
  cases o with
  | none => exact ⟨s.wb, s.ws, s.sb, s.wh, s.bh, ⟨s.z, er⟩, s.p0, s.len, s.at_⟩
  | some i =>
    obtain ⟨h1, h2⟩ := h0 i rfl
    have t := s.out (some (.ref a)) h1
    refine ⟨t.wb, t.ws, t.sb, t.wh, t.bh, ⟨t.z, er⟩, fun j v e => ?_, t.len, t.at_⟩
    have e : (if j = i then some (V.ref a) else c.p0 j) = some v := e
    split at e
    · rename_i hj
      cases e
      rw [hj]
      have hl := s.len
      show (σ.set i (some (.ref a)))[i]? = _
      exact List.getElem?_set_self (by omega)
    · exact t.p0 j v e
theorem Sat.unsuite {o : Option Nat} {x : Exc} {a : Addr} {d : Option Addr} (h0 : ∀ i, o = some i → c.p0 i = none) (s : Sat K (cS K c o x a d) E σ H W) : Sat K c E σ H W := ⟨s.wb, s.ws, s.sb, s.wh, s.bh, s.z.1, fun j v e => s.p0 j v (by
  show pinO c.p0 o a j = some v
  cases o with
  | none => exact e
  | some i => exact (if_neg fun z => by rw [z, h0 i rfl] at e; cases e).trans e), s.len, s.at_⟩
/-- the clauses' derivations -/
inductive HJ (X : Cx) (c : Cc) : List ExceptHandler → List Hd → List Cl → Prop
  | nil : HJ X c [] [] []
  | cons {x : Str} {C : Value} {q : Hd} {n : Option Str} {b₀ : Stmt} {suite : List Stmt} {np hp : Pos} {hds : List ExceptHandler} {l : List Hd} {m : List Cl} (hc : Names X x C) (hn : NmOk X n q.o) (h0 : ∀ i, q.o = some i → c.p0 i = none)
      (hm : ∀ k ∈ q.all, PySem.W.exmOne X.K (.ref (c.cl.cl k)) C = some (decide (k ∈ q.take)))
      (hsu : ∀ (x : Exc) (a : Addr) (oe : Obj) (d : Option Addr) (pn : List (Addr × Obj)), x.c ∈ q.take → Zc (.ref (c.cl.cl x.c)) d oe → (∃ vs, oe.data = .fields vs) → JSs (X.suite a ((a, oe) :: pn)) (cS X.K c q.o x a d) (b₀ :: suite) (q.h x)) (r : HJ X c hds l m) :
      HJ X c (.ExceptHandler (some (.Name x np)) n (b₀ :: suite) hp :: hds) (q :: l) (⟨C, q.o, fun a kl d N τ G => ∃ x : Exc, (x.c ∈ q.take ∧ kl = .ref (c.cl.cl x.c)) ∧ tS X.K (cS X.K c q.o x a d) (q.h x) N τ G⟩ :: m)
theorem HJ.ok {hds : List ExceptHandler} {l : List Hd} {m : List Cl} (h : HJ X c hds l m) : ClsOk X hds m := by
  induction h with
  | nil => exact .nil
  | cons hc hn h0 hm hsu r ih =>
    refine .cons hc hn (fun a oe kl d pn hz hf => ⟨fun pins s σ H D I h => ?_⟩) ih
    obtain ⟨x, ⟨h1, rfl⟩, q⟩ := h
    exact (hsu x a oe d pn h1 hz hf).ps.run pins s σ H D I q
theorem hd_sem {hds : List ExceptHandler} {l : List Hd} {m : List Cl} {x : Exc} {u : Value} {dd : Option Addr} {N : Ends} (h : HJ X c hds l m) (s : Sat X.K c E σ H W) (er : ERep X.K c.cl H (c.I W) x u dd) (q : resS X.K c W H (hdS x l E) N) : wCl X.K c.Wx N m u dd σ H := by
  induction h with
  | nil => exact q u dd σ H W (Step.refl _ _) s er
  | @cons y C g n b₀ suite np hp hds2 l2 m2 hc hn h0 hm hsu r ih =>
    unfold hdS at q
    by_cases h1 : x.c ∈ g.all ∧ oOk g.o E = true
    · rw [if_pos h1] at q
      obtain ⟨h1, h1o⟩ := h1
      have eu := er.1
      subst eu
      refine ⟨decide (x.c ∈ g.take), hm _ h1, fun h2 a ha => ?_, fun h2 => ?_⟩
      · have h2 := of_decide_eq_true h2
        rw [if_pos h2] at q
        have h00 := h0
        refine ⟨x, ⟨h2, rfl⟩, inO g.o E, W, s.suite er (fun i z => ⟨h0 i z, by rw [z] at h1o; exact of_decide_eq_true h1o⟩), ?_⟩
        have back : ∀ {E2 : Env} {σ2 : L2.St} {H2 : Hp} {W2 : AS}, Sat X.K (cS X.K c g.o x a dd) E2 σ2 H2 W2 → Sat X.K c (inO g.o E2) (match g.o with | none => σ2 | some i => σ2.set i none) H2 W2 := fun {E2 σ2 H2 W2} t => by
          have t2 := t.unsuite h00
          cases ho : g.o with
          | none => exact t2
          | some i => exact t2.out none (h00 i ho)
        have ends : ∀ {σ2 : L2.St} {H2 : Hp}, ((goneE g.o N).nx σ2 H2 = N.nx (match g.o with | none => σ2 | some i => σ2.set i none) H2) ∧ ((goneE g.o N).bk σ2 H2 = N.bk (match g.o with | none => σ2 | some i => σ2.set i none) H2) ∧ ((goneE g.o N).ct σ2 H2 = N.ct (match g.o with | none => σ2 | some i => σ2.set i none) H2) ∧ (goneE g.o N).rt = N.rt := fun {σ2 H2} => by
          cases g.o <;> exact ⟨rfl, rfl, rfl, rfl⟩
        cases e : g.h x (inO g.o E) with
        | nx E2 =>
          rw [e] at q
          intro σ2 H2 W2 st t
          rw [ends.1]
          refine q _ H2 W2 st ?_
          have := back t
          unfold inO at this
          exact this
        | bk E2 =>
          rw [e] at q
          intro σ2 H2 W2 st t
          rw [ends.2.1]
          refine q _ H2 W2 st ?_
          have := back t
          unfold inO at this
          exact this
        | ct E2 =>
          rw [e] at q
          intro σ2 H2 W2 st t
          rw [ends.2.2.1]
          refine q _ H2 W2 st ?_
          have := back t
          unfold inO at this
          exact this
        | rt d E2 =>
          rw [e] at q
          intro v σ2 H2 W2 F st t r
          rw [(ends (σ2 := σ2) (H2 := H2)).2.2.2]
          exact q v σ2 H2 W2 F st ⟨t.wb, t.ws, t.sb, t.wh, t.bh, t.z.1, fun j v e => t.p0 j v (by
            show pinO c.p0 g.o a j = some v
            cases ho : g.o with
            | none => exact e
            | some i => exact (if_neg fun z => by
                have e : c.p0 j = some v := e
                rw [z, h00 i ho] at e
                cases e).trans e), t.len, t.at_⟩ r
        | ex y E2 => rw [e] at q; exact q.elim
        | bad => rw [e] at q; exact q.elim
      · have h2 := of_decide_eq_false h2
        rw [if_neg h2] at q
        exact ih q
    · rw [if_neg h1] at q; exact q.elim
theorem js_try {body : List Stmt} {h₀ : ExceptHandler} {hds : List ExceptHandler} {l : List Hd} {m : List Cl} {s : Env → Out} (stk : X.stack = X.env :: X.outer) (frm : X.env.frame = some X.env.locals) (nd : X.N.Nodup) (tk : Takes X c.Wx)
    (hb : ∀ (W : WX) (pn : List (Addr × Obj)) (xe : Value → Shared → Prop), Takes (X.tr pn xe) W → PassesOwn (model X.prog X.w) X.A X.env xe → JSs (X.tr pn xe) (cW c W) body s) (hh : HJ X c (h₀ :: hds) l m) : JS X c (.Try body (h₀ :: hds) [] [] pos) (tryS s l) :=
  ⟨PS.weak (ps_try_cl stk frm nd tk (tb := fun W0 => tS X.K (cW c W0) s) (fun W0 pn xe t p => (hb W0 pn xe t p).ps) hh.ok) fun N σ H ⟨E, W, t, q⟩ => by
  unfold tryS at q
  refine ⟨E, W, t.wx, ?_⟩
  cases e : s E with
  | nx E1 => rw [e] at q; exact fun σ' H' W' st t => q σ' H' W' st t.unwx
  | bk E1 => rw [e] at q; exact fun σ' H' W' st t => q σ' H' W' st t.unwx
  | ct E1 => rw [e] at q; exact fun σ' H' W' st t => q σ' H' W' st t.unwx
  | rt d E1 => rw [e] at q; exact fun v σ' H' W' F st t r => q v σ' H' W' F st (Sat.unwx (c := c.addB F) t) r
  | ex x E1 =>
    rw [e] at q
    exact fun u dd σ' H' W' st t er => hd_sem hh t.unwx er (resS_back st q)
  | bad => rw [e] at q; exact q⟩
end
end PD
namespace PD
open PySem PySem.Spec L2
def gXf (n : Nat) (x : Exc) : Env → Res D := fun _ => atR ((kIx x.ns n).bind fun i => x.vs[i]?)
section
variable {X : Cx} {c : Cc} {T : Tb} {x : Exc} {a : Addr} {oe : Obj} {d : Option Addr} {pn : List (Addr × Obj)} {i : Nat} {ks tks : List Nat} {y f : Str} {p py pos apos : Pos}
theorem jv_exf {n : Nat} (hx : x.c ∈ tks) (hT : c.cl = T) (hz : Zc (.ref (c.cl.cl x.c)) d oe) (hf : ∃ vs, oe.data = .fields vs) (hv : PE (X.suite a ((a, oe) :: pn)) (.Name y py) (tVar i)) (hn : f = T.nm n) (hk : ∀ k ∈ tks, XfC X.K (T.cl k) ∧ PySem.W.findIn X.K (.ref (T.cl k)) f = some none)
    (hb : attributeBase (.Name y py) f X.env (eval (.Name y py) X.env) = eval (.Name y py) X.env := by rfl) :
    JV (X.suite a ((a, oe) :: pn)) (cS X.K c (some i) x a d) (.Attribute (.Name y py) f apos) (gXf n x) := by
  subst hT
  obtain ⟨k1, k2⟩ := hk x.c hx
  refine ⟨PE.weak (pe_xf k1 k2 hz hf hv hb) fun σ H Q ⟨E, W, s, q⟩ => ?_⟩
  unfold gXf at q
  have g0 : σ[i]? = some (some (.ref a)) := s.p0 i (.ref a) (if_pos rfl)
  refine ⟨.ref a, g0, rfl, rfl, ?_⟩
  obtain ⟨_, er⟩ := s.z
  rcases er.2 with ⟨e1, e2, _⟩ | ⟨dd, vs, e1, e2, e3, e4, e5⟩
  · rw [e1] at q; exact q.elim
  · cases hq : (kIx x.ns n).bind fun i => x.vs[i]? with
    | none => rw [hq] at q; exact q.elim
    | some z =>
      rw [hq] at q
      have q : ∀ v H', Same H H' → (∃ F, (∀ a, F a → W a) ∧ Rep X.K c.cl H' (c.I W) (c.M W) z v F) → Q v H' := q
      obtain ⟨j, hj, hzj⟩ := Option.bind_eq_some_iff.mp hq
      obtain ⟨v, gv, rv⟩ := e5.get0 hzj
      refine ⟨dd, _, v, e1, e2, ?_, q v H same_refl ⟨none_, fun _ z => z.elim, Rep.mono (fun a o q n => ⟨q, n⟩) (fun a o q n => absurd trivial n) z v _ _ (fun _ _ q _ => q) (fun _ z => z) rv⟩⟩
      rw [hn, lookup_zip c.cl.inj n x.ns vs (by rw [e4, e5.length]), hj]
      exact gv
end
def xmAll (K : PySem.W.Frag) (all : List Nat) (C : Value) (take : List Nat) (T : Tb) : Bool := all.all fun k => decide (PySem.W.exmOne K (.ref (T.cl k)) C = some (decide (k ∈ take)))
theorem xmAll_ok {K : PySem.W.Frag} {all take : List Nat} {C : Value} {T : Tb} (h : xmAll K all C take T = true) : ∀ k ∈ all, PySem.W.exmOne K (.ref (T.cl k)) C = some (decide (k ∈ take)) := fun k hk => of_decide_eq_true (List.all_eq_true.mp h k hk)
def xfAll (K : PySem.W.Frag) (take : List Nat) (f : Str) (T : Tb) : Bool := take.all fun k => xfB K (T.cl k) && decide (PySem.W.findIn K (.ref (T.cl k)) f = some none)
theorem xfAll_ok {K : PySem.W.Frag} {take : List Nat} {f : Str} {T : Tb} (h : xfAll K take f T = true) : ∀ k ∈ take, XfC K (T.cl k) ∧ PySem.W.findIn K (.ref (T.cl k)) f = some none := fun k hk => by
  obtain ⟨h1, h2⟩ := Bool.and_eq_true_iff.mp (List.all_eq_true.mp h k hk)
  exact ⟨xfB_ok h1, of_decide_eq_true h2⟩
end PD
namespace PD
open PySem PySem.Spec L2
section
variable {X : Cx} {c : Cc} {pos : Pos} {a b : Expr} {g1 : Env → Res D} {gm : Env → MRes}
end
end PD
namespace PD
open PySem PySem.Spec PySem.W PySem.Calls PyProof.Rows L2
abbrev wob (e : Addr) : Obj := kxs_mw "ValueError.__init__" e
section
variable {P : Program} {W0 : World} {Ar : Around} {Ex : Value → Shared → Prop} {hp : Heap} {gn : Array GenState} {dr : Drawn} {tk : Nat} {os : OsState}
variable {nm q : Str} {C N : Addr} {bs bm : List Value} {hdct : Bool} {sn : List Str} {sub : List Value} {ab : Bool} {col : Option Bool} {dd : Option Addr} {k0 k1 k2 k3 k5 : Option Value}
/-- super().__init__(..), already bound -/
theorem call_wob {u e t0 : Addr} {rest : List Value} {R : Value → Shared → Prop} (atC : hp.get? C = some (excClassObj nm q C N bs bm hdct sn sub ab col dd k0 k1 k2 k3 k5 "ValueError.__new__")) (atE : hp.get? e = some (HandSPX.excO C t0)) (atU : hp.get? u = some (wob e))
    (hl : rest.length ≤ sizeLine) (fin : ∀ h' t1, (∀ b o, b ≠ e → hp.get? b = some o → h'.get? b = some o) → h'.get? e = some (HandSPX.excO C t1) → R .none ⟨h', gn, dr, tk, os⟩) : wpAny (model P W0) Ar (call (.ref u) rest) R Ex ⟨hp, gn, dr, tk, os⟩ := by
  refine wpAny_call (codeAny_of_tree ?_); show wpAny _ Ar.in1 (callAny (.ref u) ⟨rest, []⟩) _ _ _
  simp only [callAny]; refine wpAny_bind (wpAny_load atU ?_)
  simp only [show (Value.type "method-wrapper" == Value.type "method" || Value.type "method-wrapper" == Value.type "builtin_function_or_method" || Value.type "method-wrapper" == Value.type "method-wrapper") = true by decide, if_pos]
  refine W.KFB.if_so (by decide) (wpAny_bind (ESX.check_bound F.excBase_ValueError atC atE rfl (wpAny_bind (wpAny_pure (wpAny_pure ⟨Code.quiet_builtin _ (by decide +kernel), codeAny_builtin F.excBase_ValueError.initEntry ?_⟩)))))
  rw [Around.under_plainId F.excBase_ValueError.init.plain _]; wp_walk
  refine fin _ hp.objs.size (fun b o hb ho => by rw [Heap.get?_update_other _ _ (Ne.symm hb)] <;> exact Heap.get?_push_of_some _ ho) ?_
  rw [Heap.get?_update_self _ (Heap.get?_push_of_some _ atE) rfl] <;> rfl
end
/-- the init's text -/
abbrev iniBody (txt x f : Str) (p0 p1 p2 p3 p4 p5 q0 q1 q2 q3 : Pos) (k : Nat) : List Stmt :=
  [.Expr (.Call (.Attribute (.Call (.Name "super" p0) [] [] p1) "__init__" p2) [.Constant (.str txt) k p3] [] p4) p5, .Assign [.Attribute (.Name "self" q0) f q1] (.Name x q2) q3]
/-- what the head says of a class and its init -/
structure IniC (P : Program) (K : PySem.W.Frag) (mg : Str → Option Value) (C fI : Addr) (nm qual : Str) (params : Arguments) (body : List Stmt) (scope : Scope) : Prop where
  cls : OexC K C
  ini : findIn K (.ref C) "__init__" = some (some (.ref fI))
  typ : typeIn K (.ref fI) = some (.type "function")
  sup : mg "super" = none
  top : (P.main.scope.names.lookup ("super" : Str)).isSome = false
  opq : nsIn K cStatics "thirdparty.any" = some none
  along : ks_superIn K C C "__init__" = some (some (.builtin "ValueError.__init__"))
  isV : subIn K (.ref C) (.type "ValueError") = some true
  fn : ∃ (oc : Value) (od : Option Addr) (kV doc pm : Value) (an : Option Addr) (cda : Addr) (ct : Value) (cc : Addr) (osl : Array (Option Value)) (cl : Value) (cld : Option Addr) (csl : Array (Option Value)) (ccl : Value) (cdd : Option Addr) (vs : Array Value) (ccs : Array (Option Value)) (file : Str) (tf : Tok),
    K.lookup fI = some ⟨oc, od, .func (ksFn nm qual params body scope .none kV doc pm an (.ref cda) ct cc), osl⟩ ∧ codeIn K (.ref cda) qual = true ∧ K.lookup cc = some ⟨cl, cld, .cell (some (.ref C)), csl⟩ ∧ K.lookup cda = some ⟨ccl, cdd, .fields vs, ccs⟩ ∧
    vs[2]? = some (.str file tf) ∧ ((P.main.file : Str) == file) = true

section
variable {P : Program} {W0 : World} {Ar : Around} {K : PySem.W.Frag} {mg mb : Str → Option Value} {hp : Heap} {gn : Array GenState} {dr : Drawn} {tk : Nat} {os : OsState} {R : Result → Shared → Prop}
variable {nm qual x f txt : Str} {params : Arguments} {scope : Scope} {C fI e t0 : Addr} {u : Value} {p0 p1 p2 p3 p4 p5 q0 q1 q2 q3 : Pos} {k : Nat} {ar : Arg}
/-- the init walked: the exception has its dict with the one field -/
theorem ini_run (I : IniC P K mg C fI nm qual params (iniBody txt x f p0 p1 p2 p3 p4 p5 q0 q1 q2 q3 k) scope) (kin : K.In hp) (lim : hp.NoLimit) (gl : hp.Ns mainGlobals mg) (bl : hp.Ns builtinsNs mb) (hbl : mb "super" = some (.type "super"))
    (atE : hp.get? e = some (HandSPX.excO C t0)) (room : Ar.depth < recursionLimit) (hK : ∀ b o, K.lookup b = some o → b ≠ e)
    (hb : ∀ (kV doc pm : Value) (an : Option Addr) (cdv ct : Value) (cc : Addr), bindArgs (ksFn nm qual params (iniBody txt x f p0 p1 p2 p3 p4 p5 q0 q1 q2 q3 k) scope .none kV doc pm an cdv ct cc) ⟨[.ref e, u], []⟩ = pure [(("self" : Str), .ref e), (x, u)])
    (hp1 : (params.posonlyargs ++ params.args).head? = some ar) (har : ar.arg = "self") (hx : x ≠ "self") (hsup : scope.names.lookup ("super" : Str) = some .globalImplicit) (hcls : scope.names.lookup ("__class__" : Str) = some .free) (hself : scope.names.lookup ("self" : Str) = some .local) (hxl : scope.names.lookup x = some .local)
    (hno : findIn K (.ref C) f = some none) (hdb : (x == ("__debug__" : Str)) = false) (hmc : ∀ (L : Addr) (cda : Value) (cc : Addr), ∃ pl : Sem Bool, eval (.Call (.Attribute (.Call (.Name "super" p0) [] [] p1) "__init__" p2) [.Constant (.str txt) k p3] [] p4) (ksEnv qual scope L fI cda cc) = (do
      let ov ← attributeBase (.Call (.Name "super" p0) [] [] p1) "__init__" (ksEnv qual scope L fI cda cc) (eval (.Call (.Name "super" p0) [] [] p1) (ksEnv qual scope L fI cda cc))
      standAt p2.atName
      let (f, first) ← holding [ov] (getMethod ov "__init__" pl)
      callWith p4 f first (backTo p4 (starEach [.Constant (.str txt) k p3] (ksEnv qual scope L fI cda cc))) []))
    (hi : ∀ (L : Addr) (cda : Value) (cc : Addr), interactive (ksEnv qual scope L fI cda cc) = false)
    (hs1 : ∀ (L : Addr) (cda : Value) (cc : Addr), swapsWith (.Call (.Attribute (.Call (.Name "super" p0) [] [] p1) "__init__" p2) [.Constant (.str txt) k p3] [] p4) none p5.line (ksEnv qual scope L fI cda cc) = pure false)
    (hs2 : ∀ (L : Addr) (cda : Value) (cc : Addr), swapsWith (.Name x q2) (some (.Attribute (.Name "self" q0) f q1)) q3.line (ksEnv qual scope L fI cda cc) = pure false)
    (hcell : ∀ x ∈ scope.names, x.2 ≠ .cell) (hco : scope.isCoroutine = false) (hgen : scope.isGenerator = false) (hk : scope.kind = .function)
    (fin : ∀ h' tk' dx t1, (∀ b o, b ≠ e → hp.get? b = some o → h'.get? b = some o) → hp.objs.size ≤ dx → dx ≠ e → h'.get? e = some ({ cls := .ref C, dict := some dx, data := .fields #[.ref t1, .none, .none, .none, .bool false, .none] } : Obj) →
      h'.Ns1 dx (fun y => if y = f then some u else none) → R (.ok (.ret .none)) ⟨h', gn, dr, tk', os⟩) : codeAny (model P W0) Ar (.call (.ref fI) ⟨[.ref e, u], []⟩) R ⟨hp, gn, dr, tk, os⟩ := by
  obtain ⟨oc, od, kV, doc, pm, an, cda, ct, cc, osl, cl, cld, csl, ccl, cdd, vs, ccs, file, tf, atF, cod, atC, atD, hv, hfile⟩ := I.fn
  obtain ⟨cn, q, N, bs, bm, sn, sub, ab, col, dd, k0, k1, k2, k3, k5, hC, hbm⟩ := I.cls.cls
  have hcd : clsIn K C = some { name := cn, bases := bs, mro := .ref C :: bm, ns := N, qualname := q, hasDict := true, slotNames := sn, subclasses := sub, abstract := ab, collection := col, hasDel := false } := by unfold clsIn; rw [hC] <;> rfl
  have eC : e ≠ C := fun z => by
    have y := kin _ _ hC
    rw [← z, atE] at y
    cases y
  refine ks_codeAny_call_defAt (fd := ksFn nm qual params (iniBody txt x f p0 p1 p2 p3 p4 p5 q0 q1 q2 q3 k) scope .none kV doc pm an (.ref cda) ct cc) (binds := [(("self" : Str), .ref e), (x, u)]) room (kin _ _ atF) rfl lim (codeRec_of kin cod) rfl (.of_eq (hb kV doc pm an (.ref cda) ct cc)) hcell
    (fun y hy => ?_) (fun h₁ hns hk₁ => ?_) hco hgen hk
  · rcases List.mem_cons.mp hy with rfl | hy
    · exact hself
    · rcases List.mem_cons.mp hy with rfl | hy
      · exact hxl
      · cases hy
  · generalize hL : hp.objs.size = L at hns ⊢
    have eL : e ≠ L := by rw [← hL]; exact Nat.ne_of_lt (Heap.lt_size atE)
    have kin₁ : K.In h₁ := kin.keeps hk₁
    have gl₁ := gl.keeps hk₁
    have bl₁ := bl.keeps hk₁
    have atE₁ := hk₁ _ _ atE
    have l1 : (fun y => ([(("self" : Str), .ref e), (x, u)] : List (Str × Value)).reverse.lookup y) "self" = some (.ref e) := by
      have h : (("self" : Str) == x) = false := by simpa using (Ne.symm hx)
      simp [List.lookup, h]
    have l2 : (fun y => ([(("self" : Str), .ref e), (x, u)] : List (Str × Value)).reverse.lookup y) x = some u := by simp [List.lookup]
    obtain ⟨pl, hmc⟩ := hmc L (.ref cda) cc
    refine ks_wpAt_execs_cons (ks_wpAt_Expr_any (ks_wpAt_MethodCall (pl := pl) ?_ hmc) (hi L (.ref cda) cc) (hs1 L (.ref cda) cc))
    refine ks_wpAt_super_base (env := ksEnv qual scope L fI (.ref cda) cc) hsup hcls (by decide) rfl (kin₁ _ _ atF) rfl hp1 rfl (kin₁ _ _ atD) rfl hv hfile I.top ?_
    refine ks_loadName_global hk hsup (loadGlobal_builtin (env := ksEnv qual scope L fI (.ref cda) cc) gl₁ I.sup bl₁ hbl ⟨rfl, ?_⟩)
    refine wpAny_loadName_free hk hcls rfl ⟨_, kin₁ _ _ atC, rfl⟩ ?_
    rw [har]
    refine wpAny_loadName_local hk hself hns l1 ?_
    refine ks_wpAny_isType_cls (kin₁ _ _ hC) rfl ⟨rfl, ?_⟩
    have subC : Looks (model P W0) h₁ (isSubtype (.ref C) (.ref C)) true := looks_mroIn kin₁ (by unfold mroIn; rw [hcd] <;> simp)
    refine ks_wpAny_call_super (kin₁ _ _ hC) rfl atE₁ rfl (fun c z => nomatch z) subC (fun h₂ atS k₂ => ?_)
    have kin₂ : K.In h₂ := kin₁.keeps k₂
    have ty₂ : Looks (model P W0) h₂ (typeOf (.ref e)) (.ref C) := InstAt.type (od := none) (ox := HandSPX.excO C t0) ⟨k₂ _ _ atE₁, rfl, rfl, trivial⟩
    have al : alongIn K "__init__" (((.ref C :: bm).dropWhile (· != .ref C)).drop 1) = some (some (.builtin "ValueError.__init__")) := by
      have z := I.along
      unfold ks_superIn at z
      rw [hcd] at z
      exact z
    refine kxs_getMethod kxs_ValueError atS (looks_opaque kin₂ I.opq) (l₀ := .ref C :: bm) (fun A Q E s k q => wpAny_bind ((looks_clsIn kin₂ hcd) A _ E s k (wpAny_pure q))) rfl kin₂ al (ty₂.andThen (looks_subIn kin₂ I.isV)) eC (by decide) ?_
    have k₃ : ∀ b o, h₂.get? b = some o → (h₂.push (wob e)).get? b = some o := fun b o z => Heap.get?_push_of_some _ z
    have kx : ∀ b o, hp.get? b = some o → (h₂.push (wob e)).get? b = some o := fun b o z => k₃ b o (k₂ b o (hk₁ b o z))
    refine kxs_callWith (i := "ValueError.__init__") (x := e) (by rfl) (evalArgs_plain (Calls.spliced_cons (wpAny_Constant_str (k := k) (pos := p3) (Calls.spliced_nil ⟨Heap.get?_push_at rfl rfl, ?_⟩))))
    refine call_wob (kx _ _ (kin _ _ hC)) (kx _ _ atE) (Heap.get?_push_at rfl rfl) (by show 1 ≤ sizeLine; rw [sizeLine_eq]; omega) (fun h₄ t1 k₄ atE₄ => ?_)
    have k4 : ∀ b o, b ≠ e → hp.get? b = some o → h₄.get? b = some o := fun b o z y => k₄ b o z (kx b o y)
    have ns₄ : h₄.Ns L (fun y => ([(("self" : Str), .ref e), (x, u)] : List (Str × Value)).reverse.lookup y) := by
      obtain ⟨oL, es, ep, e1, r⟩ := hns
      exact ⟨oL, es, ep, k₄ _ _ (Ne.symm eL) (k₃ _ _ (k₂ _ _ e1)), r⟩
    have kin₄ : K.In h₄ := fun b o z => k4 b o (hK b o z) (kin _ _ z)
    refine ks_wpAt_execs_cons (ks_wpAt_Assign_Attr (wpAt_of_wpAny (ESX.ldL ns₄ l2 (ESX.ldL ns₄ l1 ?_ hk hself (by decide)) hk hxl hdb)) (hs2 L (.ref cda) cc))
    refine PySem.W.set_plain kin₄ (ox := { cls := .ref C, dict := none, data := .fields #[.ref t1, .none, .none, .none, .bool false, .none] }) (od := none) ⟨atE₄, rfl, rfl, trivial⟩ I.cls.sa ?_
    refine PySem.HandSPX.exc_osa kin₄ atE₄ hcd (show PySem.HandSPX.refsVE (.ref C :: bm) = true from hbm) rfl hno (fun h' tk' dx k5 dn dne hx hn => ?_)
    have big : hp.objs.size ≤ dx := by
      rw [hL]
      obtain ⟨oL, es, ep, e1, r⟩ := ns₄
      exact Nat.le_of_lt (Nat.lt_of_lt_of_le (Heap.lt_size e1) dn)
    exact wpAt_of_wpAny (wpAny_execs_nil (fin h' tk' dx t1 (fun b o z y => k5 b o z (k4 b o z y)) big dne hx hn))
end

/-- the program's side of such an init, by rfl at a given text -/
structure IniT (nm qual x f : Str) (params : Arguments) (body : List Stmt) (scope : Scope) : Prop where
  run : ∀ {P : Program} {W0 : World} {Ar : Around} {K : PySem.W.Frag} {mg mb : Str → Option Value} {hp : Heap} {gn : Array GenState} {dr : Drawn} {tk : Nat} {os : OsState} {R : Result → Shared → Prop} {C fI e t0 : Addr} {u : Value}, IniC P K mg C fI nm qual params body scope → K.In hp → hp.NoLimit → hp.Ns mainGlobals mg → hp.Ns builtinsNs mb → mb "super" = some (.type "super") →
    hp.get? e = some (HandSPX.excO C t0) → Ar.depth < recursionLimit → (∀ b o, K.lookup b = some o → b ≠ e) → findIn K (.ref C) f = some none →
    (∀ h' tk' dx t1, (∀ b o, b ≠ e → hp.get? b = some o → h'.get? b = some o) → hp.objs.size ≤ dx → dx ≠ e → h'.get? e = some ({ cls := .ref C, dict := some dx, data := .fields #[.ref t1, .none, .none, .none, .bool false, .none] } : Obj) →
      h'.Ns1 dx (fun y => if y = f then some u else none) → R (.ok (.ret .none)) ⟨h', gn, dr, tk', os⟩) → codeAny (model P W0) Ar (.call (.ref fI) ⟨[.ref e, u], []⟩) R ⟨hp, gn, dr, tk, os⟩
section
variable {X : Cx} {nm qual x f xc : Str} {params : Arguments} {body : List Stmt} {scope : Scope} {C fI : Addr} {ex : Expr} {te : TE} {p pos : Pos}
/-- C(e), the exception with its one field -/
theorem pmk_ini (TT : IniT nm qual x f params body scope) (I0 : IniC X.prog X.K X.mg C fI nm qual params body scope) (hno : findIn X.K (.ref C) f = some none) (hr : Room 1 X.A) (hg : Gl X xc) (hm : X.mg xc = some (.ref C)) (he : PE X ex te)
    (hs : starEach [ex] X.env = (false, eval ex X.env) :: starEach [] X.env := by rfl) (hdb : (xc == ("__debug__" : Str)) = false := by decide) :
    PMk X (.Call (.Name xc p) [ex] [] pos) (fun σ H Q => te σ H fun v H1 => ∀ d, H1 d = none → Q (.ref C) (some d) (upd H1 d (.xd [(f, v)]))) := by
  intro pins st σ H Q I h
  obtain ⟨cn, q, N, bs, bm, sn, sub, ab, col, dd, k0, k1, k2, k3, k5, hC, hbm⟩ := I0.cls.cls
  refine wpAny_Call_Name_kw (ld_glob I hg hm ?_ hdb)
  refine PySem.W.callWith_K (h₀ := X.base) I.ok.mod.kin I0.cls.kC ?_ hs (by rfl)
  rw [hs]
  show wpAny _ _ (spliced ((false, eval ex X.env) :: backTo pos (starEach [] X.env))) _ _ st
  refine Calls.spliced_cons (thn (he.run pins st σ H _ I h) fun u s1 ⟨v, H1, I1, r1, q1⟩ => Calls.spliced_nil ⟨I1.kIn, ?_⟩)
  show wpAny _ _ (call (.ref C) [u]) _ _ _
  obtain ⟨hp, g, dr, tk, os⟩ := s1
  have kk : ∀ b o, hp.get? b = some o → ((hp.push (PySem.W.kdv_tup [u])).push (PySem.HandSPX.excO C hp.objs.size)).get? b = some o := fun b o e => Heap.get?_push_of_some _ (Heap.get?_push_of_some _ e)
  have hget : ((hp.push (PySem.W.kdv_tup [u])).push (PySem.HandSPX.excO C hp.objs.size)).get? (hp.objs.size + 1) = some (PySem.HandSPX.excO C hp.objs.size) := by heap_get
  have kin2 := I1.kIn.keeps kk
  have bk2 : ∀ b o, X.base.get? b = some o → ((hp.push (PySem.W.kdv_tup [u])).push (PySem.HandSPX.excO C hp.objs.size)).get? b = some o := fun b o z => kk b o (I1.bk b o z)
  obtain ⟨mb, hb1, hb2⟩ := I1.mod.blt
  refine wpAny_call (PySem.HandSPX.call_own F.excBase_ValueError (fun Y => PySem.HandSPX.refsVE_contains Y bm hbm) (I1.kIn _ _ hC) (PySem.W.looks_findIn I1.kIn I0.ini) (fun self => PySem.W.bind_fn I1.kIn self I0.typ) (by show 1 ≤ sizeLine; rw [sizeLine_eq]; omega)
    (TT.run I0 kin2 (I1.mod.nolimit.keeps bk2) (I1.mod.glob.keeps bk2) (hb1.keeps bk2) ((hb2 _ (by decide)).trans PyProof.Rows.Boot.«super») hget (by have z := hr.dp; rw [make_depth]; omega) (fun b o z e => by
      have y : b < hp.objs.size := Heap.lt_size (I1.kIn _ _ z)
      rw [e] at y
      exact absurd (Nat.lt_of_succ_lt y) (Nat.lt_irrefl _)) hno (fun h' tk' dx t1 k big dne hx hn => ?_)))
  have ha : hp.objs.size ≤ hp.objs.size + 1 := Nat.le_succ _
  have big2 : hp.objs.size ≤ dx := by simp [Heap.push] at big; omega
  obtain ⟨G, g1', g2'⟩ := restrict h' fun b => decide (b ≠ hp.objs.size + 1)
  have gk : ∀ b, b ≠ hp.objs.size + 1 → G.get? b = h'.get? b := fun b hb => g1' b (decide_eq_true hb)
  have ge : G.get? (hp.objs.size + 1) = none := g2' _ (by simp)
  have nha : ∀ {b : Addr} {o : Obj}, hp.get? b = some o → b ≠ hp.objs.size + 1 := fun {b o} z => Nat.ne_of_lt (Nat.lt_of_lt_of_le (Heap.lt_size z) ha)
  have kG : ∀ b o, hp.get? b = some o → G.get? b = some o := fun b o z => by
    rw [gk b (nha z)]
    exact k b o (nha z) (kk b o z)
  have rel : ∀ y, RelO (([(f, v)] : List (Str × V)).lookup y) (if y = f then some u else none) := relO_put (fs := []) (mA := fun _ => none) r1 fun g => True.intro
  have new : ObjOk X.prog X.w (upd H1 dx (.xd [(f, v)])) G dx (.xd [(f, v)]) := ⟨_, hn.at fun o y => (gk dx dne).trans y, rel⟩
  have J := I1.laid (t' := tk') (h' := G) kG big2 new
  have hnd : H1 dx = none := I1.hok.fresh big2
  refine ⟨rfl, hp.objs.size + 1, _, _, ⟨G, g, dr, tk', os⟩, _, .ref C, some dx, rfl, J, fun b o z => ?_, ge, hx, ⟨rfl, rfl⟩, rfl, rfl, ?_, rfl, I1.bare, raises_own I0.cls.exC I0.cls.tyC, q1 dx hnd⟩
  · by_cases hba : b = hp.objs.size + 1
    · rw [hba, ge] at z
      cases z
    · exact (gk b hba).symm.trans z
  · rw [upd_ne (Ne.symm dne)]
    exact I1.hok.fresh ha
end
/-- raise C(e), e kept in the field n -/
def raiseIS (cid n : Nat) (g : Env → Res D) : Env → Out := fun E => match g E with
  | .ok d => if d.imm = true then .ex ⟨cid, [n], [d]⟩ E else .bad
  | .ex e => .ex e E
  | .bad => .bad
section
variable {X : Cx} {c : Cc} {T : Tb} {nm qual x f xc : Str} {params : Arguments} {body : List Stmt} {scope : Scope} {C fI : Addr} {e : Expr} {g : Env → Res D} {cid n : Nat} {p pos rpos : Pos}
theorem js_raiseI (hcalm : X.calm = true) (hT : c.cl = T) (tk : Takes X c.Wx) (hr : Room 1 X.A) (TT : IniT nm qual x f params body scope) (I0 : IniC X.prog X.K X.mg C fI nm qual params body scope) (hno : findIn X.K (.ref C) f = some none) (hC : C = T.cl cid) (hf : f = T.nm n) (hg : Gl X xc) (hm : X.mg xc = some (.ref C)) (he : JV X c e g)
    (hs : starEach [e] X.env = (false, eval e X.env) :: starEach [] X.env := by rfl) (hdb : (xc == ("__debug__" : Str)) = false := by decide) : JS X c (.Raise (some (.Call (.Name xc p) [e] [] pos)) none rpos) (raiseIS cid n g) :=
  ⟨PS.weak (ps_raise hcalm tk (pmk_ini TT I0 hno hr hg hm he.pe hs hdb)) fun N0 τ G ⟨E, W, s, q⟩ => by
  unfold raiseIS at q
  refine tV_use s (fun e e1 => by rw [e1] at q; exact ex_ok s q) (fun e1 => by rw [e1] at q; exact q) fun d e1 v H1 F sm s1 f r dd hd => ?_
  rw [e1] at q
  simp only at q
  split at q
  · rename_i hi
    have nI : ¬ c.I W dd := fun z => by
      have := s1.ih dd z
      exact this hd
    subst hf
    have sm2 : Same H1 (upd H1 dd (.xd [(T.nm n, v)])) := Same.new hd
    refine q _ _ τ _ W (Step.same (sm.trans sm2)) (s1.same sm2) ⟨by rw [hT, ← hC], .inr ⟨dd, [v], rfl, ?_, nI, rfl, ?_⟩⟩
    · rw [upd_same, hT] <;> rfl
    · have r2 : Rep X.K c.cl H1 (c.I W) (fun _ => True) d v none_ := Rep.imm d v F none_ hi r
      exact RepL.one (r2.same sm2)
  · exact q.elim⟩
end
end PD
namespace PD
open PySem PySem.Spec PySem.W PySem.Calls PyProof.Rows L2
structure InD where
  cl : Str
  f : Str
  d : He.DefD
abbrev InD.C (i : InD) (K : PySem.W.Frag) : Addr := He.ga K i.cl
abbrev InD.fI (i : InD) (K : PySem.W.Frag) : Addr := He.fAd K (i.cl, some "__init__")
def fileOf (K : PySem.W.Frag) (cd : Value) : Option Str := match cd with
  | .ref c => (match K.lookup c with
    | some ⟨_, _, .fields vs, _⟩ => (match (vs[2]? : Option Value) with
      | some (.str file _) => some file
      | _ => none)
    | _ => none)
  | _ => none
def InD.w (i : InD) (K : PySem.W.Frag) : He.FnW × Option Str := match K.lookup (i.fI K) with
  | some ⟨_, _, .func fd, _⟩ => (some (fd.name, fd.qualname, fd.params, fd.body, fd.scope, fd.globals, fd.closure.map fun p => (p.1, 0), fd.builtins), fileOf K fd.code)
  | _ => (none, none)
def InD.val (i : InD) (pf : Str) : He.FnW × Option Str := (some (i.d.name, i.d.qual, i.d.params, FuncBody.stmts i.d.body, i.d.scope, mainGlobals, [("__class__", 0)], builtinsNs), some pf)
def veCls (K : PySem.W.Frag) (C : Addr) : Bool := match K.lookup C with
  | some ⟨.type t, _, .cls cd, sl⟩ => decide (t = "type") && (match cd.mro, sl.toList with
    | .ref C' :: bm, [_, _, _, _, some (.builtin n), _] => decide (C' = C) && (decide (n = "ValueError.__new__") && (cd.hasDict && (!cd.hasDel && PySem.HandSPX.refsVE bm)))
    | _, _ => false)
  | _ => false
theorem veCls_ok {K : PySem.W.Frag} {C : Addr} (h : veCls K C = true) : ∃ nm q N bs bm sn sub ab col dd k0 k1 k2 k3 k5, K.lookup C = some (excClassObj nm q C N bs bm true sn sub ab col dd k0 k1 k2 k3 k5 "ValueError.__new__") ∧ PySem.HandSPX.refsVE bm = true := by
  unfold veCls at h
  split at h
  · rename_i t dd cd sl ho
    obtain ⟨h0, h⟩ := Bool.and_eq_true_iff.mp h
    split at h
    · rename_i C' bm k0 k1 k2 k3 n k5 hm hs
      obtain ⟨h1, h⟩ := Bool.and_eq_true_iff.mp h
      obtain ⟨h2, h⟩ := Bool.and_eq_true_iff.mp h
      obtain ⟨h3, h⟩ := Bool.and_eq_true_iff.mp h
      obtain ⟨h4, h5⟩ := Bool.and_eq_true_iff.mp h
      have e0 := of_decide_eq_true h0
      have e1 := of_decide_eq_true h1
      have e2 := of_decide_eq_true h2
      subst e0 e1 e2
      obtain ⟨cn, bs, mro, ns, qn, hd, sn, sub, ab, col, del⟩ := cd
      dsimp only at hm h3 h4
      have h4 : del = false := by simpa using h4
      subst hm h3 h4
      obtain ⟨l⟩ := sl
      have hs : l = [k0, k1, k2, k3, some (.builtin "ValueError.__new__"), k5] := hs
      subst hs
      exact ⟨cn, qn, ns, bs, bm, sn, sub, ab, col, dd, k0, k1, k2, k3, k5, ho, h5⟩
    · cases h
  · cases h
def celB (K : PySem.W.Frag) (C : Addr) : List (Str × Addr) → Bool
  | [p] => (match K.lookup p.2 with
      | some ⟨_, _, .cell (some (.ref D)), _⟩ => decide (D = C)
      | _ => false)
  | _ => false
def InD.fnB (i : InD) (K : PySem.W.Frag) : Bool := match K.lookup (i.fI K) with
  | some ⟨_, _, .func fd, _⟩ => codeIn K fd.code i.d.qual && (decide (fd.defaults = .none) && celB K (i.C K) fd.closure)
  | _ => false
def InD.ok (i : InD) (K : PySem.W.Frag) : Bool := veCls K (i.C K) && (decide (findIn K (.ref (i.C K)) "__setattr__" = some (some (.builtin "object.__setattr__"))) && (decide (subIn K (.ref (i.C K)) (.type "BaseException") = some true) && (decide (typeIn K (.ref (i.C K)) = some (.type "type")) &&
  (keepIn K (.ref (i.C K)) && (decide (findIn K (.ref (i.C K)) "__init__" = some (some (.ref (i.fI K)))) && (decide (typeIn K (.ref (i.fI K)) = some (.type "function")) && (decide (nsIn K cStatics "thirdparty.any" = some none) &&
  (decide (ks_superIn K (i.C K) (i.C K) "__init__" = some (some (.builtin "ValueError.__init__"))) && (decide (subIn K (.ref (i.C K)) (.type "ValueError") = some true) && (decide (findIn K (.ref (i.C K)) i.f = some none) && i.fnB K))))))))))
theorem InD.ini {P : Program} {K : PySem.W.Frag} {mg : Str → Option Value} {i : InD} (h : i.ok K = true) (hv : i.w K = i.val P.main.file) (hs : mg "super" = none) (ht : (P.main.scope.names.lookup ("super" : Str)).isSome = false) :
    IniC P K mg (i.C K) (i.fI K) i.d.name i.d.qual i.d.params i.d.body i.d.scope ∧ findIn K (.ref (i.C K)) i.f = some none := by
  unfold InD.ok at h
  obtain ⟨a1, h⟩ := Bool.and_eq_true_iff.mp h
  obtain ⟨a2, h⟩ := Bool.and_eq_true_iff.mp h
  obtain ⟨a3, h⟩ := Bool.and_eq_true_iff.mp h
  obtain ⟨a4, h⟩ := Bool.and_eq_true_iff.mp h
  obtain ⟨a5, h⟩ := Bool.and_eq_true_iff.mp h
  obtain ⟨a6, h⟩ := Bool.and_eq_true_iff.mp h
  obtain ⟨a7, h⟩ := Bool.and_eq_true_iff.mp h
  obtain ⟨a8, h⟩ := Bool.and_eq_true_iff.mp h
  obtain ⟨a9, h⟩ := Bool.and_eq_true_iff.mp h
  obtain ⟨b1, h⟩ := Bool.and_eq_true_iff.mp h
  obtain ⟨b2, h⟩ := Bool.and_eq_true_iff.mp h
  refine ⟨⟨⟨veCls_ok a1, of_decide_eq_true a2, of_decide_eq_true a3, of_decide_eq_true a4, a5⟩, of_decide_eq_true a6, of_decide_eq_true a7, hs, ht, of_decide_eq_true a8, of_decide_eq_true a9, of_decide_eq_true b1, ?_⟩, of_decide_eq_true b2⟩
  unfold InD.fnB at h
  unfold InD.w InD.val at hv
  cases q : K.lookup (i.fI K) with
  | none => rw [q] at h; cases h
  | some o =>
    obtain ⟨oc, od, dt, osl⟩ := o
    rw [q] at h hv
    cases dt with
    | func fd =>
      obtain ⟨n1, n2, n3, n4, n5, n6, n7, n8, n9, n10, n11, n12, n13, n14, n15⟩ := fd
      have e1 : (some (n1, n2, n3, n4, n5, n6, n7.map fun p => (p.1, 0), n15) : He.FnW) = some (i.d.name, i.d.qual, i.d.params, FuncBody.stmts i.d.body, i.d.scope, mainGlobals, [(("__class__" : Str), 0)], builtinsNs) := congrArg Prod.fst hv
      have e2 : fileOf K n13 = some P.main.file := congrArg Prod.snd hv
      simp only [Option.some.injEq, Prod.mk.injEq] at e1
      obtain ⟨g1, g2, g3, g4, g5, g6, g7, g8⟩ := e1
      have h : (codeIn K n13 i.d.qual && (decide (n8 = .none) && celB K (i.C K) n7)) = true := h
      obtain ⟨c1, y1⟩ := Bool.and_eq_true_iff.mp h
      obtain ⟨c2, hz⟩ := Bool.and_eq_true_iff.mp y1
      clear h y1
      have c2 := of_decide_eq_true c2
      subst c2
      unfold fileOf at e2
      split at e2
      · rename_i cda
        split at e2
        · rename_i ccl cdd vs ccs hcode
          split at e2
          · rename_i file tf hvs
            cases e2
            unfold celB at hz
            split at hz
            · rename_i p
              split at hz
              · rename_i cl cld D csl hcell
                have hD := of_decide_eq_true hz
                subst hD
                obtain ⟨pn, cc⟩ := p
                have hp : pn = "__class__" := by simpa using g7
                subst hp g1 g2 g3 g4 g5 g6 g8
                exact ⟨oc, od, n9, n10, n11, n12, cda, n14, cc, osl, cl, cld, csl, ccl, cdd, vs, ccs, _, tf, rfl, c1, hcell, hcode, hvs, by simp⟩
              · cases hz
            · cases hz
          · cases e2
        · cases e2
      · cases e2
    | _ => cases h

abbrev AlI : Type := AlP × (Bool × List (He.FnW × Option Str))
section
variable (n : Nat) (fa : List He.Fa) (fn : List He.DefD) (ts : List He.Tab) (ex : PySem.W.Frag → Bool) (gs : List GetD) (is : List InD) (pf : Str)
def obsK (K : PySem.W.Frag) : AlI := ((((He.obsT fa fn ts K, ex K) : He.AlX), (gs.all fun q => q.ok K, gs.map fun q => gW K q)), (is.all fun q => q.ok K, is.map fun q => q.w K))
def valI (w : World) : AlI := (valP fn ts gs w, (true, is.map fun q => q.val pf))
structure SaysI (w : World) (h : Heap) (K : PySem.W.Frag) : Prop where
  p : SaysP fa fn ts [] ex gs w h K
  ok : (is.all fun q => q.ok K) = true
  dv : (is.map fun q => q.w K) = is.map fun q => q.val pf
end
section
variable {n : Nat} {fa : List He.Fa} {fn : List He.DefD} {ts : List He.Tab} {ex : PySem.W.Frag → Bool} {gs : List GetD} {is : List InD} {pf : Str} {w : World} {h : Heap} {K : PySem.W.Frag}
theorem SaysI.get (c : SaysI fa fn ts ex gs is pf w h K) (i : Nat) {g : InD} (e : is[i]? = some g) : g.ok K = true ∧ g.w K = g.val pf := by
  have hm : g ∈ is := List.mem_of_getElem? e
  refine ⟨List.all_eq_true.mp c.ok g hm, ?_⟩
  have := congrArg (fun l => l[i]?) c.dv
  simp only [List.getElem?_map, e, Option.map_some] at this
  exact Option.some.inj this
end
end PD
namespace PD
open PySem PySem.Spec PySem.W PySem.Calls PyProof.Rows L2
section
variable (as : List Addr) (fa : List He.Fa) (fn : List He.DefD) (ts : List He.Tab) (ex : PySem.W.Frag → Bool) (gs : List GetD) (is : List InD) (pf : Str)
def obsL (g : Addr → Option Obj) : AlI := obsK fa fn ts ex gs is (He.frT g as)
def hookL : PySem.W.Hook where
  α := AlI
  obs := fun s => obsL as fa fn ts ex gs is s.heap.get?
  val := fun w => valI fn ts gs is pf w
  says := fun w h => ∃ K : PySem.W.Frag, K.In h ∧ SaysI fa fn ts ex gs is pf w h K
  of := fun w h e => by
    have e0 : He.obsT fa fn ts (He.frT h.heap.get? as) = He.valT fn ts w := congrArg (fun z : AlI => z.1.1.1) e
    have e1 : ex (He.frT h.heap.get? as) = true := congrArg (fun z : AlI => z.1.1.2) e
    have e2 : (gs.all fun q => q.ok (He.frT h.heap.get? as)) = true := congrArg (fun z : AlI => z.1.2.1) e
    have e3 : (gs.map fun q => gW (He.frT h.heap.get? as) q) = gs.map fun q => q.d.val := congrArg (fun z : AlI => z.1.2.2) e
    have e4 : (is.all fun q => q.ok (He.frT h.heap.get? as)) = true := congrArg (fun z : AlI => z.2.1) e
    have e5 : (is.map fun q => q.w (He.frT h.heap.get? as)) = is.map fun q => q.val pf := congrArg (fun z : AlI => z.2.2) e
    exact ⟨_, He.frT_in, ⟨⟨⟨e0, e1, (fun _ hp => nomatch hp), (fun _ hp => nomatch hp), (fun _ hp => nomatch hp)⟩, e2, e3⟩, e4, e5⟩⟩
  keeps := fun _ _ _ ⟨K, hK, c⟩ k => ⟨K, PySem.W.Frag.In.keeps hK k, ⟨⟨⟨c.p.x.t, c.p.x.more, c.p.x.hd, c.p.x.out, fun p hp => k _ _ (c.p.x.empty p hp)⟩, c.p.ok, c.p.dv⟩, c.ok, c.dv⟩⟩
end
section
variable {as : List Addr} {fa : List He.Fa} {fn : List He.DefD} {ts : List He.Tab} {ex : PySem.W.Frag → Bool} {gs : List GetD} {is : List InD} {pf : Str}
theorem obsL_eq {g : Addr → Option Obj} {s : Shared} (h : ∀ a, g a = s.heap.get? a) : obsL as fa fn ts ex gs is g = (hookL as fa fn ts ex gs is pf).obs s := by
  have e : g = s.heap.get? := funext h
  rw [e] <;> rfl
end
end PD
noncomputable section
namespace K49
open PySem PySem.Spec PyProof.Rows L2 PD
abbrev Env := PD.Env
def top (i : Nat) : Stmt := PySem.Challenge.pw_whoevermay_k49_texts_of_plans.main.body.getD i (.Pass ⟨0, 0, 0, 0⟩)
abbrev st__law_row : Stmt := top 11
abbrev st__law_numbers : Stmt := top 12
abbrev st__law_names : Stmt := top 13
abbrev st_plan_text : Stmt := top 8
abbrev st__law_turned : Stmt := top 14
abbrev st__law_is_name : Stmt := top 15
abbrev st__law_due : Stmt := top 16
abbrev st_is_name : Stmt := top 6
abbrev st_parse_plan : Stmt := top 9
abbrev st_law : Stmt := top 17
abbrev st_InvalidNotation____init__ : Stmt := subSt (top 2) 0
theorem it_InvalidNotation : IniT "__init__" "InvalidNotation.__init__" "line" "line" (defArgs st_InvalidNotation____init__) (defBody st_InvalidNotation____init__) (defScope st_InvalidNotation____init__) := ⟨fun I kin lim gl bl hbl atE room hK hno fin => ini_run I kin lim gl bl hbl atE room hK (fun _ _ _ _ _ _ _ => rfl) rfl rfl (by decide) rfl rfl rfl rfl hno rfl (fun _ _ _ => ⟨_, rfl⟩) (fun _ _ _ => rfl) (fun _ _ _ => rfl) (fun _ _ _ => rfl) (by decide) rfl rfl rfl fin⟩
end K49
end
namespace K49
open PySem PySem.Spec PyProof.Rows L2 PD
def dd_InvalidNotation____init__ : He.DefD := ⟨("InvalidNotation", some "__init__"), "__init__", "InvalidNotation.__init__", defArgs st_InvalidNotation____init__, defBody st_InvalidNotation____init__, defScope st_InvalidNotation____init__, [], []⟩
def ii_InvalidNotation : InD := ⟨"InvalidNotation", "line", dd_InvalidNotation____init__⟩
def dd__law_row : He.DefD := ⟨("_law_row", none), "_law_row", "_law_row", defArgs st__law_row, defBody st__law_row, defScope st__law_row, [], []⟩
def dd__law_numbers : He.DefD := ⟨("_law_numbers", none), "_law_numbers", "_law_numbers", defArgs st__law_numbers, defBody st__law_numbers, defScope st__law_numbers, [], []⟩
def dd__law_names : He.DefD := ⟨("_law_names", none), "_law_names", "_law_names", defArgs st__law_names, defBody st__law_names, defScope st__law_names, [], []⟩
def dd_plan_text : He.DefD := ⟨("plan_text", none), "plan_text", "plan_text", defArgs st_plan_text, defBody st_plan_text, defScope st_plan_text, [], []⟩
def dd__law_turned : He.DefD := ⟨("_law_turned", none), "_law_turned", "_law_turned", defArgs st__law_turned, defBody st__law_turned, defScope st__law_turned, [], []⟩
def dd__law_is_name : He.DefD := ⟨("_law_is_name", none), "_law_is_name", "_law_is_name", defArgs st__law_is_name, defBody st__law_is_name, defScope st__law_is_name, [], []⟩
def dd__law_due : He.DefD := ⟨("_law_due", none), "_law_due", "_law_due", defArgs st__law_due, defBody st__law_due, defScope st__law_due, [], []⟩
def dd_is_name : He.DefD := ⟨("is_name", none), "is_name", "is_name", defArgs st_is_name, defBody st_is_name, defScope st_is_name, [], []⟩
def dd_parse_plan : He.DefD := ⟨("parse_plan", none), "parse_plan", "parse_plan", defArgs st_parse_plan, defBody st_parse_plan, defScope st_parse_plan, [], []⟩
def dd_law : He.DefD := ⟨("law", none), "law", "law", defArgs st_law, defBody st_law, defScope st_law, [], []⟩
def fnL : List He.DefD := [dd__law_row, dd__law_numbers, dd__law_names, dd_plan_text, dd__law_turned, dd__law_is_name, dd__law_due, dd_is_name, dd_parse_plan, dd_law]
def faL : List He.Fa := [.glo "_law_row", .glo "_law_numbers", .glo "_law_names", .glo "plan_text", .glo "_law_turned", .glo "_law_is_name", .glo "_law_due", .glo "is_name", .glo "parse_plan", .glo "law", .glo "InvalidNotation", .glo "WhoevermayError", .free "super", .free "abs", .free "all", .free "enumerate", .free "int", .free "isinstance", .free "len", .free "list", .free "max", .free "min", .free "range", .free "repr", .free "tuple", .int "MOST_NAME_CHARS" 12, .str "NAME_CHARS" "abcdefghijklmnopqrstuvwxyz0123456789"]
def tsL : List He.Tab := []
theorem nm_ok : nmOk ["line"] = true := by decide +kernel
def tbK (K : PySem.W.Frag) : Tb := mkTb (fun i => ([He.ga K "InvalidNotation", He.ga K "WhoevermayError"] : List Addr).getD i 0) ["line"] nm_ok
def exB (K : PySem.W.Frag) : Bool := xmAll K [1, 0] (.ref (He.ga K "InvalidNotation")) [0] (tbK K) && (xfAll K [0] "line" (tbK K) && (true))
abbrev R : PySem.W.OpenRow := PySem.W.OpenLaw.row PySem.Challenge.rw_whoevermay_k49_texts_of_plans
def gsL : List GetD := []
def isL : List InD := [ii_InvalidNotation]
def asL : List Addr := ([2, 3, 24, 46, 53, 60, 65, 72, 79, 84, 91, 98, 103, 108, 23, 45, 52, 59, 64, 71, 78, 83, 90, 97, 102, 107, 43, 42, 31] : List Addr)
abbrev hk : PySem.W.Hook := hookL asL faL fnL tsL exB gsL isL R.prog.main.file
def ob (s : PySem.W.SharedT) : AlI := obsL asL faL fnL tsL exB gsL isL (HandSHeadRun.getT s)
theorem ob_eq (s : PySem.W.SharedT) : ob s = hk.obs s.abs := obsL_eq (HandSHeadRun.getT_eq s)
def loose : List Str := (["WhoevermayError", "InvalidNotation", "NAME_CHARS", "MOST_NAME_CHARS", "is_name", "plan_text", "parse_plan", "_law_row", "_law_numbers", "_law_names", "_law_turned", "_law_is_name", "_law_due"] : List Str)
theorem run1 (w : World) : HandSHeadRun.RunEq R (PySem.W.view R.prog [17]) hk ob 6000 loose (w.withFollow "special-get-raises" false) := fun os => by kernel_rfl
theorem run2 (w : World) : HandSHeadRun.RunEq R (PySem.W.view R.prog [17]) hk ob 6000 loose (w.withFollow "special-get-raises" true) := fun os => by kernel_rfl
theorem run (w : World) : HandSHeadRun.RunEq R (PySem.W.view R.prog [17]) hk ob 6000 loose w :=
  PySem.W.byRow2 "special-get-raises" (P := fun w => HandSHeadRun.RunEq R (PySem.W.view R.prog [17]) hk ob 6000 loose w) run1 run2 w
theorem top_sup : (R.prog.main.scope.names.lookup ("super" : Str)).isSome = false := by kernel_rfl
end K49
namespace PD
open PySem L2 PySem.Spec PyProof.Rows
def ins {α : Type} (j : Nat) (a : α) (l : List α) : List α := l.take j ++ a :: l.drop j
section
variable {α β : Type} {j : Nat} {a : α} {l : List α}
end
section
variable {P : Program} {w : World} {K : PySem.W.Frag} {mg : Str → Option Value} {base : Heap} {T : Tb}
end
end PD
namespace PD
open PySem L2 PySem.Spec PyProof.Rows
/-- arguments with slot i's thing in place j -/
def tAH (K : PySem.W.Frag) (c : Cc) (i j : Nat) (g : Env → Res (List D)) : TA := fun σ H Q => ∃ E W, Sat K c E σ H W ∧ ∃ v, σ[i]? = some (some v) ∧ match g E with
  | .ok ds => ∀ vs H', Same H H' → vs.length = ds.length → RepL K c.cl H' (c.I W) c.S ds vs none_ → Q (ins j v vs) H'
  | .ex e => ∀ u dd H', Same H H' → ERep K c.cl H' (c.I W) e u dd → c.Wx u dd σ H'
  | .bad => False
structure JAH (X : Cx) (c : Cc) (i j : Nat) (es : List Expr) (g : Env → Res (List D)) : Prop where pa : PA X es (tAH X.K c i j g)
section
variable {X : Cx} {c : Cc} {pos p : Pos} {e : Expr} {es : List Expr} {i j k : Nat} {x : Str} {g : Env → Res D} {gs : Env → Res (List D)} {T : Tb}
end
end PD
namespace PD
open PySem L2 PySem.Spec PyProof.Rows
section
variable {K : PySem.W.Frag}
end
section
variable {X : Cx} {c : Cc} {pos apos : Pos} {a e : Expr} {i : Nat} {g : Env → Res D} {gp : GP}
end
end PD
namespace PD
open PySem L2 PySem.Spec PyProof.Rows
section
variable {X : Cx} {c : Cc} {pos apos px : Pos} {a : Expr} {i k cid mid : Nat} {m x : Str} {gm : Env → MRes} {T : Tb} {C f : Addr} {fd : FuncData} {ps : List Str} {Fm : List D → MR}
end
end PD
namespace PD
open PySem L2 PySem.Spec PyProof.Rows
section
variable {K : PySem.W.Frag}
end
section
variable {X : Cx} {c : Cc} {pos apos : Pos} {a e : Expr} {i : Nat} {g : Env → Res D} {gp : GP}
end
end PD
namespace PD
open PySem L2 PySem.Spec PyProof.Rows
section
variable {X : Cx} {c : Cc} {pos p : Pos} {a : Expr} {g : Env → Res D}
end
end PD
namespace PD
open PySem L2 PySem.Spec PyProof.Rows
section
variable {X : Cx} {c : Cc} {pos tpos p0 : Pos} {o : Expr} {i n j : Nat} {f : Str} {cs : List Nat} {gp : GP} {k : Int}
end
end PD
namespace PD
open PySem PySem.Spec PyProof.Rows L2
section
variable {M : Model} {A : Around} {E : Value → Shared → Prop} {s : Shared} {env : PySem.Env}
end

section
variable {M : Model} {A : Around} {E : Value → Shared → Prop} {s : Shared} {B : Heap} {l : List PySem.Env} {a L L' : Addr} {Z : Obj → Prop}
end
section
variable {X : Cx} {pins : List (Addr × Obj)} {σ : L2.St} {H : Hp} {s : Shared}
end
end PD
namespace PD
open PySem PySem.Spec PyProof.Rows L2
section
variable {X : Cx}
end

section
variable {X : Cx} {c : Cc} {pos : Pos}
end
end PD
namespace PD
open PySem L2
section
variable {K : PySem.W.Frag} {T : Tb} {n m : Nat} {dms : List D} {vms : List V}
end
end PD
namespace PD
open PySem PySem.Spec PyProof.Rows L2
section
variable {K : PySem.W.Frag} {cl : Tb} {H : Hp} {I M F : AS} {p : Addr} {ks : List Key} {xs : List D} {vs : List V}
end
section
variable {X : Cx} {c : Cc} {pos p : Pos} {a : Expr} {g : Env → Res D}
end
end PD
namespace PD
open PySem PySem.Spec PyProof.Rows L2
abbrev RoomN := L2H.RoomH
/-- what a def promises whatever is handled -/
structure FnN (P : Program) (w : World) (K : PySem.W.Frag) (mg : Str → Option Value) (base : Heap) (CX : CXT) (k : Nat) (f : Addr) (fd : FuncData) (ps : List Str) (sp : Sp) : Prop where
  len : ∀ vs H Q E, sp vs H Q E → vs.length = ps.length
  run : ∀ (A : Around) (outer : List PySem.Env) (s : Shared) (H : Hp) (args : Args) (us : List Value) (vs : List V) (Q : VK) (E : XK), RoomN k A → Env0 P w K mg base A outer s H → BindsTo s fd args (ps.zip us) → Vals vs us → sp vs H Q E →
    codeAny (model P w) A (.call (.ref f) args) (CR CX outer P w H s Q E) s
section
variable {CX : CXT} {P : Program} {w : World} {K : PySem.W.Frag} {mg : Str → Option Value} {base : Heap} {N ps : List Str} {qual : Str} {scope : Scope} {f : Addr} {cd : Value} {A : Around} {outer : List PySem.Env} {s s1 : Shared} {H : Hp} {E : XK} {us : List Value} {vs : List V}
end
section
variable {X : Cx} {CX : CXT} {c : Cc} {T : Tb} {k n : Nat} {f : Addr} {fd : FuncData} {ps : List Str} {sp : Sp} {E : L2.St → XK} {x : Str} {p pos : Pos} {e : Expr} {es : List Expr} {t : TA} {dvs : List V} {ds : List Value} {dds : List D} {Ff : List D → Res D} {ga : PD.Env → Res (List D)}
end
section
variable {P : Program} {w : World} {K : PySem.W.Frag} {mg : Str → Option Value} {base : Heap} {T : Tb}
end
end PD
namespace PD
open PySem PySem.Spec PyProof.Rows L2
section
variable {P : Program} {w : World} {A : Around} {R : Result → Shared → Prop} {it : Addr} {fp wr : List Addr} {G : Array GenState → Array GenState → Prop} {n : Nat} {Pv : Nat → Value → Prop} {St : Nat → Shared → Prop}
end
section
variable {P : Program} {w : World} {A : Around} {E : Value → Shared → Prop} {s : Shared}
end
section
variable {X : Cx} {c : Cc} {pos p p2 q : Pos} {a : Expr} {ta : TE} {g : Env → Res D}
end
end PD
namespace PD
open PySem PySem.Spec PyProof.Rows L2
mutual
/-- no dict of text keys in it -/
def D.noDk : D → Bool
  | .tup xs => noDkL xs
  | .ktup xs => noDkL xs
  | .lst _ xs => noDkL xs
  | .dk _ _ _ => false
  | .dt _ _ vs => noDkL vs
  | .dn _ _ vs => noDkL vs
  | .obj _ _ _ vs => noDkL vs
  | _ => true
def noDkL : List D → Bool
  | [] => true
  | d :: ds => d.noDk && noDkL ds
end
section
variable {K : PySem.W.Frag} {cl : Tb} {H : Hp} {I M : AS} {p0 : Addr} {kvs : List (Key × V)} {od : Obj}
end
section
variable {K : PySem.W.Frag} {X : Cx} {c : Cc} {pos : Pos} {W : AS} {σ : L2.St} {H H' : Hp} {E : Env} {p0 : Addr} {kvs : List (Key × V)} {od : Obj}
open Classical in
end
end PD
noncomputable section
namespace PD
open PySem L2
section
variable {X : L2.Cx}
variable {c : Cc} {a b : Expr} {ga gb : Env → Res D} {pos apos : Pos}
end
end PD
namespace PD
open PySem PySem.Spec PyProof.Rows L2
/-- what a def promises where no repr is under way -/
structure FnG (P : Program) (w : World) (K : PySem.W.Frag) (mg : Str → Option Value) (base : Heap) (CX : CXT) (k : Nat) (f : Addr) (fd : FuncData) (ps : List Str) (sp : Sp) : Prop where
  len : ∀ vs H Q E, sp vs H Q E → vs.length = ps.length
  run : ∀ (A : Around) (outer : List PySem.Env) (s : Shared) (H : Hp) (args : Args) (us : List Value) (vs : List V) (Q : VK) (E : XK), A.guards = some [] → Room k A → Env0 P w K mg base A outer s H → BindsTo s fd args (ps.zip us) → Vals vs us → sp vs H Q E →
    codeAny (model P w) A (.call (.ref f) args) (CR CX outer P w H s Q E) s
section
variable {CX : CXT} {P : Program} {w : World} {K : PySem.W.Frag} {mg : Str → Option Value} {base : Heap} {N ps : List Str} {qual : Str} {scope : Scope} {f : Addr}
theorem okG {k : Nat} {x : Str} {params : Arguments} {body : List Stmt} {dvs : List V} {kws : List (Str × V)} {fd : FuncData} {sp : Sp} (F : FunD K x qual params body scope dvs kws f fd) (S : FnScope N ps scope) (len : ∀ vs H Q E, sp vs H Q E → vs.length = ps.length)
    (hbody : ∀ (cdv : Value) (A : Around) (outer : List PySem.Env) (s : Shared) (H : Hp) (vs : List V) (Q : VK) (E : XK), A.guards = some [] → Room k (A.deeper (envOfC qual scope s.heap.objs.size f cdv)) → sp vs H Q E →
      ∃ t, PSs (cxOf CX P w K mg base N qual scope f cdv A outer s H E) body t ∧ t { nx := fun _ H' => Q .non H', rt := Q } (start N vs) H) : FnG P w K mg base CX (k + 1) f fd ps sp := by
  obtain ⟨_, _, _, _, _, _, _, cdv, _, _, rfl, look, code, _, _⟩ := F.ex
  refine ⟨len, fun A outer s H args us vs Q E hg room e0 bind rel hsp => ?_⟩
  have hl := len _ _ _ _ hsp
  have inK : K.In s.heap := e0.mod.kin.keeps fun b o e => (e0.bs b o e).1
  have kinds : ∀ y ∈ ps.zip us, scope.names.lookup y.1 = some .local ∨ (scope.names.lookup y.1 = some .cell ∧ ((cellsFrom (s.heap.objs.size + 1) scope.names []).lookup y.1).isSome = true) := by
    rintro ⟨y, u⟩ hy
    exact (S.par y (List.of_mem_zip hy).1).imp id fun z => ⟨z, PySem.W.cellsFrom_some _ _ _ (.inl z)⟩
  refine codeAny_call_function room.depth (inK _ _ look) rfl S.co S.gen rfl (PySem.W.codeRec_of inK code) (bind _ _ _ _ (wpAny_newFunctionEnv_cells S.kind kinds fun env he s1 x => ?_))
  subst he
  have nolim : s.heap.NoLimit := e0.mod.nolimit.keeps fun b o e => (e0.bs b o e).1
  obtain ⟨t, pss, want⟩ := hbody cdv A outer s H vs Q E hg (room.deeper _) hsp
  have I : Inv (cxOf CX P w K mg base N qual scope f cdv A outer s H E) [] (start N vs) H s1 := inv_start S room.hd e0 hl rel x
  refine ⟨nolim.keeps x.toInCall.keep, codeAny_func (wpAny_mono (pss.run [] s1 (start N vs) H _ I want) (fun fl s2 done => ?_) fun _ _ z => z)⟩
  have fin : ∀ {τ : L2.St} {G : Hp} {v : V} {u : Value}, Inv (cxOf CX P w K mg base N qual scope f cdv A outer s H E) [] τ G s2 → RelV v u → Q v G → CE outer P w H s Q u s2 := fun {_ G v _} J rv q => ⟨v, G, J.os, J.bare, J.base, J.hok, rv, q⟩
  cases fl with
  | next =>
    obtain ⟨_, _, J, q⟩ := done
    exact fin (v := .non) (u := .none) J rfl q
  | ret u =>
    obtain ⟨_, _, _, J, rv, q⟩ := done
    exact fin J rv q
  | brk => exact done.elim fun _ z => z.elim fun _ z => z.2.elim
  | cont => exact done.elim fun _ z => z.elim fun _ z => z.2.elim
end
section
variable {P : Program} {w : World} {K : PySem.W.Frag} {mg : Str → Option Value} {base : Heap} {T : Tb}
theorem fn_pureG {k n : Nat} {x qual : Str} {params : Arguments} {body : List Stmt} {scope : Scope} {dvs : List V} {kws : List (Str × V)} {f : Addr} {fd : FuncData} {N ps : List Str} {s : Env → Out} (F : FunD K x qual params body scope dvs kws f fd) (S : FnScope N ps scope) (hn : ps.length = n)
    (hb : ∀ (cdv : Value) (A : Around) (outer : List PySem.Env) (s0 : Shared) (H : Hp) (E : XK) (c : Cc), A.guards = some [] → Room k (A.deeper (envOfC qual scope s0.heap.objs.size f cdv)) → c.cl = T → (∀ i, c.p0 i = none) → Takes (cxOf (L2.CX P w) P w K mg base N qual scope f cdv A outer s0 H E) c.Wx →
      JSs (cxOf (L2.CX P w) P w K mg base N qual scope f cdv A outer s0 H E) c body s) : FnG P w K mg base (L2.CX P w) (k + 1) f fd ps (spF K T (bodyF n N.length s)) := by
  refine okG F S (fun vs H Q E h => ?_) (fun cdv A outer s0 H vs Q E hg hr h => ?_)
  · obtain ⟨ds, I, _, r, q⟩ := h
    unfold bodyF at q
    split at q
    · rename_i d e
      split at e
      · rename_i hl
        rw [r.length, hn, hl]
      · cases e
    · rename_i d e
      split at e
      · rename_i hl
        rw [r.length, hn, hl]
      · cases e
    · exact q.elim
  · obtain ⟨ds, I, hI, r, q⟩ := h
    have J := hb cdv A outer s0 H E (cc0 T I E fun _ => none) hg hr rfl (fun _ => rfl) (takes_of rfl rfl rfl rfl)
    refine ⟨_, J.ps, startE N.length ds, none_, ⟨fun _ z => z.elim, fun _ z => z.elim, fun _ z => z.elim, fun _ z => z.elim, hI, trivial, fun _ v e => (by cases e), start_len r.length, fun _ => none_, fun _ _ z => z.elim, fun _ _ _ _ z => z.elim, fun i d e => ?_⟩, ?_⟩
    · obtain ⟨v, g, rr⟩ := r.get0 (startE_get e)
      exact ⟨v, start_get g, Rep.mono (fun a o q n => ⟨q, fun z => n (z.elim (fun y => y.elim) id)⟩) (fun a o q n => ⟨q, fun z => z.elim (fun y => y) fun y => y⟩) d v _ _ (fun _ _ _ z => z.elim) (fun _ z => z) rr⟩
    · unfold bodyF at q
      by_cases hl : ds.length = n
      · rw [if_pos hl] at q
        cases e : s (startE N.length ds) with
        | nx E1 =>
          rw [e] at q
          exact fun σ' H' W' t s2 => q .non H' none_ (fun a o z => t.1 a o z fun y => y) (fun _ z => z.elim) rfl
        | rt d E1 =>
          rw [e] at q
          refine fun v σ' H' W' F' t s2 rr => q v H' F' (fun a o z => t.1 a o z fun y => y) (fun a z => ⟨(t.2.2 a (.inr z)).resolve_left fun y => y, s2.bh a (.inr z)⟩) (Rep.mono (fun a o q n => ⟨q, fun z => n (.inr z)⟩) (fun a o q n => ⟨q, n⟩) d v _ _ (fun _ _ q _ => q) (fun _ z => z) rr)
        | ex x E1 =>
          rw [e] at q
          refine fun u dd σ' H' W' t s2 er => q u dd H' (fun a o z => t.1 a o z fun y => y) ?_
          obtain ⟨e1, e2⟩ := er
          refine ⟨e1, e2.imp id ?_⟩
          rintro ⟨dx, vs2, h1, h2, h3, h4, h5⟩
          exact ⟨dx, vs2, h1, h2, fun z => h3 (.inr z), h4, RepL.mono (fun a o q n => ⟨q, fun z => n (.inr z)⟩) (fun a o q n => ⟨q, n⟩) _ _ _ _ (fun _ _ _ z => z.elim) (fun _ z => z) h5⟩
        | bk E1 => rw [e] at q; exact q.elim
        | ct E1 => rw [e] at q; exact q.elim
        | bad => rw [e] at q; exact q.elim
      · rw [if_neg hl] at q; exact q.elim
theorem law_okG {k : Nat} {f : Addr} {fd : FuncData} {ps : List Str} {F : List D → Res D} (h : FnG P w K mg base (L2.CX P w) k f fd ps (spF K T F))
    (hF : ∀ ns : List Int, ns.length ≤ 63 → F [.lst .frz (ns.map D.int)] = .ok (.bl true)) : FnG P w K mg base CX0 k f fd ps (spLaw K) := by
  have key : ∀ vs H Q E, spLaw K vs H Q E → spF K T F vs H Q (fun _ _ _ => False) := by
    rintro vs H Q E ⟨a, ns, hl, rfl, hS, hQ⟩
    refine ⟨[.lst .frz (ns.map D.int)], none_, fun _ z => z.elim, RepL.none_cons ⟨a, ns.map V.int, rfl, ?_, rep_ints⟩ rfl, ?_⟩
    · rcases hS with z | z
      · exact .inl ⟨z, fun y => y⟩
      · exact .inr ⟨rfl, z⟩
    · rw [hF ns hl]
      rintro v H' F' _ _ rfl
      exact hQ H'
  refine ⟨fun vs H Q E q => h.len vs H Q _ (key vs H Q E q), fun A outer s H args us vs Q E hg hr he hb hv hs => ?_⟩
  refine codeAny_mono (h.run A outer s H args us vs Q (fun _ _ _ => False) hg hr he hb hv (key vs H Q E hs)) fun r s' q => ?_
  cases r with
  | error e =>
    obtain ⟨_, _, _, _, _, _, _, _, _, _, _, _, z⟩ := q
    exact z.elim
  | ok fl =>
    cases fl with
    | ret u => exact q
    | _ => exact q
end
/-- the law called from outside: nothing but the script may be tracked, and no repr is under way -/
theorem law_callG {P : Program} {w : World} {K : PySem.W.Frag} {mg mb : Str → Option Value} {k : Nat} {fa a : Addr} {fd : FuncData} {x : Str} {s₁ : Shared} {vs : List Value} {ns : List Int}
    (KX : K.In s₁.heap) (hns : s₁.heap.Ns mainGlobals mg) (hb : s₁.heap.Ns builtinsNs mb) (hbb : ∀ x : Str, x ≠ "__name__" → mb x = bootBuiltins x) (hlim : s₁.heap.NoLimit) (hg : s₁.gens = #[])
    (ha : s₁.heap.get? a = some { cls := .type "list", data := .seq vs.toArray }) (hi : IntsAre vs ns) (hl : ns.length ≤ 63) (hr : Room k callerA)
    (F : ∀ base : Heap, K.In base → base.Ns mainGlobals mg → FnG P w K mg base CX0 k fa fd [x] (spLaw K)) (hbind : ∀ (s : Shared) (u : Value), BindsTo s fd ⟨[u], []⟩ [(x, u)]) :
    codeAny (model P w) callerA (.call (.ref fa) ⟨[.ref a], []⟩) (fun r s' => r = .ok (.ret (.bool true)) ∧ OldK s₁.heap s'.heap ∧ s'.os = s₁.os ∧ AllBare s'.gens) s₁ := by
  have rv := vals_ints hi
  have lenV := hi.length
  have hl2 : ns.length ≤ sizeLine := Nat.le_trans hl (by decide)
  have main : ∀ H : Hp, Only H → SqL K H a (ns.map V.int) → HOk P w H s₁.heap → (∀ b, H b ≠ none → b = a) → (H a ≠ none → K.lookup a = none) →
      codeAny (model P w) callerA (.call (.ref fa) ⟨[.ref a], []⟩) (fun r s' => r = .ok (.ret (.bool true)) ∧ OldK s₁.heap s'.heap ∧ s'.os = s₁.os ∧ AllBare s'.gens) s₁ := by
    intro H only sq hok one out
    have up : ∀ {b : Addr} {o : Obj}, s₁.heap.get? b = some o → H b = none → (hidT s₁.heap H).get? b = some o := fun e n => hidT_get e n
    have hid : ∀ {b : Addr} {u : HO}, H b = some u → b = a := fun {b u} q => one b (by rw [q]; simp)
    have dict : ∀ {b : Addr} {o : Obj} {es : Array DictEntry} {ep : Nat}, s₁.heap.get? b = some o → o.data = .dict es ep → H b = none := fun {b o es ep} e d => by
      cases q : H b with
      | none => rfl
      | some u =>
        obtain rfl := hid q
        rw [ha] at e
        cases e
        cases (show Data.seq vs.toArray _ = Data.dict es ep from d)
    have spaces : ∀ {b : Addr} {m : Str → Option Value}, s₁.heap.Ns b m → (hidT s₁.heap H).Ns b m := fun {b m} ⟨o, es, ep, e, d, r⟩ => ⟨o, es, ep, up e (dict e d), d, r⟩
    have kin : K.In (hidT s₁.heap H) := fun b o e => up (KX b o e) (by
      cases q : H b with
      | none => rfl
      | some u =>
        obtain rfl := hid q
        rw [out (by rw [q]; simp)] at e
        cases e)
    have md : Mod K mg (hidT s₁.heap H) := ⟨kin, spaces hns, ⟨mb, spaces hb, hbb⟩, hlim.elim fun mc z => ⟨mc, spaces z.1, z.2⟩⟩
    have e0 : Env0 P w K mg (hidT s₁.heap H) callerA [] s₁ H := ⟨rfl, md, fun b o e => of_hidT e, Nat.le_of_eq (hidT_size _ _), trivial, fun b hb => absurd (show b ∈ ([] : List Addr) from hb) (by simp), hok, .of_eq hg⟩
    refine codeAny_mono ((F _ kin (spaces hns)).run callerA [] s₁ H ⟨[.ref a], []⟩ [.ref a] [.ref a] (fun v _ => v = .bl true) (fun _ _ _ => False) rfl hr e0 (hbind s₁ (.ref a)) (.cons rfl .nil) ⟨a, ns, hl, rfl, sq, fun _ => rfl⟩) fun r s' h => ?_
    cases r with
    | error e => exact False.elim h
    | ok fl =>
      cases fl with
      | next => exact False.elim h
      | brk => exact False.elim h
      | cont => exact False.elim h
      | ret u =>
        obtain ⟨v, H', os, bare, un, hok', rel, q⟩ := h
        obtain rfl : v = .bl true := q
        obtain rfl : u = Value.bool true := rel
        refine ⟨rfl, OldK.of_keep fun b o e => ?_, os, bare⟩
        rcases only b with z | ⟨ob, xs, z⟩
        · exact un.keep b o e z (by intro y; exact absurd (show b ∈ ([] : List Addr) from y) (by simp)) (by simp)
        · obtain ⟨e1, _⟩ := hok b _ z
          obtain ⟨e2, _⟩ := hok' b _ (un.frzs b ob _ z)
          rw [e] at e1
          cases e1
          exact e2
  cases hk : K.lookup a with
  | some o =>
    have e := KX a o hk
    rw [ha] at e
    cases e
    exact main (fun _ => none) (fun _ => .inl rfl) (.inr ⟨_, vs.toArray, _, hk, rfl, rfl, rfl, by rw [List.size_toArray, lenV]; exact hl2, by simpa using rv⟩) (fun b u z => by cases (show (none : Option HO) = some u from z)) (fun b z => absurd rfl z) fun z => absurd rfl z
  | none =>
    refine main (fun b => if b = a then some (.frz { cls := .type "list", data := .seq vs.toArray } (.lst (ns.map V.int))) else none) (fun b => ?_) (.inl (.inr ⟨{ cls := .type "list", data := .seq vs.toArray }, if_pos rfl⟩)) (fun b u z => ?_) (fun b z => ?_) fun _ => hk
    · by_cases h : b = a
      · exact .inr ⟨_, _, if_pos h⟩
      · exact .inl (if_neg h)
    · by_cases h : b = a
      · cases (if_pos h).symm.trans z
        subst h
        exact ⟨ha, by rw [List.length_map]; exact hl2, vs, _, rv, ha⟩
      · cases (if_neg h).symm.trans z
    · by_cases h : b = a
      · exact h
      · exact absurd (if_neg h) z
theorem walk_ofG {l : PySem.W.OpenLaw} {k : Nat} {q : Program} {loose : List Str} {XP : (Str → Option Value) → Heap → Prop} {YP : World → Heap → Prop} {d : DefRec} {x : Str} (hn : l.most = some 63) (hdf : d.params.defaults = []) (hr : Room k callerA)
    (F : ∀ (w : World) (mg : Str → Option Value) (fa : Addr) (h : Heap), YP w h → h.Ns mainGlobals mg → mg d.name = some (.ref fa) →
      ∃ (K : PySem.W.Frag) (fd : FuncData), K.In h ∧ (∀ (s : Shared) (u : Value), BindsTo s fd ⟨[u], []⟩ [(x, u)]) ∧ ∀ base : Heap, K.In base → base.Ns mainGlobals mg → FnG l.prog w K mg base CX0 k fa fd [x] (spLaw K)) :
    PySem.W.WalkO q loose XP YP l.row.toRowW d [] (fun f vs => PySem.call f vs) := by
  refine Att.attach_call hn hdf fun w s₀ s₁ mg mb fa o pm cd doc a vs ns G Y ho hd hcd hmg hobj hints hlen hg => ?_
  obtain ⟨K, fd, KX, hb, hF⟩ := F w mg fa _ Y G.T.g hmg
  exact law_callG KX G.T.g G.T.b G.T.builtins G.T.nolimit hg hobj hints hlen hr hF hb
section
variable {X : Cx}
def rRepr (K : PySem.W.Frag) : List V → Hp → VK → Prop := fun xs H Q => ∃ (a : Addr) (d : PyData), xs = [.ref a] ∧ Dp K H (.ref a) d ∧ d.showable = true ∧ d.hasDict = false ∧ d.depth ≤ 40 ∧ d.shown.length ≤ sizeLine ∧ Q (.str d.shown) H
theorem cr_repr (hg : X.A.guards = some []) (hu : X.A.units + 64 < cLine) : CallR X (.builtin "repr") (rRepr X.K) := by
  intro pins s σ H xs us Q I r h
  obtain ⟨a, d, rfl, hd, hs, hn, hp, hz, q⟩ := h
  rw [Vals.ref1 r]
  obtain ⟨as, rd⟩ := Dp.reads I d (.ref a) (.ref a) hd rfl
  refine repr_of_reads' rd hs (PyData.noDict_hsm hn) hg (by omega) (fun b o e => e) (fun h' u tk hk => ?_) hz
  exact ⟨.str d.shown, H, I.kept hk, ⟨u, rfl⟩, q⟩
end
def reprD (d : D) : Res D := match d with
  | .tup _ => (match d.py with
    | some p => if p.showable = true ∧ p.hasDict = false ∧ p.depth ≤ 40 ∧ p.shown.length ≤ sizeLine then .ok (.str p.shown) else .bad
    | none => .bad)
  | .lst _ _ => (match d.py with
    | some p => if p.showable = true ∧ p.hasDict = false ∧ p.depth ≤ 40 ∧ p.shown.length ≤ sizeLine then .ok (.str p.shown) else .bad
    | none => .bad)
  | _ => .bad
theorem nx_repr : NoX1 reprD := fun d e h => by
  unfold reprD at h
  repeat' split at h
  all_goals cases h
section
variable {X : Cx} {c : Cc} {a : Expr} {g : Env → Res D} {pos p : Pos}
theorem jn_repr (hgd : X.A.guards = some []) (hu : X.A.units + 65 < cLine) (hg : Gl X "repr") (hm : X.mg "repr" = none) (ha : JV X c a g) (h3 : starEach [a] X.env = (false, eval a X.env) :: starEach [] X.env := by rfl) (h4 : (backTo pos (starEach [] X.env)).any (·.1) = false := by rfl) : JN X c (.Call (.Name "repr" p) [a] [] pos) (gUn reprD g) :=
  jn_b1 (k := fun v H Q => rRepr X.K [v] H Q) (cr_repr hgd (by omega)) (fun v H Q h => h) (fun cl H I M F d v Q res hi r e q => by
      unfold reprD at e
      split at e
      · split at e
        · rename_i pd e1
          split at e
          · rename_i hc
            cases e
            have dp := rep_dp _ _ _ _ r e1
            obtain ⟨pa, vs, rfl, _⟩ := r
            exact ⟨pa, pd, rfl, dp, hc.1, hc.2.1, hc.2.2.1, hc.2.2.2, scal q rfl⟩
          · cases e
        · cases e
      · split at e
        · rename_i pd e1
          split at e
          · rename_i hc
            cases e
            have dp := rep_dp _ _ _ _ r e1
            obtain ⟨pa, vs, rfl, _⟩ := r
            exact ⟨pa, pd, rfl, dp, hc.1, hc.2.1, hc.2.2.1, hc.2.2.2, scal q rfl⟩
          · cases e
        · cases e
      · cases e) nx_repr hg hm (by decide +kernel) ha (by decide) (by decide) h3 h4
def eqS : D → D → Res D
  | .str a, .str b => .ok (.bl (decide (a = b)))
  | _, _ => .bad
theorem nx_eqS : NoX eqS := fun a b e h => by
  unfold eqS at h
  split at h <;> cases h
theorem op2_eqS {K : PySem.W.Frag} : Op2 K L2.rEq eqS := fun cl I M H da db d x y Fa Fb Q hi hm ra rb e q => by
  unfold eqS at e
  split at e
  · rename_i s t
    cases e
    obtain rfl : x = .str s := ra
    obtain rfl : y = .str t := rb
    refine ⟨rfl, ?_⟩
    rw [show decide (V.str s = V.str t) = decide (s = t) by simp]
    exact scal_ok q rfl
  · cases e
variable {b : Expr} {ga gb : Env → Res D}
theorem jn_eqS (ha : JV X c a ga) (hb : JV X c b gb) : JN X c (.Compare a [.Eq] [b] pos) (gBin eqS ga gb) := jn_cmp L2.op_eq op2_eqS nx_eqS ha hb (nomark _)
end
end PD
namespace PD
open PySem L2
section
variable {X : Cx} {c : Cc} {pos apos : Pos} {a b : Expr} {ga gb : Env → Res D}
end
end PD
namespace PD
open PySem PySem.Spec PyProof.Rows L2
section
variable {X : Cx}
end
open Classical in
section
variable {K : PySem.W.Frag} {cl : Tb} {H : Hp} {I M : AS}
end
section
variable {X : Cx} {c : Cc} {a : Expr} {g : Env → Res D} {pos p : Pos}
end
end PD
namespace PD
open PySem L2 PySem.Spec PyProof.Rows
section
variable {X : Cx} {c : Cc} {pos : Pos} {a : Expr} {ga : Env → Res D}
end
section
variable {X : Cx} {c : Cc} {pos tpos : Pos} {o value : Expr} {i n : Nat} {f : Str} {cs : List Nat} {gp : GP} {g : Env → Res D} {f2 : Int → Int → Int} {op : Operator}
end
end PD
namespace PD
open PySem L2 PySem.Spec PyProof.Rows
def gFmt (g : Env → Res D) : Env → Res D := fun E => match g E with
  | .ok (.str y) => if y.length ≤ sizeLine then .ok (.str y) else .bad
  | _ => .bad
def gJs : List (Env → Res D) → Str → Env → Res D
  | [], acc, _ => .ok (.str acc)
  | g :: gs, acc, E => match g E with
    | .ok (.str y) => if (acc ++ y).length ≤ sizeLine then gJs gs (acc ++ y) E else .bad
    | _ => .bad
section
variable {X : Cx} {c : Cc} {pos : Pos} {e : Expr} {g : Env → Res D}
theorem jv_fmt (ha : JV X c e g) : JV X c (.FormattedValue e (-1) none pos) (gFmt g) := ⟨PE.weak (pe_fmt ha.pe) fun σ H Q ⟨E, W, s, q⟩ => by
  unfold gFmt at q
  refine tV_use s (fun e e1 => by rw [e1] at q; exact q.elim) (fun e1 => by rw [e1] at q; exact q) fun d e1 v H1 F sm s1 f r => ?_
  rw [e1] at q
  cases d with
  | str y =>
    simp only at q
    split at q
    · rename_i hz
      exact .inl ⟨y, r, hz, q _ _ sm ⟨none_, fun _ z => z.elim, rfl⟩⟩
    · exact q.elim
  | _ => exact q.elim⟩
inductive JFs (X : Cx) (c : Cc) : List Expr → List (Env → Res D) → Prop where
  | nil : JFs X c [] []
  | cons {e : Expr} {g : Env → Res D} {es : List Expr} {gs : List (Env → Res D)} (h : JV X c e g) (r : JFs X c es gs) : JFs X c (e :: es) (g :: gs)
theorem JFs.pj {es : List Expr} {gs : List (Env → Res D)} (h : JFs X c es gs) : PJ X es (gs.map (tV X.K c)) := by
  induction h with
  | nil => exact .nil
  | cons h _ ih => exact .cons h.pe ih
theorem tJs_ok {E : Env} {W : AS} {σ : L2.St} {Q : VK} : ∀ (gs : List (Env → Res D)) (acc : Str) (H : Hp), Sat X.K c E σ H W → resN X.K c W σ H (gJs gs acc E) Q → tJs (gs.map (tV X.K c)) acc σ H fun out H1 => Q (.str out) H1
  | [], acc, H, s, q => q _ H none_ same_refl (fun _ z => z.elim) rfl
  | g :: gs, acc, H, s, q => by
    unfold gJs at q
    show tV X.K c g σ H _
    refine tV_use s (fun e e1 => by rw [e1] at q; exact q.elim) (fun e1 => by rw [e1] at q; exact q) fun d e1 v H1 F sm s1 f r => ?_
    rw [e1] at q
    cases d with
    | str y =>
      simp only at q
      split at q
      · rename_i hz
        exact ⟨y, r, hz, tJs_ok gs (acc ++ y) H1 s1 (resN_back sm q)⟩
      · exact q.elim
    | _ => exact q.elim
theorem jn_fstr {v1 v2 : Expr} {rest : List Expr} {gs : List (Env → Res D)} (h : JFs X c (v1 :: v2 :: rest) gs) : JN X c (.JoinedStr (v1 :: v2 :: rest) pos) (gJs gs Str.empty) := ⟨PE.weak (pe_joined h.pj) fun σ H Q ⟨E, W, s, q⟩ => tJs_ok gs Str.empty H s q⟩
end
end PD
namespace PD
open PySem PySem.Spec PyProof.Rows L2
mutual
/-- a tree as a key -/
def D.keyN : D → Option NestedKey
  | .non => some .none
  | .int i => some (.num i)
  | .str s => some (.text s)
  | .tup xs => match keyNL xs with
    | some ks => some (.tup ks)
    | none => none
  | _ => none
def keyNL : List D → Option (List NestedKey)
  | [] => some []
  | d :: ds => match d.keyN, keyNL ds with
    | some k, some ks => some (k :: ks)
    | _, _ => none
end
section
variable {K : PySem.W.Frag} {cl : Tb} {H : Hp} {I M : AS}
end
section
variable {P : Program} {w : World} {H : Hp} {I : AS} {h : Heap}
end
section
variable {P : Program} {w : World} {H : Hp} {I : AS} {h : Heap} {p : Addr} {ks : List NestedKey} {ws vs : List V}
end
section
variable {X : Cx} {pins : List (Addr × Obj)} {σ : L2.St} {H : Hp} {s : Shared}
end
section
variable {X : Cx} {c : Cc} {pos pos' : Pos} {a b o k value : Expr} {i : Nat} {ga gb gi g : Env → Res D} {gp : GP}
end
section
variable {X : Cx} {c : Cc} {pos apos pos' : Pos} {a b e e1 e2 o k value : Expr} {i : Nat} {ga gb gi g g1 g2 : Env → Res D} {gs : Env → Res (List D)} {gp : GP} {gm : Env → MRes} {W W' : AS} {σ : L2.St} {H H' : Hp} {E : Env} {r : V → List V → Hp → VK → Prop} {f : D → List D → Res (D × D)} {name : Str} {id : String}
end
end PD
namespace PD
open PySem PySem.Spec PyProof.Rows L2
section
variable {X : Cx} {c : Cc} {pos px : Pos} {a b : Expr} {g1 : Env → Res D} {gm : Env → MRes} {i : Nat} {x : Str}
end
end PD
namespace PD
open PySem PySem.Spec PyProof.Rows L2
def valsAt (σ : L2.St) : List Nat → List V → Prop
  | [], vs => vs = []
  | i :: is, vs => ∃ v ws, vs = v :: ws ∧ σ[i]? = some (some v) ∧ valsAt σ is ws
/-- a display of names -/
structure JNm (X : Cx) (es : List Expr) (is : List Nat) : Prop where pa : PA X es (fun σ H Q => ∃ vs, valsAt σ is vs ∧ Q vs H)
section
variable {X : Cx} {c : Cc} {pos px : Pos} {es : List Expr} {is : List Nat} {i : Nat} {x : Str}
end
def tGO (K : PySem.W.Frag) (c : Cc) (idx : List Nat) (ud : D → Env → Res Env) : TG := fun v σ H Q => ∃ E W F d, Sat K (c.aside F) E σ H W ∧ (∀ a, c.S a → c.B a) ∧ (∀ a, F a → ¬ c.B a) ∧ c.Z (fun a => W a ∨ F a) H ∧ Rep K c.cl H ((c.aside F).I W) (fun _ => True) d v F ∧ match ud d E with
  | .ok E' => ∀ σ' W', SameOut idx σ σ' → (∀ a, W' a → W a ∨ F a) → Sat K c E' σ' H W' → Q σ' H
  | _ => False
def tGsO (K : PySem.W.Frag) (c : Cc) (idx : List Nat) (uds : List D → Env → Res Env) : TGs := fun vs σ H Q => ∃ E W F ds, Sat K (c.aside F) E σ H W ∧ (∀ a, c.S a → c.B a) ∧ (∀ a, F a → ¬ c.B a) ∧ c.Z (fun a => W a ∨ F a) H ∧ RepL K c.cl H ((c.aside F).I W) (fun _ => True) ds vs F ∧ match uds ds E with
  | .ok E' => ∀ σ' W', SameOut idx σ σ' → (∀ a, W' a → W a ∨ F a) → Sat K c E' σ' H W' → Q σ' H
  | _ => False
structure JGO (X : Cx) (c : Cc) (t : Expr) (idx : List Nat) (ud : D → Env → Res Env) : Prop where pg : PG X t (tGO X.K c idx ud)
/-- for any frame that has the same pins -/
structure JGsO (X : Cx) (c : Cc) (ts : List Expr) (idx : List Nat) (uds : List D → Env → Res Env) : Prop where pg : PGs X ts (tGsO X.K c idx uds)
section
variable {X : Cx} {c : Cc} {pos px : Pos} {es : List Expr} {is : List Nat} {i : Nat} {x : Str}
end
end PD
namespace PD
open PySem PySem.Spec PyProof.Rows L2 HT
section
variable {prog : Program} {w : World} {A : Around} {E : Value → Shared → Prop} {s : Shared}
end
section
variable {X : Cx} {c : Cc} {a e : Expr} {ga : Env → Res D}
end
end PD
namespace PD
open PySem PySem.Spec PyProof.Rows L2
section
variable {K : PySem.W.Frag} {cl : Tb} {H H' : Hp} {I M : AS}
end
section
variable {X : Cx} {c : Cc} {pos apos cpos p : Pos} {a : Expr} {g : Env → Res D}
end
end PD
namespace PD
open PySem PySem.Spec PyProof.Rows L2
section
variable {K : PySem.W.Frag} {cl : Tb} {H : Hp} {I M : AS}
end
section
variable {X : Cx} {c : Cc} {pos p : Pos} {a : Expr} {g : Env → Res D}
end
section
variable {X : Cx} {c : Cc} {pos apos : Pos} {a e : Expr} {i : Nat} {g : Env → Res D} {gp : GP}
end
end PD
namespace PD
open PySem PySem.Spec PySem.W PyProof.Rows L2
def KeyO (P : Params) (e : DictEntry) : Prop := (e.key = .none ∧ e.hash = reduceHash 0xFCA86420) ∨ ∃ x t, e.key = .str x t ∧ e.hash = PyData.keyHash P x
def kO (z : Option Str) : Option Key := z.map .inr
structure KTabO (K : PySem.W.Frag) (w : World) (T : Tb) (d : Addr) (tab : List (Option Str × D)) : Prop where
  at_ : ∃ es n, K.lookup d = some ⟨.type "dict", none, .dict es n, #[]⟩ ∧ (∀ e ∈ es.toList, KeyO w.params e) ∧ (d == sysModules) = false ∧
    ∀ z, match tab.lookup z with
      | some dd => ∃ u v, findBy nkIs es (kO z) = some u ∧ RelV v u ∧ TxtRep K T dd v
      | none => findBy nkIs es (kO z) = none
section
variable {X : Cx} {c : Cc} {pos apos cpos px : Pos} {a b : Expr} {ga gb : Env → Res D}
end
def keysO (P : Params) (ks : List (Option Str)) : List (Option (Str × Int)) := ks.map fun k => k.map fun k => (k, PyData.keyHash P k)
abbrev TabO : Type := (PySem.W.Frag → Addr) × List (Option Str)
section
variable (as : List Addr) (fa : List He.Fa) (fn : List He.DefD) (ts : List He.Tab) (ex : PySem.W.Frag → Bool) (gs : List GetD) (is : List InD) (us : List TabO) (pf : Str)
def SaysU (w : World) (K : PySem.W.Frag) : Prop := (us.map fun t => He.dicW K (t.1 K)) = us.map fun t => some (keysO w.params t.2)
end
section
variable {as : List Addr} {fa : List He.Fa} {fn : List He.DefD} {ts : List He.Tab} {ex : PySem.W.Frag → Bool} {gs : List GetD} {is : List InD} {us : List TabO} {pf : Str} {w : World} {K : PySem.W.Frag}
theorem SaysU.get (c : SaysU us w K) (i : Nat) {t : TabO} (e : us[i]? = some t := by rfl) : He.dicW K (t.1 K) = some (keysO w.params t.2) := by
  have := congrArg (fun l => l[i]?) c
  simp only [List.getElem?_map, e, Option.map_some] at this
  exact Option.some.inj this
end
end PD
namespace PD
open PySem PySem.Spec PyProof.Rows L2
section
variable {X : Cx} {c : Cc} {pos : Pos} {a b : Expr} {ga gb : Env → Res D}
end
end PD
namespace PySem
open Builtin Builtin.Str
end PySem
namespace PD
open PySem PySem.Spec PyProof.Rows L2
section
variable {X : Cx} {o e f : Expr} {te tf : TE} {to : TE} {y z : Str} {j k l : Nat} {c0 c1 c2 apos pos p p' : Pos}
theorem pst_set {i : Nat} {x : Str} {e : Expr} {te : TE} {pos' : Pos} (hN : X.N.Nodup) (hi : X.N[i]? = some x) (hx : Loc X.env.scope x) (he : PET X e te) (hs : swapsWith e (some (.Name x pos')) pos.line X.env = pure false := by rfl) (hf : X.fn x = true ∨ X.env.scope.names.lookup x = some .local := by first | exact .inl rfl | exact .inr rfl | assumption) :
    PST X (.Assign [.Name x pos'] e pos) (tAsg te (gName i)) := by
  intro pins s σ H D h0 I h
  refine wpAny_Assign_Name (thn (he pins s σ H _ h0 I h) fun v s1 ⟨y, H1, I1, r1, q1⟩ => ?_) hs
  exact store_ok I1 hN hi hx r1 (fun s2 I2 => ⟨_, H1, I2, q1⟩) hf
theorem pet_tup {es : List Expr} {t : TA} {x1} (h : PAT X es t) : PET X (.Tuple es x1 pos) (tTup t) := by
  intro pins s σ H Q h0 I hq
  refine wpAny_Tuple_spliced (thn (h pos pins s σ H _ h0 I hq) fun us s1 ⟨xs, H1, I1, r, z, q⟩ => ⟨by rw [← r.length]; exact z, ?_⟩)
  have hf : H1 s1.heap.objs.size = none := I1.hok.fresh (Nat.le_refl _)
  refine ⟨.ref s1.heap.objs.size, upd H1 s1.heap.objs.size (.tup xs), I1.laid (t' := s1.toks) (fun b u e => Heap.get?_push_of_some _ e) (Nat.le_refl _) ?_, rfl, q _ hf⟩
  exact ⟨z, us, r, ⟨_, Heap.get?_push_size _ rfl, rfl, _, rfl⟩⟩
theorem PET.weak {X : Cx} {e : Expr} {t t' : TE} (h : PET X e t) (w : ∀ σ H Q, t' σ H Q → t σ H Q) : PET X e t' := fun pins s σ H Q h0 I q => h pins s σ H Q h0 I (w _ _ _ q)
theorem PAT.weak {X : Cx} {es : List Expr} {t t' : TA} (h : PAT X es t) (w : ∀ σ H Q, t' σ H Q → t σ H Q) : PAT X es t' := fun pos pins s σ H Q h0 I q => h pos pins s σ H Q h0 I (w _ _ _ q)
theorem PST.weak {X : Cx} {st : Stmt} {t t' : TS} (h : PST X st t) (w : ∀ D σ H, t' D σ H → t D σ H) : PST X st t' := fun pins s σ H D h0 I q => h pins s σ H D h0 I (w _ _ _ q)
theorem PSsT.weak {X : Cx} {st : List Stmt} {t t' : TS} (h : PSsT X st t) (w : ∀ D σ H, t' D σ H → t D σ H) : PSsT X st t' := fun pins s σ H D h0 I q => h pins s σ H D h0 I (w _ _ _ q)
theorem PAT.of {es : List Expr} {t : TA} (h : PA X es t) : PAT X es t := fun pos pins s σ H Q _ I q => h.run pos pins s σ H Q I q
end
structure TN (X : Cx) (c : Cc) (e : Expr) (g : Env → Res D) : Prop where pe : PET X e (tN X.K c g)
structure TV (X : Cx) (c : Cc) (e : Expr) (g : Env → Res D) : Prop where pe : PET X e (tV X.K c g)
structure TL (X : Cx) (c : Cc) (es : List Expr) (g : Env → Res (List D)) : Prop where pa : PAT X es (tL X.K c g)
structure TSt (X : Cx) (c : Cc) (st : Stmt) (s : Env → Out) : Prop where ps : PST X st (tS X.K c s)
structure TSs (X : Cx) (c : Cc) (st : List Stmt) (s : Env → Out) : Prop where ps : PSsT X st (tS X.K c s)
def replD (y z : Str) : D → Res D
  | .str x => if x.length + (x.length + 1) * z.length ≤ 16777216 then .ok (.str (Txt.replace x y z)) else .bad
  | _ => .bad
section
variable {X : Cx} {c : Cc} {e o a b : Expr} {es : List Expr} {st : Stmt} {sts : List Stmt} {g ga gb : Env → Res D} {gs : Env → Res (List D)} {s t : Env → Out} {pos apos c0 c1 c2 : Pos} {y z : Str} {i j k l : Nat}
theorem kn_of (h : JN X c e g) : TN X c e g := ⟨CwR.PET.of h.pe⟩
theorem kv_of (h : JV X c e g) : TV X c e g := ⟨CwR.PET.of h.pe⟩
theorem kl_of (h : JL X c es gs) : TL X c es gs := ⟨PAT.of h.pa⟩
theorem ks_of (h : JS X c st s) : TSt X c st s := ⟨PST.of h.ps⟩
theorem repl_sem {f : Str → Str} {σ : L2.St} {H : Hp} {Q : VK} {h : D → Res D} (hh : ∀ d, h d = match d with
    | .str x => if x.length + (x.length + 1) * z.length ≤ 16777216 then .ok (.str (f x)) else .bad
    | _ => .bad) : tN X.K c (gUn h g) σ H Q → tV X.K c g σ H fun v H1 => ∃ x, v = .str x ∧ x.length + (x.length + 1) * z.length ≤ 16777216 ∧ Q (.str (f x)) H1 := by
  rintro ⟨E, W, s, q⟩
  unfold gUn at q
  refine tV_use s (fun e e1 => by rw [e1] at q; exact q) (fun e1 => by rw [e1] at q; exact q) fun d e1 v H1 F sm s1 f r => ?_
  rw [e1] at q
  simp only [res_bind_ok, hh] at q
  cases d with
  | str x =>
    have r : v = .str x := r
    simp only at q
    split at q
    · rename_i hz
      exact ⟨x, r, hz, q _ H1 none_ sm (fun _ z => z.elim) rfl⟩
    · exact q.elim
  | _ => exact q.elim
theorem kn_repl (ha : JV X c o g) (hyz : (y == z) = false := by decide)
    (hst : starEach [.Constant (.str y) j c0, .Constant (.str z) k c1] X.env = [(false, eval (.Constant (.str y) j c0) X.env), (false, eval (.Constant (.str z) k c1) X.env)] := by rfl)
    (hbase : attributeBase o "replace" X.env (eval o X.env) = eval o X.env := by rfl) (hline : (apos.endLine == pos.line) = true := by rfl) :
    TN X c (.Call (.Attribute o "replace" apos) [.Constant (.str y) j c0, .Constant (.str z) k c1] [] pos) (gUn (replD y z) g) := ⟨PET.weak (CwR.pet_replC ha.pe hyz hst hbase hline) fun σ H Q q => repl_sem (f := fun x => Txt.replace x y z) (fun d => by cases d <;> rfl) q⟩
theorem kv_of_kn (h : TN X c e g) : TV X c e (gDm g) := ⟨PET.weak h.pe fun σ H Q ⟨E, W, s, q⟩ => by
  refine ⟨E, W, s, ?_⟩
  unfold gDm at q
  cases e1 : g E with
  | ok d =>
    rw [e1] at q
    exact fun v H' F sm f r => q v H' sm ⟨none_, fun _ z => z.elim, Rep.dm (fun a z => .inl z) (fun _ _ => trivial) d v F (fun a z w => s.fresh (f a z).1 (w.elim .inl fun y => .inr (s.sb a y))) r⟩
  | ex x =>
    rw [e1] at q
    exact q
  | bad =>
    rw [e1] at q
    exact q⟩
theorem kn_fr (h : TN X c e g) : TN X c e (gFr g) := ⟨PET.weak h.pe fun σ H Q ⟨E, W, s, q⟩ => by
  refine ⟨E, W, s, ?_⟩
  unfold gFr at q
  cases e1 : g E with
  | ok d =>
    rw [e1] at q
    refine fun v H' F sm f r => q v H' none_ sm (fun _ z => z.elim) ?_
    have e2 : (fun a => c.I W a ∨ none_ a) = c.I W := funext fun a => propext ⟨fun z => z.elim id fun y => y.elim, .inl⟩
    rw [e2]
    exact Rep.fr (fun a z => .inl z) d v F (fun a z w => s.fresh (f a z).1 w) r
  | ex x =>
    rw [e1] at q
    exact q
  | bad =>
    rw [e1] at q
    exact q⟩
theorem opsemT {r : R2} {f : D → D → Res D} (ho : Op2 X.K r f) (nx : NoX f) {σ : L2.St} {H : Hp} {Q : VK} (h : tN X.K c (gBin f ga gb) σ H Q) : tOp r (tV X.K c ga) (tV X.K c gb) σ H Q := by
  obtain ⟨E, W, s, q⟩ := h
  unfold gBin at q
  refine tV_use s (fun e e1 => by rw [e1] at q; exact q) (fun e1 => by rw [e1] at q; exact q) fun da e1 x H1 Fa sm1 s1 fa ra => ?_
  rw [e1] at q
  simp only [res_bind_ok] at q
  refine tV_use s1 (fun e e2 => by rw [e2] at q; exact fun u dd H' sm => q u dd H' (sm1.trans sm)) (fun e2 => by rw [e2] at q; exact q) fun db e2 y H2 Fb sm2 s2 fb rb => ?_
  rw [e2] at q
  simp only [res_bind_ok] at q
  cases e3 : f da db with
  | ok d =>
    rw [e3] at q
    refine ho c.cl (c.I W) (c.M W) H2 da db d x y Fa Fb Q s2.ih s2.mi (ra.same sm2) rb e3 fun v H' F sm f r => ?_
    exact q v H' F ((sm1.trans sm2).trans sm) (fun a z => ⟨(sm1.trans sm2).free (f a z).1, (f a z).2⟩) r
  | ex e => exact absurd e3 (nx da db e)
  | bad =>
    rw [e3] at q
    exact q.elim
theorem kn_add (ha : TV X c a ga) (hb : TV X c b gb) : TN X c (.BinOp a .Add b pos) (gBin addD ga gb) := ⟨PET.weak (CwR.pet_op op_addA ha.pe hb.pe) fun _ _ _ h => opsemT op2_add nx_add h⟩
theorem kl_nil : TL X c [] gNil := kl_of jl_nil
theorem kl_cons (h : TN X c e g) (hr : TL X c es gs) (hs : starEach (e :: es) X.env = (false, eval e X.env) :: starEach es X.env := by rfl) : TL X c (e :: es) (gCons (gFr g) gs) := ⟨PAT.weak (pat_cons (kn_fr h).pe hr.pa hs) fun σ H Q ⟨E, W, s, q⟩ => by
  have hfr : ∀ d, gFr g E = .ok d → ∃ d' : D, d = d'.fr := fun d e1 => by
    unfold gFr at e1
    cases e2 : g E with
    | ok d' => rw [e2] at e1; cases e1; exact ⟨d', rfl⟩
    | ex x => rw [e2] at e1; cases e1
    | bad => rw [e2] at e1; cases e1
  unfold gCons at q
  refine ⟨E, W, s, ?_⟩
  cases e1 : gFr g E with
  | ex x => rw [e1] at q; exact q
  | bad => rw [e1] at q; exact q
  | ok d =>
    rw [e1] at q
    simp only [res_bind_ok] at q
    intro v H1 F sm f r
    refine ⟨E, W, s.same sm, ?_⟩
    cases e2 : gs E with
    | ex x => rw [e2] at q; exact fun u dd H' sm2 => q u dd H' (sm.trans sm2)
    | bad => rw [e2] at q; exact q
    | ok ds =>
      rw [e2] at q
      obtain ⟨d', rfl⟩ := hfr d e1
      refine fun vs H2 sm2 r2 => q (v :: vs) H2 (sm.trans sm2) (RepL.none_cons ?_ r2)
      have r3 : Rep X.K c.cl H1 (c.I W) (fun _ => True) d'.fr.fr v none_ := Rep.fr (fun a z => Or.inl z) d'.fr v F (fun a z w => s.fresh (f a z).1 w) r
      have e3 : d'.fr.fr = d'.fr := fr_fr d'
      rw [e3] at r3
      exact r3.same sm2⟩
theorem kn_tup {x1} (h : TL X c es gs) : TN X c (.Tuple es x1 pos) (gTup gs) := ⟨PET.weak (pet_tup h.pa) fun σ H Q ⟨E, W, s, q⟩ => by
  unfold gTup at q
  refine tL_use s (fun e e1 => by rw [e1] at q; exact q) (fun e1 => by rw [e1] at q; exact q) fun ds e1 vs H1 sm s1 r => ?_
  rw [e1] at q
  simp only [res_bind_ok] at q
  split at q
  · rename_i hz
    exact ⟨by rw [r.length]; exact hz.2, fun n hn => q _ _ none_ (sm.trans (Same.new hn)) (fun _ z => z.elim) (rep_tup s1.ih hn r hz.1)⟩
  · exact q.elim⟩
theorem kss_cons {rest : List Stmt} (h : TSt X c st s) (hr : TSs X c rest t) : TSs X c (st :: rest) (seqS s t) := ⟨PSsT.weak (psst_cons h.ps hr.ps) fun _ _ _ h => seq_sem h⟩
theorem kss_one (h : TSt X c st s) : TSs X c [st] s := ⟨CwR.psst_one h.ps⟩
theorem ks_set {i : Nat} {x : Str} {pos' : Pos} (hN : X.N.Nodup) (hi : X.N[i]? = some x) (hx : Loc X.env.scope x) (h : TN X c e g) (h0 : c.p0 i = none) (hs : swapsWith e (some (.Name x pos')) pos.line X.env = pure false := by rfl)
    (hf : X.fn x = true ∨ X.env.scope.names.lookup x = some .local := by first | exact .inl rfl | exact .inr rfl | assumption) : TSt X c (.Assign [.Name x pos'] e pos) (asgS i g) := ⟨PST.weak (pst_set hN hi hx h.pe hs hf) fun D σ H ⟨E, W, s, q⟩ => by
  unfold asgS at q
  refine ⟨E, W, s, ?_⟩
  cases e1 : g E with
  | ok d =>
    rw [e1] at q
    simp only at q
    split at q
    · rename_i hlt
      intro v H' F sm f r
      obtain ⟨s2, t⟩ := s.store sm f r hlt h0
      exact q _ H' _ t s2
    · exact q.elim
  | ex x => rw [e1] at q; exact ex_ok s q
  | bad => rw [e1] at q; exact q⟩
end
theorem okT {CX : CXT} {P : Program} {w : World} {K : PySem.W.Frag} {mg : Str → Option Value} {base : Heap} {N ps : List Str} {qual : Str} {scope : Scope} {f : Addr} {k : Nat} {x : Str} {params : Arguments} {body : List Stmt} {dvs : List V} {kws : List (Str × V)} {fd : FuncData} {sp : Sp} (F : FunD K x qual params body scope dvs kws f fd) (S : FnScope N ps scope)
    (hnc : ∀ y ∈ scope.names, y.2 ≠ .cell) (hps : 1 ≤ ps.length) (len : ∀ vs H Q E, sp vs H Q E → vs.length = ps.length)
    (hbody : ∀ (cdv : Value) (A : Around) (outer : List PySem.Env) (s : Shared) (H : Hp) (vs : List V) (Q : VK) (E : XK), Room k (A.deeper (envOfC qual scope s.heap.objs.size f cdv)) → sp vs H Q E →
      ∃ t, PSsT (cxOf CX P w K mg base N qual scope f cdv A outer s H E) body t ∧ t { nx := fun _ H' => Q .non H', rt := Q } (start N vs) H) : FnOk P w K mg base CX (k + 1) f fd ps sp := by
  obtain ⟨_, _, _, _, _, _, _, cdv, _, _, rfl, look, code, _, _⟩ := F.ex
  exact fn_ofT look code S hnc hps len fun A outer s H vs Q E => hbody cdv A outer s H vs Q E
section
variable {P : Program} {w : World} {K : PySem.W.Frag} {mg : Str → Option Value} {base : Heap} {T : Tb}
theorem fn_pureT {k n : Nat} {x qual : Str} {params : Arguments} {body : List Stmt} {scope : Scope} {dvs : List V} {kws : List (Str × V)} {f : Addr} {fd : FuncData} {N ps : List Str} {s : Env → Out} (F : FunD K x qual params body scope dvs kws f fd) (S : FnScope N ps scope) (hn : ps.length = n) (hnc : ∀ y ∈ scope.names, y.2 ≠ .cell) (hps : 1 ≤ ps.length)
    (hb : ∀ (cdv : Value) (A : Around) (outer : List PySem.Env) (s0 : Shared) (H : Hp) (E : XK) (c : Cc), Room k (A.deeper (envOfC qual scope s0.heap.objs.size f cdv)) → c.cl = T → (∀ i, c.p0 i = none) → Takes (cxOf (L2.CX P w) P w K mg base N qual scope f cdv A outer s0 H E) c.Wx →
      TSs (cxOf (L2.CX P w) P w K mg base N qual scope f cdv A outer s0 H E) c body s) : FnOk P w K mg base (L2.CX P w) (k + 1) f fd ps (spF K T (bodyF n N.length s)) := by
  refine okT F S hnc hps (fun vs H Q E h => ?_) (fun cdv A outer s0 H vs Q E hr h => ?_)
  · obtain ⟨ds, I, _, r, q⟩ := h
    unfold bodyF at q
    split at q
    · rename_i d e
      split at e
      · rename_i hl
        rw [r.length, hn, hl]
      · cases e
    · rename_i d e
      split at e
      · rename_i hl
        rw [r.length, hn, hl]
      · cases e
    · exact q.elim
  · obtain ⟨ds, I, hI, r, q⟩ := h
    have J := hb cdv A outer s0 H E (cc0 T I E fun _ => none) hr rfl (fun _ => rfl) (takes_of rfl rfl rfl rfl)
    refine ⟨_, J.ps, startE N.length ds, none_, ⟨fun _ z => z.elim, fun _ z => z.elim, fun _ z => z.elim, fun _ z => z.elim, hI, trivial, fun _ v e => (by cases e), start_len r.length, fun _ => none_, fun _ _ z => z.elim, fun _ _ _ _ z => z.elim, fun i d e => ?_⟩, ?_⟩
    · obtain ⟨v, g, rr⟩ := r.get0 (startE_get e)
      exact ⟨v, start_get g, Rep.mono (fun a o q n => ⟨q, fun z => n (z.elim (fun y => y.elim) id)⟩) (fun a o q n => ⟨q, fun z => z.elim (fun y => y) fun y => y⟩) d v _ _ (fun _ _ _ z => z.elim) (fun _ z => z) rr⟩
    · unfold bodyF at q
      by_cases hl : ds.length = n
      · rw [if_pos hl] at q
        cases e : s (startE N.length ds) with
        | nx E1 =>
          rw [e] at q
          exact fun σ' H' W' t s2 => q .non H' none_ (fun a o z => t.1 a o z fun y => y) (fun _ z => z.elim) rfl
        | rt d E1 =>
          rw [e] at q
          refine fun v σ' H' W' F' t s2 rr => q v H' F' (fun a o z => t.1 a o z fun y => y) (fun a z => ⟨(t.2.2 a (.inr z)).resolve_left fun y => y, s2.bh a (.inr z)⟩) (Rep.mono (fun a o q n => ⟨q, fun z => n (.inr z)⟩) (fun a o q n => ⟨q, n⟩) d v _ _ (fun _ _ q _ => q) (fun _ z => z) rr)
        | ex x E1 =>
          rw [e] at q
          refine fun u dd σ' H' W' t s2 er => q u dd H' (fun a o z => t.1 a o z fun y => y) ?_
          obtain ⟨e1, e2⟩ := er
          refine ⟨e1, e2.imp id ?_⟩
          rintro ⟨dx, vs2, h1, h2, h3, h4, h5⟩
          exact ⟨dx, vs2, h1, h2, fun z => h3 (.inr z), h4, RepL.mono (fun a o q n => ⟨q, fun z => n (.inr z)⟩) (fun a o q n => ⟨q, n⟩) _ _ _ _ (fun _ _ _ z => z.elim) (fun _ z => z) h5⟩
        | bk E1 => rw [e] at q; exact q.elim
        | ct E1 => rw [e] at q; exact q.elim
        | bad => rw [e] at q; exact q.elim
      · rw [if_neg hl] at q; exact q.elim
end
end PD
namespace PD
open PySem PySem.Spec PyProof.Rows L2
section
variable {X : Cx} {c : Cc} {st : Stmt} {s : Env → Out} {o : Expr} {g : Env → Res D} {apos pos : Pos}
end
end PD
noncomputable section
namespace PD
open PySem L2

abbrev Tx := List Char
def sT (t : Tx) : Str := ⟨(t.map Char.toNat).toArray⟩
theorem sT_toList (t : Tx) : (sT t).cps.toList = t.map Char.toNat := by simp [sT]
theorem char_inj {a b : Char} (h : a.toNat = b.toNat) : a = b := Char.toNat_inj.mp h
theorem sT_inj {a b : Tx} (h : sT a = sT b) : a = b := by
  have h1 : a.map Char.toNat = b.map Char.toNat := by rw [← sT_toList, ← sT_toList, h]
  exact (List.map_inj_right (fun _ _ => char_inj)).mp h1
theorem sT_len (t : Tx) : (sT t).length = t.length := by
  show (sT t).cps.size = _
  rw [← Array.length_toList, sT_toList, List.length_map]
theorem sT_app (a b : Tx) : sT a ++ sT b = sT (a ++ b) := by
  show Str.append _ _ = _
  simp [Str.append, sT]
def eI : Int → D := .int
def eB : Bool → D := .bl
def eS (t : Tx) : D := .str (sT t)
def eN (_ : Unit) : D := .non
section
variable {α β γ δ : Type}
def eL (f : Fl) (e : α → D) (xs : List α) : D := .lst f (xs.map e)
def eTL (e : α → D) (xs : List α) : D := .tup (xs.map e)
def eT (es : α → List D) (a : α) : D := .tup (es a)
def pn (_ : Unit) : List D := []
def p1 (e : α → D) (a : α) : List D := [e a]
def pc (e : α → D) (es : β → List D) (p : α × β) : List D := e p.1 :: es p.2
def eO (e : α → D) : Option α → D
  | none => .non
  | some a => e a
class Imm (e : α → D) : Prop where h : ∀ a, (e a).imm = true
class ImmL (e : α → List D) : Prop where h : ∀ a, immL (e a) = true
class Dm (e : α → D) (e' : outParam (α → D)) : Prop where h : ∀ a, (e a).dm = e' a
class DmL (e : α → List D) (e' : outParam (α → List D)) : Prop where h : ∀ a, dmL (e a) = e' a
class Fr (e : α → D) (e' : outParam (α → D)) : Prop where h : ∀ a, (e a).fr = e' a
class FrL (e : α → List D) (e' : outParam (α → List D)) : Prop where h : ∀ a, frL (e a) = e' a
class NoOw (e : α → D) : Prop where h : ∀ a, (e a).noOwn = true
class NoBo (e : α → D) : Prop where h : ∀ a, (e a).noBor = true
class NoOwL (e : α → List D) : Prop where h : ∀ a, noOwnL (e a) = true
class NoBoL (e : α → List D) : Prop where h : ∀ a, noBorL (e a) = true
theorem immL_map {e : α → D} (h : ∀ a, (e a).imm = true) : ∀ xs : List α, immL (xs.map e) = true
  | [] => rfl
  | x :: xs => by simp only [List.map_cons, immL, h x, immL_map h xs, Bool.and_self]
theorem noOwnL_map {e : α → D} (h : ∀ a, (e a).noOwn = true) : ∀ xs : List α, noOwnL (xs.map e) = true
  | [] => rfl
  | x :: xs => by simp only [List.map_cons, noOwnL, h x, noOwnL_map h xs, Bool.and_self]
theorem noBorL_map {e : α → D} (h : ∀ a, (e a).noBor = true) : ∀ xs : List α, noBorL (xs.map e) = true
  | [] => rfl
  | x :: xs => by simp only [List.map_cons, noBorL, h x, noBorL_map h xs, Bool.and_self]
theorem dmL_map {e e' : α → D} (h : ∀ a, (e a).dm = e' a) : ∀ xs : List α, dmL (xs.map e) = xs.map e'
  | [] => rfl
  | x :: xs => by simp only [List.map_cons, dmL, h x, dmL_map h xs]
theorem frL_map {e e' : α → D} (h : ∀ a, (e a).fr = e' a) : ∀ xs : List α, frL (xs.map e) = xs.map e'
  | [] => rfl
  | x :: xs => by simp only [List.map_cons, frL, h x, frL_map h xs]
variable {e e' : α → D} {es es' : β → List D} {f : Fl}
instance : Imm eI := ⟨fun _ => rfl⟩
instance : Imm eB := ⟨fun _ => rfl⟩
instance : Imm eS := ⟨fun _ => rfl⟩
instance : Imm eN := ⟨fun _ => rfl⟩
instance [Imm e] : Imm (eL .imm e) := ⟨fun a => by simp only [eL, D.imm, immL_map Imm.h, decide_true, Bool.and_self]⟩
instance [Imm e] : Imm (eTL e) := ⟨fun a => by simp only [eTL, D.imm, immL_map Imm.h]⟩
instance : ImmL pn := ⟨fun _ => rfl⟩
instance [Imm e] : ImmL (p1 e) := ⟨fun a => by simp only [p1, immL, Imm.h a, Bool.and_self]⟩
instance [Imm e] [ImmL es] : ImmL (pc e es) := ⟨fun a => by simp only [pc, immL, Imm.h a.1, ImmL.h a.2, Bool.and_self]⟩
instance [ImmL es] : Imm (eT es) := ⟨fun a => by simp only [eT, D.imm, ImmL.h a]⟩
instance [Imm e] : Imm (eO e) := ⟨fun a => by cases a with | none => rfl | some a => exact Imm.h a⟩
instance immNoOw [Imm e] : NoOw e := ⟨fun a => by
  have := (Imm.h (e := e) a)
  exact (by
    have key : ∀ d : D, d.imm = true → d.noOwn = true := by
      intro d h
      induction d using D.rec (motive_2 := fun ds => immL ds = true → noOwnL ds = true) with
      | non => rfl
      | bl b => rfl
      | int i => rfl
      | str s => rfl
      | tup xs ih => simp only [D.imm] at h; simp only [D.noOwn]; exact ih h
      | ktup xs ih => simp only [D.imm] at h; simp only [D.noOwn]; exact ih h
      | lst f xs ih => simp only [D.imm, Bool.and_eq_true, decide_eq_true_eq] at h; simp only [D.noOwn, ih h.2, h.1]; rfl
      | dk f ks xs ih => simp only [D.imm, Bool.and_eq_true, decide_eq_true_eq] at h; simp only [D.noOwn, ih h.2, h.1]; rfl
      | dt f ks xs ih => simp only [D.imm, Bool.and_eq_true, decide_eq_true_eq] at h; simp only [D.noOwn, ih h.2, h.1]; rfl
      | dn f ks xs ih => simp only [D.imm, Bool.and_eq_true, decide_eq_true_eq] at h; simp only [D.noOwn, ih h.2, h.1]; rfl
      | obj f c ns xs ih => simp only [D.imm, Bool.and_eq_true, decide_eq_true_eq] at h; simp only [D.noOwn, ih h.2, h.1]; rfl
      | nil => rfl
      | cons d ds i1 i2 => rename_i hh; simp only [immL, Bool.and_eq_true] at hh; simp only [noOwnL, i1 hh.1, i2 hh.2, Bool.and_self]
    exact key _ this)⟩
instance immNoBo [Imm e] : NoBo e := ⟨fun a => by
  have := (Imm.h (e := e) a)
  exact (by
    have key : ∀ d : D, d.imm = true → d.noBor = true := by
      intro d h
      induction d using D.rec (motive_2 := fun ds => immL ds = true → noBorL ds = true) with
      | non => rfl
      | bl b => rfl
      | int i => rfl
      | str s => rfl
      | tup xs ih => simp only [D.imm] at h; simp only [D.noBor]; exact ih h
      | ktup xs ih => simp only [D.imm] at h; simp only [D.noBor]; exact ih h
      | lst f xs ih => simp only [D.imm, Bool.and_eq_true, decide_eq_true_eq] at h; simp only [D.noBor, ih h.2, h.1]; rfl
      | dk f ks xs ih => simp only [D.imm, Bool.and_eq_true, decide_eq_true_eq] at h; simp only [D.noBor, ih h.2, h.1]; rfl
      | dt f ks xs ih => simp only [D.imm, Bool.and_eq_true, decide_eq_true_eq] at h; simp only [D.noBor, ih h.2, h.1]; rfl
      | dn f ks xs ih => simp only [D.imm, Bool.and_eq_true, decide_eq_true_eq] at h; simp only [D.noBor, ih h.2, h.1]; rfl
      | obj f c ns xs ih => simp only [D.imm, Bool.and_eq_true, decide_eq_true_eq] at h; simp only [D.noBor, ih h.2, h.1]; rfl
      | nil => rfl
      | cons d ds i1 i2 => rename_i hh; simp only [immL, Bool.and_eq_true] at hh; simp only [noBorL, i1 hh.1, i2 hh.2, Bool.and_self]
    exact key _ this)⟩
instance [NoOw e] : NoOw (eL .bor e) := ⟨fun a => by simp only [eL, D.noOwn, noOwnL_map NoOw.h]; rfl⟩
instance [NoOw e] : NoOw (eL .frz e) := ⟨fun a => by simp only [eL, D.noOwn, noOwnL_map NoOw.h]; rfl⟩
instance : NoOwL pn := ⟨fun _ => rfl⟩
instance [NoOw e] : NoOwL (p1 e) := ⟨fun a => by simp only [p1, noOwnL, NoOw.h a, Bool.and_self]⟩
instance [NoOw e] [NoOwL es] : NoOwL (pc e es) := ⟨fun a => by simp only [pc, noOwnL, NoOw.h a.1, NoOwL.h a.2, Bool.and_self]⟩
instance [NoOwL es] : NoOw (eT es) := ⟨fun a => by simp only [eT, D.noOwn, NoOwL.h a]⟩
instance [NoOw e] : NoOw (eO e) := ⟨fun a => by cases a with | none => rfl | some a => exact NoOw.h a⟩
instance [NoBo e] : NoBo (eL .own e) := ⟨fun a => by simp only [eL, D.noBor, noBorL_map NoBo.h]; rfl⟩
instance : NoBoL pn := ⟨fun _ => rfl⟩
instance [NoBo e] : NoBoL (p1 e) := ⟨fun a => by simp only [p1, noBorL, NoBo.h a, Bool.and_self]⟩
instance [NoBo e] [NoBoL es] : NoBoL (pc e es) := ⟨fun a => by simp only [pc, noBorL, NoBo.h a.1, NoBoL.h a.2, Bool.and_self]⟩
instance [NoBoL es] : NoBo (eT es) := ⟨fun a => by simp only [eT, D.noBor, NoBoL.h a]⟩
instance [NoBo e] : NoBo (eO e) := ⟨fun a => by cases a with | none => rfl | some a => exact NoBo.h a⟩
instance : Dm eI eI := ⟨fun _ => rfl⟩
instance : Dm eB eB := ⟨fun _ => rfl⟩
instance : Dm eS eS := ⟨fun _ => rfl⟩
instance : Dm eN eN := ⟨fun _ => rfl⟩
instance [Dm e e'] : Dm (eL .own e) (eL .bor e') := ⟨fun a => by simp only [eL, D.dm, dmL_map Dm.h, Fl.dm]⟩
instance [Dm e e'] : Dm (eL .imm e) (eL .imm e') := ⟨fun a => by simp only [eL, D.dm, dmL_map Dm.h, Fl.dm]⟩
instance [Dm e e'] : Dm (eL .bor e) (eL .bor e') := ⟨fun a => by simp only [eL, D.dm, dmL_map Dm.h, Fl.dm]⟩
instance [Dm e e'] : Dm (eL .frz e) (eL .frz e') := ⟨fun a => by simp only [eL, D.dm, dmL_map Dm.h, Fl.dm]⟩
instance [Dm e e'] : Dm (eTL e) (eTL e') := ⟨fun a => by simp only [eTL, D.dm, dmL_map Dm.h]⟩
instance : DmL pn pn := ⟨fun _ => rfl⟩
instance [Dm e e'] : DmL (p1 e) (p1 e') := ⟨fun a => by simp only [p1, dmL, Dm.h (e := e)]⟩
instance [Dm e e'] [DmL es es'] : DmL (pc e es) (pc e' es') := ⟨fun a => by simp only [pc, dmL, Dm.h (e := e), DmL.h (e := es)]⟩
instance [DmL es es'] : Dm (eT es) (eT es') := ⟨fun a => by simp only [eT, D.dm, DmL.h (e := es)]⟩
instance [Dm e e'] : Dm (eO e) (eO e') := ⟨fun a => by cases a with | none => rfl | some a => exact Dm.h (e := e) a⟩
instance : Fr eI eI := ⟨fun _ => rfl⟩
instance : Fr eB eB := ⟨fun _ => rfl⟩
instance : Fr eS eS := ⟨fun _ => rfl⟩
instance : Fr eN eN := ⟨fun _ => rfl⟩
instance [Fr e e'] : Fr (eL .own e) (eL .imm e') := ⟨fun a => by simp only [eL, D.fr, frL_map Fr.h, Fl.fr]⟩
instance [Fr e e'] : Fr (eL .imm e) (eL .imm e') := ⟨fun a => by simp only [eL, D.fr, frL_map Fr.h, Fl.fr]⟩
instance [Fr e e'] : Fr (eL .bor e) (eL .bor e') := ⟨fun a => by simp only [eL, D.fr, frL_map Fr.h, Fl.fr]⟩
instance [Fr e e'] : Fr (eL .frz e) (eL .frz e') := ⟨fun a => by simp only [eL, D.fr, frL_map Fr.h, Fl.fr]⟩
instance [Fr e e'] : Fr (eTL e) (eTL e') := ⟨fun a => by simp only [eTL, D.fr, frL_map Fr.h]⟩
instance : FrL pn pn := ⟨fun _ => rfl⟩
instance [Fr e e'] : FrL (p1 e) (p1 e') := ⟨fun a => by simp only [p1, frL, Fr.h (e := e)]⟩
instance [Fr e e'] [FrL es es'] : FrL (pc e es) (pc e' es') := ⟨fun a => by simp only [pc, frL, Fr.h (e := e), FrL.h (e := es)]⟩
instance [FrL es es'] : Fr (eT es) (eT es') := ⟨fun a => by simp only [eT, D.fr, FrL.h (e := es)]⟩
instance [Fr e e'] : Fr (eO e) (eO e') := ⟨fun a => by cases a with | none => rfl | some a => exact Fr.h (e := e) a⟩
def Ev (r : Res β) (g : α → β) (t : Res α) : Prop := match t with
  | .ok a => r = .ok (g a)
  | .ex x => r = .ex x
  | .bad => True
theorem Ev.bind {r : Res β} {g : α → β} {t : Res α} {k : β → Res δ} {g' : γ → δ} {kt : α → Res γ} (h : Ev r g t) (hk : ∀ a, Ev (k (g a)) g' (kt a)) : Ev (r >>= k) g' (t >>= kt) := by
  cases t with
  | ok a =>
    have h : r = .ok (g a) := h
    rw [h]
    exact hk a
  | ex x =>
    have h : r = .ex x := h
    rw [h]
    exact rfl
  | bad => exact trivial
theorem Ev.ok {g : α → β} {a : α} : Ev (.ok (g a)) g (.ok a) := rfl
theorem Ev.of {r : Res β} {g : α → β} {a : α} (h : r = .ok (g a)) : Ev r g (.ok a) := h
theorem Ev.get {r : Res β} {g : α → β} {t : Res α} {a : α} (h : Ev r g t) (e : t = .ok a) : r = .ok (g a) := by
  subst e
  exact h
/-- as something else -/
theorem Ev.co {r : Res β} {g : α → β} {g' : γ → β} {t : Res α} (c : α → γ) (hc : ∀ a, g a = g' (c a)) (h : Ev r g t) : Ev r g' (t >>= fun a => .ok (c a)) := by
  cases t with
  | ok a => exact Eq.trans (show r = .ok (g a) from h) (congrArg Res.ok (hc a))
  | ex x => exact h
  | bad => exact trivial
theorem Ev.coP {r : Res β} {g : α → β} {g' : γ → β} {a : α} (c : α → γ) (hc : ∀ a, g a = g' (c a)) (h : Ev r g (.ok a)) : Ev r g' (.ok (c a)) := Ev.co c hc h
/-- back from a tree -/
def un (g : α → β) (d : β) : Res α := open Classical in if h : ∃ a, g a = d then .ok h.choose else .bad
theorem un_of {g : α → β} (inj : ∀ a b, g a = g b → a = b) (a : α) : un g (g a) = .ok a := by
  unfold un
  have h : ∃ b, g b = g a := ⟨a, rfl⟩
  rw [dif_pos h, inj _ _ h.choose_spec]
theorem Ev.un {r : Res β} {g : α → β} {t : Res β} (h : Ev r id t) : Ev r g (t >>= un g) := by
  cases t with
  | ok d =>
    have h : r = .ok d := h
    subst h
    show Ev _ _ (PD.un g d)
    unfold PD.un
    split
    · rename_i q
      exact congrArg Res.ok q.choose_spec.symm
    · trivial
  | ex x => exact h
  | bad => trivial
end
end PD
noncomputable section
namespace PD
open PySem L2
section
variable {α β γ δ : Type} {E : Env} {i : Nat} {g ga gb gd : Env → Res D} {e e' e1 e2 e3 : α → D} {a : α} {t : Res α}
/-- under a condition (never decided by computing) -/
def grd {α : Type} (p : Prop) (x : Res α) : Res α := @ite _ p (Classical.propDecidable p) x .bad
theorem grd_ok {α : Type} {p : Prop} {x : Res α} (h : p) : grd p x = x := if_pos h
theorem grd_bad {α : Type} {p : Prop} {x : Res α} (h : ¬ p) : grd p x = .bad := if_neg h
theorem ev_grd {α β : Type} {r : Res β} {g : α → β} {p : Prop} {t : Res α} (h : p → Ev r g t) : Ev r g (grd p t) := by
  by_cases hp : p
  · rw [grd_ok hp]; exact h hp
  · rw [grd_bad hp]; trivial
/-- values in limits -/
def lim {α : Type} (xs : List α) : Res (List α) := grd (xs.length ≤ 16777216) (.ok xs)
theorem lim_ok {xs : List α} (h : xs.length ≤ 16777216) : lim xs = .ok xs := grd_ok h
theorem ev_var (h : E[i]? = some (some (e a))) : Ev (gVar i E) e (.ok a) := by
  unfold gVar Ev
  rw [h]
theorem ev_c {d : D} (h : d = e a) : Ev (gC d E) e (.ok a) := congrArg Res.ok h
theorem ev_dm [Dm e e'] (h : Ev (g E) e t) : Ev (gDm g E) e' t := by
  cases t with
  | ok a =>
    have h : g E = .ok (e a) := h
    show (g E >>= _) = _
    rw [h]
    exact congrArg Res.ok (Dm.h (e := e) a)
  | ex x =>
    have h : g E = .ex x := h
    show (g E >>= _) = _
    rw [h]
    rfl
  | bad => trivial
theorem ev_fr [Fr e e'] (h : Ev (g E) e t) : Ev (gFr g E) e' t := by
  cases t with
  | ok a =>
    have h : g E = .ok (e a) := h
    show (g E >>= _) = _
    rw [h]
    exact congrArg Res.ok (Fr.h (e := e) a)
  | ex x =>
    have h : g E = .ex x := h
    show (g E >>= _) = _
    rw [h]
    rfl
  | bad => trivial
theorem ev_chk [Imm e] (h : Ev (g E) e t) : Ev (gChk g E) e t := by
  cases t with
  | ok a =>
    have h : g E = .ok (e a) := h
    show (g E >>= _) = _
    rw [h]
    show chk (e a) = _
    unfold chk
    rw [if_pos (Imm.h a)]
  | ex x =>
    have h : g E = .ex x := h
    show (g E >>= _) = _
    rw [h]
    rfl
  | bad => trivial
end
section
variable {α β γ δ : Type} {E : Env} {ga gb gd : Env → Res D} {e1 : α → D} {e2 : β → D} {e3 : γ → D}
theorem ev_bin {f : D → D → Res D} {ta : Res α} {tb : Res β} {ft : α → β → Res γ} (hf : ∀ a b, Ev (f (e1 a) (e2 b)) e3 (ft a b)) (ha : Ev (ga E) e1 ta) (hb : Ev (gb E) e2 tb) : Ev (gBin f ga gb E) e3 (ta >>= fun a => tb >>= fun b => ft a b) :=
  ha.bind fun a => hb.bind fun b => hf a b
theorem ev_binp {f : D → D → Res D} {a : α} {b : β} {ft : α → β → Res γ} (hf : ∀ a b, Ev (f (e1 a) (e2 b)) e3 (ft a b)) (ha : Ev (ga E) e1 (.ok a)) (hb : Ev (gb E) e2 (.ok b)) : Ev (gBin f ga gb E) e3 (ft a b) :=
  Ev.bind (kt := fun a => ft a b) ha fun a => Ev.bind (kt := fun b => ft a b) hb fun b => hf a b
theorem ev_un {e2 : β → D} {f : D → Res D} {ta : Res α} {ft : α → Res β} (hf : ∀ a, Ev (f (e1 a)) e2 (ft a)) (ha : Ev (ga E) e1 ta) : Ev (gUn f ga E) e2 (ta >>= fun a => ft a) := ha.bind hf
theorem ev_unp {e2 : β → D} {f : D → Res D} {a : α} {ft : α → Res β} (hf : ∀ a, Ev (f (e1 a)) e2 (ft a)) (ha : Ev (ga E) e1 (.ok a)) : Ev (gUn f ga E) e2 (ft a) := Ev.bind (kt := ft) ha hf
theorem ev_tru {ta : Res α} {ft : α → Res Bool} (hf : ∀ a, Ev (truD (e1 a)) id (ft a)) (ha : Ev (ga E) e1 ta) : Ev (gTru ga E) id (ta >>= fun a => ft a) := ha.bind hf
theorem ev_b {ta : Res Bool} (ha : Ev (ga E) eB ta) : Ev (gB ga E) id ta := by
  cases ta with
  | ok a => have ha : ga E = .ok (.bl a) := ha; show (ga E >>= asB) = _; rw [ha]; rfl
  | ex x => have ha : ga E = .ex x := ha; show (ga E >>= asB) = _; rw [ha]; rfl
  | bad => trivial
def kAnd (a b : Res Bool) : Res Bool := a >>= fun k => if k = true then b else .ok false
def kOr (a b : Res Bool) : Res Bool := a >>= fun k => if k = true then .ok true else b
def kNot (a : Res Bool) : Res Bool := a >>= fun k => .ok (!k)
variable {gt gt2 : Env → Res Bool} {ta tb : Res Bool} {a b : Bool}
theorem ev_ite {β' : Type} {g : β → β'} {k : Bool} {r1 r2 : Res β'} {t1 t2 : Res β} (h1 : Ev r1 g t1) (h2 : Ev r2 g t2) : Ev (if k = true then r1 else r2) g (if k = true then t1 else t2) := by
  cases k
  · exact h2
  · exact h1
theorem ev_and (ha : Ev (gt E) id ta) (hb : Ev (gt2 E) id tb) : Ev (gAnd gt gt2 E) id (kAnd ta tb) := Ev.bind ha fun k => ev_ite hb (Ev.ok (g := id) (a := false))
theorem ev_or (ha : Ev (gt E) id ta) (hb : Ev (gt2 E) id tb) : Ev (gOr gt gt2 E) id (kOr ta tb) := Ev.bind ha fun k => ev_ite (Ev.ok (g := id) (a := true)) hb
theorem ev_not (ha : Ev (gt E) id ta) : Ev (gNot gt E) id (kNot ta) := Ev.bind ha fun k => Ev.ok (g := id) (a := !k)
theorem kAnd_ok : kAnd (.ok a) (.ok b) = .ok (a && b) := by cases a <;> rfl
theorem kOr_ok : kOr (.ok a) (.ok b) = .ok (a || b) := by cases a <;> rfl
theorem ev_orp (ha : Ev (gt E) id (.ok a)) (hb : Ev (gt2 E) id (.ok b)) : Ev (gOr gt gt2 E) id (.ok (a || b)) := kOr_ok ▸ ev_or ha hb
theorem ev_notp (ha : Ev (gt E) id (.ok a)) : Ev (gNot gt E) id (.ok (!a)) := ev_not ha
theorem asB_eB (k : Bool) : asB (eB k) = .ok k := rfl
theorem ev_andV (ha : Ev (ga E) eB ta) (hb : Ev (gb E) eB tb) : Ev (gAndV ga gb E) eB (kAnd ta tb) := Ev.bind ha fun k => by
  rw [asB_eB]
  exact ev_ite hb (Ev.ok (g := eB) (a := false))
theorem ev_ifp {g : β → D} {t1 t2 : Res β} (hc : Ev (gt E) id (.ok a)) (h1 : Ev (ga E) g t1) (h2 : Ev (gb E) g t2) : Ev (gIf gt ga gb E) g (if a = true then t1 else t2) := Ev.bind (kt := fun k => if k = true then t1 else t2) hc fun k => ev_ite h1 h2
/-- a <= b <= c -/
theorem ev_chain {x y z : Res Int} (ha : Ev (ga E) eI x) (hb : Ev (gb E) eI y) (hd : Ev (gd E) eI z) : Ev (gChain leD leD ga gb gd E) eB (x >>= fun i => y >>= fun j => if (decide (i ≤ j)) = true then z >>= fun k => .ok (decide (j ≤ k)) else .ok false) :=
  Ev.bind ha fun i => Ev.bind hb fun j => by
    show Ev (Res.ok (D.bl (decide (i ≤ j))) >>= _) _ _
    rw [res_bind_ok, show asB (.bl (decide (i ≤ j))) = .ok (decide (i ≤ j)) from rfl, res_bind_ok]
    exact ev_ite (Ev.bind hd fun k => Ev.ok (g := eB) (a := decide (j ≤ k))) (Ev.ok (g := eB) (a := false))
theorem ev_chainp {i j k : Int} (ha : Ev (ga E) eI (.ok i)) (hb : Ev (gb E) eI (.ok j)) (hd : Ev (gd E) eI (.ok k)) : Ev (gChain leD leD ga gb gd E) eB (.ok (decide (i ≤ j) && decide (j ≤ k))) := by
  have := ev_chain ha hb hd
  cases h : decide (i ≤ j)
  · simpa only [res_bind_ok, h, Bool.false_eq_true, if_false, Bool.false_and] using this
  · simpa only [res_bind_ok, h, if_true, Bool.true_and] using this
end
def getO {α : Type} (a : Option α) : Res α := match a with
  | some a => .ok a
  | none => .bad
@[simp] theorem getO_some {α : Type} {a : α} : getO (some a) = .ok a := rfl
section
variable {α β : Type} {e : α → D} {f f' : Fl}
theorem q_mulR {x y : Int} (h : -18446744073709551616 < y ∧ y < 18446744073709551616) : mulA (.int x) (.int y) = .ok (.int (x * y)) := by
  unfold mulA mulD ii
  simp only
  rw [if_pos]
  simp only [Bool.or_eq_true, Bool.and_eq_true, decide_eq_true_eq]
  exact .inr h
theorem q_mulL {x y : Int} (h : -18446744073709551616 < x ∧ x < 18446744073709551616) : mulA (.int x) (.int y) = .ok (.int (x * y)) := by
  unfold mulA mulD ii
  simp only
  rw [if_pos]
  simp only [Bool.or_eq_true, Bool.and_eq_true, decide_eq_true_eq]
  exact .inl h
theorem q_mod {x y : Int} (h : 0 < y) : modD (.int x) (.int y) = .ok (.int (x % y)) := by
  unfold modD ii
  simp only [h, decide_true, if_true]
theorem q_fdiv {x y : Int} (h : 0 < y ∧ y < 1073741824) : fdivD (.int x) (.int y) = .ok (.int (x / y)) := by
  unfold fdivD ii
  simp only [h.1, h.2, decide_true, Bool.and_self, if_true]
theorem op_addI (a b : Int) : Ev (addD (eI a) (eI b)) eI (.ok (a + b)) := rfl
def addS (a b : Tx) : Res Tx := grd (a.length + b.length ≤ 16777216) (.ok (a ++ b))
theorem op_addS (a b : Tx) : Ev (addD (eS a) (eS b)) eS (addS a b) := by
  unfold addS
  refine ev_grd fun h => ?_
  · skip
    refine Eq.trans (if_pos ?_) ?_
    · rw [sT_len, sT_len]; exact h
    · rw [sT_app]; rfl
theorem op_addL [Imm e] (hf : f ≠ .frz) (hf' : f' ≠ .frz) (a b : List α) : Ev (addD (eL f e a) (eL f' e b)) (eL .own e) (lim (a ++ b)) := by
  unfold lim
  refine ev_grd fun h => ?_
  · skip
    have hh : (a.map e).length + (b.map e).length ≤ sizeLine := by simpa [sizeLine] using h
    refine Eq.trans (if_pos ⟨hf, hf', immL_map Imm.h a, immL_map Imm.h b, hh⟩) ?_
    simp only [eL, List.map_append]
theorem op_addTL [Imm e] (a b : List α) : Ev (addD (eTL e a) (eTL e b)) (eTL e) (lim (a ++ b)) := by
  unfold lim
  refine ev_grd fun h => ?_
  · skip
    have hh : (a.map e).length + (b.map e).length ≤ sizeLine := by simpa [sizeLine] using h
    refine Eq.trans (if_pos ⟨immL_map Imm.h a, immL_map Imm.h b, hh⟩) ?_
    simp only [eTL, List.map_append]
/-- a product: one of the two is small -/
def mulI (a b : Int) : Res Int := grd ((-18446744073709551616 < a ∧ a < 18446744073709551616) ∨ (-18446744073709551616 < b ∧ b < 18446744073709551616)) (.ok (a * b))
theorem op_mulI (a b : Int) : Ev (mulA (eI a) (eI b)) eI (mulI a b) := by
  unfold mulI
  refine ev_grd fun h => ?_
  · skip
    refine if_pos ?_
    simp only [Bool.or_eq_true, Bool.and_eq_true, decide_eq_true_eq]
    exact h
/-- by a small number of the text -/
theorem op_mulIc (c : Int) (h : (decide (-18446744073709551616 < c) && decide (c < 18446744073709551616)) = true) (a : Int) : Ev (mulA (eI a) (eI c)) eI (.ok (a * c)) := by
  rw [Bool.and_eq_true, decide_eq_true_eq, decide_eq_true_eq] at h
  exact q_mulR h
theorem op_mulcI (c : Int) (h : (decide (-18446744073709551616 < c) && decide (c < 18446744073709551616)) = true) (a : Int) : Ev (mulA (eI c) (eI a)) eI (.ok (c * a)) := by
  rw [Bool.and_eq_true, decide_eq_true_eq, decide_eq_true_eq] at h
  exact q_mulL h
def modI (a b : Int) : Res Int := grd (0 < b) (.ok (a % b))
def divI (a b : Int) : Res Int := grd (0 < b ∧ b < 1073741824) (.ok (a / b))
theorem op_modI (a b : Int) : Ev (modD (eI a) (eI b)) eI (modI a b) := by
  unfold modI
  refine ev_grd fun h => ?_
  · exact q_mod h
theorem op_modIc (c : Int) (h : decide (0 < c) = true) (a : Int) : Ev (modD (eI a) (eI c)) eI (.ok (a % c)) := q_mod (of_decide_eq_true h)
theorem op_divI (a b : Int) : Ev (fdivD (eI a) (eI b)) eI (divI a b) := by
  unfold divI
  refine ev_grd fun h => ?_
  · exact q_fdiv h
theorem op_divIc (c : Int) (h : (decide (0 < c) && decide (c < 1073741824)) = true) (a : Int) : Ev (fdivD (eI a) (eI c)) eI (.ok (a / c)) := by
  rw [Bool.and_eq_true, decide_eq_true_eq, decide_eq_true_eq] at h
  exact q_fdiv h
theorem op_lt (a b : Int) : Ev (ltD (eI a) (eI b)) eB (.ok (decide (a < b))) := rfl
theorem op_le (a b : Int) : Ev (leD (eI a) (eI b)) eB (.ok (decide (a ≤ b))) := rfl
theorem op_gt (a b : Int) : Ev (gtD (eI a) (eI b)) eB (.ok (decide (a > b))) := rfl
theorem op_ge (a b : Int) : Ev (geD (eI a) (eI b)) eB (.ok (decide (a ≥ b))) := rfl
theorem op_abs (a : Int) : Ev (absD (eI a)) eI (.ok (if a < 0 then -a else a)) := rfl
theorem op_int (a : Int) : Ev (intD (eI a)) eI (.ok a) := rfl
theorem op_max (a b : Int) : Ev (maxD (eI a) (eI b)) eI (.ok (if b > a then b else a)) := rfl
theorem op_min (a b : Int) : Ev (minD (eI a) (eI b)) eI (.ok (if b < a then b else a)) := rfl
theorem tru_B (a : Bool) : Ev (truD (eB a)) id (.ok a) := rfl
theorem op_lenL (a : List α) : Ev (lenD (eL f e a)) eI (.ok (a.length : Int)) := by
  show Res.ok (D.int ((a.map e).length : Int)) = _
  rw [List.length_map]
  rfl
class LenL (es : α → List D) (n : outParam Nat) : Prop where h : ∀ a, (es a).length = n
instance : LenL pn 0 := ⟨fun _ => rfl⟩
instance : LenL (p1 e) 1 := ⟨fun _ => rfl⟩
instance {es : β → List D} {n : Nat} [LenL es n] : LenL (pc e es) (n + 1) := ⟨fun a => congrArg (· + 1) (LenL.h (es := es) a.2)⟩
def lenS (t : Tx) : Res Int := grd (t.length ≤ 16777216) (.ok t.length)
theorem op_lenS (t : Tx) : Ev (lenD (eS t)) eI (lenS t) := by
  unfold lenS
  refine ev_grd fun h => ?_
  · skip
    refine Eq.trans (if_pos ?_) ?_
    · rw [sT_len]; exact h
    · rw [sT_len]; rfl
def ixL (xs : List α) (i : Int) : Res α := atR (atI xs i)
theorem atI_map {γ : Type} (h : α → γ) (xs : List α) (i : Int) : atI (xs.map h) i = (atI xs i).map h := by
  unfold atI
  rw [List.length_map]
  cases ixN xs.length i with
  | none => rfl
  | some j => simp
theorem ev_at {γ : Type} (h : α → γ) (xs : List α) (i : Int) : Ev (atR (atI (xs.map h) i)) h (ixL xs i) := by
  rw [atI_map]
  unfold ixL
  cases atI xs i with
  | none => trivial
  | some a => rfl
theorem op_ixL (xs : List α) (i : Int) : Ev (ixD (eL f e xs) (eI i)) e (ixL xs i) := ev_at e xs i
theorem op_ixTL (xs : List α) (i : Int) : Ev (ixD (eTL e xs) (eI i)) e (ixL xs i) := ev_at e xs i
def ixS (t : Tx) (i : Int) : Res Tx := grd (t.length ≤ 16777216) (ixL t i >>= fun c => .ok [c])
theorem op_ixS (t : Tx) (i : Int) : Ev (ixD (eS t) (eI i)) eS (ixS t i) := by
  unfold ixS
  refine ev_grd fun h => ?_
  · skip
    have e1 : ixD (eS t) (eI i) = (atR (atI (sT t).cps.toList i) >>= fun k => .ok (.str ⟨#[k]⟩)) := if_pos (by rw [sT_len]; exact h)
    rw [e1, sT_toList]
    exact Ev.bind (ev_at Char.toNat t i) fun c => rfl
def cutL (xs : List α) (lo hi : Option Int) : List α := (xs.drop (HT.sIx xs.length 0 lo)).take (HT.sIx xs.length xs.length hi - HT.sIx xs.length 0 lo)
theorem cutD_map (xs : List α) (lo hi : Option Int) : cutD (xs.map e) lo hi = (cutL xs lo hi).map e := by
  unfold cutD cutL
  simp only [List.length_map, List.map_take, List.map_drop]
theorem op_slL [Imm e] (xs : List α) (lo hi : Option Int) : Ev (slD (eL f e xs) lo hi) (eL .own e) (.ok (cutL xs lo hi)) := by
  refine Eq.trans (if_pos (immL_map Imm.h xs)) ?_
  rw [cutD_map]
  rfl
def slS (t : Tx) (lo hi : Option Int) : Res Tx := grd (t.length ≤ 16777216) (.ok (cutL t lo hi))
theorem op_slS (t : Tx) (lo hi : Option Int) : Ev (slD (eS t) lo hi) eS (slS t lo hi) := by
  unfold slS
  refine ev_grd fun h => ?_
  · skip
    refine Eq.trans (if_pos (by rw [sT_len]; exact h)) ?_
    have : cutS (sT t) lo hi = sT (cutL t lo hi) := by
      unfold cutS cutL
      rw [sT_len, sT_toList]
      simp only [sT, List.map_take, List.map_drop]
    rw [this]
    rfl
theorem cutL_take (xs : List α) (n : Nat) : cutL xs none (some (n : Int)) = xs.take n := by
  unfold cutL
  rw [HT.sIx_none, HT.sIx_nat]
  simp only [List.drop_zero, Nat.sub_zero]
  rcases Nat.le_total n xs.length with h | h
  · rw [Nat.min_eq_left h]
  · rw [Nat.min_eq_right h, List.take_length, List.take_of_length_le h]
theorem cutL_drop (xs : List α) (n : Nat) : cutL xs (some (n : Int)) none = xs.drop n := by
  unfold cutL
  rw [HT.sIx_none, HT.sIx_nat]
  rcases Nat.le_total n xs.length with h | h
  · rw [Nat.min_eq_left h, List.take_of_length_le (by simp)]
  · rw [Nat.min_eq_right h, List.drop_length, List.drop_eq_nil_of_le h]
    simp
variable {E : Env} {ga : Env → Res D} {γ : Type}
theorem ev_o {t : Res Int} (h : Ev (ga E) eI t) : Ev (gO ga E) id (t >>= fun i => .ok (some i)) := Ev.bind h fun i => rfl
theorem ev_op {i : Int} (h : Ev (ga E) eI (.ok i)) : Ev (gO ga E) id (.ok (some i)) := ev_o h
theorem ev_o0 : Ev (gO0 E) id (.ok none) := rfl
theorem ev_sl {gl gh : GO} {e1 : α → D} {e2 : γ → D} {ta : Res α} {tl th : Res (Option Int)} {ft : α → Option Int → Option Int → Res γ} (hf : ∀ a lo hi, Ev (slD (e1 a) lo hi) e2 (ft a lo hi)) (ha : Ev (ga E) e1 ta) (hl : Ev (gl E) id tl) (hh : Ev (gh E) id th) :
    Ev (gSl ga gl gh E) e2 (ta >>= fun a => tl >>= fun lo => th >>= fun hi => ft a lo hi) := Ev.bind ha fun a => Ev.bind hl fun lo => Ev.bind hh fun hi => hf a lo hi
theorem ev_nil : Ev (gNil E) (List.map e) (.ok []) := rfl
theorem ev_cons {gs : Env → Res (List D)} {ta : Res α} {ts : Res (List α)} (ha : Ev (ga E) e ta) (hs : Ev (gs E) (List.map e) ts) : Ev (gCons ga gs E) (List.map e) (ta >>= fun a => ts >>= fun s => .ok (a :: s)) := Ev.bind ha fun a => Ev.bind hs fun s => rfl
theorem ev_consp {gs : Env → Res (List D)} {a : α} {s : List α} (ha : Ev (ga E) e (.ok a)) (hs : Ev (gs E) (List.map e) (.ok s)) : Ev (gCons ga gs E) (List.map e) (.ok (a :: s)) := ev_cons ha hs
theorem ev_tone {ta : Res α} (ha : Ev (ga E) e ta) : Ev (gCons ga gNil E) (p1 e) ta := by
  have := Ev.bind (k := fun d => Res.ok (d :: [])) (g' := p1 e) (kt := fun a => .ok a) ha fun a => rfl
  cases ta <;> exact this
theorem ev_tcons {gs : Env → Res (List D)} {es : β → List D} {ta : Res α} {ts : Res β} (ha : Ev (ga E) e ta) (hs : Ev (gs E) es ts) : Ev (gCons ga gs E) (pc e es) (ta >>= fun a => ts >>= fun s => .ok (a, s)) := Ev.bind ha fun a => Ev.bind hs fun s => rfl
theorem ev_tconsp {gs : Env → Res (List D)} {es : β → List D} {a : α} {s : β} (ha : Ev (ga E) e (.ok a)) (hs : Ev (gs E) es (.ok s)) : Ev (gCons ga gs E) (pc e es) (.ok (a, s)) := ev_tcons ha hs
theorem ev_one {ta : Res α} (ha : Ev (ga E) e ta) : Ev (gOne ga E) (p1 e) ta := ev_tone ha
theorem ev_tup {gs : Env → Res (List D)} {es : α → List D} {n : Nat} [ImmL es] [LenL es n] {ta : Res α} (h : Ev (gs E) es ta) (hn : Nat.ble n 1000 = true) : Ev (gTup gs E) (eT es) ta := by
  have := Ev.bind (k := fun ds => if immL ds ∧ ds.length ≤ sizeLine then .ok (.tup ds) else .bad) (g' := eT es) (kt := fun a => .ok a) h fun a => Ev.of <| if_pos ⟨ImmL.h a, by
    rw [LenL.h a]
    have := Nat.le_of_ble_eq_true hn
    have : sizeLine = 16777216 := rfl
    omega⟩
  cases ta <;> exact this
theorem ev_lst {gs : Env → Res (List D)} [Imm e] {t : Res (List α)} (h : Ev (gs E) (List.map e) t) : Ev (gLst gs E) (eL .own e) (t >>= lim) := Ev.bind h fun a => by
  by_cases hl : a.length ≤ 16777216
  · rw [lim_ok hl]
    exact Ev.of <| if_pos ⟨immL_map Imm.h a, by rw [List.length_map]; exact hl⟩
  · rw [show lim a = .bad from grd_bad hl]
    trivial
/-- a display of known length -/
theorem ev_lstp {gs : Env → Res (List D)} [Imm e] {s : List α} (h : Ev (gs E) (List.map e) (.ok s)) (hn : Nat.ble s.length 1000 = true) : Ev (gLst gs E) (eL .own e) (.ok s) := by
  have := ev_lst h
  rw [res_bind_ok, lim_ok (by have := Nat.le_of_ble_eq_true hn; omega)] at this
  exact this
theorem lst_nil : gLst gNil E = .ok (.lst .own []) := by
  show (if immL [] = true ∧ ([] : List D).length ≤ sizeLine then Res.ok (D.lst .own []) else Res.bad) = _
  rw [if_pos ⟨rfl, Nat.zero_le _⟩]
theorem ev_lst0 : Ev (gLst gNil E) (eL .own e) (.ok []) := lst_nil
theorem op_it {st : Bool} [NoOw e] (h : f ≠ .own ∨ st = false) (xs : List α) : Ev (itD st (eL f e xs)) (List.map e) (.ok xs) := Ev.of <| if_pos ⟨h, noOwnL_map NoOw.h xs⟩
theorem op_itTL {st : Bool} [NoOw e] (xs : List α) : Ev (itD st (eTL e xs)) (List.map e) (.ok xs) := Ev.of <| if_pos (noOwnL_map NoOw.h xs)
def chT (t : Tx) : List Tx := t.map fun c => [c]
theorem op_itS {st : Bool} (t : Tx) : Ev (itD st (eS t)) (List.map eS) (.ok (chT t)) := by
  show Res.ok (chars (sT t)) = _
  unfold chars chT
  rw [sT_toList, List.map_map, List.map_map]
  rfl
theorem ev_it {st : Bool} {e1 : α → D} {ta : Res α} {ft : α → Res (List β)} {e2 : β → D} (hf : ∀ a, Ev (itD st (e1 a)) (List.map e2) (ft a)) (ha : Ev (ga E) e1 ta) : Ev (gIt st ga E) (List.map e2) (ta >>= fun a => ft a) := Ev.bind ha hf
theorem ev_itp {st : Bool} {e1 : α → D} {a : α} {ft : α → Res (List β)} {e2 : β → D} (hf : ∀ a, Ev (itD st (e1 a)) (List.map e2) (ft a)) (ha : Ev (ga E) e1 (.ok a)) : Ev (gIt st ga E) (List.map e2) (ft a) := Ev.bind (kt := ft) ha hf
/-- range -/
def rngL (lo : Int) (n : Nat) : List Int := (List.range n).map fun (i : Nat) => lo + i
def rng1 (j : Int) : Res (List Int) := grd (-4611686018427387904 ≤ j ∧ j < 4611686018427387904) (.ok (rngL 0 j.toNat))
theorem intsD_rng (lo : Int) (n : Nat) : intsD lo n = (rngL lo n).map eI := by
  unfold intsD rngL
  rw [List.map_map]
  rfl
theorem rngOk_of {i : Int} (h : -4611686018427387904 ≤ i ∧ i < 4611686018427387904) : rngOk i = true := by
  unfold rngOk
  exact @decide_eq_true _ (Classical.propDecidable _) h
theorem ev_rng1 {t : Res Int} (h : Ev (ga E) eI t) : Ev (gRng1 ga E) (List.map eI) (t >>= rng1) := Ev.bind h fun j => by
  unfold rng1
  refine ev_grd fun hj => ?_
  · skip
    show (asI (.int j) >>= _) = _
    simp only [asI, res_bind_ok, rngOk_of hj, if_true, intsD_rng]
theorem ev_rng1p {j : Int} (h : Ev (ga E) eI (.ok j)) : Ev (gRng1 ga E) (List.map eI) (rng1 j) := ev_rng1 h
def lcT (c : α → Res Bool) (b : α → Res β) : List α → Res (List β)
  | [] => .ok []
  | x :: xs => match c x with
    | .ok k => if k = true then (match b x with
        | .ok y => lcT c b xs >>= fun ys => .ok (y :: ys)
        | _ => .bad) else lcT c b xs
    | _ => .bad
def kLc (xs : List α) (c : α → Res Bool) (b : α → Res β) : Res (List β) := lcT c b xs >>= lim
theorem lcT_pure (c : α → Bool) (b : α → β) : ∀ xs : List α, lcT (fun x => .ok (c x)) (fun x => .ok (b x)) xs = .ok ((xs.filter c).map b)
  | [] => rfl
  | x :: xs => by
    unfold lcT
    rw [lcT_pure c b xs]
    cases h : c x with
    | true => simp [h]
    | false => simp [h]
theorem kLc_pure (c : α → Bool) (b : α → β) (xs : List α) : kLc xs (fun x => .ok (c x)) (fun x => .ok (b x)) = lim ((xs.filter c).map b) := by
  unfold kLc
  rw [lcT_pure]
  rfl
theorem kLc_map (b : α → β) (xs : List α) : kLc xs (fun _ => .ok true) (fun x => .ok (b x)) = lim (xs.map b) := by
  have := kLc_pure (fun _ => true) b xs
  rw [List.filter_eq_self.mpr (fun _ _ => rfl)] at this
  exact this
theorem kLc_of {c : α → Res Bool} {b : α → Res β} {c' : α → Bool} {b' : α → β} {xs : List α} (hc : ∀ x ∈ xs, c x = .ok (c' x)) (hb : ∀ x ∈ xs, c' x = true → b x = .ok (b' x)) : kLc xs c b = lim ((xs.filter c').map b') := by
  unfold kLc
  have : lcT c b xs = .ok ((xs.filter c').map b') := by
    induction xs with
    | nil => rfl
    | cons x xs ih =>
      unfold lcT
      rw [hc x List.mem_cons_self, ih (fun y hy => hc y (List.mem_cons_of_mem _ hy)) (fun y hy => hb y (List.mem_cons_of_mem _ hy))]
      cases h : c' x with
      | true => simp [h, hb x List.mem_cons_self h]
      | false => simp [h]
  rw [this]
  rfl
theorem ev_lcS {ud : D → Env → Res Env} {gt : Env → Res Bool} {ge : Env → Res D} {e2 e3 : β → D} [Fr e2 e3] {tc : α → Res Bool} {tb : α → Res β} (h : ∀ x, ∃ E2, ud (e x) E = .ok E2 ∧ Ev (gt E2) id (tc x) ∧ Ev (ge E2) e2 (tb x)) : ∀ xs : List α, Ev (lcS ud gt ge E (xs.map e)) (List.map e3) (lcT tc tb xs)
  | [] => rfl
  | x :: xs => by
    obtain ⟨E2, h1, h2, h3⟩ := h x
    have ih := ev_lcS h xs
    rw [List.map_cons]
    unfold lcS lcT
    rw [h1]
    cases hc : tc x with
    | ok k =>
      rw [hc] at h2
      have h2 : gt E2 = .ok k := h2
      simp only [h2]
      cases k with
      | true =>
        simp only [if_true]
        cases hb : tb x with
        | ok y =>
          rw [hb] at h3
          have h3 : ge E2 = .ok (e2 y) := h3
          simp only [h3]
          exact Ev.bind ih fun ys => congrArg (fun z => Res.ok (z :: ys.map e3)) (Fr.h (e := e2) y)
        | ex _ => trivial
        | bad => trivial
      | false =>
        simp only [Bool.false_eq_true, if_false]
        exact ih
    | ex _ => trivial
    | bad => trivial
theorem ev_lc {gi : Env → Res (List D)} {vs : List Nat} {ud : D → Env → Res Env} {gt : Env → Res Bool} {ge : Env → Res D} {e2 e3 : β → D} [Fr e2 e3] [Imm e3] {txs : Res (List α)} {tc : α → Res Bool} {tb : α → Res β} (hi : Ev (gi E) (List.map e) txs)
    (h : ∀ x, ∃ E2, ud (e x) (wipeE E vs) = .ok E2 ∧ Ev (gt E2) id (tc x) ∧ Ev (ge E2) e2 (tb x)) : Ev (gLc gi vs ud gt ge E) (eL .own e3) (txs >>= fun xs => kLc xs tc tb) := Ev.bind hi fun xs => Ev.bind (ev_lcS h xs) fun ys => by
  by_cases hl : ys.length ≤ 16777216
  · rw [lim_ok hl]
    exact Ev.of <| if_pos ⟨immL_map Imm.h ys, by rw [List.length_map]; exact hl⟩
  · rw [show lim ys = .bad from grd_bad hl]
    trivial
theorem ev_lcp {gi : Env → Res (List D)} {vs : List Nat} {ud : D → Env → Res Env} {gt : Env → Res Bool} {ge : Env → Res D} {e2 e3 : β → D} [Fr e2 e3] [Imm e3] {xs : List α} {tc : α → Res Bool} {tb : α → Res β} (hi : Ev (gi E) (List.map e) (.ok xs))
    (h : ∀ x, ∃ E2, ud (e x) (wipeE E vs) = .ok E2 ∧ Ev (gt E2) id (tc x) ∧ Ev (ge E2) e2 (tb x)) : Ev (gLc gi vs ud gt ge E) (eL .own e3) (kLc xs tc tb) := ev_lc hi h
theorem ev_yes : Ev (gYes E) id (.ok true) := rfl
theorem ud_name {i : Nat} [NoOw e] {x : α} (h : Nat.ble (i + 1) E.length = true) : udName i (e x) E = .ok (E.set i (some (e x))) := if_pos ⟨Nat.le_of_ble_eq_true h, NoOw.h x⟩
theorem ud_one {ud : D → Env → Res Env} {x : α} {E1 : Env} (h : ud (e x) E = .ok E1) : udCons ud udNil (p1 e x) E = .ok E1 := by
  show (ud (e x) E >>= _) = _
  rw [h]
  rfl
theorem ud_cons {ud : D → Env → Res Env} {uds : List D → Env → Res Env} {es : β → List D} {x : α × β} {E1 E2 : Env} (h : ud (e x.1) E = .ok E1) (h2 : uds (es x.2) E1 = .ok E2) : udCons ud uds (pc e es x) E = .ok E2 := by
  show (ud (e x.1) E >>= _) = _
  rw [h]
  exact h2
theorem ud_tup {uds : List D → Env → Res Env} {es : α → List D} [NoOwL es] {x : α} {E1 : Env} (h : uds (es x) E = .ok E1) : udTup uds (eT es x) E = .ok E1 := Eq.trans (if_pos (NoOwL.h x)) h
end
end PD
noncomputable section
namespace PD
open PySem L2
inductive TR (σ lam ρ : Type) where
  | nx (s : σ) | rt (r : ρ) | bk (s : lam) | ct (s : lam) | ex (e : Exc) | bad
section
variable {α β γ δ σ τ lam ρ : Type}
def SR (o : Out) (Rn : σ → Env → Prop) (Rl : lam → Env → Prop) (X : Option ρ → Env → Prop) (er : ρ → D) (t : TR σ lam ρ) : Prop := match t with
  | .nx s => ∃ E, o = .nx E ∧ Rn s E
  | .rt r => ∃ E, o = .rt (er r) E ∧ X (some r) E
  | .bk s => ∃ E, o = .bk E ∧ Rl s E
  | .ct s => ∃ E, o = .ct E ∧ Rl s E
  | .ex x => ∃ E, o = .ex x E ∧ X none E
  | .bad => True
def kLet (t : Res α) (k : α → TR σ lam ρ) : TR σ lam ρ := match t with
  | .ok a => k a
  | .ex x => .ex x
  | .bad => .bad
def kIf (t : Res Bool) (x y : TR σ lam ρ) : TR σ lam ρ := kLet t fun k => if k = true then x else y
def kSeq (t : TR σ lam ρ) (k : σ → TR τ lam ρ) : TR τ lam ρ := match t with
  | .nx s => k s
  | .rt r => .rt r
  | .bk s => .bk s
  | .ct s => .ct s
  | .ex x => .ex x
  | .bad => .bad
def kRet (t : Res ρ) : TR σ lam ρ := kLet t .rt
def kFor (body : α → σ → TR σ σ ρ) : List α → σ → TR σ lam ρ
  | [], s => .nx s
  | x :: xs, s => match body x s with
    | .nx s => kFor body xs s
    | .ct s => kFor body xs s
    | .bk s => .nx s
    | .rt r => .rt r
    | .ex x => .ex x
    | .bad => .bad
def kWhile (c : σ → Res Bool) (body : σ → TR σ σ ρ) : Nat → σ → TR σ lam ρ
  | 0, _ => .bad
  | n + 1, s => match c s with
    | .ok true => match body s with
      | .nx s => kWhile c body n s
      | .ct s => kWhile c body n s
      | .bk s => .nx s
      | .rt r => .rt r
      | .ex x => .ex x
      | .bad => .bad
    | .ok false => .nx s
    | .ex x => .ex x
    | .bad => .bad
def kEnd (t : TR ρ Empty ρ) : Res ρ := match t with
  | .nx r => .ok r
  | .rt r => .ok r
  | .ex x => .ex x
  | _ => .bad
@[simp] theorem kLet_ok {a : α} {k : α → TR σ lam ρ} : kLet (.ok a) k = k a := rfl
@[simp] theorem kLet_ex {x : Exc} {k : α → TR σ lam ρ} : kLet (.ex x) k = .ex x := rfl
@[simp] theorem kLet_bad {k : α → TR σ lam ρ} : kLet .bad k = .bad := rfl
@[simp] theorem kIf_ok {b : Bool} {x y : TR σ lam ρ} : kIf (.ok b) x y = if b = true then x else y := rfl
@[simp] theorem kSeq_nx {s : σ} {k : σ → TR τ lam ρ} : kSeq (.nx s) k = k s := rfl
@[simp] theorem kSeq_rt {r : ρ} {k : σ → TR τ lam ρ} : kSeq (.rt r) k = .rt r := rfl
@[simp] theorem kSeq_ex {x : Exc} {k : σ → TR τ lam ρ} : kSeq (.ex x) k = .ex x := rfl
@[simp] theorem kSeq_bk {s : lam} {k : σ → TR τ lam ρ} : kSeq (.bk s) k = .bk s := rfl
@[simp] theorem kSeq_ct {s : lam} {k : σ → TR τ lam ρ} : kSeq (.ct s) k = .ct s := rfl
@[simp] theorem kSeq_if {b : Bool} {x y : TR σ lam ρ} {k : σ → TR τ lam ρ} : kSeq (if b = true then x else y) k = if b = true then kSeq x k else kSeq y k := by cases b <;> rfl
@[simp] theorem kRet_ok {r : ρ} : (kRet (.ok r) : TR σ lam ρ) = .rt r := rfl
@[simp] theorem kRet_ex {x : Exc} : (kRet (.ex x) : TR σ lam ρ) = .ex x := rfl
@[simp] theorem kFor_nil {body : α → σ → TR σ σ ρ} {s : σ} : (kFor body [] s : TR σ lam ρ) = .nx s := rfl
theorem kFor_cons {body : α → σ → TR σ σ ρ} {x : α} {xs : List α} {s s' : σ} (h : body x s = .nx s') : (kFor body (x :: xs) s : TR σ lam ρ) = kFor body xs s' := by rw [kFor, h]
theorem kFor_cons_ct {body : α → σ → TR σ σ ρ} {x : α} {xs : List α} {s s' : σ} (h : body x s = .ct s') : (kFor body (x :: xs) s : TR σ lam ρ) = kFor body xs s' := by rw [kFor, h]
theorem kFor_cons_rt {body : α → σ → TR σ σ ρ} {x : α} {xs : List α} {s : σ} {r : ρ} (h : body x s = .rt r) : (kFor body (x :: xs) s : TR σ lam ρ) = .rt r := by rw [kFor, h]
theorem kFor_cons_ex {body : α → σ → TR σ σ ρ} {x : α} {xs : List α} {s : σ} {r : Exc} (h : body x s = .ex r) : (kFor body (x :: xs) s : TR σ lam ρ) = .ex r := by rw [kFor, h]
theorem kFor_cons_bk {body : α → σ → TR σ σ ρ} {x : α} {xs : List α} {s s' : σ} (h : body x s = .bk s') : (kFor body (x :: xs) s : TR σ lam ρ) = .nx s' := by rw [kFor, h]
@[simp] theorem kEnd_nx {r : ρ} : kEnd (.nx r) = .ok r := rfl
@[simp] theorem kEnd_rt {r : ρ} : kEnd (.rt r) = .ok r := rfl
@[simp] theorem kEnd_ex {x : Exc} : (kEnd (.ex x) : Res ρ) = .ex x := rfl
@[simp] theorem kEnd_if {b : Bool} {x y : TR ρ Empty ρ} : kEnd (if b = true then x else y) = if b = true then kEnd x else kEnd y := by cases b <;> rfl

variable {E : Env} {i : Nat} {Rn : σ → Env → Prop} {Rl : lam → Env → Prop} {X : Option ρ → Env → Prop} {er : ρ → D} {r : Env → Out} {e : α → D} {t : Res α} {k : α → TR σ lam ρ} {g : Env → Res D}
/-- nothing is wished of the environment at an exception -/
def XT {ρ : Type} : Option ρ → Env → Prop := fun _ _ => True
theorem xt {ρ : Type} {o : Option ρ} {E : Env} : XT o E := trivial
theorem seq_nil (s : Env → Out) : seqS s nilS E = s E := by
  unfold seqS nilS
  cases s E <;> rfl
theorem sr_last {s : Env → Out} {t : TR σ lam ρ} (h : SR (seqS s nilS E) Rn Rl X er t) : SR (s E) Rn Rl X er t := by
  rw [← seq_nil s]
  exact h
theorem seq_assoc (a b c : Env → Out) : seqS (seqS a b) c E = seqS a (seqS b c) E := by
  unfold seqS
  cases a E <;> rfl
theorem sr_assoc {a b : Env → Out} {t : TR σ lam ρ} (h : SR (seqS a (seqS b r) E) Rn Rl X er t) : SR (seqS (seqS a b) r E) Rn Rl X er t := by
  rw [seq_assoc]
  exact h
theorem sr_nil {s : σ} (h : Rn s E) : SR (nilS E) Rn Rl X er (.nx s) := ⟨E, rfl, h⟩
/-- behind a statement that does nothing -/
theorem sr_pass {t : TR σ lam ρ} (h : SR (r E) Rn Rl X er t) : SR (seqS nilS r E) Rn Rl X er t := h
theorem seq_nx {s : Env → Out} {E1 : Env} (h : s E = .nx E1) : seqS s r E = r E1 := by unfold seqS; rw [h]
theorem seq_ex {s : Env → Out} {E1 : Env} {x : Exc} (h : s E = .ex x E1) : seqS s r E = .ex x E1 := by unfold seqS; rw [h]
theorem sr_asg (hx : X none E) (hg : Ev (g E) e t) (hl : Nat.ble (i + 1) E.length = true) (hk : ∀ a, SR (r (E.set i (some (e a)))) Rn Rl X er (k a)) : SR (seqS (asgS i g) r E) Rn Rl X er (kLet t k) := by
  have hl := Nat.le_of_ble_eq_true hl
  cases t with
  | ok a =>
    have hg : g E = .ok (e a) := hg
    rw [seq_nx (show asgS i g E = .nx (E.set i (some (e a))) by unfold asgS; rw [hg]; exact if_pos hl)]
    exact hk a
  | ex x =>
    have hg : g E = .ex x := hg
    rw [seq_ex (show asgS i g E = .ex x E by unfold asgS; rw [hg])]
    exact ⟨E, rfl, hx⟩
  | bad => trivial
theorem sr_asgV [NoOw e] (hx : X none E) (hg : Ev (g E) e t) (hl : Nat.ble (i + 1) E.length = true) (hk : ∀ a, SR (r (E.set i (some (e a)))) Rn Rl X er (k a)) : SR (seqS (asgVS i g) r E) Rn Rl X er (kLet t k) := by
  have hl := Nat.le_of_ble_eq_true hl
  unfold seqS asgVS
  cases t with
  | ok a =>
    have hg : g E = .ok (e a) := hg
    simp only [hg, if_pos (show i < E.length ∧ (e a).noOwn = true from ⟨hl, NoOw.h a⟩)]
    exact hk a
  | ex x =>
    have hg : g E = .ex x := hg
    simp only [hg]
    exact ⟨E, rfl, hx⟩
  | bad => trivial
theorem sr_unp {ud : D → Env → Res Env} {Ex : α → Env} (hx : X none E) (hg : Ev (g E) e t) (hu : ∀ a, ud (e a) E = .ok (Ex a)) (hk : ∀ a, SR (r (Ex a)) Rn Rl X er (k a)) : SR (seqS (unpS ud g) r E) Rn Rl X er (kLet t k) := by
  unfold seqS unpS
  cases t with
  | ok a =>
    have hg : g E = .ok (e a) := hg
    simp only [hg, hu a]
    exact hk a
  | ex x =>
    have hg : g E = .ex x := hg
    simp only [hg]
    exact ⟨E, rfl, hx⟩
  | bad => trivial
theorem sr_ret {t : Res ρ} (hx : X none E) (hr : ∀ b, X (some b) E) (hg : Ev (g E) er t) : SR (seqS (retS g) r E) Rn Rl X er (kRet t) := by
  unfold seqS retS
  cases t with
  | ok a =>
    have hg : g E = .ok (er a) := hg
    simp only [hg]
    exact ⟨E, rfl, hr a⟩
  | ex x =>
    have hg : g E = .ex x := hg
    simp only [hg]
    exact ⟨E, rfl, hx⟩
  | bad => trivial
theorem sr_retV [NoBo e] {a : α} {b : ρ} (h : E[i]? = some (some (e a))) (hb : e a = er b) (hr : X (some b) (E.set i none)) : SR (seqS (retVS i) r E) Rn Rl X er (.rt b) := by
  unfold seqS retVS
  rw [h]
  simp only [NoBo.h a, if_true]
  exact ⟨_, by rw [hb], hr⟩
theorem sr_frz [Fr e e'] {s : Env → Out} {a : α} {t : TR σ lam ρ} (h : E[i]? = some (some (e a))) (hk : SR (seqS s r (E.set i (some (e' a)))) Rn Rl X er t) : SR (seqS (frS i s) r E) Rn Rl X er t := by
  have e1 : frzE i E = E.set i (some (e' a)) := by
    unfold frzE
    rw [h, ← Fr.h (e := e) (e' := e') a]
  show SR (seqS s r (frzE i E)) Rn Rl X er t
  rw [e1]
  exact hk
/-- each way goes on by itself -/
theorem sr_if {gt : Env → Res Bool} {a b : Env → Out} {c : Res Bool} {x y : TR σ lam ρ} (hx : X none E) (hc : Ev (gt E) id c) (ha : SR (seqS a r E) Rn Rl X er x) (hb : SR (seqS b r E) Rn Rl X er y) : SR (seqS (ifS gt a b) r E) Rn Rl X er (kIf c x y) := by
  unfold seqS ifS
  cases c with
  | ok k =>
    have hc : gt E = .ok k := hc
    simp only [hc]
    cases k with
    | true => exact ha
    | false => exact hb
  | ex z =>
    have hc : gt E = .ex z := hc
    simp only [hc]
    exact ⟨E, rfl, hx⟩
  | bad => trivial
theorem sr_ifp {gt : Env → Res Bool} {a b : Env → Out} {c : Bool} {x y : TR σ lam ρ} (hc : Ev (gt E) id (.ok c)) (ha : SR (seqS a r E) Rn Rl X er x) (hb : SR (seqS b r E) Rn Rl X er y) : SR (seqS (ifS gt a b) r E) Rn Rl X er (if c = true then x else y) := by
  unfold seqS ifS
  have hc : gt E = .ok c := hc
  simp only [hc]
  cases c with
  | true => exact ha
  | false => exact hb
/-- both ways meet -/
theorem sr_join {s : Env → Out} {Rm : τ → Env → Prop} {t : TR τ lam ρ} {k : τ → TR σ lam ρ} (h : SR (s E) Rm Rl X er t) (hk : ∀ u E', Rm u E' → SR (r E') Rn Rl X er (k u)) : SR (seqS s r E) Rn Rl X er (kSeq t k) := by
  unfold seqS
  cases t with
  | nx u =>
    obtain ⟨E', h1, h2⟩ := h
    rw [h1]
    exact hk u E' h2
  | rt u => obtain ⟨E', h1, h2⟩ := h; rw [h1]; exact ⟨E', rfl, h2⟩
  | bk u => obtain ⟨E', h1, h2⟩ := h; rw [h1]; exact ⟨E', rfl, h2⟩
  | ct u => obtain ⟨E', h1, h2⟩ := h; rw [h1]; exact ⟨E', rfl, h2⟩
  | ex u => obtain ⟨E', h1, h2⟩ := h; rw [h1]; exact ⟨E', rfl, h2⟩
  | bad => trivial
theorem sr_forS {R : σ → Env → Prop} {ud : D → Env → Res Env} {body : Env → Out} {tb : α → σ → TR σ σ ρ} (hb : ∀ x s E, R s E → ∃ E1, ud (e x) E = .ok E1 ∧ SR (body E1) R R X er (tb x s)) :
    ∀ (xs : List α) (s : σ) (E : Env), R s E → SR (forS ud body (xs.map e) E) R Rl X er (kFor tb xs s)
  | [], s, E, h => ⟨E, rfl, h⟩
  | x :: xs, s, E, h => by
    obtain ⟨E1, h1, h2⟩ := hb x s E h
    rw [List.map_cons]
    unfold forS kFor
    rw [h1]
    cases hc : tb x s with
    | nx u =>
      rw [hc] at h2
      obtain ⟨E2, q1, q2⟩ := h2
      simp only [q1]
      exact sr_forS hb xs u E2 q2
    | ct u =>
      rw [hc] at h2
      obtain ⟨E2, q1, q2⟩ := h2
      simp only [q1]
      exact sr_forS hb xs u E2 q2
    | bk u =>
      rw [hc] at h2
      obtain ⟨E2, q1, q2⟩ := h2
      simp only [q1]
      exact ⟨E2, rfl, q2⟩
    | rt u =>
      rw [hc] at h2
      obtain ⟨E2, q1, q2⟩ := h2
      simp only [q1]
      exact ⟨E2, rfl, q2⟩
    | ex u =>
      rw [hc] at h2
      obtain ⟨E2, q1, q2⟩ := h2
      simp only [q1]
      exact ⟨E2, rfl, q2⟩
    | bad => trivial
theorem sr_for {R : τ → Env → Prop} {gi : Env → Res (List D)} {ud : D → Env → Res Env} {body : Env → Out} {txs : Res (List α)} {tb : α → τ → TR τ τ ρ} {s0 : τ} {k : τ → TR σ lam ρ} (hx : X none E) (hi : Ev (gi E) (List.map e) txs) (h0 : R s0 E)
    (hb : ∀ x s E, R s E → ∃ E1, ud (e x) E = .ok E1 ∧ SR (body E1) R R X er (tb x s)) (hk : ∀ u E', R u E' → SR (r E') Rn Rl X er (k u)) : SR (seqS (gFor gi ud body) r E) Rn Rl X er (kLet txs fun xs => kSeq (kFor tb xs s0) k) := by
  unfold seqS gFor
  cases txs with
  | ok xs =>
    have hi : gi E = .ok (xs.map e) := hi
    simp only [hi]
    exact sr_join (s := fun E => forS ud body (xs.map e) E) (sr_forS hb xs s0 E h0) hk
  | ex x =>
    have hi : gi E = .ex x := hi
    simp only [hi]
    exact ⟨E, rfl, hx⟩
  | bad => trivial
theorem sr_whileS {R : σ → Env → Prop} {gt : Env → Res Bool} {body : Env → Out} {c : σ → Res Bool} {tb : σ → TR σ σ ρ} (hx : ∀ s E, R s E → X none E) (hc : ∀ s E, R s E → Ev (gt E) id (c s)) (hb : ∀ s E, R s E → SR (body E) R R X er (tb s)) :
    ∀ (n : Nat) (s : σ) (E : Env), R s E → SR (whileS gt body n E) R Rl X er (kWhile c tb n s)
  | 0, s, E, h => trivial
  | n + 1, s, E, h => by
    have h1 := hc s E h
    have h2 := hb s E h
    unfold whileS kWhile
    cases hcs : c s with
    | ok b =>
      rw [hcs] at h1
      have h1 : gt E = .ok b := h1
      rw [h1]
      cases b with
      | false => exact ⟨E, rfl, h⟩
      | true =>
        cases hbs : tb s with
        | nx u =>
          rw [hbs] at h2
          obtain ⟨E2, q1, q2⟩ := h2
          simp only [q1]
          exact sr_whileS hx hc hb n u E2 q2
        | ct u =>
          rw [hbs] at h2
          obtain ⟨E2, q1, q2⟩ := h2
          simp only [q1]
          exact sr_whileS hx hc hb n u E2 q2
        | bk u =>
          rw [hbs] at h2
          obtain ⟨E2, q1, q2⟩ := h2
          simp only [q1]
          exact ⟨E2, rfl, q2⟩
        | rt u =>
          rw [hbs] at h2
          obtain ⟨E2, q1, q2⟩ := h2
          simp only [q1]
          exact ⟨E2, rfl, q2⟩
        | ex u =>
          rw [hbs] at h2
          obtain ⟨E2, q1, q2⟩ := h2
          simp only [q1]
          exact ⟨E2, rfl, q2⟩
        | bad => trivial
    | ex z =>
      rw [hcs] at h1
      have h1 : gt E = .ex z := h1
      rw [h1]
      exact ⟨E, rfl, hx s E h⟩
    | bad => trivial
theorem sr_while {R : τ → Env → Prop} {gt : Env → Res Bool} {body : Env → Out} {n : Nat} {c : τ → Res Bool} {tb : τ → TR τ τ ρ} {s0 : τ} {k : τ → TR σ lam ρ} (hx : ∀ s E, R s E → X none E) (h0 : R s0 E) (hc : ∀ s E, R s E → Ev (gt E) id (c s))
    (hb : ∀ s E, R s E → SR (body E) R R X er (tb s)) (hk : ∀ u E', R u E' → SR (r E') Rn Rl X er (k u)) : SR (seqS (whileS gt body n) r E) Rn Rl X er (kSeq (kWhile c tb n s0) k) := sr_join (s := fun E => whileS gt body n E) (sr_whileS hx hc hb n s0 E h0) hk
def appL (xs : List α) (a : α) : Res (List α) := grd (xs.length < 16777216) (.ok (xs ++ [a]))
theorem appL_ok {xs : List α} {a : α} (h : xs.length < 16777216) : appL xs a = .ok (xs ++ [a]) := grd_ok h
theorem sr_app {xs : List α} {k : List α → TR σ lam ρ} (hx : X none E) (hv : E[i]? = some (some (eL .own e xs))) (hg : Ev (g E) e t) (hk : ∀ ys, SR (r (E.set i (some (eL .own e ys)))) Rn Rl X er (k ys)) :
    SR (seqS (exprSM (gMut i fApp (gP0 i) (gOne g))) r E) Rn Rl X er (kLet (t >>= fun a => appL xs a) k) := by
  have hp : gP0 i E = .ok [] := by unfold gP0; rw [hv]
  have hq : partOf E i [] = some (.lst .own (xs.map e)) := by unfold partOf; rw [hv]; rfl
  unfold seqS exprSM gMut
  rw [hp]
  simp only [toM, hq]
  cases t with
  | ok a =>
    have h1 : gOne g E = .ok [e a] := ev_one hg
    rw [h1]
    simp only [fApp, List.length_map, res_bind_ok]
    by_cases h : xs.length < 16777216
    · rw [appL_ok h, kLet_ok, if_pos (show xs.length < sizeLine from h)]
      have : updE E i [] (.lst .own (xs.map e ++ [e a])) = E.set i (some (eL .own e (xs ++ [a]))) := by
        unfold updE
        rw [hv]
        simp only [setP, eL, List.map_append, List.map_cons, List.map_nil]
      simp only [this]
      exact hk _
    · rw [show appL xs a = .bad from grd_bad h]
      trivial
  | ex x =>
    have h1 : gOne g E = .ex x := ev_one hg
    rw [h1]
    exact ⟨E, rfl, hx⟩
  | bad => trivial
theorem fr_body {n m : Nat} {s : Env → Out} {ds : List D} {Rn : ρ → Env → Prop} {Rl : Empty → Env → Prop} {t : TR ρ Empty ρ} (hl : ds.length = n) (hn : ∀ r E, Rn r E → er r = .non) (h : SR (s (startE m ds)) Rn Rl XT er t) : Ev (bodyF n m s ds) er (kEnd t) := by
  unfold bodyF
  rw [if_pos hl]
  cases t with
  | nx r => obtain ⟨E, h1, h2⟩ := h; rw [h1]; exact congrArg Res.ok (hn r E h2).symm
  | rt r => obtain ⟨E, h1, _⟩ := h; rw [h1]; rfl
  | ex x => obtain ⟨E, h1, _⟩ := h; rw [h1]; rfl
  | bk r => trivial
  | ct r => trivial
  | bad => trivial
theorem ev_args {F : List D → Res D} {gs : Env → Res (List D)} {es : α → List D} {e2 : β → D} {ta : Res α} {ft : α → Res β} (hf : ∀ a, Ev (F (es a ++ [])) e2 (ft a)) (ha : Ev (gs E) es ta) : Ev (gCall F [] gs E) e2 (ta >>= fun a => ft a) := Ev.bind ha hf
theorem ev_argsp {F : List D → Res D} {gs : Env → Res (List D)} {es : α → List D} {e2 : β → D} {a : α} {ft : Res β} (hf : Ev (F (es a ++ [])) e2 ft) (ha : Ev (gs E) es (.ok a)) : Ev (gCall F [] gs E) e2 ft := by
  have ha : gs E = .ok (es a) := ha
  show Ev (gs E >>= _) _ _
  rw [ha]
  exact hf
end
end PD
noncomputable section
namespace PD
open PySem L2
section
variable {α β γ : Type} {e e' : α → D} {f f' : Fl}
def eqB {α : Type} [DecidableEq α] (a b : α) : Bool := decide (a = b)
@[simp] theorem eqB_iff {α : Type} [DecidableEq α] {a b : α} : eqB a b = true ↔ a = b := decide_eq_true_iff
@[simp] theorem eqB_false {α : Type} [DecidableEq α] {a b : α} : eqB a b = false ↔ a ≠ b := decide_eq_false_iff_not
class PyE (e : α → D) (n : outParam Nat) : Prop where h : ∀ a, ∃ p, (e a).py = some p ∧ p.canLay0 = true ∧ p.depth ≤ n
class PyL (es : α → List D) (n : outParam Nat) : Prop where h : ∀ a, ∃ p, pyL (es a) = some p ∧ PyData.canLayAll0 p = true ∧ PyData.depthAll p ≤ n
class EqE [DecidableEq α] (e e' : α → D) : Prop where h : ∀ a b p q, (e a).py = some p → (e' b).py = some q → PyData.eqv p q = decide (a = b)
class EqL [DecidableEq α] (es es' : α → List D) : Prop where h : ∀ a b p q, pyL (es a) = some p → pyL (es' b) = some q → PyData.eqvAll p q = decide (a = b)
instance : PyE eI 0 := ⟨fun a => ⟨_, rfl, rfl, Nat.le_refl _⟩⟩
instance : PyE eB 0 := ⟨fun a => ⟨_, rfl, rfl, Nat.le_refl _⟩⟩
instance : PyE eN 0 := ⟨fun a => ⟨_, rfl, rfl, Nat.le_refl _⟩⟩
theorem sT_ok (t : Tx) : PyData.strOk (sT t) = true := by
  show (sT t).cps.all _ = true
  rw [← Array.all_toList, sT_toList, List.all_map, List.all_eq_true]
  intro c _
  have h := c.valid
  have : c.toNat < 1114112 := by
    rcases h with h | h
    · have : c.val.toNat < 55296 := h
      show c.val.toNat < _
      omega
    · exact h.2
  exact decide_eq_true this
instance : PyE eS 0 := ⟨fun a => ⟨_, rfl, sT_ok a, Nat.le_refl _⟩⟩
theorem pyL_map {n : Nat} (h : ∀ a, ∃ p, (e a).py = some p ∧ p.canLay0 = true ∧ p.depth ≤ n) : ∀ xs : List α, ∃ p, pyL (xs.map e) = some p ∧ PyData.canLayAll0 p = true ∧ PyData.depthAll p ≤ n
  | [] => ⟨[], rfl, rfl, Nat.zero_le _⟩
  | x :: xs => by
    obtain ⟨p, h1, h2, h3⟩ := h x
    obtain ⟨ps, g1, g2, g3⟩ := pyL_map h xs
    refine ⟨p :: ps, ?_, ?_, ?_⟩
    · simp only [List.map_cons, pyL, h1, g1]
    · simp only [PyData.canLayAll0, h2, g2, Bool.and_self]
    · simp only [PyData.depthAll]; exact Nat.max_le.mpr ⟨h3, g3⟩
instance {n : Nat} [PyE e n] : PyE (eL f e) (n + 1) := ⟨fun a => by
  obtain ⟨p, h1, h2, h3⟩ := pyL_map (PyE.h (e := e)) a
  exact ⟨.list p, by simp only [eL, D.py, h1, Option.map_some], h2, Nat.succ_le_succ h3⟩⟩
instance {n : Nat} [PyE e n] : PyE (eTL e) (n + 1) := ⟨fun a => by
  obtain ⟨p, h1, h2, h3⟩ := pyL_map (PyE.h (e := e)) a
  exact ⟨.tuple p, by simp only [eTL, D.py, h1, Option.map_some], h2, Nat.succ_le_succ h3⟩⟩
instance : PyL pn 0 := ⟨fun a => ⟨[], rfl, rfl, Nat.le_refl _⟩⟩
instance {n : Nat} [PyE e n] : PyL (p1 e) n := ⟨fun a => pyL_map (PyE.h (e := e)) [a]⟩
instance {n m : Nat} {es : β → List D} [PyE e n] [PyL es m] : PyL (pc e es) (max n m) := ⟨fun a => by
  obtain ⟨p, h1, h2, h3⟩ := PyE.h (e := e) a.1
  obtain ⟨ps, g1, g2, g3⟩ := PyL.h (es := es) a.2
  refine ⟨p :: ps, ?_, ?_, ?_⟩
  · simp only [pc, pyL, h1, g1]
  · simp only [PyData.canLayAll0, h2, g2, Bool.and_self]
  · simp only [PyData.depthAll]; omega⟩
instance {n : Nat} {es : α → List D} [PyL es n] : PyE (eT es) (n + 1) := ⟨fun a => by
  obtain ⟨p, h1, h2, h3⟩ := PyL.h (es := es) a
  exact ⟨.tuple p, by simp only [eT, D.py, h1, Option.map_some], h2, Nat.succ_le_succ h3⟩⟩
instance {n : Nat} [PyE e n] : PyE (eO e) n := ⟨fun a => by
  cases a with
  | none => exact ⟨.none, rfl, rfl, Nat.zero_le _⟩
  | some a => exact PyE.h (e := e) a⟩
instance : EqE eI eI := ⟨fun a b p q h1 h2 => by
  cases h1; cases h2
  show (a == b) = _
  by_cases h : a = b <;> simp [h]⟩
instance : EqE eB eB := ⟨fun a b p q h1 h2 => by
  cases h1; cases h2
  show (a == b) = _
  by_cases h : a = b <;> simp [h]⟩
instance : EqE eN eN := ⟨fun a b p q h1 h2 => by
  cases h1; cases h2
  rfl⟩
instance : EqE eS eS := ⟨fun a b p q h1 h2 => by
  cases h1; cases h2
  show (sT a == sT b) = _
  by_cases h : a = b
  · rw [h]; simp
  · have : sT a ≠ sT b := fun z => h (sT_inj z)
    simp [h, this]⟩
theorem eqv_map [DecidableEq α] (h : ∀ a b p q, (e a).py = some p → (e' b).py = some q → PyData.eqv p q = decide (a = b)) : ∀ (xs ys : List α) (ps qs : List PyData), pyL (xs.map e) = some ps → pyL (ys.map e') = some qs → PyData.eqvAll ps qs = decide (xs = ys)
  | [], [], ps, qs, h1, h2 => by cases h1; cases h2; rfl
  | [], y :: ys, ps, qs, h1, h2 => by
    cases h1
    simp only [List.map_cons, pyL] at h2
    split at h2
    · cases h2; rfl
    · cases h2
  | x :: xs, [], ps, qs, h1, h2 => by
    cases h2
    simp only [List.map_cons, pyL] at h1
    split at h1
    · cases h1; rfl
    · cases h1
  | x :: xs, y :: ys, ps, qs, h1, h2 => by
    simp only [List.map_cons, pyL] at h1 h2
    split at h1
    · rename_i p ps' a1 a2
      cases h1
      split at h2
      · rename_i q qs' b1 b2
        cases h2
        simp only [PyData.eqvAll, h x y p q a1 b1, eqv_map h xs ys ps' qs' a2 b2, List.cons.injEq]
        by_cases hxy : x = y <;> simp [hxy]
      · cases h2
    · cases h1
theorem map_some' {α β : Type} {g : α → β} {o : Option α} {b : β} (h : o.map g = some b) : ∃ a, o = some a ∧ b = g a := by
  cases o with
  | none => cases h
  | some a => cases h; exact ⟨a, rfl, rfl⟩
instance [DecidableEq α] [EqE e e'] : EqE (eL f e) (eL f' e') := ⟨fun a b p q h1 h2 => by
  obtain ⟨ps, k1, rfl⟩ := map_some' (show (pyL (a.map e)).map .list = some p from h1)
  obtain ⟨qs, k2, rfl⟩ := map_some' (show (pyL (b.map e')).map .list = some q from h2)
  exact eqv_map (EqE.h (e := e) (e' := e')) a b ps qs k1 k2⟩
instance [DecidableEq α] [EqE e e'] : EqE (eTL e) (eTL e') := ⟨fun a b p q h1 h2 => by
  obtain ⟨ps, k1, rfl⟩ := map_some' (show (pyL (a.map e)).map .tuple = some p from h1)
  obtain ⟨qs, k2, rfl⟩ := map_some' (show (pyL (b.map e')).map .tuple = some q from h2)
  exact eqv_map (EqE.h (e := e) (e' := e')) a b ps qs k1 k2⟩
instance : EqL pn pn := ⟨fun a b p q h1 h2 => by cases h1; cases h2; rfl⟩
instance [DecidableEq α] [EqE e e'] : EqL (p1 e) (p1 e') := ⟨fun a b p q h1 h2 => by
  have := eqv_map (EqE.h (e := e) (e' := e')) [a] [b] p q h1 h2
  rw [this]
  simp⟩
instance {es es' : β → List D} [DecidableEq α] [DecidableEq β] [EqE e e'] [EqL es es'] : EqL (pc e es) (pc e' es') := ⟨fun a b p q h1 h2 => by
  obtain ⟨a1, a2⟩ := a
  obtain ⟨b1, b2⟩ := b
  simp only [pc, pyL] at h1 h2
  split at h1
  · rename_i p ps' c1 c2
    cases h1
    split at h2
    · rename_i q qs' d1 d2
      cases h2
      simp only [PyData.eqvAll, EqE.h (e := e) (e' := e') a1 b1 p q c1 d1, EqL.h (es := es) (es' := es') a2 b2 ps' qs' c2 d2, Prod.mk.injEq]
      by_cases hxy : a1 = b1 <;> simp [hxy]
    · cases h2
  · cases h1⟩
instance {es es' : α → List D} [DecidableEq α] [EqL es es'] : EqE (eT es) (eT es') := ⟨fun a b p q h1 h2 => by
  obtain ⟨ps, k1, rfl⟩ := map_some' (show (pyL (es a)).map .tuple = some p from h1)
  obtain ⟨qs, k2, rfl⟩ := map_some' (show (pyL (es' b)).map .tuple = some q from h2)
  exact EqL.h (es := es) (es' := es') a b ps qs k1 k2⟩
/-- never None -/
class NotNon (e : α → D) : Prop where h : ∀ a p, (e a).py = some p → ∀ q, PyData.eqv .none p = q → q = false
theorem eqv_sym_none {p : PyData} (h : PyData.eqv .none p = false) : PyData.eqv p .none = false := by
  cases p <;> first | rfl | exact h
instance : NotNon eI := ⟨fun a p h q e => by cases h; exact e.symm⟩
instance : NotNon eB := ⟨fun a p h q e => by cases h; exact e.symm⟩
instance : NotNon eS := ⟨fun a p h q e => by cases h; exact e.symm⟩
instance : NotNon (eL f e) := ⟨fun a p h q e => by
  obtain ⟨ps, k1, rfl⟩ := map_some' (show (pyL _).map .list = some p from h)
  exact e.symm⟩
instance : NotNon (eTL e) := ⟨fun a p h q e => by
  obtain ⟨ps, k1, rfl⟩ := map_some' (show (pyL _).map .tuple = some p from h)
  exact e.symm⟩
instance {es : α → List D} : NotNon (eT es) := ⟨fun a p h q e => by
  obtain ⟨ps, k1, rfl⟩ := map_some' (show (pyL _).map .tuple = some p from h)
  exact e.symm⟩
instance [DecidableEq α] [EqE e e'] [NotNon e] [NotNon e'] : EqE (eO e) (eO e') := ⟨fun a b p q h1 h2 => by
  cases a with
  | none =>
    cases h1
    cases b with
    | none => cases h2; rfl
    | some b =>
      rw [NotNon.h (e := e') b q h2 _ rfl]
      exact (decide_eq_false (fun z => nomatch z)).symm
  | some a =>
    cases b with
    | none =>
      cases h2
      rw [eqv_sym_none (NotNon.h (e := e) a p h1 _ rfl)]
      exact (decide_eq_false (fun z => nomatch z)).symm
    | some b =>
      rw [EqE.h (e := e) (e' := e') a b p q h1 h2]
      by_cases h : a = b <;> simp [h]⟩
theorem shp_of {p : PyData} (h1 : p.canLay0 = true) (h2 : p.depth ≤ 64) : shp p = true := by
  unfold shp SeqAt.shaped
  rw [h1, decide_eq_true h2]
  rfl
theorem op_eq [DecidableEq α] {n m : Nat} [PyE e n] [PyE e' m] [EqE e e'] (hn : Nat.ble n 60 = true) (hm : Nat.ble m 60 = true) (a b : α) : Ev (eqD (e a) (e' b)) eB (.ok (eqB a b)) := by
  have hn := Nat.le_of_ble_eq_true hn
  have hm := Nat.le_of_ble_eq_true hm
  obtain ⟨p, h1, h2, h3⟩ := PyE.h (e := e) a
  obtain ⟨q, g1, g2, g3⟩ := PyE.h (e := e') b
  show eqD (e a) (e' b) = _
  unfold eqD
  simp only [h1, g1, shp_of h2 (by omega), shp_of g2 (by omega), Bool.and_self, if_true, EqE.h (e := e) (e' := e') a b p q h1 g1]
  rfl
theorem op_ne [DecidableEq α] {n m : Nat} [PyE e n] [PyE e' m] [EqE e e'] (hn : Nat.ble n 60 = true) (hm : Nat.ble m 60 = true) (a b : α) : Ev (neD (e a) (e' b)) eB (.ok (!eqB a b)) := by
  have hn := Nat.le_of_ble_eq_true hn
  have hm := Nat.le_of_ble_eq_true hm
  obtain ⟨p, h1, h2, h3⟩ := PyE.h (e := e) a
  obtain ⟨q, g1, g2, g3⟩ := PyE.h (e := e') b
  show neD (e a) (e' b) = _
  unfold neD
  simp only [h1, g1, shp_of h2 (by omega), shp_of g2 (by omega), Bool.and_self, if_true, EqE.h (e := e) (e' := e') a b p q h1 g1]
  rfl
theorem nin_of {a b : D} {k : Bool} (h : Ev (inD a b) eB (.ok k)) : Ev (ninD a b) eB (.ok (!k)) := by
  have h : (inB a b >>= fun k => Res.ok (D.bl k)) = .ok (.bl k) := h
  show (inB a b >>= fun k => Res.ok (D.bl (!k))) = .ok (.bl (!k))
  cases e : inB a b with
  | ok z => rw [e] at h; cases h; rfl
  | ex x => rw [e] at h; cases h
  | bad => rw [e] at h; cases h
/-- flat things -/
class FlatE [DecidableEq α] (e : α → D) (v : outParam (α → V)) : Prop where
  h : ∀ a, flatD (e a) = some (v a)
  eq : ∀ a b, eqV (v a) (v b) = decide (a = b)
instance : FlatE eI V.int := ⟨fun _ => rfl, fun a b => by
  show (a == b) = _
  by_cases h : a = b <;> simp [h]⟩
instance : FlatE eS (fun t => V.str (sT t)) := ⟨fun _ => rfl, fun a b => by
  show (sT a == sT b) = _
  by_cases h : a = b
  · rw [h]; simp
  · have : sT a ≠ sT b := fun z => h (sT_inj z)
    simp [h, this]⟩
instance : FlatE (eO eS) (fun o => match o with | none => V.non | some t => V.str (sT t)) := ⟨fun o => by cases o <;> rfl, fun a b => by
  cases a with
  | none => cases b with
    | none => rfl
    | some b => exact (decide_eq_false (fun z => nomatch z)).symm
  | some a => cases b with
    | none => exact (decide_eq_false (fun z => nomatch z)).symm
    | some b =>
      show (sT a == sT b) = _
      by_cases h : a = b
      · rw [h]; simp
      · have : sT a ≠ sT b := fun z => h (sT_inj z)
        simp [h, this]⟩
def inS (a b : Tx) : Bool := match a with
  | [c] => decide (c ∈ b)
  | _ => strIn (sT a) (sT b)
theorem op_inS (a b : Tx) : Ev (inD (eS a) (eS b)) eB (.ok (inS a b)) := by
  show Res.ok (D.bl (strIn (sT a) (sT b))) = .ok (.bl (inS a b))
  congr 2
  unfold inS
  split
  · rename_i c
    unfold strIn
    simp only [sT_toList, List.map_cons, List.map_nil]
    by_cases h : c ∈ b
    · rw [decide_eq_true h, decide_eq_true (List.mem_map.mpr ⟨c, h, rfl⟩)]
    · rw [decide_eq_false h, decide_eq_false]
      intro z
      obtain ⟨d, hd, hc⟩ := List.mem_map.mp z
      exact h (char_inj hc ▸ hd)
  · rfl
theorem op_ninS (a b : Tx) : Ev (ninD (eS a) (eS b)) eB (.ok (!inS a b)) := nin_of (op_inS a b)
theorem op_isO (hn : ∀ a, ∃ b, isnD (e a) .non = .ok (.bl b) ∧ b = false) (a : Option α) (u : Unit) : Ev (isnD (eO e a) (eN u)) eB (.ok a.isNone) := by
  cases a with
  | none => rfl
  | some a =>
    obtain ⟨b, h, rfl⟩ := hn a
    exact h
theorem op_notO (hn : ∀ a, ∃ b, isnD (e a) .non = .ok (.bl b) ∧ b = false) (a : Option α) (u : Unit) : Ev (notnD (eO e a) (eN u)) eB (.ok a.isSome) := by
  cases a with
  | none => rfl
  | some a =>
    obtain ⟨b, h, rfl⟩ := hn a
    show notnD (e a) .non = _
    cases e1 : e a <;> first | rfl | (rw [e1] at h; cases h)
class SomeE (e : α → D) : Prop where h : ∀ a, ∃ b, isnD (e a) .non = .ok (.bl b) ∧ b = false
instance : SomeE eI := ⟨fun _ => ⟨_, rfl, rfl⟩⟩
instance : SomeE eB := ⟨fun _ => ⟨_, rfl, rfl⟩⟩
instance : SomeE eS := ⟨fun _ => ⟨_, rfl, rfl⟩⟩
instance : SomeE (eL f e) := ⟨fun _ => ⟨_, rfl, rfl⟩⟩
instance : SomeE (eTL e) := ⟨fun _ => ⟨_, rfl, rfl⟩⟩
instance {es : α → List D} : SomeE (eT es) := ⟨fun _ => ⟨_, rfl, rfl⟩⟩
theorem op_is [SomeE e] (a : Option α) (u : Unit) : Ev (isnD (eO e a) (eN u)) eB (.ok a.isNone) := op_isO SomeE.h a u
theorem op_not [SomeE e] (a : Option α) (u : Unit) : Ev (notnD (eO e a) (eN u)) eB (.ok a.isSome) := op_notO SomeE.h a u
/-- what is not None -/
theorem Ev.getO {r : Res D} {t : Res (Option α)} (h : Ev r (eO e) t) : Ev r e (t >>= PD.getO) := by
  cases t with
  | ok a =>
    cases a with
    | none => trivial
    | some a => exact h
  | ex x => exact h
  | bad => trivial
variable {E : Env} {ga gb : Env → Res D}
def joinT (sep : Tx) : List Tx → Tx
  | [] => []
  | [w] => w
  | w :: v :: r => w ++ (sep ++ joinT sep (v :: r))
def joinG (sep : Tx) (ws : List Tx) : Res Tx := grd ((ws.map List.length).sum + ws.length * sep.length ≤ 16777216) (.ok (joinT sep ws))
theorem strsOf_map : ∀ ws : List Tx, strsOf (ws.map eS) = some (ws.map sT)
  | [] => rfl
  | w :: ws => by
    show (strsOf (ws.map eS)).map _ = _
    rw [strsOf_map ws]
    rfl
theorem joinL_T (sep : Tx) : ∀ ws : List Tx, TL.joinL (sep.map Char.toNat) (ws.map (List.map Char.toNat)) = (joinT sep ws).map Char.toNat
  | [] => rfl
  | [w] => rfl
  | w :: v :: r => by
    have ih := joinL_T sep (v :: r)
    simp only [List.map_cons] at ih ⊢
    rw [TL.joinL, ih, joinT]
    simp
theorem join_sT (sep : Tx) (ws : List Tx) : Txt.join (sT sep) (ws.map sT) = sT (joinT sep ws) := by
  have h := SX.join_S (sep.map Char.toNat) (ws.map (List.map Char.toNat))
  rw [joinL_T, List.map_map] at h
  exact h
theorem op_join0 (sep : Tx) (ws : List Tx) (d : D) (hd : d = .lst f (ws.map eS) ∨ d = .tup (ws.map eS)) : Ev (joinD (eS sep) d) eS (joinG sep ws) := by
  unfold joinG
  refine ev_grd fun h => ?_
  · skip
    have hs : ((ws.map sT).map (·.length)).sum + (ws.map sT).length * (sT sep).length ≤ 16777216 := by
      rw [List.map_map, List.length_map, sT_len]
      have : ((fun x : Str => x.length) ∘ sT) = (List.length : Tx → Nat) := funext fun t => sT_len t
      rw [this]
      exact h
    rcases hd with rfl | rfl
    · show joinD (.str (sT sep)) _ = .ok (.str (sT (joinT sep ws)))
      unfold joinD
      simp only [strsOf_map]
      rw [if_pos hs, join_sT]
    · show joinD (.str (sT sep)) _ = .ok (.str (sT (joinT sep ws)))
      unfold joinD
      simp only [strsOf_map]
      rw [if_pos hs, join_sT]
theorem op_join (sep : Tx) (ws : List Tx) : Ev (joinD (eS sep) (eL f eS ws)) eS (joinG sep ws) := op_join0 sep ws _ (.inl rfl)
theorem ev_binS {e1 : β → D} {e2 : γ → D} {fn : D → D → Res D} {ta : Res Tx} {tb : Res β} {ft : Tx → β → Res γ} (hf : ∀ a b, Ev (fn (eS a) (e1 b)) e2 (ft a b)) (ha : Ev (ga E) eS ta) (hb : Ev (gb E) e1 tb) : Ev (gBinS fn ga gb E) e2 (ta >>= fun a => tb >>= fun b => ft a b) :=
  Ev.bind ha fun a => Ev.bind hb fun b => hf a b
theorem ev_binSp {e1 : β → D} {e2 : γ → D} {fn : D → D → Res D} {a : Tx} {b : β} {ft : Tx → β → Res γ} (hf : ∀ a b, Ev (fn (eS a) (e1 b)) e2 (ft a b)) (ha : Ev (ga E) eS (.ok a)) (hb : Ev (gb E) e1 (.ok b)) : Ev (gBinS fn ga gb E) e2 (ft a b) := ev_binS hf ha hb
/-- cut at each sign c -/
def spT (c : Char) : Tx → Tx → List Tx
  | acc, [] => [acc]
  | acc, d :: r => if d = c then acc :: spT c [] r else spT c (acc ++ [d]) r
def splitT (c : Char) (t : Tx) : List Tx := spT c [] t
theorem spl_T (c : Char) : ∀ (l acc : Tx), TL.spl [c.toNat] 0 (acc.map Char.toNat) (l.map Char.toNat) = (spT c acc l).map (List.map Char.toNat)
  | [], acc => rfl
  | d :: r, acc => by
    unfold spT
    by_cases h : d = c
    · have hp : TL.pre [c.toNat] ((d :: r).map Char.toNat) = true := by
        rw [h]
        show ([c.toNat] == [c.toNat]) = true
        simp
      rw [if_pos h, List.map_cons] at *
      rw [TL.spl_hit hp]
      exact congrArg (fun z => acc.map Char.toNat :: z) (spl_T c r [])
    · have hp : TL.pre [c.toNat] ((d :: r).map Char.toNat) = false := by
        show ([d.toNat] == [c.toNat]) = false
        have : d.toNat ≠ c.toNat := fun z => h (char_inj z)
        simp [this]
      rw [if_neg h, List.map_cons] at *
      rw [TL.spl_miss hp, ← spl_T c r (acc ++ [d]), List.map_append]
      rfl
def splitG (c : Char) (t : Tx) : Res (List Tx) := grd (t.length + 2 ≤ 16777216) (.ok (splitT c t))
theorem op_split (c : Char) (hc : Nat.ble (c.toNat + 1) 256 = true) (t : Tx) : Ev (splitD (eS t) (eS [c])) (eL .own eS) (splitG c t) := by
  unfold splitG
  refine ev_grd fun h => ?_
  · skip
    have hc := Nat.le_of_ble_eq_true hc
    have h1 : ((sT [c]).length == 0) = false ∧ (sT t).length + 2 ≤ sizeLine := ⟨by rw [sT_len]; rfl, by rw [sT_len]; exact h⟩
    show splitD (.str (sT t)) (.str (sT [c])) = .ok (.lst .own ((splitT c t).map eS))
    refine Eq.trans (if_pos h1) ?_
    have h2 := SX.split_S (a := t.map Char.toNat) (b := [c.toNat]) (by simp) (by simpa using show c.toNat < 256 by omega)
    have h3 : Txt.split (sT t) (sT [c]) = (splitT c t).map sT := by
      refine Eq.trans h2 ?_
      have := spl_T c t []
      rw [show ([] : Tx).map Char.toNat = [] from rfl] at this
      rw [this, List.map_map]
      rfl
    rw [h3, List.map_map]
    rfl
theorem boolsOf_map : ∀ bs : List Bool, boolsOf (bs.map eB) = some bs
  | [] => rfl
  | b :: bs => by
    show (boolsOf (bs.map eB)).map _ = _
    rw [boolsOf_map bs]
    rfl
theorem op_all (bs : List Bool) : Ev (allD (eL f eB bs)) eB (.ok (bs.all id)) := by
  show allD (.lst f (bs.map eB)) = _
  unfold allD
  simp only [boolsOf_map]
  rfl
theorem op_listL [Imm e] (xs : List α) : Ev (listD (eL f e xs)) (eL .own e) (.ok xs) := Ev.of (if_pos (immL_map Imm.h xs))
theorem op_tupL [Imm e] (xs : List α) : Ev (tupleD (eL f e xs)) (eTL e) (.ok xs) := Ev.of (if_pos (immL_map Imm.h xs))
class TyE (e : α → D) (s : outParam String) : Prop where h : ∀ a, tyOf (e a) = some s
instance : TyE eI "int" := ⟨fun _ => rfl⟩
instance : TyE eB "bool" := ⟨fun _ => rfl⟩
instance : TyE eS "str" := ⟨fun _ => rfl⟩
instance : TyE eN "NoneType" := ⟨fun _ => rfl⟩
instance : TyE (eL f e) "list" := ⟨fun _ => rfl⟩
instance : TyE (eTL e) "tuple" := ⟨fun _ => rfl⟩
instance {es : α → List D} : TyE (eT es) "tuple" := ⟨fun _ => rfl⟩
theorem op_isi {s T : String} {b : Bool} [TyE e s] (hb : kitB s T = some b) (a : α) : Ev (isiD T (e a)) eB (.ok b) := by
  show isiD T (e a) = _
  unfold isiD
  rw [TyE.h (e := e) a]
  simp only [hb]
  rfl
end
end PD
noncomputable section
namespace PD
open PySem L2
section
variable {α β γ : Type} {e1 : α → D} {e2 : β → D} {e3 : γ → D} {E : Env} {ga gb : Env → Res D}
theorem ev_binc {f : D → D → Res D} {ta : Res α} {c : β} {ft : α → Res γ} (hf : ∀ a, Ev (f (e1 a) (e2 c)) e3 (ft a)) (ha : Ev (ga E) e1 ta) (hb : Ev (gb E) e2 (.ok c)) : Ev (gBin f ga gb E) e3 (ta >>= fun a => ft a) := ha.bind fun a => by
  have hb : gb E = .ok (e2 c) := hb
  rw [hb]
  exact hf a
theorem ev_bincp {f : D → D → Res D} {a : α} {c : β} {ft : α → Res γ} (hf : ∀ a, Ev (f (e1 a) (e2 c)) e3 (ft a)) (ha : Ev (ga E) e1 (.ok a)) (hb : Ev (gb E) e2 (.ok c)) : Ev (gBin f ga gb E) e3 (ft a) := ev_binc hf ha hb
theorem ev_bincl {f : D → D → Res D} {tb : Res β} {c : α} {ft : β → Res γ} (hf : ∀ b, Ev (f (e1 c) (e2 b)) e3 (ft b)) (ha : Ev (ga E) e1 (.ok c)) (hb : Ev (gb E) e2 tb) : Ev (gBin f ga gb E) e3 (tb >>= fun b => ft b) := by
  have ha : ga E = .ok (e1 c) := ha
  show Ev (ga E >>= _) _ _
  rw [ha]
  exact hb.bind hf
theorem ev_bincpl {f : D → D → Res D} {b : β} {c : α} {ft : β → Res γ} (hf : ∀ b, Ev (f (e1 c) (e2 b)) e3 (ft b)) (ha : Ev (ga E) e1 (.ok c)) (hb : Ev (gb E) e2 (.ok b)) : Ev (gBin f ga gb E) e3 (ft b) := ev_bincl hf ha hb
theorem ev_powc (x y : Int) (n : Nat) (h : (decide (0 ≤ y) && (decide (y ≤ 1000000) && decide (x.natAbs < 2 ^ 64))) = true) (hn : y.toNat = n) (ha : Ev (ga E) eI (.ok x)) (hb : Ev (gb E) eI (.ok y)) : Ev (gBin powD ga gb E) eI (.ok (x ^ n)) := by
  have ha : ga E = .ok (.int x) := ha
  have hb : gb E = .ok (.int y) := hb
  show (ga E >>= _) = _
  rw [ha, res_bind_ok, hb, res_bind_ok]
  subst hn
  exact if_pos h
theorem ev_slp {gl gh : GO} {a : α} {lo hi : Option Int} {ft : α → Option Int → Option Int → Res γ} (hf : ∀ a lo hi, Ev (slD (e1 a) lo hi) e3 (ft a lo hi)) (ha : Ev (ga E) e1 (.ok a)) (hl : Ev (gl E) id (.ok lo)) (hh : Ev (gh E) id (.ok hi)) : Ev (gSl ga gl gh E) e3 (ft a lo hi) := ev_sl hf ha hl hh
theorem ev_split {c : Char} {ta : Res Tx} (hf : ∀ t, Ev (splitD (eS t) (eS [c])) (eL .own eS) (splitG c t)) (ha : Ev (ga E) eS ta) (hb : Ev (gb E) eS (.ok [c])) : Ev (gBinS splitD ga gb E) (eL .own eS) (ta >>= fun a => splitG c a) := by
  have := ev_binS (fn := splitD) (ga := ga) (gb := fun _ => .ok (eS [c])) (E := E) (e1 := fun (_ : Unit) => eS [c]) (e2 := eL .own eS) (ft := fun a _ => splitG c a) (tb := .ok ()) (fun a _ => hf a) ha rfl
  have hb : gb E = .ok (eS [c]) := hb
  have e : gBinS splitD ga gb E = gBinS splitD ga (fun _ => .ok (eS [c])) E := by
    unfold gBinS
    rw [hb]
  rw [e]
  exact this
theorem ev_splitp {c : Char} {a : Tx} (hf : ∀ t, Ev (splitD (eS t) (eS [c])) (eL .own eS) (splitG c t)) (ha : Ev (ga E) eS (.ok a)) (hb : Ev (gb E) eS (.ok [c])) : Ev (gBinS splitD ga gb E) (eL .own eS) (splitG c a) := ev_split hf ha hb
theorem sr_env {σ lam ρ : Type} {r : Env → Out} {E E' : Env} {Rn : σ → Env → Prop} {Rl : lam → Env → Prop} {X : Option ρ → Env → Prop} {er : ρ → D} {t : TR σ lam ρ} (hE : E = E') (h : SR (r E') Rn Rl X er t) : SR (r E) Rn Rl X er t := hE ▸ h
/-- the environment as a function of the state and of what is not followed -/
def RF {σ ω : Type} (f : σ → ω → Env) : σ → Env → Prop := fun s E => ∃ o, E = f s o
section
variable {σ τ lam ρ ω : Type} {E : Env} {Rn : σ → Env → Prop} {Rl : lam → Env → Prop} {X : Option ρ → Env → Prop} {er : ρ → D} {r : Env → Out} {e : α → D}
theorem sr_nilF {f : σ → ω → Env} {s : σ} (o : ω) (h : E = f s o) : SR (nilS E) (RF f) Rl X er (.nx s) := sr_nil ⟨o, h⟩
theorem sr_joinF (f : τ → ω → Env) {s : Env → Out} {t : TR τ lam ρ} {k : τ → TR σ lam ρ} (h : SR (s E) (RF f) Rl X er t) (hk : ∀ u o, SR (r (f u o)) Rn Rl X er (k u)) : SR (seqS s r E) Rn Rl X er (kSeq t k) := sr_join (Rm := RF f) h fun u E' ⟨o, h⟩ => h ▸ hk u o
theorem sr_forF (f : τ → ω → Env) {gi : Env → Res (List D)} {ud : D → Env → Res Env} {body : Env → Out} {txs : Res (List α)} {tb : α → τ → TR τ τ ρ} {s0 : τ} {k : τ → TR σ lam ρ} (o : ω) (hx : X none E) (hi : Ev (gi E) (List.map e) txs) (h0 : E = f s0 o)
    (hb : ∀ x s o, ∃ E1, ud (e x) (f s o) = .ok E1 ∧ SR (body E1) (RF f) (RF f) X er (tb x s)) (hk : ∀ u o, SR (r (f u o)) Rn Rl X er (k u)) : SR (seqS (gFor gi ud body) r E) Rn Rl X er (kLet txs fun xs => kSeq (kFor tb xs s0) k) :=
  sr_for (R := RF f) hx hi ⟨o, h0⟩ (fun x s E ⟨o, h⟩ => h ▸ hb x s o) fun u E' ⟨o, h⟩ => h ▸ hk u o
theorem sr_whileF (f : τ → ω → Env) {gt : Env → Res Bool} {body : Env → Out} {n : Nat} {c : τ → Res Bool} {tb : τ → TR τ τ ρ} {s0 : τ} {k : τ → TR σ lam ρ} (o : ω) (hx : ∀ s o, X none (f s o)) (h0 : E = f s0 o) (hc : ∀ s o, Ev (gt (f s o)) id (c s))
    (hb : ∀ s o, SR (body (f s o)) (RF f) (RF f) X er (tb s)) (hk : ∀ u o, SR (r (f u o)) Rn Rl X er (k u)) : SR (seqS (whileS gt body n) r E) Rn Rl X er (kSeq (kWhile c tb n s0) k) :=
  sr_while (R := RF f) (fun s E ⟨o, h⟩ => h ▸ hx s o) ⟨o, h0⟩ (fun s E ⟨o, h⟩ => h ▸ hc s o) (fun s E ⟨o, h⟩ => h ▸ hb s o) fun u E' ⟨o, h⟩ => h ▸ hk u o
end
/-- operations that leave the value -/
theorem ev_unI {α : Type} {E : Env} {ga : Env → Res D} {e1 e2 : α → D} {f : D → Res D} {t : Res α} (hf : ∀ a, Ev (f (e1 a)) e2 (.ok a)) (ha : Ev (ga E) e1 t) : Ev (gUn f ga E) e2 t := by
  have := ev_un (ft := fun a => .ok a) hf ha
  cases t <;> exact this
theorem ev_itI {α : Type} {E : Env} {ga : Env → Res D} {st : Bool} {e2 : α → D} {g : List α → D} {t : Res (List α)} (hf : ∀ a, Ev (itD st (g a)) (List.map e2) (.ok a)) (ha : Ev (ga E) g t) : Ev (gIt st ga E) (List.map e2) t := by
  have := ev_it (ft := fun a => .ok a) hf ha
  cases t <;> exact this
theorem ev_truI {E : Env} {ga : Env → Res D} {t : Res Bool} (ha : Ev (ga E) eB t) : Ev (gTru ga E) id t := by
  have := ev_tru (ft := fun a => .ok a) tru_B ha
  cases t <;> exact this
end
end PD
noncomputable section
namespace PD
open PySem L2
section
variable {α β γ σ τ lam ρ : Type}
@[simp] theorem res_assoc {t : Res α} {k : α → Res β} {l : β → Res γ} : (t >>= k) >>= l = t >>= fun a => k a >>= l := by cases t <;> rfl
@[simp] theorem kAnd_tt {b : Res Bool} : kAnd (.ok true) b = b := by unfold kAnd; rfl
@[simp] theorem kAnd_ff {b : Res Bool} : kAnd (.ok false) b = .ok false := by unfold kAnd; rfl
@[simp] theorem kOr_tt {b : Res Bool} : kOr (.ok true) b = .ok true := by unfold kOr; rfl
@[simp] theorem kOr_ff {b : Res Bool} : kOr (.ok false) b = b := by unfold kOr; rfl
@[simp] theorem kAnd_oo {a b : Bool} : kAnd (.ok a) (.ok b) = .ok (a && b) := kAnd_ok
@[simp] theorem kOr_oo {a b : Bool} : kOr (.ok a) (.ok b) = .ok (a || b) := kOr_ok
@[simp] theorem kNot_ok {a : Bool} : kNot (.ok a) = .ok (!a) := rfl
def wpR (t : Res α) (Q : α → Prop) (X : Exc → Prop) : Prop := match t with
  | .ok a => Q a
  | .ex x => X x
  | .bad => False
def wpT (t : TR σ lam ρ) (N : σ → Prop) (C B : lam → Prop) (Rt : ρ → Prop) (X : Exc → Prop) : Prop := match t with
  | .nx s => N s
  | .rt r => Rt r
  | .bk s => B s
  | .ct s => C s
  | .ex x => X x
  | .bad => False
section
variable {N : σ → Prop} {C B : lam → Prop} {Rt : ρ → Prop} {X : Exc → Prop} {Q : α → Prop}
@[simp] theorem wpR_ok {a : α} : wpR (.ok a) Q X = Q a := rfl
@[simp] theorem wpR_ex {x : Exc} : wpR (.ex x) Q X = X x := rfl
@[simp] theorem wpR_bad : wpR (.bad : Res α) Q X = False := rfl
@[simp] theorem wpR_bind {t : Res β} {k : β → Res α} : wpR (t >>= k) Q X = wpR t (fun b => wpR (k b) Q X) X := by cases t <;> rfl
@[simp] theorem wpR_ite {c : Prop} [Decidable c] {t u : Res α} : wpR (if c then t else u) Q X = if c then wpR t Q X else wpR u Q X := by split <;> rfl
@[simp] theorem wpT_nx {s : σ} : wpT (.nx s) N C B Rt X = N s := rfl
@[simp] theorem wpT_rt {s : ρ} : wpT (.rt s) N C B Rt X = Rt s := rfl
@[simp] theorem wpT_bk {s : lam} : wpT (.bk s) N C B Rt X = B s := rfl
@[simp] theorem wpT_ct {s : lam} : wpT (.ct s) N C B Rt X = C s := rfl
@[simp] theorem wpT_ex {x : Exc} : wpT (.ex x) N C B Rt X = X x := rfl
@[simp] theorem wpT_let {t : Res β} {k : β → TR σ lam ρ} : wpT (kLet t k) N C B Rt X = wpR t (fun b => wpT (k b) N C B Rt X) X := by cases t <;> rfl
@[simp] theorem wpT_ite {c : Prop} [Decidable c] {t u : TR σ lam ρ} : wpT (if c then t else u) N C B Rt X = if c then wpT t N C B Rt X else wpT u N C B Rt X := by split <;> rfl
@[simp] theorem wpT_if {t : Res Bool} {x y : TR σ lam ρ} : wpT (kIf t x y) N C B Rt X = wpR t (fun c => if c = true then wpT x N C B Rt X else wpT y N C B Rt X) X := by
  unfold kIf
  rw [wpT_let]
  congr 1
  exact funext fun c => by simp
@[simp] theorem wpT_seq {t : TR τ lam ρ} {k : τ → TR σ lam ρ} : wpT (kSeq t k) N C B Rt X = wpT t (fun s => wpT (k s) N C B Rt X) C B Rt X := by cases t <;> rfl
@[simp] theorem wpT_ret {t : Res ρ} : wpT (kRet t : TR σ lam ρ) N C B Rt X = wpR t Rt X := by cases t <;> rfl
@[simp] theorem wpR_end {t : TR ρ Empty ρ} : wpR (kEnd t) Rt X = wpT t Rt (fun _ => False) (fun _ => False) Rt X := by cases t <;> rfl
@[simp] theorem wpR_andR {a : Res Bool} {b : Res Bool} {Q : Bool → Prop} : wpR (kAnd a b) Q X = wpR a (fun k => if k = true then wpR b Q X else Q false) X := by cases a with
  | ok a => cases a <;> rfl
  | ex x => rfl
  | bad => rfl
@[simp] theorem wpR_orR {a : Res Bool} {b : Res Bool} {Q : Bool → Prop} : wpR (kOr a b) Q X = wpR a (fun k => if k = true then Q true else wpR b Q X) X := by cases a with
  | ok a => cases a <;> rfl
  | ex x => rfl
  | bad => rfl
@[simp] theorem wpR_not {a : Res Bool} {Q : Bool → Prop} : wpR (kNot a) Q X = wpR a (fun k => Q (!k)) X := by cases a <;> rfl
/-- from what is brought about to the value -/
theorem wpR_eq {t : Res α} {a : α} (h : wpR t (fun b => b = a) fun _ => False) : t = .ok a := by
  cases t with
  | ok b => exact congrArg Res.ok h
  | ex x => exact h.elim
  | bad => exact h.elim
theorem wpR_get {t : Res α} (h : wpR t Q fun _ => False) : ∃ a, t = .ok a ∧ Q a := by
  cases t with
  | ok b => exact ⟨b, rfl, h⟩
  | ex x => exact h.elim
  | bad => exact h.elim
theorem wpT_mono {t : TR σ lam ρ} {N' : σ → Prop} (h : wpT t N C B Rt X) (hq : ∀ a, N a → N' a) : wpT t N' C B Rt X := by cases t <;> first | exact hq _ h | exact h
theorem wpT_for {body : α → σ → TR σ σ ρ} {xs : List α} {s : σ} (I : List α → σ → Prop) (h0 : I [] s) (hb : ∀ p x q s, xs = p ++ x :: q → I p s → wpT (body x s) (I (p ++ [x])) (I (p ++ [x])) N Rt X) (hn : ∀ s, I xs s → N s) : wpT (kFor body xs s : TR σ lam ρ) N C B Rt X := by
  have key : ∀ (ys pre : List α) (s : σ), xs = pre ++ ys → I pre s → wpT (kFor body ys s : TR σ lam ρ) N C B Rt X := by
    intro ys
    induction ys with
    | nil =>
      intro pre s e h
      rw [List.append_nil] at e
      subst e
      exact hn s h
    | cons y ys ih =>
      intro pre s e h
      have hy := hb pre y ys s e h
      cases hc : body y s with
      | nx t =>
        rw [hc] at hy
        rw [kFor_cons hc]
        exact ih (pre ++ [y]) t (by rw [e]; simp) hy
      | ct t =>
        rw [hc] at hy
        rw [kFor_cons_ct hc]
        exact ih (pre ++ [y]) t (by rw [e]; simp) hy
      | bk t => rw [hc] at hy; rw [kFor_cons_bk hc]; exact hy
      | rt t => rw [hc] at hy; rw [kFor_cons_rt hc]; exact hy
      | ex t => rw [hc] at hy; rw [kFor_cons_ex hc]; exact hy
      | bad => rw [hc] at hy; exact hy.elim
  exact key xs [] s rfl h0
theorem wpT_while {c : σ → Res Bool} {body : σ → TR σ σ ρ} {n : Nat} {s : σ} (I : σ → Prop) (m : σ → Nat) (h0 : I s) (hm : m s < n) (hb : ∀ s, I s → wpR (c s) (fun b => if b = true then wpT (body s) (fun t => I t ∧ m t < m s) (fun t => I t ∧ m t < m s) N Rt X else N s) X) : wpT (kWhile c body n s : TR σ lam ρ) N C B Rt X := by
  induction n generalizing s with
  | zero => omega
  | succ n ih =>
    have h := hb s h0
    unfold kWhile
    cases hc : c s with
    | bad => rw [hc] at h; exact h.elim
    | ex x => rw [hc] at h; exact h
    | ok b =>
      rw [hc] at h
      cases b with
      | false => exact h
      | true =>
        have h : wpT (body s) (fun t => I t ∧ m t < m s) (fun t => I t ∧ m t < m s) N Rt X := h
        cases hs : body s with
        | nx t => rw [hs] at h; exact ih h.1 (Nat.lt_of_lt_of_le h.2 (by omega))
        | ct t => rw [hs] at h; exact ih h.1 (Nat.lt_of_lt_of_le h.2 (by omega))
        | bk t => rw [hs] at h; exact h
        | rt t => rw [hs] at h; exact h
        | ex t => rw [hs] at h; exact h
        | bad => rw [hs] at h; exact h.elim
/-- a loop that only looks -/
theorem wpT_look {body : α → Unit → TR Unit Unit ρ} {xs : List α} {N : Unit → Prop} (p : α → Bool) (r : ρ) (hb : ∀ x ∈ xs, wpT (body x ()) (fun _ => p x = true) (fun _ => p x = true) (fun _ => False) (fun z => p x = false ∧ z = r) (fun _ => False)) (h1 : xs.all p = true → N ()) (h2 : xs.all p = false → Rt r) : wpT (kFor body xs () : TR Unit lam ρ) N C B Rt X := by
  refine wpT_for (fun q _ => q.all p = true) rfl (fun q x q2 s e h => ?_) (fun s h => h1 h)
  have hx := hb x (by rw [e]; simp)
  cases hc : body x () with
  | nx t => rw [hc] at hx; show (q ++ [x]).all p = true; rw [List.all_append, h]; simpa using (show p x = true from hx)
  | ct t => rw [hc] at hx; show (q ++ [x]).all p = true; rw [List.all_append, h]; simpa using (show p x = true from hx)
  | rt t =>
    rw [hc] at hx
    obtain ⟨g1, g2⟩ : p x = false ∧ t = r := hx
    show Rt t
    rw [g2]
    refine h2 ?_
    rw [e, List.all_append, List.all_cons, g1]
    simp
  | _ => rw [hc] at hx; exact hx.elim
end
theorem wpR_lc {X : Exc → Prop} {c : α → Res Bool} {b : α → Res β} (c' : α → Bool) (b' : α → β) {xs : List α} {Q : List β → Prop} (hc : ∀ x ∈ xs, c x = .ok (c' x)) (hb : ∀ x ∈ xs, c' x = true → b x = .ok (b' x)) (hl : xs.length ≤ 16777216) (hq : Q ((xs.filter c').map b')) : wpR (kLc xs c b) Q X := by
  rw [kLc_of hc hb, lim_ok (by rw [List.length_map]; exact Nat.le_trans (List.length_filter_le _ _) hl)]
  exact hq
/-- one for each -/
theorem wpR_lcM {X : Exc → Prop} {b : α → Res β} (P : β → Prop) {xs : List α} {Q : List β → Prop} (hb : ∀ x ∈ xs, ∃ y, b x = .ok y ∧ P y) (hl : xs.length ≤ 16777216) (hq : ∀ ys : List β, ys.length = xs.length → (∀ y ∈ ys, P y) → Q ys) : wpR (kLc xs (fun _ => .ok true) b) Q X := by
  have key : ∀ zs : List α, (∀ x ∈ zs, x ∈ xs) → ∃ ys, lcT (fun _ => .ok true) b zs = .ok ys ∧ ys.length = zs.length ∧ ∀ y ∈ ys, P y := by
    intro zs
    induction zs with
    | nil => exact fun _ => ⟨[], rfl, rfl, fun _ h => by cases h⟩
    | cons z zs ih =>
      intro hz
      obtain ⟨ys, h1, h2, h3⟩ := ih fun x hx => hz x (List.mem_cons_of_mem _ hx)
      unfold lcT
      rw [h1]
      obtain ⟨y, hy, hp⟩ := hb z (hz z List.mem_cons_self)
      rw [hy]
      refine ⟨y :: ys, rfl, congrArg (· + 1) h2, fun w hw => ?_⟩
      rcases List.mem_cons.mp hw with rfl | hw
      · exact hp
      · exact h3 w hw
  obtain ⟨ys, h1, h2, h3⟩ := key xs fun _ h => h
  unfold kLc
  rw [h1, res_bind_ok, lim_ok (by omega)]
  exact hq ys h2 h3
theorem range_at {n : Nat} {p q : List Int} {x : Int} (e : (List.range n).map Int.ofNat = p ++ x :: q) : x = (p.length : Int) ∧ p.length < n := by
  have hl := congrArg List.length e
  simp at hl
  have h : ((List.range n).map Int.ofNat)[p.length]? = (p ++ x :: q)[p.length]? := congrArg (fun l : List Int => l[p.length]?) e
  rw [List.getElem?_append_right (Nat.le_refl _), Nat.sub_self, List.getElem?_map, List.getElem?_range (by omega)] at h
  simp at h
  exact ⟨h.symm, by omega⟩
theorem ixL_nat {xs : List α} {i : Nat} {a : α} (h : xs[i]? = some a) : ixL xs (i : Int) = .ok a := by
  unfold ixL atI ixN
  have hl := (List.getElem?_eq_some_iff.mp h).1
  rw [if_pos (by omega), if_pos (by omega)]
  simp only [Int.toNat_natCast, Option.bind_some, h, atR]
theorem ixL_int {xs : List α} {i : Int} {a : α} (h0 : 0 ≤ i) (h : xs[i.toNat]? = some a) : ixL xs i = .ok a := by
  have := ixL_nat h
  rwa [Int.toNat_of_nonneg h0] at this
theorem ixL_get {xs : List α} {i : Int} (h0 : 0 ≤ i) (h : i.toNat < xs.length) : ixL xs i = .ok xs[i.toNat] := ixL_int h0 (List.getElem?_eq_getElem h)
@[simp] theorem ixL_zero {x : α} {xs : List α} : ixL (x :: xs) 0 = .ok x := ixL_nat (i := 0) rfl
@[simp] theorem ixL_one {x y : α} {xs : List α} : ixL (x :: y :: xs) 1 = .ok y := ixL_nat (i := 1) rfl
@[simp] theorem ixL_two {x y z : α} {xs : List α} : ixL (x :: y :: z :: xs) 2 = .ok z := ixL_nat (i := 2) rfl
@[simp] theorem ixL_three {x y z w : α} {xs : List α} : ixL (x :: y :: z :: w :: xs) 3 = .ok w := ixL_nat (i := 3) rfl
theorem ixS_of {t : Tx} {i : Int} {c : Char} (hl : t.length ≤ 16777216) (h : ixL t i = .ok c) : ixS t i = .ok [c] := by
  unfold ixS
  rw [grd_ok hl, h]
  rfl
theorem lenS_of {t : Tx} (h : t.length ≤ 16777216) : lenS t = .ok t.length := grd_ok h
theorem addS_of {a b : Tx} (h : a.length + b.length ≤ 16777216) : addS a b = .ok (a ++ b) := grd_ok h
theorem slS_of {t : Tx} {lo hi : Option Int} (h : t.length ≤ 16777216) : slS t lo hi = .ok (cutL t lo hi) := grd_ok h
theorem mulI_l {a b : Int} (h : -18446744073709551616 < a ∧ a < 18446744073709551616) : mulI a b = .ok (a * b) := grd_ok (.inl h)
theorem mulI_r {a b : Int} (h : -18446744073709551616 < b ∧ b < 18446744073709551616) : mulI a b = .ok (a * b) := grd_ok (.inr h)
theorem modI_of {a b : Int} (h : 0 < b) : modI a b = .ok (a % b) := grd_ok h
theorem divI_of {a b : Int} (h : 0 < b ∧ b < 1073741824) : divI a b = .ok (a / b) := grd_ok h
theorem rng1_nat {n : Nat} (h : n < 1000000000) : rng1 (n : Int) = .ok ((List.range n).map Int.ofNat) := by
  unfold rng1
  rw [grd_ok (by omega)]
  unfold rngL
  rw [Int.toNat_natCast]
  congr 1
  exact List.map_congr_left fun i _ => by simp
theorem splitG_of {c : Char} {t : Tx} (h : t.length ≤ 1000000) : splitG c t = .ok (splitT c t) := grd_ok (by omega)
theorem joinG_of {sep : Tx} {ws : List Tx} (h : (ws.map List.length).sum + ws.length * sep.length ≤ 16777216) : joinG sep ws = .ok (joinT sep ws) := grd_ok h
theorem joinT_nil : ∀ ws : List Tx, joinT [] ws = ws.flatten
  | [] => rfl
  | [w] => by simp [joinT]
  | w :: v :: r => by
    have ih := joinT_nil (v :: r)
    rw [joinT, ih]
    simp
theorem spT_len (c : Char) : ∀ (t acc : Tx), (spT c acc t).length ≤ t.length + 1
  | [], acc => by simp [spT]
  | d :: t, acc => by
    rw [spT]
    split
    · have := spT_len c t []
      simp only [List.length_cons]
      omega
    · have := spT_len c t (acc ++ [d])
      simp only [List.length_cons]
      omega
theorem splitT_len (c : Char) (t : Tx) : (splitT c t).length ≤ t.length + 1 := spT_len c t []
/-- numbers of a script: from 0 to 1008 -/
def Small (ns : List Int) : Prop := ∀ n ∈ ns, 0 ≤ n ∧ n < 1009
theorem Small.snoc {ns : List Int} {n : Int} (h : Small ns) (h1 : 0 ≤ n) (h2 : n < 1009) : Small (ns ++ [n]) := fun m hm => by
  rcases List.mem_append.mp hm with q | q
  · exact h m q
  · rw [List.mem_singleton.mp q]
    exact ⟨h1, h2⟩
/-- the number at a place -/
def nth (ns : List Int) (i : Nat) : Int := ns.getD i 0
theorem Small.nth {ns : List Int} (h : Small ns) (i : Nat) : 0 ≤ nth ns i ∧ nth ns i < 1009 := by
  unfold PD.nth
  rw [List.getD_eq_getElem?_getD]
  cases e : ns[i]? with
  | none => simp
  | some a => exact h a (List.mem_of_getElem? e)
theorem ixL_nth {ns : List Int} {i : Nat} (h : i < ns.length) : ixL ns (i : Int) = .ok (nth ns i) := ixL_nat (by unfold PD.nth; rw [List.getD_eq_getElem?_getD, List.getElem?_eq_getElem h]; rfl)
theorem ixL_nth' {ns : List Int} {i : Int} (h0 : 0 ≤ i) (h : i < ns.length) : ixL ns i = .ok (nth ns i.toNat) := by
  have := ixL_nth (ns := ns) (i := i.toNat) (by omega)
  rwa [Int.toNat_of_nonneg h0] at this
end
end PD
noncomputable section
namespace PD
open PySem L2
section
variable {α β γ δ σ τ lam ρ : Type} {E : Env} {i : Nat} {g ga gb go : Env → Res D} {gs : Env → Res (List D)} {e e' e1 e2 e3 : α → D} {f f' : Fl} {X : Option ρ → Env → Prop} {Rn : σ → Env → Prop} {Rl : lam → Env → Prop} {er : ρ → D} {r : Env → Out}
def enT (k : Int) (xs : List α) : List (Int × α) := (List.range xs.length).zipWith (fun (i : Nat) a => (k + i, a)) xs
theorem enL_map (k : Int) (xs : List α) : enL k (xs.map e) = (enT k xs).map (eT (pc eI (p1 e))) := by
  unfold enL enT
  rw [List.length_map, List.zipWith_map_right, List.map_zipWith]
  rfl
theorem op_enL {st : Bool} {k : Int} [NoOw e] (h : f ≠ .own ∨ st = false) (xs : List α) : Ev (enD st k (eL f e xs)) (List.map (eT (pc eI (p1 e)))) (.ok (enT k xs)) := Ev.of <| (if_pos ⟨h, noOwnL_map NoOw.h xs⟩).trans (by rw [enL_map])
theorem ev_en {st : Bool} {k : Int} {e1 : α → D} {ta : Res α} {ft : α → Res (List β)} {e2 : β → D} (hf : ∀ a, Ev (enD st k (e1 a)) (List.map e2) (ft a)) (ha : Ev (ga E) e1 ta) : Ev (gEn st k ga E) (List.map e2) (ta >>= fun a => ft a) := Ev.bind ha hf
end
end PD
noncomputable section
namespace PD
open PySem L2
section
variable {α β γ : Type} {E : Env} {ga gb : Env → Res D} {gs : Env → Res (List D)} {e e' : α → D} {f f' : Fl}
/-- a list (false) or a tuple (true) -/
def eQ (f : Fl) (e : α → D) (q : Bool × List α) : D := if q.1 = true then eTL e q.2 else eL f e q.2
theorem eQ_t (xs : List α) : eQ f e (true, xs) = eTL e xs := rfl
instance [Imm e] : Imm (eQ .imm e) := ⟨fun ⟨b, xs⟩ => by cases b; exact Imm.h (e := eL .imm e) xs; exact Imm.h (e := eTL e) xs⟩
instance [NoOw e] : NoOw (eQ .bor e) := ⟨fun ⟨b, xs⟩ => by cases b; exact NoOw.h (e := eL .bor e) xs; exact (by simp only [eQ_t, eTL, D.noOwn]; exact noOwnL_map NoOw.h xs)⟩
instance [NoBo e] : NoBo (eQ .own e) := ⟨fun ⟨b, xs⟩ => by cases b; exact NoBo.h (e := eL .own e) xs; exact (by simp only [eQ_t, eTL, D.noBor]; exact noBorL_map NoBo.h xs)⟩
instance [Dm e e'] : Dm (eQ .own e) (eQ .bor e') := ⟨fun ⟨b, xs⟩ => by cases b; exact Dm.h (e := eL .own e) xs; exact Dm.h (e := eTL e) xs⟩
instance [Dm e e'] : Dm (eQ .bor e) (eQ .bor e') := ⟨fun ⟨b, xs⟩ => by cases b; exact Dm.h (e := eL .bor e) xs; exact Dm.h (e := eTL e) xs⟩
instance [Dm e e'] : Dm (eQ .imm e) (eQ .imm e') := ⟨fun ⟨b, xs⟩ => by cases b; exact Dm.h (e := eL .imm e) xs; exact Dm.h (e := eTL e) xs⟩
instance [Fr e e'] : Fr (eQ .own e) (eQ .imm e') := ⟨fun ⟨b, xs⟩ => by cases b; exact Fr.h (e := eL .own e) xs; exact Fr.h (e := eTL e) xs⟩
instance [Fr e e'] : Fr (eQ .bor e) (eQ .bor e') := ⟨fun ⟨b, xs⟩ => by cases b; exact Fr.h (e := eL .bor e) xs; exact Fr.h (e := eTL e) xs⟩
instance [Fr e e'] : Fr (eQ .imm e) (eQ .imm e') := ⟨fun ⟨b, xs⟩ => by cases b; exact Fr.h (e := eL .imm e) xs; exact Fr.h (e := eTL e) xs⟩
instance : SomeE (eQ f e) := ⟨fun ⟨b, xs⟩ => by cases b; exact ⟨false, rfl, rfl⟩; exact ⟨false, rfl, rfl⟩⟩
instance : NotNon (eQ f e) := ⟨fun ⟨b, xs⟩ p h => by cases b; exact NotNon.h (e := eL f e) xs p h; exact NotNon.h (e := eTL e) xs p h⟩
instance {n : Nat} [PyE e n] : PyE (eQ f e) (n + 1) := ⟨fun ⟨b, xs⟩ => by cases b; exact PyE.h (e := eL f e) xs; exact PyE.h (e := eTL e) xs⟩
/-- data of a list or a tuple -/
class SeqE (e : α → D) (b : α → Bool) : Prop where h : ∀ a p, (e a).py = some p → ∃ ps, p = (if b a = true then .tuple ps else .list ps)
instance : SeqE (eL f e) (fun _ => false) := ⟨fun a p h => by obtain ⟨ps, k1, rfl⟩ := map_some' (show (pyL _).map .list = some p from h); exact ⟨ps, rfl⟩⟩
instance : SeqE (eTL e) (fun _ => true) := ⟨fun a p h => by obtain ⟨ps, k1, rfl⟩ := map_some' (show (pyL _).map .tuple = some p from h); exact ⟨ps, rfl⟩⟩
theorem seqQ (q : Bool × List α) (p : PyData) (h : (eQ f e q).py = some p) : ∃ ps, p = (if q.1 = true then .tuple ps else .list ps) := by
  obtain ⟨b, xs⟩ := q
  cases b
  · exact SeqE.h (e := eL f e) (b := fun _ => false) xs p h
  · exact SeqE.h (e := eTL e) (b := fun _ => true) xs p h
instance [DecidableEq α] [EqE e e'] : EqE (eQ f e) (eQ f' e') := ⟨fun ⟨b1, xs⟩ ⟨b2, ys⟩ p q h1 h2 => by
  cases b1 <;> cases b2
  · rw [EqE.h (e := eL f e) (e' := eL f' e') xs ys p q h1 h2]
    by_cases h : xs = ys <;> simp [h]
  · obtain ⟨ps, rfl⟩ := seqQ (f := f) (e := e) (false, xs) p h1
    obtain ⟨qs, rfl⟩ := seqQ (f := f') (e := e') (true, ys) q h2
    exact (decide_eq_false (fun z => by simp at z)).symm
  · obtain ⟨ps, rfl⟩ := seqQ (f := f) (e := e) (true, xs) p h1
    obtain ⟨qs, rfl⟩ := seqQ (f := f') (e := e') (false, ys) q h2
    exact (decide_eq_false (fun z => by simp at z)).symm
  · rw [EqE.h (e := eTL e) (e' := eTL e') xs ys p q h1 h2]
    by_cases h : xs = ys <;> simp [h]⟩
end
inductive Part where
  | s (t : Tx)
  | q (b : Bool) (xs : List Tx)
  deriving DecidableEq
section
end
theorem co_L {α β : Type} {e : α → D} {e' : β → D} {f : Fl} {c : α → β} (h : ∀ x, e x = e' (c x)) (a : List α) : eL f e a = eL f e' (a.map c) := by
  unfold eL
  rw [List.map_map]
  exact congrArg (D.lst f) (List.map_congr_left fun x _ => h x)
end PD
noncomputable section
namespace PD
open PySem L2
section
variable {α β γ σ τ lam ρ : Type} {E : Env} {i j : Nat} {g : Env → Res D} {ga gk : Env → Res (List D)} {e : α → D} {f : Fl} {X : Option ρ → Env → Prop} {Rn : σ → Env → Prop} {Rl : lam → Env → Prop} {er : ρ → D} {r : Env → Out}
end
end PD
noncomputable section
namespace PD
open PySem L2
section
variable {α β γ δ σ τ lam ρ ω κ : Type} {E : Env} {i j : Nat} {g ga gb gd gi : Env → Res D} {gs gk : Env → Res (List D)} {e e' e1 e2 e3 : α → D} {f f' : Fl} {X : Option ρ → Env → Prop} {Rn : σ → Env → Prop} {Rl : lam → Env → Prop} {er : ρ → D} {r : Env → Out} {gp : GP} {gm : Env → MRes}
structure Pl (gp : GP) (i : Nat) (E : Env) (e : α → D) (a : α) (eo : ω → D) (up : α → ω) : Prop where
  h : ∃ p, gp E = .ok p ∧ partOf E i p = some (e a) ∧ ∀ b, updE E i p (e b) = E.set i (some (eo (up b)))
  id_ : E[i]? = some (some (eo (up a)))
def kNoX (t : TR σ lam ρ) : TR σ lam ρ := match t with
  | .ex _ => .bad
  | t => t
@[simp] theorem kNoX_nx {s : σ} : (kNoX (.nx s) : TR σ lam ρ) = .nx s := rfl
@[simp] theorem kNoX_rt {s : ρ} : (kNoX (.rt s) : TR σ lam ρ) = .rt s := rfl
@[simp] theorem kNoX_ct {s : lam} : (kNoX (.ct s) : TR σ lam ρ) = .ct s := rfl
@[simp] theorem kNoX_bk {s : lam} : (kNoX (.bk s) : TR σ lam ρ) = .bk s := rfl
end
end PD
noncomputable section
namespace PD
open PySem L2
section
variable {α β γ δ σ τ lam ρ ω κ : Type} {E : Env} {i j : Nat} {g ga gb gd gi : Env → Res D} {gs gk : Env → Res (List D)} {e e' e1 e2 e3 : α → D} {f f' : Fl} {X : Option ρ → Env → Prop} {Rn : σ → Env → Prop} {Rl : lam → Env → Prop} {er : ρ → D} {r : Env → Out} {gp : GP} {gm : Env → MRes}
def k2 (p : Tx × Tx) : List Key := [.inr (sT p.1), .inr (sT p.2)]
def k1 (p : Tx) : Key := .inr (sT p)
section
variable {K : Type} [DecidableEq K] [DecidableEq κ] {kk : κ → K}
end
open Classical in
end
end PD
noncomputable section
namespace PD
open PySem L2
section
variable {α β γ δ σ τ lam ρ ω κ : Type} {E : Env} {i j : Nat} {g ga gb gd gi g1 : Env → Res D} {e e' e1 e2 e3 : α → D} {X : Option ρ → Env → Prop} {Rn : σ → Env → Prop} {Rl : lam → Env → Prop} {er : ρ → D} {r : Env → Out} {gm : Env → MRes}
/-- at an exception the environment is as told; else as before -/
def XY (fx : ω → Env) (X : Option ρ → Env → Prop) : Option ρ → Env → Prop := fun o E => match o with
  | none => ∃ w, E = fx w
  | some b => X (some b) E
def kTry (t : TR σ lam ρ) (h : Exc → TR σ lam ρ) : TR σ lam ρ := match t with
  | .ex x => h x
  | t => t
@[simp] theorem kTry_ex {x : Exc} {h : Exc → TR σ lam ρ} : kTry (.ex x) h = h x := rfl
@[simp] theorem kTry_nx {s : σ} {h : Exc → TR σ lam ρ} : kTry (.nx s) h = .nx s := rfl
@[simp] theorem kTry_rt {s : ρ} {h : Exc → TR σ lam ρ} : kTry (.rt s : TR σ lam ρ) h = .rt s := rfl
def kHd (all take : List Nat) (x : Exc) (t1 t2 : TR σ lam ρ) : TR σ lam ρ := if x.c ∈ all then (if x.c ∈ take then kNoX t1 else t2) else .bad
theorem kHd_yes {all take : List Nat} {x : Exc} {t1 t2 : TR σ lam ρ} (h1 : x.c ∈ all) (h2 : x.c ∈ take) : kHd all take x t1 t2 = kNoX t1 := by unfold kHd; rw [if_pos h1, if_pos h2]
theorem sr_try (fx : ω → Env) {s : Env → Out} {hs : List Hd} {t : TR σ lam ρ} {h : Exc → TR σ lam ρ} (hb : SR (s E) Rn Rl (XY fx X) er t) (hh : ∀ x o, SR (hdS x hs (fx o)) Rn Rl X er (h x)) : SR (tryS s hs E) Rn Rl X er (kTry t h) := by
  unfold tryS
  cases t with
  | nx s => obtain ⟨E', h1, h2⟩ := hb; rw [h1]; exact ⟨E', rfl, h2⟩
  | rt s => obtain ⟨E', h1, h2⟩ := hb; rw [h1]; exact ⟨E', rfl, h2⟩
  | bk s => obtain ⟨E', h1, h2⟩ := hb; rw [h1]; exact ⟨E', rfl, h2⟩
  | ct s => obtain ⟨E', h1, h2⟩ := hb; rw [h1]; exact ⟨E', rfl, h2⟩
  | ex x => obtain ⟨E', h1, w, h2⟩ := hb; rw [h1, h2]; exact hh x w
  | bad => trivial
theorem sr_hd0 {x : Exc} (hx : X none E) : SR (hdS x [] E) Rn Rl X er (.ex x) := ⟨E, rfl, hx⟩
theorem sr_hdC {q : Hd} {l : List Hd} {x : Exc} {t1 t2 : TR σ lam ρ} (ho : oOk q.o E = true) (h1 : SR (q.h x (inO q.o E)) (fun s E' => Rn s (inO q.o E')) (fun s E' => Rl s (inO q.o E')) X er t1) (h2 : SR (hdS x l E) Rn Rl X er t2) : SR (hdS x (q :: l) E) Rn Rl X er (kHd q.all q.take x t1 t2) := by
  unfold hdS kHd
  by_cases k1 : x.c ∈ q.all
  · rw [if_pos ⟨k1, ho⟩, if_pos k1]
    by_cases k2 : x.c ∈ q.take
    · rw [if_pos k2, if_pos k2]
      cases t1 with
      | nx s => obtain ⟨E', a1, a2⟩ := h1; rw [a1]; exact ⟨_, rfl, a2⟩
      | rt s => obtain ⟨E', a1, a2⟩ := h1; rw [a1]; exact ⟨_, rfl, a2⟩
      | bk s => obtain ⟨E', a1, a2⟩ := h1; rw [a1]; exact ⟨_, rfl, a2⟩
      | ct s => obtain ⟨E', a1, a2⟩ := h1; rw [a1]; exact ⟨_, rfl, a2⟩
      | ex x => trivial
      | bad => trivial
    · rw [if_neg k2, if_neg k2]
      exact h2
  · rw [if_neg (fun z => k1 z.1), if_neg k1]
    trivial
/-- what a suite asks of its exception -/
def xfR (e : α → D) (n : Nat) (x : Exc) : Res α := match (kIx x.ns n).bind fun i => x.vs[i]? with
  | some d => un e d
  | none => .bad
theorem ev_xf {n : Nat} {x : Exc} : Ev (gXf n x E) e (xfR e n x) := by
  unfold gXf xfR
  cases h : (kIx x.ns n).bind fun i => x.vs[i]? with
  | none => trivial
  | some d => exact Ev.un (t := .ok d) rfl
section
variable {N : σ → Prop} {C B : lam → Prop} {Rt : ρ → Prop} {Xw : Exc → Prop} {Q : α → Prop}
@[simp] theorem wpT_try {t : TR σ lam ρ} {h : Exc → TR σ lam ρ} : wpT (kTry t h) N C B Rt Xw = wpT t N C B Rt (fun x => wpT (h x) N C B Rt Xw) := by cases t <;> rfl
theorem wpT_noX {t : TR σ lam ρ} (h : wpT t N C B Rt (fun _ => False)) : wpT (kNoX t) N C B Rt Xw := by cases t <;> first | exact h | exact h.elim
end
end
end PD
noncomputable section
namespace PD
open PySem L2
section
variable {α σ lam ρ : Type} {E : Env} {g : Env → Res D} {e : α → D} {X : Option ρ → Env → Prop} {Rn : σ → Env → Prop} {Rl : lam → Env → Prop} {er : ρ → D} {r : Env → Out}
theorem sr_raiseI {cid n : Nat} {t : Res α} [Imm e] (hx : X none E) (hg : Ev (g E) e t) : SR (seqS (raiseIS cid n g) r E) Rn Rl X er (kLet t fun a => .ex ⟨cid, [n], [e a]⟩) := by
  unfold seqS raiseIS
  cases t with
  | ok a => have hg : g E = .ok (e a) := hg; simp only [hg, Imm.h (e := e) a, if_true]; exact ⟨E, rfl, hx⟩
  | ex x => have hg : g E = .ex x := hg; simp only [hg]; exact ⟨E, rfl, hx⟩
  | bad => trivial
theorem xfR_one {c n : Nat} (inj : ∀ a b, e a = e b → a = b) (a : α) : xfR e n ⟨c, [n], [e a]⟩ = .ok a := by
  have h : ((kIx [n] n).bind fun i => ([e a] : List D)[i]?) = some (e a) := by simp [kIx]
  unfold xfR
  simp only [h]
  exact un_of inj a
end
end PD
noncomputable section
namespace PD
open PySem L2
section
variable {α β γ δ : Type} {e e1 e1' : α → D} {e2 e2' : β → D} {f : Fl}
/-- one of two kinds -/
def eU (e1 : α → D) (e2 : β → D) : α ⊕ β → D
  | .inl a => e1 a
  | .inr b => e2 b
def asL : α ⊕ β → Res α
  | .inl a => .ok a
  | .inr _ => .bad
@[simp] theorem asL_l {a : α} : asL (.inl a : α ⊕ β) = .ok a := rfl
theorem Ev.asL {r : Res D} {t : Res (α ⊕ β)} (h : Ev r (eU e1 e2) t) : Ev r e1 (t >>= asL) := by
  cases t with
  | ok p => cases p with
    | inl a => exact h
    | inr b => trivial
  | ex x => exact h
  | bad => trivial
instance [Imm e1] [Imm e2] : Imm (eU e1 e2) := ⟨fun p => by cases p with | inl a => exact Imm.h (e := e1) a | inr b => exact Imm.h (e := e2) b⟩
instance [Dm e1 e1'] [Dm e2 e2'] : Dm (eU e1 e2) (eU e1' e2') := ⟨fun p => by cases p with | inl a => exact Dm.h (e := e1) a | inr b => exact Dm.h (e := e2) b⟩
instance [Fr e1 e1'] [Fr e2 e2'] : Fr (eU e1 e2) (eU e1' e2') := ⟨fun p => by cases p with | inl a => exact Fr.h (e := e1) a | inr b => exact Fr.h (e := e2) b⟩
instance [NoOw e1] [NoOw e2] : NoOw (eU e1 e2) := ⟨fun p => by cases p with | inl a => exact NoOw.h (e := e1) a | inr b => exact NoOw.h (e := e2) b⟩
instance [NoBo e1] [NoBo e2] : NoBo (eU e1 e2) := ⟨fun p => by cases p with | inl a => exact NoBo.h (e := e1) a | inr b => exact NoBo.h (e := e2) b⟩
instance [SomeE e1] [SomeE e2] : SomeE (eU e1 e2) := ⟨fun p => by cases p with | inl a => exact SomeE.h (e := e1) a | inr b => exact SomeE.h (e := e2) b⟩
instance [NotNon e1] [NotNon e2] : NotNon (eU e1 e2) := ⟨fun p => by cases p with | inl a => exact NotNon.h (e := e1) a | inr b => exact NotNon.h (e := e2) b⟩
instance {n m : Nat} [PyE e1 n] [PyE e2 m] : PyE (eU e1 e2) (max n m) := ⟨fun p => by
  cases p with
  | inl a => obtain ⟨p, h1, h2, h3⟩ := PyE.h (e := e1) a; exact ⟨p, h1, h2, Nat.le_trans h3 (Nat.le_max_left _ _)⟩
  | inr b => obtain ⟨p, h1, h2, h3⟩ := PyE.h (e := e2) b; exact ⟨p, h1, h2, Nat.le_trans h3 (Nat.le_max_right _ _)⟩⟩
/-- never equal -/
class Disj (e1 : α → D) (e2 : β → D) : Prop where
  l : ∀ a b p q, (e1 a).py = some p → (e2 b).py = some q → PyData.eqv p q = false
  r : ∀ a b p q, (e1 a).py = some p → (e2 b).py = some q → PyData.eqv q p = false
instance : Disj eS eI := ⟨fun a b p q h1 h2 => by cases h1; cases h2; rfl, fun a b p q h1 h2 => by cases h1; cases h2; rfl⟩
instance : Disj eS eB := ⟨fun a b p q h1 h2 => by cases h1; cases h2; rfl, fun a b p q h1 h2 => by cases h1; cases h2; rfl⟩
instance [DecidableEq α] [DecidableEq β] [EqE e1 e1] [EqE e2 e2] [Disj e1 e2] : EqE (eU e1 e2) (eU e1 e2) := ⟨fun a b p q h1 h2 => by
  cases a with
  | inl a => cases b with
    | inl b => rw [EqE.h (e := e1) (e' := e1) a b p q h1 h2]; by_cases h : a = b <;> simp [h]
    | inr b => rw [Disj.l (e1 := e1) (e2 := e2) a b p q h1 h2]; simp
  | inr a => cases b with
    | inl b => rw [Disj.r (e1 := e1) (e2 := e2) b a q p h2 h1]; simp
    | inr b => rw [EqE.h (e := e2) (e' := e2) a b p q h1 h2]; by_cases h : a = b <;> simp [h]⟩
variable {es es' : α → List D}
variable {σ lam ρ : Type} {Rn : σ → Env → Prop} {Rl : lam → Env → Prop} {er : ρ → D} {X : Option ρ → Env → Prop} {E : Env}
end
end PD
noncomputable section
namespace PD
open PySem L2
section
variable {α β γ δ σ τ lam ρ ω : Type} {E : Env} {i j : Nat} {g : Env → Res D} {gs : Env → Res (List D)} {gp : GP} {gm : Env → MRes} {e : α → D} {Rn : σ → Env → Prop} {Rl : lam → Env → Prop}
end
end PD
noncomputable section
namespace PD
open PySem L2
section
variable {α ω : Type} {E : Env} {i : Nat} {g : Env → Res D} {gp : GP} {e : α → D}
end
end PD
noncomputable section
namespace PD
open PySem L2
end PD
noncomputable section
namespace PD
open PySem L2
section
variable {α σ lam ρ : Type} {E : Env} {i : Nat} {X : Option ρ → Env → Prop} {Rn : σ → Env → Prop} {Rl : lam → Env → Prop} {er : ρ → D} {r : Env → Out}
end
end PD
namespace PD
open PySem L2
section
variable {α β : Type}
inductive All2 (P : α → β → Prop) : List α → List β → Prop
  | nil : All2 P [] []
  | cons {x : α} {y : β} {xs : List α} {ys : List β} (h : P x y) (r : All2 P xs ys) : All2 P (x :: xs) (y :: ys)
end
end PD
noncomputable section
namespace PD
open PySem L2
section
variable {α β γ : Type} {e e' : α → D} {es es' : α → List D} {f f' : Fl}
instance : Disj eS (eL f e) := ⟨fun a b p q h1 h2 => by
  obtain ⟨qs, k2, rfl⟩ := map_some' (show (pyL (b.map e)).map .list = some q from h2)
  cases h1
  rfl, fun a b p q h1 h2 => by
  obtain ⟨qs, k2, rfl⟩ := map_some' (show (pyL (b.map e)).map .list = some q from h2)
  cases h1
  rfl⟩
instance {e1 e1' : α → D} {e2 e2' : β → D} [DecidableEq α] [DecidableEq β] [EqE e1 e1'] [EqE e2 e2'] [Disj e1 e2'] [Disj e1' e2] : EqE (eU e1 e2) (eU e1' e2') := ⟨fun a b p q h1 h2 => by
  cases a with
  | inl a => cases b with
    | inl b => rw [EqE.h (e := e1) (e' := e1') a b p q h1 h2]; by_cases h : a = b <;> simp [h]
    | inr b => rw [Disj.l (e1 := e1) (e2 := e2') a b p q h1 h2]; simp
  | inr a => cases b with
    | inl b => rw [Disj.r (e1 := e1') (e2 := e2) b a q p h2 h1]; simp
    | inr b => rw [EqE.h (e := e2) (e' := e2') a b p q h1 h2]; by_cases h : a = b <;> simp [h]⟩
end
end PD
noncomputable section
namespace PD
open PySem L2
section
variable {α β κ : Type} {e : α → D} {es : α → List D} {f : Fl}
end
end PD
noncomputable section
namespace PD
open PySem L2
section
variable {α : Type} {e e' : α → D}
end
end PD
noncomputable section
namespace PD
open PySem L2
class NoDk (e : α → D) : Prop where h : ∀ a, (e a).noDk = true
class NoDkL (e : α → List D) : Prop where h : ∀ a, noDkL (e a) = true
section
variable {α β : Type} {e e1 : α → D} {e2 : β → D} {es : α → List D} {f : Fl}
theorem noDkL_map (h : ∀ a, (e a).noDk = true) : ∀ xs : List α, noDkL (xs.map e) = true
  | [] => rfl
  | x :: xs => by
    show ((e x).noDk && noDkL (xs.map e)) = true
    rw [h x, noDkL_map h xs]
    rfl
instance : NoDk eI := ⟨fun _ => rfl⟩
instance : NoDk eB := ⟨fun _ => rfl⟩
instance : NoDk eS := ⟨fun _ => rfl⟩
instance : NoDk eN := ⟨fun _ => rfl⟩
instance [NoDk e] : NoDk (eL f e) := ⟨fun a => noDkL_map NoDk.h a⟩
instance [NoDk e] : NoDk (eTL e) := ⟨fun a => noDkL_map NoDk.h a⟩
instance : NoDkL pn := ⟨fun _ => rfl⟩
instance [NoDk e] : NoDkL (p1 e) := ⟨fun a => by
  show ((e a).noDk && noDkL []) = true
  rw [NoDk.h a]
  rfl⟩
instance [NoDk e2] [NoDkL es] : NoDkL (pc e2 es) := ⟨fun a => by
  show ((e2 a.1).noDk && noDkL (es a.2)) = true
  rw [NoDk.h a.1, NoDkL.h a.2]
  rfl⟩
instance [NoDkL es] : NoDk (eT es) := ⟨fun a => NoDkL.h a⟩
instance [NoDk e] : NoDk (eO e) := ⟨fun a => by cases a with | none => rfl | some a => exact NoDk.h a⟩
instance [NoDk e1] [NoDk e2] : NoDk (eU e1 e2) := ⟨fun p => by cases p with | inl a => exact NoDk.h (e := e1) a | inr b => exact NoDk.h (e := e2) b⟩
instance [NoDk e] : NoDk (eQ f e) := ⟨fun ⟨b, xs⟩ => by cases b; exact NoDk.h (e := eL f e) xs; exact NoDk.h (e := eTL e) xs⟩
end
section
variable {α β : Type} {E E2 : Env} {f : Fl} {e : α → D}
end
section
variable {α : Type} {e : α → D}
end
end PD
noncomputable section
namespace PD
open PySem L2
section
variable {α : Type} {e : α → D} {f : Fl}
end
end PD
noncomputable section
namespace PD
open PySem L2
def eZ (s : Str) : D := .str s
instance : Imm eZ := ⟨fun _ => rfl⟩
instance : Dm eZ eZ := ⟨fun _ => rfl⟩
instance : Fr eZ eZ := ⟨fun _ => rfl⟩
instance : NoOw eZ := ⟨fun _ => rfl⟩
instance : NoDk eZ := ⟨fun _ => rfl⟩
section
variable {α β : Type} {e : α → D}
def reprT (e : α → D) (a : α) : Res Str := match reprD (e a) with
  | .ok (.str s) => .ok s
  | _ => .bad
theorem op_repr (a : α) : Ev (reprD (e a)) eZ (reprT e a) := by
  unfold reprT
  cases h : reprD (e a) with
  | ok d =>
    cases d with
    | str s => rfl
    | _ => trivial
  | ex x => trivial
  | bad => trivial
theorem op_eqZ (a b : Str) : Ev (eqS (eZ a) (eZ b)) eB (.ok (decide (a = b))) := rfl
/-- what is told of data -/
def ShowOk (p : PyData) : Prop := p.showable = true ∧ p.hasDict = false ∧ p.depth ≤ 40 ∧ p.shown.length ≤ sizeLine
theorem reprT_lst {f : Fl} {xs : List D} {a : α} {ps : List PyData} (h : e a = .lst f xs) (h2 : pyL xs = some ps) (ok : ShowOk (.list ps)) : reprT e a = .ok (PyData.list ps).shown := by
  unfold reprT
  rw [h]
  have : reprD (.lst f xs) = .ok (.str (PyData.list ps).shown) := by
    unfold reprD
    simp only [D.py, h2, Option.map_some]
    exact if_pos ok
  rw [this]
end
section
variable {α β : Type} {e1 : α → D} {e2 : β → D}
end
end PD
noncomputable section
namespace PD
open PySem L2
section
variable {α β : Type} {e : α → D} {e2 : β → D} {E : Env} {ga gb : Env → Res D}
end
end PD
namespace PD
open PySem PySem.Spec PyProof.Rows L2
section
variable {α : Type} {e : α → D} {enc : α → PyData}
end
end PD
namespace PD
open PySem PySem.Spec PyProof.Rows L2
noncomputable def fmtT : List (Res Tx) → Tx → Res Tx
  | [], acc => .ok acc
  | t :: ts, acc => match t with
    | .ok y => grd ((acc ++ y).length ≤ 16777216) (fmtT ts (acc ++ y))
    | _ => .bad
theorem fmtT_ok {y : Tx} {ts : List (Res Tx)} {acc : Tx} : fmtT (.ok y :: ts) acc = grd ((acc ++ y).length ≤ 16777216) (fmtT ts (acc ++ y)) := by rw [fmtT]
theorem fmtT_ex {x : Exc} {ts : List (Res Tx)} {acc : Tx} : fmtT (.ex x :: ts) acc = .bad := by rw [fmtT]; intro y h; cases h
theorem fmtT_bad {ts : List (Res Tx)} {acc : Tx} : fmtT (.bad :: ts) acc = .bad := by rw [fmtT]; intro y h; cases h
inductive EFs (E : Env) : List (Env → Res D) → List (Res Tx) → Prop where
  | nil : EFs E [] []
  | con {g : Env → Res D} {t : Res Tx} {gs : List (Env → Res D)} {ts : List (Res Tx)} (h : Ev (g E) eS t) (r : EFs E gs ts) : EFs E (g :: gs) (t :: ts)
  | fmt {g : Env → Res D} {t : Res Tx} {gs : List (Env → Res D)} {ts : List (Res Tx)} (h : Ev (g E) eS t) (r : EFs E gs ts) : EFs E (gFmt g :: gs) (t :: ts)
theorem ev_gJs {E : Env} {gs : List (Env → Res D)} {ts : List (Res Tx)} (h : EFs E gs ts) : ∀ acc : Tx, Ev (gJs gs (sT acc) E) eS (fmtT ts acc) := by
  induction h with
  | nil => exact fun acc => rfl
  | @con g t gs ts h r ih =>
    intro acc
    cases t with
    | ok y =>
      rw [fmtT_ok]
      refine ev_grd fun hz => ?_
      have h : g E = .ok (.str (sT y)) := h
      have e : gJs (g :: gs) (sT acc) E = gJs gs (sT (acc ++ y)) E := by
        rw [gJs, h]
        simp only
        rw [sT_app, if_pos (by rw [sT_len]; exact hz)]
      rw [e]
      exact ih (acc ++ y)
    | ex x => rw [fmtT_ex]; trivial
    | bad => rw [fmtT_bad]; trivial
  | @fmt g t gs ts h r ih =>
    intro acc
    cases t with
    | ok y =>
      rw [fmtT_ok]
      refine ev_grd fun hz => ?_
      have h : g E = .ok (.str (sT y)) := h
      have h2 : gFmt g E = .ok (.str (sT y)) := by
        unfold gFmt
        rw [h]
        exact if_pos (by
          rw [sT_len]
          rw [List.length_append] at hz
          show y.length ≤ 16777216
          omega)
      have e : gJs (gFmt g :: gs) (sT acc) E = gJs gs (sT (acc ++ y)) E := by
        rw [gJs, h2]
        simp only
        rw [sT_app, if_pos (by rw [sT_len]; exact hz)]
      rw [e]
      exact ih (acc ++ y)
    | ex x => rw [fmtT_ex]; trivial
    | bad => rw [fmtT_bad]; trivial
theorem ev_fstr {E : Env} {gs : List (Env → Res D)} {ts : List (Res Tx)} (h : EFs E gs ts) : Ev (gJs gs Str.empty E) eS (fmtT ts []) := ev_gJs h []
end PD
namespace PD
open PySem PySem.Spec PyProof.Rows L2
end PD
namespace PD
open PySem PySem.Spec PyProof.Rows L2
section
variable {κ α β : Type}
class NKey (ek0 : κ → D) (ek : κ → NestedKey) : Prop where
  h : ∀ k, ∃ ks, ek k = .tup ks ∧ (ek0 k).keyN = some (.tup ks) ∧ (NestedKey.tup ks).depth ≤ 8
  inj : ∀ a b, ek a = ek b → a = b
section
variable {ek : κ → NestedKey} {e : α → D} {e' : β → D}
end
variable [DecidableEq κ]
variable {ek0 : κ → D} {ek : κ → NestedKey} {e : α → D} {f : Fl}
end
section
variable {α β γ δ ω σ lam ρ : Type} {E : Env} {e : α → D} {gi g g1 : Env → Res D} {gp : GP} {gm : Env → MRes} {i : Nat} {r : Env → Out} {Rn : σ → Env → Prop} {Rl : lam → Env → Prop} {X : Option ρ → Env → Prop} {er : ρ → D}
end
end PD
namespace PD
open PySem PySem.Spec PyProof.Rows L2
section
variable {α β γ δ ω σ τ lam ρ : Type} {E : Env} {e : α → D} {gs : Env → Res (List D)} {gi g g1 : Env → Res D} {gp : GP} {gm : Env → MRes} {i : Nat} {r : Env → Out} {Rn : σ → Env → Prop} {Rl : lam → Env → Prop} {X : Option ρ → Env → Prop} {er : ρ → D}
end
end PD
namespace PD
open PySem PyProof.Rows L2
section
variable {E : Env} {ga gb gi : Env → Res D} {i j : Nat} {gp : GP} {α β ω : Type}
end
end PD
noncomputable section
namespace PD
open PySem L2
def replC (c : Char) (z : Tx) (t : Tx) : Tx := t.flatMap fun d => if d = c then z else [d]
theorem replL_C (c : Char) (z : Tx) : ∀ t : Tx, StrLaws.replL [c.toNat] (z.map Char.toNat) (t.map Char.toNat) = (replC c z t).map Char.toNat
  | [] => by rw [List.map_nil, StrLaws.replL_nil]; rfl
  | d :: t => by
    have ih := replL_C c z t
    rw [List.map_cons]
    by_cases h : d = c
    · subst h
      rw [StrLaws.replL_hit (by simp) (by simp)]
      simp only [List.length_cons, List.length_nil, List.drop_succ_cons, List.drop_zero]
      rw [ih]
      simp [replC]
    · have hn : d.toNat ≠ c.toNat := fun z => h (char_inj z)
      rw [StrLaws.replL_miss (by simp [hn]), ih]
      simp [replC, h]
theorem sT_of_list {s : Str} {t : Tx} (h : s.cps.toList = t.map Char.toNat) : s = sT t := by
  cases s with
  | mk a =>
    show Str.mk a = Str.mk (t.map Char.toNat).toArray
    rw [← h]
theorem repl_C (c : Char) (z t : Tx) : Txt.replace (sT t) (sT [c]) (sT z) = sT (replC c z t) := by
  refine sT_of_list ?_
  rw [StrLaws.replace_list (by rw [sT_len]; exact Nat.le_refl 1), sT_toList, sT_toList, sT_toList]
  exact replL_C c z t
def replG (c : Char) (z : Tx) (t : Tx) : Res Tx := grd (t.length + (t.length + 1) * z.length ≤ 16777216) (.ok (replC c z t))
theorem op_repl (c : Char) (z : Tx) {y z' : Str} (hy : y = sT [c]) (hz : z' = sT z) (t : Tx) : Ev (replD y z' (eS t)) eS (replG c z t) := by
  subst hy hz
  unfold replG
  refine ev_grd fun h => ?_
  show replD (sT [c]) (sT z) (.str (sT t)) = .ok (.str (sT (replC c z t)))
  simp only [replD, sT_len]
  rw [if_pos h, repl_C]
theorem replC_len (c : Char) (z : Tx) (hz : 1 ≤ z.length) : ∀ t : Tx, (replC c z t).length ≤ t.length * z.length
  | [] => by simp [replC]
  | d :: t => by
    have ih := replC_len c z hz t
    simp only [replC, List.flatMap_cons, List.length_append, List.length_cons] at ih ⊢
    rw [Nat.add_mul, Nat.one_mul]
    split
    · omega
    · simp only [List.length_cons, List.length_nil]; omega
end PD
end
noncomputable section
namespace K49
open PySem PySem.Spec PyProof.Rows L2 PD
structure Facts (P : Program) (w : World) (K : PySem.W.Frag) (mg : Str → Option Value) (T : Tb) where
  f__law_row : Addr
  d__law_row : FuncData
  F__law_row : FunD K "_law_row" "_law_row" (defArgs st__law_row) (defBody st__law_row) (defScope st__law_row) [] [] f__law_row d__law_row
  g__law_row : mg "_law_row" = some (.ref f__law_row)
  f__law_numbers : Addr
  d__law_numbers : FuncData
  F__law_numbers : FunD K "_law_numbers" "_law_numbers" (defArgs st__law_numbers) (defBody st__law_numbers) (defScope st__law_numbers) [] [] f__law_numbers d__law_numbers
  g__law_numbers : mg "_law_numbers" = some (.ref f__law_numbers)
  f__law_names : Addr
  d__law_names : FuncData
  F__law_names : FunD K "_law_names" "_law_names" (defArgs st__law_names) (defBody st__law_names) (defScope st__law_names) [] [] f__law_names d__law_names
  g__law_names : mg "_law_names" = some (.ref f__law_names)
  f_plan_text : Addr
  d_plan_text : FuncData
  F_plan_text : FunD K "plan_text" "plan_text" (defArgs st_plan_text) (defBody st_plan_text) (defScope st_plan_text) [] [] f_plan_text d_plan_text
  g_plan_text : mg "plan_text" = some (.ref f_plan_text)
  f__law_turned : Addr
  d__law_turned : FuncData
  F__law_turned : FunD K "_law_turned" "_law_turned" (defArgs st__law_turned) (defBody st__law_turned) (defScope st__law_turned) [] [] f__law_turned d__law_turned
  g__law_turned : mg "_law_turned" = some (.ref f__law_turned)
  f__law_is_name : Addr
  d__law_is_name : FuncData
  F__law_is_name : FunD K "_law_is_name" "_law_is_name" (defArgs st__law_is_name) (defBody st__law_is_name) (defScope st__law_is_name) [] [] f__law_is_name d__law_is_name
  g__law_is_name : mg "_law_is_name" = some (.ref f__law_is_name)
  f__law_due : Addr
  d__law_due : FuncData
  F__law_due : FunD K "_law_due" "_law_due" (defArgs st__law_due) (defBody st__law_due) (defScope st__law_due) [] [] f__law_due d__law_due
  g__law_due : mg "_law_due" = some (.ref f__law_due)
  f_is_name : Addr
  d_is_name : FuncData
  F_is_name : FunD K "is_name" "is_name" (defArgs st_is_name) (defBody st_is_name) (defScope st_is_name) [] [] f_is_name d_is_name
  g_is_name : mg "is_name" = some (.ref f_is_name)
  f_parse_plan : Addr
  d_parse_plan : FuncData
  F_parse_plan : FunD K "parse_plan" "parse_plan" (defArgs st_parse_plan) (defBody st_parse_plan) (defScope st_parse_plan) [] [] f_parse_plan d_parse_plan
  g_parse_plan : mg "parse_plan" = some (.ref f_parse_plan)
  f_law : Addr
  d_law : FuncData
  F_law : FunD K "law" "law" (defArgs st_law) (defBody st_law) (defScope st_law) [] [] f_law d_law
  g_law : mg "law" = some (.ref f_law)
  C_InvalidNotation : Addr
  ct_InvalidNotation : C_InvalidNotation = T.cl 0
  cm_InvalidNotation : mg "InvalidNotation" = some (.ref C_InvalidNotation)
  C_WhoevermayError : Addr
  ct_WhoevermayError : C_WhoevermayError = T.cl 1
  cm_WhoevermayError : mg "WhoevermayError" = some (.ref C_WhoevermayError)
  fi_InvalidNotation : Addr
  ic_InvalidNotation : IniC P K mg C_InvalidNotation fi_InvalidNotation "__init__" "InvalidNotation.__init__" (defArgs st_InvalidNotation____init__) (defBody st_InvalidNotation____init__) (defScope st_InvalidNotation____init__) ∧ PySem.W.findIn K (.ref C_InvalidNotation) "line" = some none
  n_line : ("line" : Str) = T.nm 0
  b_abs : mg "abs" = none
  b_all : mg "all" = none
  b_enumerate : mg "enumerate" = none
  b_int : mg "int" = none
  b_isinstance : mg "isinstance" = none
  b_len : mg "len" = none
  b_list : mg "list" = none
  b_max : mg "max" = none
  b_min : mg "min" = none
  b_range : mg "range" = none
  b_repr : mg "repr" = none
  b_super : mg "super" = none
  b_tuple : mg "tuple" = none
  xq_0 : ∀ k ∈ ([1, 0] : List Nat), PySem.W.exmOne K (.ref (T.cl k)) (.ref C_InvalidNotation) = some (decide (k ∈ ([0] : List Nat)))
  xq_1 : ∀ k ∈ ([0] : List Nat), XfC K (T.cl k) ∧ PySem.W.findIn K (.ref (T.cl k)) "line" = some none
  c_MOST_NAME_CHARS : ∃ t, mg "MOST_NAME_CHARS" = some (.int 12 t)
  c_NAME_CHARS : ∃ t, mg "NAME_CHARS" = some (.str "abcdefghijklmnopqrstuvwxyz0123456789" t)
section
variable {P : Program} {w : World} {K : PySem.W.Frag} {mg : Str → Option Value} {base : Heap} {T : Tb}
def L__law_row_1 : Env → Out := (seqS (asgS 4 (gBin modD (gDm (gUn intD (gDm (gBin addD (gDm (gBin mulA (gVar 4) (gDm (gC (.int 16807))))) (gDm (gBin mulA (gDm (gC (.int 271))) (gDm (gBin addD (gVar 5) (gDm (gC (.int 3))))))))))) (gDm (gC (.int 2147483629)))))
  (ifS (gB (gBin geD (gDm (gUn absD (gVar 0))) (gDm (gBin powD (gDm (gC (.int 10))) (gDm (gC (.int 18))))))) (seqS (exprSM (gMut 2 fApp (gP0 2) (gOne (gBin modD (gDm (gUn intD (gVar 3))) (gDm (gC (.int 1009)))))))
  (asgS 3 (gBin fdivD (gVar 3) (gDm (gC (.int 1009)))))) (exprSM (gMut 2 fApp (gP0 2) (gOne (gBin modD (gDm (gUn intD (gDm (gBin fdivD (gVar 4) (gDm (gC (.int 7))))))) (gDm (gC (.int 1009)))))))))
def S__law_row : Env → Out := (seqS (asgS 2 (gLst gNil))
  (seqS (asgS 3 (gUn absD (gVar 0)))
  (seqS (asgS 4 (gBin modD (gDm (gUn intD (gDm (gBin addD (gDm (gBin mulA (gVar 3) (gDm (gC (.int 48271))))) (gDm (gC (.int 69621))))))) (gDm (gC (.int 2147483647)))))
  (seqS (gFor (gRng1 (gVar 1)) (udName 5) L__law_row_1)
  (retVS 2)))))
def F__law_row : List D → Res D := bodyF 2 6 S__law_row
theorem sc__law_row : FnScope ["_law_cell", "_law_many", "_law_row_here", "_law_rest", "_law_mixed", "_law_k"] ["_law_cell", "_law_many"] (defScope st__law_row) := ⟨rfl, rfl, rfl, by decide +kernel, rfl, by decide +kernel, by decide +kernel⟩
theorem bd__law_row (Fc : Facts P w K mg T) : Binds K Fc.d__law_row ["_law_cell", "_law_many"] [] := Fc.F__law_row.bindsN fun _ _ _ _ _ _ us hl => match us, hl with | [_, _], _ => rfl
theorem ok__law_row (Fc : Facts P w K mg T) : FnOk P w K mg base (L2.CX P w) 1 Fc.f__law_row Fc.d__law_row ["_law_cell", "_law_many"] (spF K T F__law_row) := fn_pure Fc.F__law_row sc__law_row rfl fun cdv A outer s0 H E c hr hT h0 tk =>
  (jss_cons (js_set (i := 2) sc__law_row.nd rfl (Or.inl rfl) (jn_lst jl_nil) (h0 2))
  (jss_cons (js_set (i := 3) sc__law_row.nd rfl (Or.inl rfl) (jn_abs rfl Fc.b_abs (jv_var (pv 0))) (h0 3))
  (jss_cons (js_set (i := 4) sc__law_row.nd rfl (Or.inl rfl) (jn_mod (jv_of_jn (jn_intOf rfl Fc.b_int (jv_of_jn (jn_add (jv_of_jn (jn_mulA (jv_var (pv 3)) (jv_of_jn jn_int))) (jv_of_jn jn_int))))) (jv_of_jn jn_int)) (h0 4))
  (jss_cons (js_for (passes_of rfl) rfl (ji_range1 rfl Fc.b_range (jv_var (pv 1))) (jg_name (i := 5) sc__law_row.nd rfl (Or.inl rfl) (h0 5)) (jss_cons (js_set (i := 4) sc__law_row.nd rfl (Or.inl rfl) (jn_mod (jv_of_jn (jn_intOf rfl Fc.b_int (jv_of_jn (jn_add (jv_of_jn (jn_mulA (jv_var (pv 4)) (jv_of_jn jn_int))) (jv_of_jn (jn_mulA (jv_of_jn jn_int) (jv_of_jn (jn_add (jv_var (pv 5)) (jv_of_jn jn_int))))))))) (jv_of_jn jn_int)) (h0 4))
  (jss_one (js_if (jt_ge (jv_of_jn (jn_abs rfl Fc.b_abs (jv_var (pv 0)))) (jv_of_jn (jn_pow (jv_of_jn jn_int) (jv_of_jn jn_int)))) (jss_cons (js_exprM (jm_append (jp_var (pv 2)) (jn_mod (jv_of_jn (jn_intOf rfl Fc.b_int (jv_var (pv 3)))) (jv_of_jn jn_int))))
  (jss_one (js_set (i := 3) sc__law_row.nd rfl (Or.inl rfl) (jn_fdiv (jv_var (pv 3)) (jv_of_jn jn_int)) (h0 3)))) (jss_one (js_exprM (jm_append (jp_var (pv 2)) (jn_mod (jv_of_jn (jn_intOf rfl Fc.b_int (jv_of_jn (jn_fdiv (jv_var (pv 4)) (jv_of_jn jn_int))))) (jv_of_jn jn_int)))))))))
  (jss_one (js_retV (pv 2)))))))
def L__law_numbers_1 : Env → Out := (exprSM (gMut 4 fApp (gP0 4) (gOne (gChk (gVar 6)))))
def L__law_numbers_2 : Env → Out := (gFor (gIt true (gDm (gFr (gCall F__law_row [] (gCons (gDm (gVar 5)) (gCons (gDm (gVar 3)) gNil)))))) (udName 6) L__law_numbers_1)
def L__law_numbers_3 : Env → Out := (exprSM (gMut 4 fApp (gP0 4) (gOne (gC (.int 0)))))
def S__law_numbers : Env → Out := (seqS (asgS 2 (gFr (gSl (gVar 0) gO0 (gO (gDm (gC (.int 63)))))))
  (seqS (asgS 3 (gBin addD (gDm (gC (.int 1))) (gDm (gBin fdivD (gVar 1) (gDm (gBin maxD (gDm (gC (.int 1))) (gDm (gUn lenD (gVar 2)))))))))
  (seqS (asgS 4 (gLst gNil))
  (seqS (gFor (gIt true (gVar 2)) (udName 5) L__law_numbers_2)
  (seqS (whileS (gB (gBin ltD (gDm (gUn lenD (gVar 4))) (gVar 1))) L__law_numbers_3 100000)
  (retS (gSl (gVar 4) gO0 (gO (gVar 1)))))))))
def F__law_numbers : List D → Res D := bodyF 2 7 S__law_numbers
theorem sc__law_numbers : FnScope ["_law_script", "_law_many", "_law_cells", "_law_each", "_law_numbers_here", "_law_cell", "_law_number"] ["_law_script", "_law_many"] (defScope st__law_numbers) := ⟨rfl, rfl, rfl, by decide +kernel, rfl, by decide +kernel, by decide +kernel⟩
theorem bd__law_numbers (Fc : Facts P w K mg T) : Binds K Fc.d__law_numbers ["_law_script", "_law_many"] [] := Fc.F__law_numbers.bindsN fun _ _ _ _ _ _ us hl => match us, hl with | [_, _], _ => rfl
theorem ok__law_numbers (Fc : Facts P w K mg T) : FnOk P w K mg base (L2.CX P w) 2 Fc.f__law_numbers Fc.d__law_numbers ["_law_script", "_law_many"] (spF K T F__law_numbers) := fn_pure Fc.F__law_numbers sc__law_numbers rfl fun cdv A outer s0 H E c hr hT h0 tk =>
  (jss_cons (js_set (i := 2) sc__law_numbers.nd rfl (Or.inl rfl) (jn_fr (jn_slice (jv_var (pv 0)) jo_none (jo_some (jv_of_jn jn_int)))) (h0 2))
  (jss_cons (js_set (i := 3) sc__law_numbers.nd rfl (Or.inl rfl) (jn_add (jv_of_jn jn_int) (jv_of_jn (jn_fdiv (jv_var (pv 1)) (jv_of_jn (jn_max rfl rfl Fc.b_max (jv_of_jn jn_int) (jv_of_jn (jn_len rfl Fc.b_len (jv_var (pv 2))))))))) (h0 3))
  (jss_cons (js_set (i := 4) sc__law_numbers.nd rfl (Or.inl rfl) (jn_lst jl_nil) (h0 4))
  (jss_cons (js_for (passes_of rfl) rfl (ji_seq (jv_var (pv 2))) (jg_name (i := 5) sc__law_numbers.nd rfl (Or.inl rfl) (h0 5)) (jss_one (js_for (passes_of rfl) rfl (ji_seq (jv_of_jn (jn_fr (jn_call (ok__law_row Fc) hT tk (hr.mono (by decide)) rfl Fc.g__law_row Fc.F__law_row.kp (bd__law_row Fc) .nil dfl_nil (ja_cons (jv_var (pv 5)) (ja_cons (jv_var (pv 3)) ja_nil)))))) (jg_name (i := 6) sc__law_numbers.nd rfl (Or.inl rfl) (h0 6)) (jss_one (js_exprM (jm_append (jp_var (pv 4)) (jn_of_jv (jv_var (pv 6)))))))))
  (jss_cons (js_while 100000 (passes_of rfl) (jt_lt (jv_of_jn (jn_len rfl Fc.b_len (jv_var (pv 4)))) (jv_var (pv 1))) (jss_one (js_exprM (jm_append (jp_var (pv 4)) jn_int))))
  (jss_one (js_ret (jn_slice (jv_var (pv 4)) jo_none (jo_some (jv_var (pv 1)))))))))))
def L__law_names_1 : Env → Out := (seqS (asgVS 8 (gVar 4))
  (seqS (ifS (gB (gBin eqD (gDm (gBin modD (gDm (gUn intD (gDm (gBin addD (gDm (gBin fdivD (gVar 0) (gDm (gC (.int 121))))) (gVar 7))))) (gDm (gC (.int 3))))) (gDm (gC (.int 0))))) (asgS 8 (gFr (gSl (gVar 4) (gO (gDm (gC (.int 1)))) gO0))) nilS)
  (seqS (asgS 9 (gBin minD (gVar 5) (gDm (gUn lenD (gVar 8)))))
  (seqS (asgS 10 (gC (.int 5)))
  (seqS (ifS (gB (gBin eqD (gDm (gBin modD (gDm (gBin fdivD (gVar 0) (gDm (gC (.int 363))))) (gDm (gC (.int 2))))) (gDm (gC (.int 1))))) (asgS 10 (gC (.int 31))) nilS)
  (exprSM (gMut 6 fApp (gP0 6) (gOne (gFr (gBin addD (gDm (gBin addD (gDm (gBin addD (gBin ixD (gVar 2) (gDm (gBin modD (gDm (gUn intD (gDm (gBin addD (gVar 0) (gDm (gBin mulA (gDm (gC (.int 3))) (gVar 7))))))) (gDm (gC (.int 26)))))) (gDm (gSl (gVar 8) gO0 (gO (gVar 9)))))) (gBin ixD (gVar 2) (gDm (gBin modD (gDm (gUn intD (gDm (gBin addD (gVar 0) (gDm (gBin mulA (gVar 10) (gVar 7))))))) (gDm (gC (.int 36)))))))) (gDm (gSl (gVar 8) (gO (gVar 9)) gO0))))))))))))
def S__law_names : Env → Out := (seqS (asgS 2 (gC (.str "abcdefghijklmnopqrstuvwxyz0123456789")))
  (seqS (asgS 3 (gBin modD (gDm (gUn intD (gVar 0))) (gDm (gC (.int 11)))))
  (seqS (asgS 4 (gBinS joinD (gDm (gC (.str ""))) (gDm (gLc (gRng1 (gVar 3)) [7] (udName 7) gYes (gChk (gBin ixD (gVar 2) (gDm (gBin modD (gDm (gUn intD (gDm (gBin addD (gVar 0) (gDm (gBin mulA (gDm (gBin mulA (gDm (gC (.int 7))) (gVar 7))) (gVar 7))))))) (gDm (gC (.int 36)))))))))))
  (seqS (asgS 5 (gBin modD (gDm (gBin fdivD (gVar 0) (gDm (gC (.int 11))))) (gDm (gBin addD (gVar 3) (gDm (gC (.int 1)))))))
  (seqS (asgS 6 (gLst gNil))
  (seqS (gFor (gRng1 (gVar 1)) (udName 7) L__law_names_1)
  (retVS 6)))))))
def F__law_names : List D → Res D := bodyF 2 11 S__law_names
theorem sc__law_names : FnScope ["_law_number", "_law_many", "_law_letters", "_law_size", "_law_rest", "_law_place", "_law_names_here", "_law_k", "_law_own", "_law_spot", "_law_step"] ["_law_number", "_law_many"] (defScope st__law_names) := ⟨rfl, rfl, rfl, by decide +kernel, rfl, by decide +kernel, by decide +kernel⟩
theorem bd__law_names (Fc : Facts P w K mg T) : Binds K Fc.d__law_names ["_law_number", "_law_many"] [] := Fc.F__law_names.bindsN fun _ _ _ _ _ _ us hl => match us, hl with | [_, _], _ => rfl
theorem ok__law_names (Fc : Facts P w K mg T) : FnOk P w K mg base (L2.CX P w) 1 Fc.f__law_names Fc.d__law_names ["_law_number", "_law_many"] (spF K T F__law_names) := fn_pure Fc.F__law_names sc__law_names rfl fun cdv A outer s0 H E c hr hT h0 tk =>
  (jss_cons (js_set (i := 2) sc__law_names.nd rfl (Or.inr rfl) jn_str (h0 2))
  (jss_cons (js_set (i := 3) sc__law_names.nd rfl (Or.inl rfl) (jn_mod (jv_of_jn (jn_intOf rfl Fc.b_int (jv_var (pv 0)))) (jv_of_jn jn_int)) (h0 3))
  (jss_cons (js_set (i := 4) sc__law_names.nd rfl (Or.inl rfl) (jn_join (jv_of_jn jn_str) (jv_of_jn (jn_lc (own := [("_law_k", 7)]) rfl sc__law_names.nd (ji_range1 rfl Fc.b_range (jv_var (pv 3))) (blkOk_by rfl) (fun _ _ _ _ _ _ => (jg_name (i := 7) sc__law_names.nd rfl (by first | exact Or.inl rfl | exact Or.inr rfl) rfl)) (fun _ _ _ _ _ _ => jts_nil) (fun _ _ _ _ _ _ => (jn_of_jv (jv_ix (ru1 hr) (jv_var (pv 2)) (jv_of_jn (jn_mod (jv_of_jn (jn_intOf rfl Fc.b_int (jv_of_jn (jn_add (jv_var (pv 0)) (jv_of_jn (jn_mulA (jv_of_jn (jn_mulA (jv_of_jn jn_int) (jv_var (pv 7)))) (jv_var (pv 7)))))))) (jv_of_jn jn_int))))))))) (h0 4))
  (jss_cons (js_set (i := 5) sc__law_names.nd rfl (Or.inl rfl) (jn_mod (jv_of_jn (jn_fdiv (jv_var (pv 0)) (jv_of_jn jn_int))) (jv_of_jn (jn_add (jv_var (pv 3)) (jv_of_jn jn_int)))) (h0 5))
  (jss_cons (js_set (i := 6) sc__law_names.nd rfl (Or.inl rfl) (jn_lst jl_nil) (h0 6))
  (jss_cons (js_for (passes_of rfl) rfl (ji_range1 rfl Fc.b_range (jv_var (pv 1))) (jg_name (i := 7) sc__law_names.nd rfl (Or.inl rfl) (h0 7)) (jss_cons (js_setV (i := 8) sc__law_names.nd rfl (Or.inl rfl) (jv_var (pv 4)) (h0 8))
  (jss_cons (js_if (jt_eq (ru hr) (jv_of_jn (jn_mod (jv_of_jn (jn_intOf rfl Fc.b_int (jv_of_jn (jn_add (jv_of_jn (jn_fdiv (jv_var (pv 0)) (jv_of_jn jn_int))) (jv_var (pv 7)))))) (jv_of_jn jn_int))) (jv_of_jn jn_int)) (jss_one (js_set (i := 8) sc__law_names.nd rfl (Or.inl rfl) (jn_fr (jn_slice (jv_var (pv 4)) (jo_some (jv_of_jn jn_int)) jo_none)) (h0 8))) jss_nil)
  (jss_cons (js_set (i := 9) sc__law_names.nd rfl (Or.inl rfl) (jn_min rfl rfl Fc.b_min (jv_var (pv 5)) (jv_of_jn (jn_len rfl Fc.b_len (jv_var (pv 8))))) (h0 9))
  (jss_cons (js_set (i := 10) sc__law_names.nd rfl (Or.inl rfl) jn_int (h0 10))
  (jss_cons (js_if (jt_eq (ru hr) (jv_of_jn (jn_mod (jv_of_jn (jn_fdiv (jv_var (pv 0)) (jv_of_jn jn_int))) (jv_of_jn jn_int))) (jv_of_jn jn_int)) (jss_one (js_set (i := 10) sc__law_names.nd rfl (Or.inl rfl) jn_int (h0 10))) jss_nil)
  (jss_one (js_exprM (jm_append (jp_var (pv 6)) (jn_fr (jn_add (jv_of_jn (jn_add (jv_of_jn (jn_add (jv_ix (ru1 hr) (jv_var (pv 2)) (jv_of_jn (jn_mod (jv_of_jn (jn_intOf rfl Fc.b_int (jv_of_jn (jn_add (jv_var (pv 0)) (jv_of_jn (jn_mulA (jv_of_jn jn_int) (jv_var (pv 7)))))))) (jv_of_jn jn_int)))) (jv_of_jn (jn_slice (jv_var (pv 8)) jo_none (jo_some (jv_var (pv 9))))))) (jv_ix (ru1 hr) (jv_var (pv 2)) (jv_of_jn (jn_mod (jv_of_jn (jn_intOf rfl Fc.b_int (jv_of_jn (jn_add (jv_var (pv 0)) (jv_of_jn (jn_mulA (jv_var (pv 10)) (jv_var (pv 7)))))))) (jv_of_jn jn_int)))))) (jv_of_jn (jn_slice (jv_var (pv 8)) (jo_some (jv_var (pv 9))) jo_none)))))))))))))
  (jss_one (js_retV (pv 6)))))))))
def L_plan_text_1 : Env → Out := (exprSM (gMut 1 fApp (gP0 1) (gOne (gFr (gIf (gB (gBin isnD (gVar 4) (gDm (gC .non)))) (gJs [(gFmt (gVar 2)), (gDm (gC (.str " "))), (gFmt (gVar 3))] Str.empty) (gJs [(gFmt (gVar 2)), (gDm (gC (.str " "))), (gFmt (gVar 3)), (gDm (gC (.str " "))), (gFmt (gVar 4))] Str.empty))))))
def S_plan_text : Env → Out := (seqS (asgS 1 (gLst gNil))
  (seqS (gFor (gIt true (gVar 0)) (udTup (udCons (udName 2) (udCons (udName 3) (udCons (udName 4) udNil)))) L_plan_text_1)
  (retS (gBinS joinD (gDm (gC (.str "\n"))) (gVar 1)))))
def F_plan_text : List D → Res D := bodyF 1 5 S_plan_text
theorem sc_plan_text : FnScope ["actions", "lines", "rule", "actor", "target"] ["actions"] (defScope st_plan_text) := ⟨rfl, rfl, rfl, by decide +kernel, rfl, by decide +kernel, by decide +kernel⟩
theorem bd_plan_text (Fc : Facts P w K mg T) : Binds K Fc.d_plan_text ["actions"] [] := Fc.F_plan_text.bindsN fun _ _ _ _ _ _ us hl => match us, hl with | [_], _ => rfl
theorem ok_plan_text (Fc : Facts P w K mg T) : FnOk P w K mg base (L2.CX P w) 1 Fc.f_plan_text Fc.d_plan_text ["actions"] (spF K T F_plan_text) := fn_pure Fc.F_plan_text sc_plan_text rfl fun cdv A outer s0 H E c hr hT h0 tk =>
  (jss_cons (js_set (i := 1) sc_plan_text.nd rfl (Or.inl rfl) (jn_lst jl_nil) (h0 1))
  (jss_cons (js_for (passes_of rfl) rfl (ji_seq (jv_var (pv 0))) (jg_tup rfl (jgs_cons (jg_name (i := 2) sc_plan_text.nd rfl (Or.inl rfl) (h0 2)) chk_name (jgs_cons (jg_name (i := 3) sc_plan_text.nd rfl (Or.inl rfl) (h0 3)) chk_name (jgs_cons (jg_name (i := 4) sc_plan_text.nd rfl (Or.inl rfl) (h0 4)) chk_name jgs_nil chk_nil) (chk_cons chk_name chk_nil)) (chk_cons chk_name (chk_cons chk_name chk_nil))) (len_cons (len_cons (len_cons len_nil)))) (jss_one (js_exprM (jm_append (jp_var (pv 1)) (jn_fr (jn_if (jt_isn (jv_var (pv 4)) (jv_of_jn jn_non)) (jn_fstr (.cons (jv_fmt (jv_var (pv 2))) (.cons (jv_of_jn jn_str) (.cons (jv_fmt (jv_var (pv 3))) .nil)))) (jn_fstr (.cons (jv_fmt (jv_var (pv 2))) (.cons (jv_of_jn jn_str) (.cons (jv_fmt (jv_var (pv 3))) (.cons (jv_of_jn jn_str) (.cons (jv_fmt (jv_var (pv 4))) .nil))))))))))))
  (jss_one (js_ret (jn_join (jv_of_jn jn_str) (jv_var (pv 1)))))))
def S__law_turned : Env → Out := (seqS (asgS 3 (gBin modD (gDm (gUn intD (gBin ixD (gVar 0) (gVar 1)))) (gDm (gUn lenD (gVar 2)))))
  (seqS (asgVS 4 (gBin ixD (gVar 2) (gVar 3)))
  (seqS (asgS 5 (gFr (gTup (gCons (gFr (gBin addD (gVar 4) (gDm (gC (.str " x"))))) (gCons (gFr (gBin addD (gVar 4) (gDm (gC (.str " "))))) (gCons (gFr (gBin addD (gDm (gC (.str " "))) (gVar 4))) (gCons (gFr (gUn (replD " " "  ") (gVar 4))) (gCons (gFr (gChk (gBin ixD (gDm (gBinS splitD (gVar 4) (gDm (gC (.str " "))))) (gDm (gC (.int 0)))))) (gCons (gFr (gC (.str ""))) (gCons (gFr (gBin addD (gVar 4) (gDm (gC (.str " A"))))) (gCons (gFr (gBin addD (gVar 4) (gDm (gC (.str "_"))))) gNil)))))))))))
  (seqS (asgS 5 (gFr (gBin addD (gVar 5) (gDm (gTup (gCons (gFr (gBin addD (gDm (gC (.str "1"))) (gVar 4))) (gCons (gFr (gBin addD (gVar 4) (gDm (gC (.str "0000000000000"))))) (gCons (gFr (gBin addD (gVar 4) (gDm (gC (.str " x y"))))) (gCons (gFr (gUn (replD "a" "A") (gVar 4))) (gCons (gFr (gBin addD (gVar 4) (gDm (gC (.str "\t"))))) gNil))))))))))
  (retS (gBin addD (gDm (gBin addD (gDm (gSl (gVar 2) gO0 (gO (gVar 3)))) (gDm (gLst (gCons (gFr (gChk (gBin ixD (gVar 5) (gDm (gBin modD (gDm (gBin fdivD (gBin ixD (gVar 0) (gVar 1)) (gDm (gC (.int 9))))) (gDm (gC (.int 13)))))))) gNil))))) (gDm (gSl (gVar 2) (gO (gDm (gBin addD (gVar 3) (gDm (gC (.int 1)))))) gO0))))))))
def F__law_turned : List D → Res D := bodyF 3 6 S__law_turned
theorem sc__law_turned : FnScope ["_law_numbers_here", "_law_at", "_law_lines", "_law_place", "_law_line", "_law_turned_here"] ["_law_numbers_here", "_law_at", "_law_lines"] (defScope st__law_turned) := ⟨rfl, rfl, rfl, by decide +kernel, rfl, by decide +kernel, by decide +kernel⟩
theorem bd__law_turned (Fc : Facts P w K mg T) : Binds K Fc.d__law_turned ["_law_numbers_here", "_law_at", "_law_lines"] [] := Fc.F__law_turned.bindsN fun _ _ _ _ _ _ us hl => match us, hl with | [_, _, _], _ => rfl
theorem ok__law_turned (Fc : Facts P w K mg T) : FnOk P w K mg base (L2.CX P w) 1 Fc.f__law_turned Fc.d__law_turned ["_law_numbers_here", "_law_at", "_law_lines"] (spF K T F__law_turned) := fn_pureT Fc.F__law_turned sc__law_turned rfl (by decide) (by decide) fun cdv A outer s0 H E c hr hT h0 tk =>
  (kss_cons (ks_of (js_set (i := 3) sc__law_turned.nd rfl (Or.inl rfl) (jn_mod (jv_of_jn (jn_intOf rfl Fc.b_int (jv_ix (ru1 hr) (jv_var (pv 0)) (jv_var (pv 1))))) (jv_of_jn (jn_len rfl Fc.b_len (jv_var (pv 2))))) (h0 3)))
  (kss_cons (ks_of (js_setV (i := 4) sc__law_turned.nd rfl (Or.inl rfl) (jv_ix (ru1 hr) (jv_var (pv 2)) (jv_var (pv 3))) (h0 4)))
  (kss_cons (ks_set (i := 5) sc__law_turned.nd rfl (Or.inl rfl) (kn_fr (kn_tup (kl_cons (kn_of (jn_add (jv_var (pv 4)) (jv_of_jn jn_str))) (kl_cons (kn_of (jn_add (jv_var (pv 4)) (jv_of_jn jn_str))) (kl_cons (kn_of (jn_add (jv_of_jn jn_str) (jv_var (pv 4)))) (kl_cons (kn_repl (jv_var (pv 4))) (kl_cons (kn_of (jn_of_jv (jv_ix (ru1 hr) (jv_of_jn (jn_split (jv_var (pv 4)) (jv_of_jn jn_str))) (jv_of_jn jn_int)))) (kl_cons (kn_of jn_str) (kl_cons (kn_of (jn_add (jv_var (pv 4)) (jv_of_jn jn_str))) (kl_cons (kn_of (jn_add (jv_var (pv 4)) (jv_of_jn jn_str))) kl_nil)))))))))) (h0 5))
  (kss_cons (ks_set (i := 5) sc__law_turned.nd rfl (Or.inl rfl) (kn_fr (kn_add (kv_of (jv_var (pv 5))) (kv_of_kn (kn_tup (kl_cons (kn_of (jn_add (jv_of_jn jn_str) (jv_var (pv 4)))) (kl_cons (kn_of (jn_add (jv_var (pv 4)) (jv_of_jn jn_str))) (kl_cons (kn_of (jn_add (jv_var (pv 4)) (jv_of_jn jn_str))) (kl_cons (kn_repl (jv_var (pv 4))) (kl_cons (kn_of (jn_add (jv_var (pv 4)) (jv_of_jn jn_str))) kl_nil))))))))) (h0 5))
  (kss_one (ks_of (js_ret (jn_add (jv_of_jn (jn_add (jv_of_jn (jn_slice (jv_var (pv 2)) jo_none (jo_some (jv_var (pv 3))))) (jv_of_jn (jn_lst (jl_cons (jn_of_jv (jv_ix (ru1 hr) (jv_var (pv 5)) (jv_of_jn (jn_mod (jv_of_jn (jn_fdiv (jv_ix (ru1 hr) (jv_var (pv 0)) (jv_var (pv 1))) (jv_of_jn jn_int))) (jv_of_jn jn_int))))) jl_nil))))) (jv_of_jn (jn_slice (jv_var (pv 2)) (jo_some (jv_of_jn (jn_add (jv_var (pv 3)) (jv_of_jn jn_int)))) jo_none))))))))))
def L__law_is_name_1 : Env → Out := (ifS (gB (gBin ninD (gVar 1) (gDm (gC (.str "abcdefghijklmnopqrstuvwxyz0123456789"))))) (retS (gC (.bl false))) nilS)
def S__law_is_name : Env → Out := (seqS (ifS (gOr (gB (gBin ltD (gDm (gUn lenD (gVar 0))) (gDm (gC (.int 1))))) (gOr (gB (gBin gtD (gDm (gUn lenD (gVar 0))) (gDm (gC (.int 12))))) (gB (gBin ninD (gBin ixD (gVar 0) (gDm (gC (.int 0)))) (gDm (gC (.str "abcdefghijklmnopqrstuvwxyz"))))))) (retS (gC (.bl false))) nilS)
  (seqS (gFor (gIt true (gVar 0)) (udName 1) L__law_is_name_1)
  (retS (gC (.bl true)))))
def F__law_is_name : List D → Res D := bodyF 1 2 S__law_is_name
theorem sc__law_is_name : FnScope ["_law_word", "_law_char"] ["_law_word"] (defScope st__law_is_name) := ⟨rfl, rfl, rfl, by decide +kernel, rfl, by decide +kernel, by decide +kernel⟩
theorem bd__law_is_name (Fc : Facts P w K mg T) : Binds K Fc.d__law_is_name ["_law_word"] [] := Fc.F__law_is_name.bindsN fun _ _ _ _ _ _ us hl => match us, hl with | [_], _ => rfl
theorem ok__law_is_name (Fc : Facts P w K mg T) : FnOk P w K mg base (L2.CX P w) 1 Fc.f__law_is_name Fc.d__law_is_name ["_law_word"] (spF K T F__law_is_name) := fn_pure Fc.F__law_is_name sc__law_is_name rfl fun cdv A outer s0 H E c hr hT h0 tk =>
  (jss_cons (js_if (jt_w (jw_or (jt_lt (jv_of_jn (jn_len rfl Fc.b_len (jv_var (pv 0)))) (jv_of_jn jn_int)) (jw_or (jt_gt (jv_of_jn (jn_len rfl Fc.b_len (jv_var (pv 0)))) (jv_of_jn jn_int)) (jw_or1 (jt_nin (ru hr) (jv_ix (ru1 hr) (jv_var (pv 0)) (jv_of_jn jn_int)) (jv_of_jn jn_str)))))) (jss_one (js_ret jn_bl)) jss_nil)
  (jss_cons (js_for (passes_of rfl) rfl (ji_seq (jv_var (pv 0))) (jg_name (i := 1) sc__law_is_name.nd rfl (Or.inl rfl) (h0 1)) (jss_one (js_if (jt_nin (ru hr) (jv_var (pv 1)) (jv_of_jn jn_str)) (jss_one (js_ret jn_bl)) jss_nil)))
  (jss_one (js_ret jn_bl))))
def L__law_due_1 : Env → Out := (ifS (gNot (gTru (gDm (gCall F__law_is_name [] (gCons (gDm (gVar 5)) gNil))))) (retS (gTup (gCons (gFr (gC .non)) (gCons (gFr (gBin addD (gVar 3) (gDm (gC (.int 1))))) gNil)))) nilS)
def L__law_due_2 : Env → Out := (seqS (asgS 4 (gFr (gBinS splitD (gBin ixD (gVar 2) (gVar 3)) (gDm (gC (.str " "))))))
  (seqS (ifS (gOr (gB (gBin ltD (gDm (gUn lenD (gVar 4))) (gDm (gC (.int 2))))) (gB (gBin gtD (gDm (gUn lenD (gVar 4))) (gDm (gC (.int 3)))))) (retS (gTup (gCons (gFr (gC .non)) (gCons (gFr (gBin addD (gVar 3) (gDm (gC (.int 1))))) gNil)))) nilS)
  (seqS (gFor (gIt true (gVar 4)) (udName 5) L__law_due_1)
  (exprSM (gMut 1 fApp (gP0 1) (gOne (gFr (gSl (gDm (gBin addD (gVar 4) (gDm (gLst (gCons (gFr (gC .non)) gNil))))) gO0 (gO (gDm (gC (.int 3))))))))))))
def S__law_due : Env → Out := (seqS (asgS 1 (gLst gNil))
  (seqS (ifS (gB (gBin eqD (gVar 0) (gDm (gC (.str ""))))) (frS 1 (retS (gTup (gCons (gFr (gChk (gVar 1))) (gCons (gFr (gC .non)) gNil))))) nilS)
  (seqS (asgS 2 (gFr (gBinS splitD (gVar 0) (gDm (gC (.str "\n"))))))
  (seqS (gFor (gRng1 (gDm (gUn lenD (gVar 2)))) (udName 3) L__law_due_2)
  (frS 1 (retS (gTup (gCons (gFr (gLc (gIt false (gVar 1)) [6] (udName 6) gYes (gUn tupleD (gVar 6)))) (gCons (gFr (gC .non)) gNil)))))))))
def F__law_due : List D → Res D := bodyF 1 7 S__law_due
theorem sc__law_due : FnScope ["_law_text", "_law_actions", "_law_lines", "_law_k", "_law_words", "_law_word", "_law_action"] ["_law_text"] (defScope st__law_due) := ⟨rfl, rfl, rfl, by decide +kernel, rfl, by decide +kernel, by decide +kernel⟩
theorem bd__law_due (Fc : Facts P w K mg T) : Binds K Fc.d__law_due ["_law_text"] [] := Fc.F__law_due.bindsN fun _ _ _ _ _ _ us hl => match us, hl with | [_], _ => rfl
theorem ok__law_due (Fc : Facts P w K mg T) : FnOk P w K mg base (L2.CX P w) 2 Fc.f__law_due Fc.d__law_due ["_law_text"] (spF K T F__law_due) := fn_pure Fc.F__law_due sc__law_due rfl fun cdv A outer s0 H E c hr hT h0 tk =>
  (jss_cons (js_set (i := 1) sc__law_due.nd rfl (Or.inl rfl) (jn_lst jl_nil) (h0 1))
  (jss_cons (js_if (jt_eq (ru hr) (jv_var (pv 0)) (jv_of_jn jn_str)) (jss_one (js_fr 1 (js_ret (jn_tup (jl_cons (jn_of_jv (jv_var (pv 1))) (jl_cons jn_non jl_nil)))))) jss_nil)
  (jss_cons (js_set (i := 2) sc__law_due.nd rfl (Or.inl rfl) (jn_fr (jn_split (jv_var (pv 0)) (jv_of_jn jn_str))) (h0 2))
  (jss_cons (js_for (passes_of rfl) rfl (ji_range1 rfl Fc.b_range (jv_of_jn (jn_len rfl Fc.b_len (jv_var (pv 2))))) (jg_name (i := 3) sc__law_due.nd rfl (Or.inl rfl) (h0 3)) (jss_cons (js_set (i := 4) sc__law_due.nd rfl (Or.inl rfl) (jn_fr (jn_split (jv_ix (ru1 hr) (jv_var (pv 2)) (jv_var (pv 3))) (jv_of_jn jn_str))) (h0 4))
  (jss_cons (js_if (jt_w (jw_or (jt_lt (jv_of_jn (jn_len rfl Fc.b_len (jv_var (pv 4)))) (jv_of_jn jn_int)) (jw_or1 (jt_gt (jv_of_jn (jn_len rfl Fc.b_len (jv_var (pv 4)))) (jv_of_jn jn_int))))) (jss_one (js_ret (jn_tup (jl_cons jn_non (jl_cons (jn_add (jv_var (pv 3)) (jv_of_jn jn_int)) jl_nil))))) jss_nil)
  (jss_cons (js_for (passes_of rfl) rfl (ji_seq (jv_var (pv 4))) (jg_name (i := 5) sc__law_due.nd rfl (Or.inl rfl) (h0 5)) (jss_one (js_if (jt_not (jt_tru (jv_of_jn (jn_call (ok__law_is_name Fc) hT tk (hr.mono (by decide)) rfl Fc.g__law_is_name Fc.F__law_is_name.kp (bd__law_is_name Fc) .nil dfl_nil (ja_cons (jv_var (pv 5)) ja_nil))))) (jss_one (js_ret (jn_tup (jl_cons jn_non (jl_cons (jn_add (jv_var (pv 3)) (jv_of_jn jn_int)) jl_nil))))) jss_nil)))
  (jss_one (js_exprM (jm_append (jp_var (pv 1)) (jn_fr (jn_slice (jv_of_jn (jn_add (jv_var (pv 4)) (jv_of_jn (jn_lst (jl_cons jn_non jl_nil))))) jo_none (jo_some (jv_of_jn jn_int)))))))))))
  (jss_one (js_fr 1 (js_ret (jn_tup (jl_cons (jn_lc (own := [("_law_action", 6)]) rfl sc__law_due.nd (ji_seq (jv_var (pv 1))) (blkOk_by rfl) (fun _ _ _ _ _ _ => (jg_name (i := 6) sc__law_due.nd rfl (by first | exact Or.inl rfl | exact Or.inr rfl) rfl)) (fun _ _ _ _ _ _ => jts_nil) (fun _ _ _ _ _ _ => (jn_tupleOf rfl Fc.b_tuple (jv_var (pv 6))))) (jl_cons jn_non jl_nil))))))))))
def S_is_name : Env → Out := (seqS (ifS (gOr (gNot (gB (gChain leD leD (gDm (gC (.int 1))) (gDm (gUn lenD (gVar 0))) (gDm (gC (.int 12)))))) (gB (gBin inD (gBin ixD (gVar 0) (gDm (gC (.int 0)))) (gDm (gC (.str "0123456789")))))) (retS (gC (.bl false))) nilS)
  (retS (gUn allD (gDm (gLc (gIt false (gVar 0)) [1] (udName 1) gYes (gBin inD (gVar 1) (gDm (gC (.str "abcdefghijklmnopqrstuvwxyz0123456789")))))))))
def F_is_name : List D → Res D := bodyF 1 2 S_is_name
theorem sc_is_name : FnScope ["text", "char"] ["text"] (defScope st_is_name) := ⟨rfl, rfl, rfl, by decide +kernel, rfl, by decide +kernel, by decide +kernel⟩
theorem bd_is_name (Fc : Facts P w K mg T) : Binds K Fc.d_is_name ["text"] [] := Fc.F_is_name.bindsN fun _ _ _ _ _ _ us hl => match us, hl with | [_], _ => rfl
theorem ok_is_name (Fc : Facts P w K mg T) : FnOk P w K mg base (L2.CX P w) 1 Fc.f_is_name Fc.d_is_name ["text"] (spF K T F_is_name) := fn_pure Fc.F_is_name sc_is_name rfl fun cdv A outer s0 H E c hr hT h0 tk =>
  (jss_cons (js_if (jt_w (jw_or (jt_not (jt_chain_le (jv_of_jn jn_int) (jv_of_jn (jn_len rfl Fc.b_len (jv_var (pv 0)))) (jv_of_jn (jn_gint rfl Fc.c_MOST_NAME_CHARS)))) (jw_or1 (jt_in (ru hr) (jv_ix (ru1 hr) (jv_var (pv 0)) (jv_of_jn jn_int)) (jv_of_jn jn_str))))) (jss_one (js_ret jn_bl)) jss_nil)
  (jss_one (js_ret (jn_all rfl rfl Fc.b_all (jv_of_jn (jn_lc (own := [("char", 1)]) rfl sc_is_name.nd (ji_seq (jv_var (pv 0))) (blkOk_by rfl) (fun _ _ _ _ _ _ => (jg_name (i := 1) sc_is_name.nd rfl (by first | exact Or.inl rfl | exact Or.inr rfl) rfl)) (fun _ _ _ _ _ _ => jts_nil) (fun _ _ _ _ _ _ => (jn_in (ru hr) (jv_var (pv 1)) (jv_of_jn (jn_gstr rfl Fc.c_NAME_CHARS))))))))))
def L_parse_plan_1 : Env → Out := (seqS (asgS 4 (gFr (gBinS splitD (gVar 3) (gDm (gC (.str " "))))))
  (seqS (ifS (gOr (gNot (gB (gChain leD leD (gDm (gC (.int 2))) (gDm (gUn lenD (gVar 4))) (gDm (gC (.int 3)))))) (gNot (gTru (gDm (gUn allD (gDm (gLc (gIt false (gVar 4)) [5] (udName 5) gYes (gCall F_is_name [] (gCons (gDm (gVar 5)) gNil))))))))) (raiseIS 0 0 (gVar 2)) nilS)
  (exprSM (gMut 1 fApp (gP0 1) (gOne (gFr (gTup (gCons (gFr (gChk (gBin ixD (gVar 4) (gDm (gC (.int 0)))))) (gCons (gFr (gChk (gBin ixD (gVar 4) (gDm (gC (.int 1)))))) (gCons (gFr (gChk (gIf (gB (gBin eqD (gDm (gUn lenD (gVar 4))) (gDm (gC (.int 3))))) (gBin ixD (gVar 4) (gDm (gC (.int 2)))) (gDm (gC .non))))) gNil))))))))))
def S_parse_plan : Env → Out := (seqS (ifS (gB (gBin eqD (gVar 0) (gDm (gC (.str ""))))) (retS (gLst gNil)) nilS)
  (seqS (asgS 1 (gLst gNil))
  (seqS (gFor (gEn true 1 (gDm (gFr (gBinS splitD (gVar 0) (gDm (gC (.str "\n"))))))) (udTup (udCons (udName 2) (udCons (udName 3) udNil))) L_parse_plan_1)
  (retVS 1))))
def F_parse_plan : List D → Res D := bodyF 1 6 S_parse_plan
theorem sc_parse_plan : FnScope ["text", "actions", "number", "line", "words", "word"] ["text"] (defScope st_parse_plan) := ⟨rfl, rfl, rfl, by decide +kernel, rfl, by decide +kernel, by decide +kernel⟩
theorem bd_parse_plan (Fc : Facts P w K mg T) : Binds K Fc.d_parse_plan ["text"] [] := Fc.F_parse_plan.bindsN fun _ _ _ _ _ _ us hl => match us, hl with | [_], _ => rfl
theorem ok_parse_plan (Fc : Facts P w K mg T) : FnOk P w K mg base (L2.CX P w) 2 Fc.f_parse_plan Fc.d_parse_plan ["text"] (spF K T F_parse_plan) := fn_pure Fc.F_parse_plan sc_parse_plan rfl fun cdv A outer s0 H E c hr hT h0 tk =>
  (jss_cons (js_if (jt_eq (ru hr) (jv_var (pv 0)) (jv_of_jn jn_str)) (jss_one (js_ret (jn_lst jl_nil))) jss_nil)
  (jss_cons (js_set (i := 1) sc_parse_plan.nd rfl (Or.inl rfl) (jn_lst jl_nil) (h0 1))
  (jss_cons (js_for (passes_of rfl) rfl (ji_en2 (k := 1) ⟨by omega, by omega⟩ rfl Fc.b_enumerate (jv_of_jn (jn_fr (jn_split (jv_var (pv 0)) (jv_of_jn jn_str)))) jn_int) (jg_tup rfl (jgs_cons (jg_name (i := 2) sc_parse_plan.nd rfl (Or.inl rfl) (h0 2)) chk_name (jgs_cons (jg_name (i := 3) sc_parse_plan.nd rfl (Or.inl rfl) (h0 3)) chk_name jgs_nil chk_nil) (chk_cons chk_name chk_nil)) (len_cons (len_cons len_nil))) (jss_cons (js_set (i := 4) sc_parse_plan.nd rfl (Or.inl rfl) (jn_fr (jn_split (jv_var (pv 3)) (jv_of_jn jn_str))) (h0 4))
  (jss_cons (js_if (jt_w (jw_or (jt_not (jt_chain_le (jv_of_jn jn_int) (jv_of_jn (jn_len rfl Fc.b_len (jv_var (pv 4)))) (jv_of_jn jn_int))) (jw_or1 (jt_not (jt_tru (jv_of_jn (jn_all rfl rfl Fc.b_all (jv_of_jn (jn_lc (own := [("word", 5)]) rfl sc_parse_plan.nd (ji_seq (jv_var (pv 4))) (blkOk_by rfl) (fun _ _ _ _ _ _ => (jg_name (i := 5) sc_parse_plan.nd rfl (by first | exact Or.inl rfl | exact Or.inr rfl) rfl)) (fun _ _ _ _ _ _ => jts_nil) (fun _ _ _ _ _ _ => (jn_call (ok_is_name Fc) hT tk_blk (hr.mono (by decide)) rfl Fc.g_is_name Fc.F_is_name.kp (bd_is_name Fc) .nil dfl_nil (ja_cons (jv_var (pv 5)) ja_nil)))))))))))) (jss_one (js_raiseI (xc := "InvalidNotation") rfl hT tk (hr.mono (by decide)) it_InvalidNotation Fc.ic_InvalidNotation.1 Fc.ic_InvalidNotation.2 Fc.ct_InvalidNotation Fc.n_line rfl Fc.cm_InvalidNotation (jv_var (pv 2)))) jss_nil)
  (jss_one (js_exprM (jm_append (jp_var (pv 1)) (jn_fr (jn_tup (jl_cons (jn_of_jv (jv_ix (ru1 hr) (jv_var (pv 4)) (jv_of_jn jn_int))) (jl_cons (jn_of_jv (jv_ix (ru1 hr) (jv_var (pv 4)) (jv_of_jn jn_int))) (jl_cons (jn_of_jv (jv_if (jt_eq (ru hr) (jv_of_jn (jn_len rfl Fc.b_len (jv_var (pv 4)))) (jv_of_jn jn_int)) (jv_ix (ru1 hr) (jv_var (pv 4)) (jv_of_jn jn_int)) (jv_of_jn jn_non))) jl_nil)))))))))))
  (jss_one (js_retV (pv 1))))))
def L_law_1 : Env → Out := (seqS (asgS 5 (gC .non))
  (seqS (ifS (gB (gBin gtD (gDm (gBin modD (gDm (gUn intD (gBin ixD (gVar 1) (gDm (gBin addD (gDm (gC (.int 2))) (gDm (gBin mulA (gDm (gC (.int 3))) (gVar 4)))))))) (gDm (gC (.int 3))))) (gDm (gC (.int 0))))) (asgVS 5 (gBin ixD (gVar 2) (gDm (gBin modD (gDm (gBin fdivD (gBin ixD (gVar 1) (gDm (gBin addD (gDm (gC (.int 2))) (gDm (gBin mulA (gDm (gC (.int 3))) (gVar 4)))))) (gDm (gC (.int 3))))) (gDm (gC (.int 12))))))) nilS)
  (exprSM (gMut 3 fApp (gP0 3) (gOne (gFr (gTup (gCons (gFr (gChk (gBin ixD (gVar 2) (gDm (gBin modD (gDm (gUn intD (gBin ixD (gVar 1) (gDm (gBin addD (gDm (gC (.int 3))) (gDm (gBin mulA (gDm (gC (.int 3))) (gVar 4)))))))) (gDm (gC (.int 12)))))))) (gCons (gFr (gChk (gBin ixD (gVar 2) (gDm (gBin modD (gDm (gUn intD (gBin ixD (gVar 1) (gDm (gBin addD (gDm (gC (.int 4))) (gDm (gBin mulA (gDm (gC (.int 3))) (gVar 4)))))))) (gDm (gC (.int 12)))))))) (gCons (gFr (gChk (gVar 5))) gNil))))))))))
def S_law : Env → Out := (seqS (asgS 1 (gFr (gCall F__law_numbers [] (gCons (gDm (gVar 0)) (gCons (gDm (gDm (gC (.int 40)))) gNil)))))
  (seqS (asgS 2 (gFr (gCall F__law_names [] (gCons (gDm (gBin ixD (gVar 1) (gDm (gC (.int 0))))) (gCons (gDm (gDm (gC (.int 12)))) gNil)))))
  (seqS (asgS 3 (gLst gNil))
  (seqS (gFor (gRng1 (gDm (gBin modD (gDm (gUn intD (gBin ixD (gVar 1) (gDm (gC (.int 1)))))) (gDm (gC (.int 9)))))) (udName 4) L_law_1)
  (seqS (frS 3 (asgS 6 (gLc (gIt false (gVar 3)) [12] (udName 12) gYes (gBinS joinD (gDm (gC (.str " "))) (gDm (gLc (gIt false (gVar 12)) [13] (udName 13) (gB (gBin notnD (gVar 13) (gDm (gC .non)))) (gChk (gVar 13))))))))
  (seqS (frS 3 (ifS (gB (gBin neD (gDm (gCall F_plan_text [] (gCons (gDm (gDm (gFr (gUn listD (gVar 3))))) gNil))) (gDm (gBinS joinD (gDm (gC (.str "\n"))) (gVar 6))))) (retS (gC (.bl false))) nilS))
  (seqS (ifS (gAnd (gB (gBin eqD (gDm (gBin modD (gDm (gUn intD (gBin ixD (gVar 1) (gDm (gC (.int 36)))))) (gDm (gC (.int 2))))) (gDm (gC (.int 0))))) (gB (gBin gtD (gDm (gUn lenD (gVar 6))) (gDm (gC (.int 0)))))) (frS 6 (asgS 6 (gCall F__law_turned [] (gCons (gDm (gVar 1)) (gCons (gDm (gDm (gC (.int 37)))) (gCons (gDm (gVar 6)) gNil)))))) nilS)
  (seqS (ifS (gAnd (gB (gBin eqD (gDm (gBin modD (gDm (gUn intD (gBin ixD (gVar 1) (gDm (gC (.int 36)))))) (gDm (gC (.int 4))))) (gDm (gC (.int 0))))) (gB (gBin gtD (gDm (gUn lenD (gVar 6))) (gDm (gC (.int 0)))))) (frS 6 (asgS 6 (gCall F__law_turned [] (gCons (gDm (gVar 1)) (gCons (gDm (gDm (gC (.int 38)))) (gCons (gDm (gVar 6)) gNil)))))) nilS)
  (seqS (asgS 7 (gBinS joinD (gDm (gC (.str "\n"))) (gVar 6)))
  (seqS (unpS (udSeq (udCons (udName 8) (udCons (udName 9) udNil))) (gDm (gCall F__law_due [] (gCons (gDm (gVar 7)) gNil))))
  (seqS (tryS (asgS 10 (gFr (gCall F_parse_plan [] (gCons (gDm (gVar 7)) gNil)))) [⟨[1, 0], [0], (some 11), fun x => (retS (gAndV (gBin isnD (gVar 8) (gDm (gC .non))) (gBin eqD (gXf 0 x) (gVar 9))))⟩])
  (retS (gAndV (gBin notnD (gVar 8) (gDm (gC .non))) (gAndV (gUn (isiD "list") (gVar 10)) (gBin eqS (gDm (gUn reprD (gVar 10))) (gDm (gUn reprD (gVar 8))))))))))))))))))
def F_law : List D → Res D := bodyF 1 14 S_law
theorem sc_law : FnScope ["_law_script", "_law_numbers_here", "_law_names_here", "_law_actions", "_law_k", "_law_target", "_law_lines", "_law_text", "_law_due_here", "_law_line", "_law_actual", "e", "_law_action", "_law_word"] ["_law_script"] (defScope st_law) := ⟨rfl, rfl, rfl, by decide +kernel, rfl, by decide +kernel, by decide +kernel⟩
theorem ok_law (Fc : Facts P w K mg T) : FnG P w K mg base (L2.CX P w) 3 Fc.f_law Fc.d_law ["_law_script"] (spF K T F_law) := fn_pureG Fc.F_law sc_law rfl fun cdv A outer s0 H E c hG hr hT h0 tk =>
  (jss_cons (js_set (i := 1) sc_law.nd rfl (Or.inl rfl) (jn_fr (jn_call (ok__law_numbers Fc) hT tk (hr.mono (by decide)) rfl Fc.g__law_numbers Fc.F__law_numbers.kp (bd__law_numbers Fc) .nil dfl_nil (ja_cons (jv_var (pv 0)) (ja_cons (jv_of_jn jn_int) ja_nil)))) (h0 1))
  (jss_cons (js_set (i := 2) sc_law.nd rfl (Or.inl rfl) (jn_fr (jn_call (ok__law_names Fc) hT tk (hr.mono (by decide)) rfl Fc.g__law_names Fc.F__law_names.kp (bd__law_names Fc) .nil dfl_nil (ja_cons (jv_ix (ru1 hr) (jv_var (pv 1)) (jv_of_jn jn_int)) (ja_cons (jv_of_jn jn_int) ja_nil)))) (h0 2))
  (jss_cons (js_set (i := 3) sc_law.nd rfl (Or.inl rfl) (jn_lst jl_nil) (h0 3))
  (jss_cons (js_for (passes_of rfl) rfl (ji_range1 rfl Fc.b_range (jv_of_jn (jn_mod (jv_of_jn (jn_intOf rfl Fc.b_int (jv_ix (ru1 hr) (jv_var (pv 1)) (jv_of_jn jn_int)))) (jv_of_jn jn_int)))) (jg_name (i := 4) sc_law.nd rfl (Or.inl rfl) (h0 4)) (jss_cons (js_set (i := 5) sc_law.nd rfl (Or.inl rfl) jn_non (h0 5))
  (jss_cons (js_if (jt_gt (jv_of_jn (jn_mod (jv_of_jn (jn_intOf rfl Fc.b_int (jv_ix (ru1 hr) (jv_var (pv 1)) (jv_of_jn (jn_add (jv_of_jn jn_int) (jv_of_jn (jn_mulA (jv_of_jn jn_int) (jv_var (pv 4))))))))) (jv_of_jn jn_int))) (jv_of_jn jn_int)) (jss_one (js_setV (i := 5) sc_law.nd rfl (Or.inl rfl) (jv_ix (ru1 hr) (jv_var (pv 2)) (jv_of_jn (jn_mod (jv_of_jn (jn_fdiv (jv_ix (ru1 hr) (jv_var (pv 1)) (jv_of_jn (jn_add (jv_of_jn jn_int) (jv_of_jn (jn_mulA (jv_of_jn jn_int) (jv_var (pv 4))))))) (jv_of_jn jn_int))) (jv_of_jn jn_int)))) (h0 5))) jss_nil)
  (jss_one (js_exprM (jm_append (jp_var (pv 3)) (jn_fr (jn_tup (jl_cons (jn_of_jv (jv_ix (ru1 hr) (jv_var (pv 2)) (jv_of_jn (jn_mod (jv_of_jn (jn_intOf rfl Fc.b_int (jv_ix (ru1 hr) (jv_var (pv 1)) (jv_of_jn (jn_add (jv_of_jn jn_int) (jv_of_jn (jn_mulA (jv_of_jn jn_int) (jv_var (pv 4))))))))) (jv_of_jn jn_int))))) (jl_cons (jn_of_jv (jv_ix (ru1 hr) (jv_var (pv 2)) (jv_of_jn (jn_mod (jv_of_jn (jn_intOf rfl Fc.b_int (jv_ix (ru1 hr) (jv_var (pv 1)) (jv_of_jn (jn_add (jv_of_jn jn_int) (jv_of_jn (jn_mulA (jv_of_jn jn_int) (jv_var (pv 4))))))))) (jv_of_jn jn_int))))) (jl_cons (jn_of_jv (jv_var (pv 5))) jl_nil)))))))))))
  (jss_cons (js_fr 3 (js_setLc (i := 6) (own := [("_law_action", 12)]) rfl sc_law.nd rfl rfl rfl (ji_seq (jv_var (pv 3))) (blkOk_by rfl) (fun _ _ _ _ _ _ => (jg_name (i := 12) sc_law.nd rfl (by first | exact Or.inl rfl | exact Or.inr rfl) rfl)) (fun _ _ _ _ _ _ => jts_nil) (fun _ _ _ _ _ _ => (jn_join (jv_of_jn jn_str) (jv_of_jn (jn_lc (own := [("_law_word", 13)]) rfl sc_law.nd (ji_seq (jv_var (pv 12))) (blkOk_by rfl) (fun _ _ _ _ _ _ => (jg_name (i := 13) sc_law.nd rfl (by first | exact Or.inl rfl | exact Or.inr rfl) rfl)) (fun _ _ _ _ _ _ => (jts_one (jt_notn (jv_var (pv 13)) (jv_of_jn jn_non)))) (fun _ _ _ _ _ _ => (jn_of_jv (jv_var (pv 13)))))))) (h0 6)))
  (jss_cons (js_fr 3 (js_if (jt_ne (ru hr) (jv_of_jn (jn_call (ok_plan_text Fc) hT tk (hr.mono (by decide)) rfl Fc.g_plan_text Fc.F_plan_text.kp (bd_plan_text Fc) .nil dfl_nil (ja_cons (jv_of_jn (jn_fr (jn_listOf rfl rfl Fc.b_list (jv_var (pv 3))))) ja_nil))) (jv_of_jn (jn_join (jv_of_jn jn_str) (jv_var (pv 6))))) (jss_one (js_ret jn_bl)) jss_nil))
  (jss_cons (js_if (jt_w (jw_and (jt_eq (ru hr) (jv_of_jn (jn_mod (jv_of_jn (jn_intOf rfl Fc.b_int (jv_ix (ru1 hr) (jv_var (pv 1)) (jv_of_jn jn_int)))) (jv_of_jn jn_int))) (jv_of_jn jn_int)) (jw_and1 (jt_gt (jv_of_jn (jn_len rfl Fc.b_len (jv_var (pv 6)))) (jv_of_jn jn_int))))) (jss_one (js_fr 6 (js_set (i := 6) sc_law.nd rfl (Or.inl rfl) (jn_call (ok__law_turned Fc) hT tk (hr.mono (by decide)) rfl Fc.g__law_turned Fc.F__law_turned.kp (bd__law_turned Fc) .nil dfl_nil (ja_cons (jv_var (pv 1)) (ja_cons (jv_of_jn jn_int) (ja_cons (jv_var (pv 6)) ja_nil)))) (h0 6)))) jss_nil)
  (jss_cons (js_if (jt_w (jw_and (jt_eq (ru hr) (jv_of_jn (jn_mod (jv_of_jn (jn_intOf rfl Fc.b_int (jv_ix (ru1 hr) (jv_var (pv 1)) (jv_of_jn jn_int)))) (jv_of_jn jn_int))) (jv_of_jn jn_int)) (jw_and1 (jt_gt (jv_of_jn (jn_len rfl Fc.b_len (jv_var (pv 6)))) (jv_of_jn jn_int))))) (jss_one (js_fr 6 (js_set (i := 6) sc_law.nd rfl (Or.inl rfl) (jn_call (ok__law_turned Fc) hT tk (hr.mono (by decide)) rfl Fc.g__law_turned Fc.F__law_turned.kp (bd__law_turned Fc) .nil dfl_nil (ja_cons (jv_var (pv 1)) (ja_cons (jv_of_jn jn_int) (ja_cons (jv_var (pv 6)) ja_nil)))) (h0 6)))) jss_nil)
  (jss_cons (js_set (i := 7) sc_law.nd rfl (Or.inl rfl) (jn_join (jv_of_jn jn_str) (jv_var (pv 6))) (h0 7))
  (jss_cons (js_unp (jv_of_jn (jn_call (ok__law_due Fc) hT tk (hr.mono (by decide)) rfl Fc.g__law_due Fc.F__law_due.kp (bd__law_due Fc) .nil dfl_nil (ja_cons (jv_var (pv 7)) ja_nil))) (jg_seq rfl (jgs_cons (jg_name (i := 8) sc_law.nd rfl (Or.inl rfl) (h0 8)) chk_name (jgs_cons (jg_name (i := 9) sc_law.nd rfl (Or.inl rfl) (h0 9)) chk_name jgs_nil chk_nil) (chk_cons chk_name chk_nil)) (len_cons (len_cons len_nil))) chk_seq)
  (jss_cons (js_try rfl rfl sc_law.nd tk (fun W pn xe tk hp => (jss_one (js_set (i := 10) sc_law.nd rfl (Or.inl rfl) (jn_fr (jn_call (ok_parse_plan Fc) hT tk (hr.mono (by decide)) rfl Fc.g_parse_plan Fc.F_parse_plan.kp (bd_parse_plan Fc) .nil dfl_nil (ja_cons (jv_var (pv 7)) ja_nil))) (h0 10)))) (.cons ⟨rfl, by decide, .inl Fc.cm_InvalidNotation⟩ (.inr ⟨_, _, rfl, rfl, rfl, rfl⟩) (fun _ h => (Option.some.inj h) ▸ (h0 11)) (hT ▸ Fc.xq_0) (fun x a oe d pn hx hz hf => (jss_one (js_ret (jn_and (jn_isn (jv_var (pv 8)) (jv_of_jn jn_non)) (jn_one (jn_eq (have z := ru hr; z) (jv_exf hx hT hz hf (pv 11) Fc.n_line Fc.xq_1) (jv_var (pv 9)))))))) .nil))
  (jss_one (js_ret (jn_and (jn_notn (jv_var (pv 8)) (jv_of_jn jn_non)) (jn_and (jn_isi (T := "list") rfl Fc.b_isinstance rfl Fc.b_list (by decide +kernel) (jv_var (pv 10))) (jn_one (jn_eqS (jv_of_jn (jn_repr hG (ru hr) rfl Fc.b_repr (jv_var (pv 10)))) (jv_of_jn (jn_repr hG (ru hr) rfl Fc.b_repr (jv_var (pv 8)))))))))))))))))))))
end
end K49
end
namespace K49
open PySem PySem.Spec PyProof.Rows L2 PD
theorem facts {w : World} {K : PySem.W.Frag} {h : Heap} {mg : Str → Option Value} (X : K.In h) (G : h.Ns mainGlobals mg) (ci : SaysI faL fnL tsL exB gsL isL R.prog.main.file w h K) : ∃ Fc : Facts R.prog w K mg (tbK K), Fc.f_law = He.ga K "law" := by
  have c0 := ci.p
  have c := c0.x
  obtain ⟨d__law_row, F__law_row⟩ := c.t.d.def_ 0 (d := dd__law_row) rfl
  obtain ⟨d__law_numbers, F__law_numbers⟩ := c.t.d.def_ 1 (d := dd__law_numbers) rfl
  obtain ⟨d__law_names, F__law_names⟩ := c.t.d.def_ 2 (d := dd__law_names) rfl
  obtain ⟨d_plan_text, F_plan_text⟩ := c.t.d.def_ 3 (d := dd_plan_text) rfl
  obtain ⟨d__law_turned, F__law_turned⟩ := c.t.d.def_ 4 (d := dd__law_turned) rfl
  obtain ⟨d__law_is_name, F__law_is_name⟩ := c.t.d.def_ 5 (d := dd__law_is_name) rfl
  obtain ⟨d__law_due, F__law_due⟩ := c.t.d.def_ 6 (d := dd__law_due) rfl
  obtain ⟨d_is_name, F_is_name⟩ := c.t.d.def_ 7 (d := dd_is_name) rfl
  obtain ⟨d_parse_plan, F_parse_plan⟩ := c.t.d.def_ 8 (d := dd_parse_plan) rfl
  obtain ⟨d_law, F_law⟩ := c.t.d.def_ 9 (d := dd_law) rfl
  have q_InvalidNotation := InD.ini (P := R.prog) (mg := mg) (ci.get 0 (g := ii_InvalidNotation) rfl).1 (ci.get 0 (g := ii_InvalidNotation) rfl).2 (He.free_ok X G (c.t.d.fact 12 (f := .free "super") rfl)) top_sup
  have ex := c.more
  unfold exB at ex
  obtain ⟨e_xq0, ex⟩ := Bool.and_eq_true_iff.mp ex
  obtain ⟨e_xq1, ex⟩ := Bool.and_eq_true_iff.mp ex
  exact ⟨{
      f__law_row := _
      d__law_row := d__law_row
      F__law_row := F__law_row
      g__law_row := He.glo_ok X G (c.t.d.fact 0 (f := .glo "_law_row") rfl)
      f__law_numbers := _
      d__law_numbers := d__law_numbers
      F__law_numbers := F__law_numbers
      g__law_numbers := He.glo_ok X G (c.t.d.fact 1 (f := .glo "_law_numbers") rfl)
      f__law_names := _
      d__law_names := d__law_names
      F__law_names := F__law_names
      g__law_names := He.glo_ok X G (c.t.d.fact 2 (f := .glo "_law_names") rfl)
      f_plan_text := _
      d_plan_text := d_plan_text
      F_plan_text := F_plan_text
      g_plan_text := He.glo_ok X G (c.t.d.fact 3 (f := .glo "plan_text") rfl)
      f__law_turned := _
      d__law_turned := d__law_turned
      F__law_turned := F__law_turned
      g__law_turned := He.glo_ok X G (c.t.d.fact 4 (f := .glo "_law_turned") rfl)
      f__law_is_name := _
      d__law_is_name := d__law_is_name
      F__law_is_name := F__law_is_name
      g__law_is_name := He.glo_ok X G (c.t.d.fact 5 (f := .glo "_law_is_name") rfl)
      f__law_due := _
      d__law_due := d__law_due
      F__law_due := F__law_due
      g__law_due := He.glo_ok X G (c.t.d.fact 6 (f := .glo "_law_due") rfl)
      f_is_name := _
      d_is_name := d_is_name
      F_is_name := F_is_name
      g_is_name := He.glo_ok X G (c.t.d.fact 7 (f := .glo "is_name") rfl)
      f_parse_plan := _
      d_parse_plan := d_parse_plan
      F_parse_plan := F_parse_plan
      g_parse_plan := He.glo_ok X G (c.t.d.fact 8 (f := .glo "parse_plan") rfl)
      f_law := _
      d_law := d_law
      F_law := F_law
      g_law := He.glo_ok X G (c.t.d.fact 9 (f := .glo "law") rfl)
      C_InvalidNotation := He.ga K "InvalidNotation", ct_InvalidNotation := rfl, cm_InvalidNotation := He.glo_ok X G (c.t.d.fact 10 (f := .glo "InvalidNotation") rfl)
      C_WhoevermayError := He.ga K "WhoevermayError", ct_WhoevermayError := rfl, cm_WhoevermayError := He.glo_ok X G (c.t.d.fact 11 (f := .glo "WhoevermayError") rfl)
      fi_InvalidNotation := _, ic_InvalidNotation := q_InvalidNotation
      xq_0 := xmAll_ok e_xq0
      xq_1 := xfAll_ok e_xq1
      n_line := rfl
      b_abs := He.free_ok X G (c.t.d.fact 13 (f := .free "abs") rfl)
      b_all := He.free_ok X G (c.t.d.fact 14 (f := .free "all") rfl)
      b_enumerate := He.free_ok X G (c.t.d.fact 15 (f := .free "enumerate") rfl)
      b_int := He.free_ok X G (c.t.d.fact 16 (f := .free "int") rfl)
      b_isinstance := He.free_ok X G (c.t.d.fact 17 (f := .free "isinstance") rfl)
      b_len := He.free_ok X G (c.t.d.fact 18 (f := .free "len") rfl)
      b_list := He.free_ok X G (c.t.d.fact 19 (f := .free "list") rfl)
      b_max := He.free_ok X G (c.t.d.fact 20 (f := .free "max") rfl)
      b_min := He.free_ok X G (c.t.d.fact 21 (f := .free "min") rfl)
      b_range := He.free_ok X G (c.t.d.fact 22 (f := .free "range") rfl)
      b_repr := He.free_ok X G (c.t.d.fact 23 (f := .free "repr") rfl)
      b_super := He.free_ok X G (c.t.d.fact 12 (f := .free "super") rfl)
      b_tuple := He.free_ok X G (c.t.d.fact 24 (f := .free "tuple") rfl)
      c_MOST_NAME_CHARS := He.int_ok X G (c.t.d.fact 25 (f := .int "MOST_NAME_CHARS" 12) rfl)
      c_NAME_CHARS := He.str_ok X G (c.t.d.fact 26 (f := .str "NAME_CHARS" "abcdefghijklmnopqrstuvwxyz0123456789") rfl) }, rfl⟩
end K49
open PySem PySem.W PySem.Calls PyProof.Rows
theorem K49.closed (hF : ∀ ns : List Int, ns.length ≤ 63 → K49.F_law [.lst .frz (ns.map PD.D.int)] = .ok (.bl true)) : PySem.Challenge.rw_whoevermay_k49_texts_of_plans.Holds := by
  w_on; o_law
  refine HandSHeadRun.head_any (r := OpenLaw.row PySem.Challenge.rw_whoevermay_k49_texts_of_plans) (q := view (OpenLaw.row PySem.Challenge.rw_whoevermay_k49_texts_of_plans).prog [17]) (H := K49.hk) (ob := K49.ob) (M := 6000) (loose := K49.loose) (d := HandSHeadRun.topDef (OpenLaw.row PySem.Challenge.rw_whoevermay_k49_texts_of_plans).prog 17) (kwd := []) K49.ob_eq
    (by kernel_rfl) (fun s => by kernel_rfl) K49.run (by kernel_rfl) (by kernel_rfl) (by kernel_rfl) (by rfl) (by first | assumption | decide +kernel) (by decide +kernel) ⟨rfl, rfl, rfl, rfl, rfl, by decide +kernel⟩ ?hw ?hc
  case hw => w_witness2
  case hc =>
    refine PD.walk_ofG (l := PySem.Challenge.rw_whoevermay_k49_texts_of_plans) (k := 3) (x := "_law_script") rfl (by kernel_rfl) ⟨rfl, by decide, by decide⟩ ?F
    intro w mg fa h Y G hmg0
    obtain ⟨K, KX, c⟩ := Y
    have hmg : mg ("law" : PySem.Str) = some (.ref fa) := by
      have e : (HandSHeadRun.topDef (OpenLaw.row PySem.Challenge.rw_whoevermay_k49_texts_of_plans).prog 17).name = ("law" : PySem.Str) := by kernel_rfl
      rw [← e]
      exact hmg0
    obtain ⟨Fc, e⟩ := K49.facts KX G c
    have e2 := hmg.symm.trans Fc.g_law
    cases e2
    have b := L2.FunD.bindsA (ps := ["_law_script"]) Fc.F_law fun _ _ _ _ _ _ us hl => match us, hl with | [_], _ => rfl
    exact ⟨K, Fc.d_law, KX, fun s v => b s [v] rfl, fun base _ _ => PD.law_okG (K49.ok_law Fc) hF⟩
noncomputable section
namespace K49
open PySem PySem.Spec PyProof.Rows L2 PD
def tx0 : Tx := ['a', 'b', 'c', 'd', 'e', 'f', 'g', 'h', 'i', 'j', 'k', 'l', 'm', 'n', 'o', 'p', 'q', 'r', 's', 't', 'u', 'v', 'w', 'x', 'y', 'z', '0', '1', '2', '3', '4', '5', '6', '7', '8', '9']
def tx1 : Tx := ['a', 'b', 'c', 'd', 'e', 'f', 'g', 'h', 'i', 'j', 'k', 'l', 'm', 'n', 'o', 'p', 'q', 'r', 's', 't', 'u', 'v', 'w', 'x', 'y', 'z']
@[irreducible] def T__law_row (a_cell : Int) (a_many : Int) : Res (List Int) := kEnd (kLet (Res.ok ([] : (List Int))) fun (row_here_36 : (List Int)) => (kLet (Res.ok (if a_cell < 0 then -a_cell else a_cell)) fun (rest_37 : Int) => (kLet (Res.ok (((rest_37 * 48271) + (69621 : Int)) % 2147483647)) fun (mixed_38 : Int) => (kLet (rng1 a_many) fun (l50 : List Int) => kSeq (kFor (fun (i41 : Int) (s39 : (Int × (List Int) × Int)) => (kLet (Res.ok (((s39.1 * 16807) + (271 * (i41 + (3 : Int)))) % 2147483629)) fun (mixed_42 : Int) => (if (decide ((if a_cell < 0 then -a_cell else a_cell) ≥ (10 ^ 18))) = true then (kLet ((Res.ok (s39.2.2 % 1009)) >>= fun x45 => appL s39.2.1 x45) fun (row_here_43 : (List Int)) => (kLet (Res.ok (s39.2.2 / 1009)) fun (rest_44 : Int) => (TR.nx (mixed_42, row_here_43, rest_44)))) else (kLet ((Res.ok ((mixed_42 / 7) % 1009)) >>= fun x47 => appL s39.2.1 x47) fun (row_here_46 : (List Int)) => (TR.nx (mixed_42, row_here_46, s39.2.2)))))) l50 (mixed_38, row_here_36, rest_37)) fun (u48 : (Int × (List Int) × Int)) => (TR.rt u48.2.1)))))
theorem t__law_row (a_cell : Int) (a_many : Int) : Ev (F__law_row [eI a_cell, eI a_many]) (eL .own eI) (T__law_row a_cell a_many) := by
  unfold T__law_row
  refine fr_body (n := 2) (m := 6) (Rn := fun r _ => (eL .own eI) r = .non) (Rl := fun _ _ => True) rfl (fun _ _ h => h) ?_
  show SR (S__law_row [some (eI a_cell), some (eI a_many), none, none, none, none]) _ _ _ _ _
  unfold S__law_row
  refine sr_asg (e := (eL .own eI)) xt (ev_lst0 (e := eI)) rfl ?_
  intro row_here_36
  refine sr_env (E' := [some (eI a_cell), some (eI a_many), some ((eL .own eI) row_here_36), none, none, none]) rfl ?_
  refine sr_asg (e := eI) xt (ev_unp (ft := (fun a => Res.ok (if a < 0 then -a else a))) op_abs (ev_var (e := eI) (a := a_cell) rfl)) rfl ?_
  intro rest_37
  refine sr_env (E' := [some (eI a_cell), some (eI a_many), some ((eL .own eI) row_here_36), some (eI rest_37), none, none]) rfl ?_
  refine sr_asg (e := eI) xt (ev_bincp (ft := (fun a => Res.ok (a % 2147483647))) (fun a => op_modIc (2147483647) rfl a) (ev_dm (ev_unp (ft := (fun a => Res.ok a)) op_int (ev_dm (ev_binp (ft := (fun a b => Res.ok (a + b))) op_addI (ev_dm (ev_bincp (ft := (fun a => Res.ok (a * 48271))) (fun a => op_mulIc (48271) rfl a) (ev_var (e := eI) (a := rest_37) rfl) (ev_dm (ev_c (e := eI) (a := 48271) rfl)))) (ev_dm (ev_c (e := eI) (a := 69621) rfl)))))) (ev_dm (ev_c (e := eI) (a := 2147483647) rfl))) rfl ?_
  intro mixed_38
  refine sr_env (E' := [some (eI a_cell), some (eI a_many), some ((eL .own eI) row_here_36), some (eI rest_37), some (eI mixed_38), none]) rfl ?_
  refine sr_forF (fun (s39 : (Int × (List Int) × Int)) (o40 : Option D) => [some (eI a_cell), some (eI a_many), some ((eL .own eI) s39.2.1), some (eI s39.2.2), some (eI s39.1), o40]) (e := eI) (none) xt (ev_rng1p (ev_var (e := eI) (a := a_many) rfl)) rfl ?_ ?_
  · intro i41 s39 o40
    refine ⟨_, (ud_name (e := eI) (x := i41) rfl), ?_⟩
    refine sr_env (E' := [some (eI a_cell), some (eI a_many), some ((eL .own eI) s39.2.1), some (eI s39.2.2), some (eI s39.1), some (eI i41)]) rfl ?_
    refine sr_asg (e := eI) xt (ev_bincp (ft := (fun a => Res.ok (a % 2147483629))) (fun a => op_modIc (2147483629) rfl a) (ev_dm (ev_unp (ft := (fun a => Res.ok a)) op_int (ev_dm (ev_binp (ft := (fun a b => Res.ok (a + b))) op_addI (ev_dm (ev_bincp (ft := (fun a => Res.ok (a * 16807))) (fun a => op_mulIc (16807) rfl a) (ev_var (e := eI) (a := s39.1) rfl) (ev_dm (ev_c (e := eI) (a := 16807) rfl)))) (ev_dm (ev_bincpl (ft := (fun a => Res.ok (271 * a))) (fun a => op_mulcI (271) rfl a) (ev_dm (ev_c (e := eI) (a := 271) rfl)) (ev_dm (ev_binp (ft := (fun a b => Res.ok (a + b))) op_addI (ev_var (e := eI) (a := i41) rfl) (ev_dm (ev_c (e := eI) (a := 3) rfl)))))))))) (ev_dm (ev_c (e := eI) (a := 2147483629) rfl))) rfl ?_
    intro mixed_42
    refine sr_env (E' := [some (eI a_cell), some (eI a_many), some ((eL .own eI) s39.2.1), some (eI s39.2.2), some (eI mixed_42), some (eI i41)]) rfl ?_
    refine sr_last ?_
    refine sr_ifp (ev_b (ev_binp (ft := (fun a b => Res.ok (decide (a ≥ b)))) op_ge (ev_dm (ev_unp (ft := (fun a => Res.ok (if a < 0 then -a else a))) op_abs (ev_var (e := eI) (a := a_cell) rfl))) (ev_dm (ev_powc 10 18 18 rfl rfl (ev_dm (ev_c (e := eI) (a := 10) rfl)) (ev_dm (ev_c (e := eI) (a := 18) rfl)))))) ?_ ?_
    · refine sr_assoc ?_
      refine sr_app (e := eI) (xs := s39.2.1) xt rfl (ev_bincp (ft := (fun a => Res.ok (a % 1009))) (fun a => op_modIc (1009) rfl a) (ev_dm (ev_unp (ft := (fun a => Res.ok a)) op_int (ev_var (e := eI) (a := s39.2.2) rfl))) (ev_dm (ev_c (e := eI) (a := 1009) rfl))) ?_
      intro row_here_43
      refine sr_env (E' := [some (eI a_cell), some (eI a_many), some ((eL .own eI) row_here_43), some (eI s39.2.2), some (eI mixed_42), some (eI i41)]) rfl ?_
      refine sr_asg (e := eI) xt (ev_bincp (ft := (fun a => Res.ok (a / 1009))) (fun a => op_divIc (1009) rfl a) (ev_var (e := eI) (a := s39.2.2) rfl) (ev_dm (ev_c (e := eI) (a := 1009) rfl))) rfl ?_
      intro rest_44
      refine sr_env (E' := [some (eI a_cell), some (eI a_many), some ((eL .own eI) row_here_43), some (eI rest_44), some (eI mixed_42), some (eI i41)]) rfl ?_
      exact sr_nilF (some (eI i41)) rfl
    · refine sr_app (e := eI) (xs := s39.2.1) xt rfl (ev_bincp (ft := (fun a => Res.ok (a % 1009))) (fun a => op_modIc (1009) rfl a) (ev_dm (ev_unp (ft := (fun a => Res.ok a)) op_int (ev_dm (ev_bincp (ft := (fun a => Res.ok (a / 7))) (fun a => op_divIc (7) rfl a) (ev_var (e := eI) (a := mixed_42) rfl) (ev_dm (ev_c (e := eI) (a := 7) rfl)))))) (ev_dm (ev_c (e := eI) (a := 1009) rfl))) ?_
      intro row_here_46
      refine sr_env (E' := [some (eI a_cell), some (eI a_many), some ((eL .own eI) row_here_46), some (eI s39.2.2), some (eI mixed_42), some (eI i41)]) rfl ?_
      exact sr_nilF (some (eI i41)) rfl
  intro u48 o49
  refine sr_env (E' := [some (eI a_cell), some (eI a_many), some ((eL .own eI) u48.2.1), some (eI u48.2.2), some (eI u48.1), o49]) rfl ?_
  refine sr_last ?_
  exact sr_retV (i := 2) (e := (eL .own eI)) (a := u48.2.1) (b := u48.2.1) rfl rfl trivial
@[irreducible] def T__law_numbers (a_script : (List Int)) (a_many : Int) : Res (List Int) := kEnd (kLet (Res.ok (cutL a_script none (some (63 : Int)))) fun (cells_53 : (List Int)) => (kLet ((Res.ok (1 : Int)) >>= fun x54 => (divI a_many (if ((cells_53.length : Nat) : Int) > (1 : Int) then ((cells_53.length : Nat) : Int) else (1 : Int))) >>= fun x55 => (fun a b => Res.ok (a + b)) x54 x55) fun (each_56 : Int) => (kLet (Res.ok ([] : (List Int))) fun (numbers_here_57 : (List Int)) => (kLet (Res.ok cells_53) fun (l78 : List Int) => kSeq (kFor (fun (i60 : Int) (s58 : ((List Int))) => (kLet (T__law_row i60 each_56) fun (l68 : List Int) => kSeq (kFor (fun (i63 : Int) (s61 : ((List Int))) => (kLet ((Res.ok i63) >>= fun x65 => appL s61 x65) fun (numbers_here_64 : (List Int)) => (TR.nx numbers_here_64))) l68 s58) fun (u66 : ((List Int))) => (TR.nx u66))) l78 numbers_here_57) fun (u69 : ((List Int))) => (kSeq (kWhile (fun (s71 : ((List Int))) => (Res.ok (decide (((s71.length : Nat) : Int) < a_many)))) (fun (s71 : ((List Int))) => (kLet ((Res.ok (0 : Int)) >>= fun x75 => appL s71 x75) fun (numbers_here_74 : (List Int)) => (TR.nx numbers_here_74))) 100000 u69) fun (u76 : ((List Int))) => (kRet (Res.ok (cutL u76 none (some a_many)))))))))
theorem t__law_numbers (a_script : (List Int)) (a_many : Int) : Ev (F__law_numbers [(eL .frz eI) a_script, eI a_many]) (eL .own eI) (T__law_numbers a_script a_many) := by
  unfold T__law_numbers
  refine fr_body (n := 2) (m := 7) (Rn := fun r _ => (eL .own eI) r = .non) (Rl := fun _ _ => True) rfl (fun _ _ h => h) ?_
  show SR (S__law_numbers [some ((eL .frz eI) a_script), some (eI a_many), none, none, none, none, none]) _ _ _ _ _
  unfold S__law_numbers
  refine sr_asg (e := (eL .imm eI)) xt (ev_fr (ev_slp (ft := (fun a l h => Res.ok (cutL a l h))) op_slL (ev_var (e := (eL .frz eI)) (a := a_script) rfl) ev_o0 (ev_op (ev_dm (ev_c (e := eI) (a := 63) rfl))))) rfl ?_
  intro cells_53
  refine sr_env (E' := [some ((eL .frz eI) a_script), some (eI a_many), some ((eL .imm eI) cells_53), none, none, none, none]) rfl ?_
  refine sr_asg (e := eI) xt (ev_bin (ft := (fun a b => Res.ok (a + b))) op_addI (ev_dm (ev_c (e := eI) (a := 1) rfl)) (ev_dm (ev_binp (ft := divI) op_divI (ev_var (e := eI) (a := a_many) rfl) (ev_dm (ev_binp (ft := (fun a b => Res.ok (if b > a then b else a))) op_max (ev_dm (ev_c (e := eI) (a := 1) rfl)) (ev_dm (ev_unp (ft := (fun a => Res.ok ((List.length a : Nat) : Int))) op_lenL (ev_var (e := (eL .imm eI)) (a := cells_53) rfl)))))))) rfl ?_
  intro each_56
  refine sr_env (E' := [some ((eL .frz eI) a_script), some (eI a_many), some ((eL .imm eI) cells_53), some (eI each_56), none, none, none]) rfl ?_
  refine sr_asg (e := (eL .own eI)) xt (ev_lst0 (e := eI)) rfl ?_
  intro numbers_here_57
  refine sr_env (E' := [some ((eL .frz eI) a_script), some (eI a_many), some ((eL .imm eI) cells_53), some (eI each_56), some ((eL .own eI) numbers_here_57), none, none]) rfl ?_
  refine sr_forF (fun (s58 : ((List Int))) (o59 : Option D × Option D) => [some ((eL .frz eI) a_script), some (eI a_many), some ((eL .imm eI) cells_53), some (eI each_56), some ((eL .own eI) s58), o59.1, o59.2]) (e := eI) ((none, none)) xt (ev_itp (ft := (fun a => Res.ok a)) (op_it (by decide)) (ev_var (e := (eL .imm eI)) (a := cells_53) rfl)) rfl ?_ ?_
  · intro i60 s58 o59
    refine ⟨_, (ud_name (e := eI) (x := i60) rfl), ?_⟩
    refine sr_env (E' := [some ((eL .frz eI) a_script), some (eI a_many), some ((eL .imm eI) cells_53), some (eI each_56), some ((eL .own eI) s58), some (eI i60), o59.2]) rfl ?_
    refine sr_last ?_
    refine sr_forF (fun (s61 : ((List Int))) (o62 : Option D) => [some ((eL .frz eI) a_script), some (eI a_many), some ((eL .imm eI) cells_53), some (eI each_56), some ((eL .own eI) s61), some (eI i60), o62]) (e := eI) (o59.2) xt (ev_itI (op_it (by decide)) (ev_dm (ev_fr (ev_argsp (es := (pc eI (p1 eI))) (a := (i60, each_56)) (e2 := (eL .own eI)) (ft := T__law_row i60 each_56) (t__law_row i60 each_56) (ev_tconsp (ev_dm (ev_var (e := eI) (a := i60) rfl)) (ev_tone (ev_dm (ev_var (e := eI) (a := each_56) rfl)))))))) rfl ?_ ?_
    · intro i63 s61 o62
      refine ⟨_, (ud_name (e := eI) (x := i63) rfl), ?_⟩
      refine sr_env (E' := [some ((eL .frz eI) a_script), some (eI a_many), some ((eL .imm eI) cells_53), some (eI each_56), some ((eL .own eI) s61), some (eI i60), some (eI i63)]) rfl ?_
      refine sr_last ?_
      refine sr_app (e := eI) (xs := s61) xt rfl (ev_chk (ev_var (e := eI) (a := i63) rfl)) ?_
      intro numbers_here_64
      refine sr_env (E' := [some ((eL .frz eI) a_script), some (eI a_many), some ((eL .imm eI) cells_53), some (eI each_56), some ((eL .own eI) numbers_here_64), some (eI i60), some (eI i63)]) rfl ?_
      exact sr_nilF (some (eI i63)) rfl
    intro u66 o67
    refine sr_env (E' := [some ((eL .frz eI) a_script), some (eI a_many), some ((eL .imm eI) cells_53), some (eI each_56), some ((eL .own eI) u66), some (eI i60), o67]) rfl ?_
    exact sr_nilF ((some (eI i60), o67)) rfl
  intro u69 o70
  refine sr_env (E' := [some ((eL .frz eI) a_script), some (eI a_many), some ((eL .imm eI) cells_53), some (eI each_56), some ((eL .own eI) u69), o70.1, o70.2]) rfl ?_
  refine sr_whileF (fun (s71 : ((List Int))) (o72 : Unit) => [some ((eL .frz eI) a_script), some (eI a_many), some ((eL .imm eI) cells_53), some (eI each_56), some ((eL .own eI) s71), o70.1, o70.2]) (()) (fun _ _ => xt) rfl (fun (s71 : ((List Int))) (o72 : Unit) => (ev_b (ev_binp (ft := (fun a b => Res.ok (decide (a < b)))) op_lt (ev_dm (ev_unp (ft := (fun a => Res.ok ((List.length a : Nat) : Int))) op_lenL (ev_var (e := (eL .own eI)) (a := s71) rfl))) (ev_var (e := eI) (a := a_many) rfl)))) ?_ ?_
  · intro s71 o72
    refine sr_env (E' := [some ((eL .frz eI) a_script), some (eI a_many), some ((eL .imm eI) cells_53), some (eI each_56), some ((eL .own eI) s71), o70.1, o70.2]) rfl ?_
    refine sr_last ?_
    refine sr_app (e := eI) (xs := s71) xt rfl (ev_c (e := eI) (a := 0) rfl) ?_
    intro numbers_here_74
    refine sr_env (E' := [some ((eL .frz eI) a_script), some (eI a_many), some ((eL .imm eI) cells_53), some (eI each_56), some ((eL .own eI) numbers_here_74), o70.1, o70.2]) rfl ?_
    exact sr_nilF (()) rfl
  intro u76 o77
  refine sr_env (E' := [some ((eL .frz eI) a_script), some (eI a_many), some ((eL .imm eI) cells_53), some (eI each_56), some ((eL .own eI) u76), o70.1, o70.2]) rfl ?_
  refine sr_last ?_
  exact sr_ret xt (fun _ => trivial) (ev_slp (ft := (fun a l h => Res.ok (cutL a l h))) op_slL (ev_var (e := (eL .own eI)) (a := u76) rfl) ev_o0 (ev_op (ev_var (e := eI) (a := a_many) rfl)))
@[irreducible] def T__law_names (a_number : Int) (a_many : Int) : Res (List Tx) := kEnd (kLet (Res.ok tx0) fun (letters_142 : Tx) => (kLet (Res.ok (a_number % 11)) fun (size_143 : Int) => (kLet ((Res.ok ([] : Tx)) >>= fun x151 => ((rng1 size_143) >>= fun x150 => kLc x150 (fun (c144 : Int) => (Res.ok true)) (fun (c144 : Int) => ((Res.ok letters_142) >>= fun x148 => (((Res.ok a_number) >>= fun x145 => (mulI (7 * c144) c144) >>= fun x146 => (fun a b => Res.ok (a + b)) x145 x146) >>= fun x147 => (fun a => Res.ok (a % 36)) x147) >>= fun x149 => ixS x148 x149))) >>= fun x152 => joinG x151 x152) fun (rest_153 : Tx) => (kLet (modI (a_number / 11) (size_143 + (1 : Int))) fun (place_154 : Int) => (kLet (Res.ok ([] : (List Tx))) fun (names_here_155 : (List Tx)) => (kLet (rng1 a_many) fun (l211 : List Int) => kSeq (kFor (fun (i158 : Int) (s156 : ((List Tx))) => (kLet (Res.ok rest_153) fun (own_159 : Tx) => (kSeq (if (eqB (((a_number / 121) + i158) % 3) (0 : Int)) = true then (kLet ((Res.ok rest_153) >>= fun x162 => (Res.ok (some (1 : Int))) >>= fun x163 => (Res.ok none) >>= fun x164 => slS x162 x163 x164) fun (own_165 : Tx) => (TR.nx own_165)) else (TR.nx own_159)) fun (u160 : (Tx)) => (kLet ((Res.ok place_154) >>= fun x166 => (lenS u160) >>= fun x167 => (fun a b => Res.ok (if b < a then b else a)) x166 x167) fun (spot_168 : Int) => (kLet (Res.ok (5 : Int)) fun (step_169 : Int) => (kSeq (if (eqB ((a_number / 363) % 2) (1 : Int)) = true then (kLet (Res.ok (31 : Int)) fun (step_172 : Int) => (TR.nx step_172)) else (TR.nx step_169)) fun (u170 : (Int)) => (kLet (((((ixS letters_142 ((a_number + (3 * i158)) % 26)) >>= fun x176 => ((Res.ok u160) >>= fun x173 => (Res.ok none) >>= fun x174 => (Res.ok (some spot_168)) >>= fun x175 => slS x173 x174 x175) >>= fun x177 => addS x176 x177) >>= fun x183 => ((Res.ok letters_142) >>= fun x181 => (((Res.ok a_number) >>= fun x178 => (mulI u170 i158) >>= fun x179 => (fun a b => Res.ok (a + b)) x178 x179) >>= fun x180 => (fun a => Res.ok (a % 36)) x180) >>= fun x182 => ixS x181 x182) >>= fun x184 => addS x183 x184) >>= fun x188 => ((Res.ok u160) >>= fun x185 => (Res.ok (some spot_168)) >>= fun x186 => (Res.ok none) >>= fun x187 => slS x185 x186 x187) >>= fun x189 => addS x188 x189) >>= fun x208 => appL s156 x208) fun (names_here_207 : (List Tx)) => (TR.nx names_here_207)))))))) l211 names_here_155) fun (u209 : ((List Tx))) => (TR.rt u209)))))))
theorem t__law_names (a_number : Int) (a_many : Int) : Ev (F__law_names [eI a_number, eI a_many]) (eL .own eS) (T__law_names a_number a_many) := by
  unfold T__law_names
  refine fr_body (n := 2) (m := 11) (Rn := fun r _ => (eL .own eS) r = .non) (Rl := fun _ _ => True) rfl (fun _ _ h => h) ?_
  show SR (S__law_names [some (eI a_number), some (eI a_many), none, none, none, none, none, none, none, none, none]) _ _ _ _ _
  unfold S__law_names
  refine sr_asg (e := eS) xt (ev_c (e := eS) (a := tx0) rfl) rfl ?_
  intro letters_142
  refine sr_env (E' := [some (eI a_number), some (eI a_many), some (eS letters_142), none, none, none, none, none, none, none, none]) rfl ?_
  refine sr_asg (e := eI) xt (ev_bincp (ft := (fun a => Res.ok (a % 11))) (fun a => op_modIc (11) rfl a) (ev_dm (ev_unp (ft := (fun a => Res.ok a)) op_int (ev_var (e := eI) (a := a_number) rfl))) (ev_dm (ev_c (e := eI) (a := 11) rfl))) rfl ?_
  intro size_143
  refine sr_env (E' := [some (eI a_number), some (eI a_many), some (eS letters_142), some (eI size_143), none, none, none, none, none, none, none]) rfl ?_
  refine sr_asg (e := eS) xt (ev_binS (ft := joinG) op_join (ev_dm (ev_c (e := eS) (a := ([] : Tx)) rfl)) (ev_dm (ev_lc (e := eI) (e2 := eS) (e3 := eS) (tc := (fun (c144 : Int) => (Res.ok true))) (tb := (fun (c144 : Int) => ((Res.ok letters_142) >>= fun x148 => (((Res.ok a_number) >>= fun x145 => (mulI (7 * c144) c144) >>= fun x146 => (fun a b => Res.ok (a + b)) x145 x146) >>= fun x147 => (fun a => Res.ok (a % 36)) x147) >>= fun x149 => ixS x148 x149))) (ev_rng1p (ev_var (e := eI) (a := size_143) rfl)) (fun (c144 : Int) => ⟨_, (ud_name (e := eI) (x := c144) rfl), ev_yes, (ev_chk (ev_bin (ft := ixS) op_ixS (ev_var (e := eS) (a := letters_142) rfl) (ev_dm (ev_binc (ft := (fun a => Res.ok (a % 36))) (fun a => op_modIc (36) rfl a) (ev_dm (ev_unI op_int (ev_dm (ev_bin (ft := (fun a b => Res.ok (a + b))) op_addI (ev_var (e := eI) (a := a_number) rfl) (ev_dm (ev_binp (ft := mulI) op_mulI (ev_dm (ev_bincpl (ft := (fun a => Res.ok (7 * a))) (fun a => op_mulcI (7) rfl a) (ev_dm (ev_c (e := eI) (a := 7) rfl)) (ev_var (e := eI) (a := c144) rfl))) (ev_var (e := eI) (a := c144) rfl))))))) (ev_dm (ev_c (e := eI) (a := 36) rfl))))))⟩)))) rfl ?_
  intro rest_153
  refine sr_env (E' := [some (eI a_number), some (eI a_many), some (eS letters_142), some (eI size_143), some (eS rest_153), none, none, none, none, none, none]) rfl ?_
  refine sr_asg (e := eI) xt (ev_binp (ft := modI) op_modI (ev_dm (ev_bincp (ft := (fun a => Res.ok (a / 11))) (fun a => op_divIc (11) rfl a) (ev_var (e := eI) (a := a_number) rfl) (ev_dm (ev_c (e := eI) (a := 11) rfl)))) (ev_dm (ev_binp (ft := (fun a b => Res.ok (a + b))) op_addI (ev_var (e := eI) (a := size_143) rfl) (ev_dm (ev_c (e := eI) (a := 1) rfl))))) rfl ?_
  intro place_154
  refine sr_env (E' := [some (eI a_number), some (eI a_many), some (eS letters_142), some (eI size_143), some (eS rest_153), some (eI place_154), none, none, none, none, none]) rfl ?_
  refine sr_asg (e := (eL .own eS)) xt (ev_lst0 (e := eS)) rfl ?_
  intro names_here_155
  refine sr_env (E' := [some (eI a_number), some (eI a_many), some (eS letters_142), some (eI size_143), some (eS rest_153), some (eI place_154), some ((eL .own eS) names_here_155), none, none, none, none]) rfl ?_
  refine sr_forF (fun (s156 : ((List Tx))) (o157 : Option D × Option D × Option D × Option D) => [some (eI a_number), some (eI a_many), some (eS letters_142), some (eI size_143), some (eS rest_153), some (eI place_154), some ((eL .own eS) s156), o157.1, o157.2.1, o157.2.2.1, o157.2.2.2]) (e := eI) ((none, none, none, none)) xt (ev_rng1p (ev_var (e := eI) (a := a_many) rfl)) rfl ?_ ?_
  · intro i158 s156 o157
    refine ⟨_, (ud_name (e := eI) (x := i158) rfl), ?_⟩
    refine sr_env (E' := [some (eI a_number), some (eI a_many), some (eS letters_142), some (eI size_143), some (eS rest_153), some (eI place_154), some ((eL .own eS) s156), some (eI i158), o157.2.1, o157.2.2.1, o157.2.2.2]) rfl ?_
    refine sr_asgV (e := eS) xt (ev_var (e := eS) (a := rest_153) rfl) rfl ?_
    intro own_159
    refine sr_env (E' := [some (eI a_number), some (eI a_many), some (eS letters_142), some (eI size_143), some (eS rest_153), some (eI place_154), some ((eL .own eS) s156), some (eI i158), some (eS own_159), o157.2.2.1, o157.2.2.2]) rfl ?_
    refine sr_joinF (fun (u160 : (Tx)) (o161 : Unit) => [some (eI a_number), some (eI a_many), some (eS letters_142), some (eI size_143), some (eS rest_153), some (eI place_154), some ((eL .own eS) s156), some (eI i158), some (eS u160), o157.2.2.1, o157.2.2.2]) (sr_last ?_) ?_
    · refine sr_ifp (ev_b (ev_binp (ft := (fun a b => Res.ok (eqB a b))) (op_eq rfl rfl) (ev_dm (ev_bincp (ft := (fun a => Res.ok (a % 3))) (fun a => op_modIc (3) rfl a) (ev_dm (ev_unp (ft := (fun a => Res.ok a)) op_int (ev_dm (ev_binp (ft := (fun a b => Res.ok (a + b))) op_addI (ev_dm (ev_bincp (ft := (fun a => Res.ok (a / 121))) (fun a => op_divIc (121) rfl a) (ev_var (e := eI) (a := a_number) rfl) (ev_dm (ev_c (e := eI) (a := 121) rfl)))) (ev_var (e := eI) (a := i158) rfl))))) (ev_dm (ev_c (e := eI) (a := 3) rfl)))) (ev_dm (ev_c (e := eI) (a := 0) rfl)))) ?_ ?_
      · refine sr_asg (e := eS) xt (ev_fr (ev_sl (ft := slS) op_slS (ev_var (e := eS) (a := rest_153) rfl) (ev_op (ev_dm (ev_c (e := eI) (a := 1) rfl))) ev_o0)) rfl ?_
        intro own_165
        refine sr_env (E' := [some (eI a_number), some (eI a_many), some (eS letters_142), some (eI size_143), some (eS rest_153), some (eI place_154), some ((eL .own eS) s156), some (eI i158), some (eS own_165), o157.2.2.1, o157.2.2.2]) rfl ?_
        exact sr_nilF (()) rfl
      · refine sr_pass ?_
        exact sr_nilF (()) rfl
    intro u160 o161
    refine sr_env (E' := [some (eI a_number), some (eI a_many), some (eS letters_142), some (eI size_143), some (eS rest_153), some (eI place_154), some ((eL .own eS) s156), some (eI i158), some (eS u160), o157.2.2.1, o157.2.2.2]) rfl ?_
    refine sr_asg (e := eI) xt (ev_bin (ft := (fun a b => Res.ok (if b < a then b else a))) op_min (ev_var (e := eI) (a := place_154) rfl) (ev_dm (ev_unp (ft := lenS) op_lenS (ev_var (e := eS) (a := u160) rfl)))) rfl ?_
    intro spot_168
    refine sr_env (E' := [some (eI a_number), some (eI a_many), some (eS letters_142), some (eI size_143), some (eS rest_153), some (eI place_154), some ((eL .own eS) s156), some (eI i158), some (eS u160), some (eI spot_168), o157.2.2.2]) rfl ?_
    refine sr_asg (e := eI) xt (ev_c (e := eI) (a := 5) rfl) rfl ?_
    intro step_169
    refine sr_env (E' := [some (eI a_number), some (eI a_many), some (eS letters_142), some (eI size_143), some (eS rest_153), some (eI place_154), some ((eL .own eS) s156), some (eI i158), some (eS u160), some (eI spot_168), some (eI step_169)]) rfl ?_
    refine sr_joinF (fun (u170 : (Int)) (o171 : Unit) => [some (eI a_number), some (eI a_many), some (eS letters_142), some (eI size_143), some (eS rest_153), some (eI place_154), some ((eL .own eS) s156), some (eI i158), some (eS u160), some (eI spot_168), some (eI u170)]) (sr_last ?_) ?_
    · refine sr_ifp (ev_b (ev_binp (ft := (fun a b => Res.ok (eqB a b))) (op_eq rfl rfl) (ev_dm (ev_bincp (ft := (fun a => Res.ok (a % 2))) (fun a => op_modIc (2) rfl a) (ev_dm (ev_bincp (ft := (fun a => Res.ok (a / 363))) (fun a => op_divIc (363) rfl a) (ev_var (e := eI) (a := a_number) rfl) (ev_dm (ev_c (e := eI) (a := 363) rfl)))) (ev_dm (ev_c (e := eI) (a := 2) rfl)))) (ev_dm (ev_c (e := eI) (a := 1) rfl)))) ?_ ?_
      · refine sr_asg (e := eI) xt (ev_c (e := eI) (a := 31) rfl) rfl ?_
        intro step_172
        refine sr_env (E' := [some (eI a_number), some (eI a_many), some (eS letters_142), some (eI size_143), some (eS rest_153), some (eI place_154), some ((eL .own eS) s156), some (eI i158), some (eS u160), some (eI spot_168), some (eI step_172)]) rfl ?_
        exact sr_nilF (()) rfl
      · refine sr_pass ?_
        exact sr_nilF (()) rfl
    intro u170 o171
    refine sr_env (E' := [some (eI a_number), some (eI a_many), some (eS letters_142), some (eI size_143), some (eS rest_153), some (eI place_154), some ((eL .own eS) s156), some (eI i158), some (eS u160), some (eI spot_168), some (eI u170)]) rfl ?_
    refine sr_last ?_
    refine sr_app (e := eS) (xs := s156) xt rfl (ev_fr (ev_bin (ft := addS) op_addS (ev_dm (ev_bin (ft := addS) op_addS (ev_dm (ev_bin (ft := addS) op_addS (ev_binp (ft := ixS) op_ixS (ev_var (e := eS) (a := letters_142) rfl) (ev_dm (ev_bincp (ft := (fun a => Res.ok (a % 26))) (fun a => op_modIc (26) rfl a) (ev_dm (ev_unp (ft := (fun a => Res.ok a)) op_int (ev_dm (ev_binp (ft := (fun a b => Res.ok (a + b))) op_addI (ev_var (e := eI) (a := a_number) rfl) (ev_dm (ev_bincpl (ft := (fun a => Res.ok (3 * a))) (fun a => op_mulcI (3) rfl a) (ev_dm (ev_c (e := eI) (a := 3) rfl)) (ev_var (e := eI) (a := i158) rfl))))))) (ev_dm (ev_c (e := eI) (a := 26) rfl))))) (ev_dm (ev_sl (ft := slS) op_slS (ev_var (e := eS) (a := u160) rfl) ev_o0 (ev_op (ev_var (e := eI) (a := spot_168) rfl)))))) (ev_bin (ft := ixS) op_ixS (ev_var (e := eS) (a := letters_142) rfl) (ev_dm (ev_binc (ft := (fun a => Res.ok (a % 36))) (fun a => op_modIc (36) rfl a) (ev_dm (ev_unI op_int (ev_dm (ev_bin (ft := (fun a b => Res.ok (a + b))) op_addI (ev_var (e := eI) (a := a_number) rfl) (ev_dm (ev_binp (ft := mulI) op_mulI (ev_var (e := eI) (a := u170) rfl) (ev_var (e := eI) (a := i158) rfl))))))) (ev_dm (ev_c (e := eI) (a := 36) rfl))))))) (ev_dm (ev_sl (ft := slS) op_slS (ev_var (e := eS) (a := u160) rfl) (ev_op (ev_var (e := eI) (a := spot_168) rfl)) ev_o0)))) ?_
    intro names_here_207
    refine sr_env (E' := [some (eI a_number), some (eI a_many), some (eS letters_142), some (eI size_143), some (eS rest_153), some (eI place_154), some ((eL .own eS) names_here_207), some (eI i158), some (eS u160), some (eI spot_168), some (eI u170)]) rfl ?_
    exact sr_nilF ((some (eI i158), some (eS u160), some (eI spot_168), some (eI u170))) rfl
  intro u209 o210
  refine sr_env (E' := [some (eI a_number), some (eI a_many), some (eS letters_142), some (eI size_143), some (eS rest_153), some (eI place_154), some ((eL .own eS) u209), o210.1, o210.2.1, o210.2.2.1, o210.2.2.2]) rfl ?_
  refine sr_last ?_
  exact sr_retV (i := 6) (e := (eL .own eS)) (a := u209) (b := u209) rfl rfl trivial
@[irreducible] def T_plan_text (actions : (List (Tx × Tx × (Option Tx)))) : Res Tx := kEnd (kLet (Res.ok ([] : (List Tx))) fun (lines_73 : (List Tx)) => (kLet (Res.ok actions) fun (l81 : List (Tx × Tx × (Option Tx))) => kSeq (kFor (fun (i76 : (Tx × Tx × (Option Tx))) (s74 : ((List Tx))) => (kLet ((if i76.2.2.isNone = true then (fmtT [(Res.ok i76.1), (Res.ok ([' '] : Tx)), (Res.ok i76.2.1)] []) else (fmtT [(Res.ok i76.1), (Res.ok ([' '] : Tx)), (Res.ok i76.2.1), (Res.ok ([' '] : Tx)), ((Res.ok i76.2.2) >>= getO)] [])) >>= fun x78 => appL s74 x78) fun (lines_77 : (List Tx)) => (TR.nx lines_77))) l81 lines_73) fun (u79 : ((List Tx))) => (kRet (joinG (['\n'] : Tx) u79))))
theorem t_plan_text (actions : (List (Tx × Tx × (Option Tx)))) : Ev (F_plan_text [(eL .imm (eT (pc eS (pc eS (p1 (eO eS)))))) actions]) eS (T_plan_text actions) := by
  unfold T_plan_text
  refine fr_body (n := 1) (m := 5) (Rn := fun r _ => eS r = .non) (Rl := fun _ _ => True) rfl (fun _ _ h => h) ?_
  show SR (S_plan_text [some ((eL .imm (eT (pc eS (pc eS (p1 (eO eS)))))) actions), none, none, none, none]) _ _ _ _ _
  unfold S_plan_text
  refine sr_asg (e := (eL .own eS)) xt (ev_lst0 (e := eS)) rfl ?_
  intro lines_73
  refine sr_forF (fun (s74 : ((List Tx))) (o75 : Option D × Option D × Option D) => [some ((eL .imm (eT (pc eS (pc eS (p1 (eO eS)))))) actions), some ((eL .own eS) s74), o75.1, o75.2.1, o75.2.2]) (e := (eT (pc eS (pc eS (p1 (eO eS)))))) ((none, none, none)) xt (ev_itp (ft := (fun a => Res.ok a)) (op_it (by decide)) (ev_var (e := (eL .imm (eT (pc eS (pc eS (p1 (eO eS))))))) (a := actions) rfl)) rfl ?_ ?_
  · intro i76 s74 o75
    refine ⟨_, (ud_tup (es := (pc eS (pc eS (p1 (eO eS))))) (x := i76) (ud_cons (ud_name (e := eS) (x := i76.1) rfl) (ud_cons (ud_name (e := eS) (x := i76.2.1) rfl) (ud_one (ud_name (e := (eO eS)) (x := i76.2.2) rfl))))), ?_⟩
    refine sr_last ?_
    refine sr_app (e := eS) (xs := s74) xt rfl (ev_fr (ev_ifp (ev_b (ev_binp (ft := (fun a _ => Res.ok (Option.isNone a))) op_is (ev_var (e := (eO eS)) (a := i76.2.2) rfl) (ev_dm (ev_c (e := eN) (a := ()) rfl)))) (ev_fstr (.fmt (ev_var (e := eS) (a := i76.1) rfl) (.con (ev_dm (ev_c (e := eS) (a := ([' '] : Tx)) rfl)) (.fmt (ev_var (e := eS) (a := i76.2.1) rfl) .nil)))) (ev_fstr (.fmt (ev_var (e := eS) (a := i76.1) rfl) (.con (ev_dm (ev_c (e := eS) (a := ([' '] : Tx)) rfl)) (.fmt (ev_var (e := eS) (a := i76.2.1) rfl) (.con (ev_dm (ev_c (e := eS) (a := ([' '] : Tx)) rfl)) (.fmt (Ev.getO (ev_var (e := (eO eS)) (a := i76.2.2) rfl)) .nil)))))))) ?_
    intro lines_77
    exact sr_nilF ((some (eS i76.1), some (eS i76.2.1), some ((eO eS) i76.2.2))) rfl
  intro u79 o80
  refine sr_last ?_
  exact sr_ret xt (fun _ => trivial) (ev_binSp (ft := joinG) op_join (ev_dm (ev_c (e := eS) (a := (['\n'] : Tx)) rfl)) (ev_var (e := (eL .own eS)) (a := u79) rfl))
@[irreducible] def T__law_turned_2 (a_numbers_here : (List Int)) (a_at : Int) (a_lines : (List Tx)) : Res (List Tx) := kEnd (kLet ((ixL a_numbers_here a_at) >>= fun x144 => (Res.ok ((a_lines.length : Nat) : Int)) >>= fun x145 => modI x144 x145) fun (place_146 : Int) => (kLet (ixL a_lines place_146) fun (line_147 : Tx) => (kLet (((addS line_147 ([' ', 'x'] : Tx)) >>= fun x162 => ((addS line_147 ([' '] : Tx)) >>= fun x160 => ((addS ([' '] : Tx) line_147) >>= fun x158 => (((replG ' ' [' ', ' ']) line_147) >>= fun x156 => (((splitG ' ' line_147) >>= fun x148 => (Res.ok (0 : Int)) >>= fun x149 => ixL x148 x149) >>= fun x154 => ((Res.ok ([] : Tx)) >>= fun x152 => ((addS line_147 ([' ', 'A'] : Tx)) >>= fun x150 => (addS line_147 (['_'] : Tx)) >>= fun x151 => Res.ok (x150, x151)) >>= fun x153 => Res.ok (x152, x153)) >>= fun x155 => Res.ok (x154, x155)) >>= fun x157 => Res.ok (x156, x157)) >>= fun x159 => Res.ok (x158, x159)) >>= fun x161 => Res.ok (x160, x161)) >>= fun x163 => Res.ok (x162, x163)) >>= fun a => Res.ok [a.1, a.2.1, a.2.2.1, a.2.2.2.1, a.2.2.2.2.1, a.2.2.2.2.2.1, a.2.2.2.2.2.2.1, a.2.2.2.2.2.2.2]) fun (turned_here_164 : (List Tx)) => (kLet ((Res.ok turned_here_164) >>= fun x173 => (((addS (['1'] : Tx) line_147) >>= fun x171 => ((addS line_147 (['0', '0', '0', '0', '0', '0', '0', '0', '0', '0', '0', '0', '0'] : Tx)) >>= fun x169 => ((addS line_147 ([' ', 'x', ' ', 'y'] : Tx)) >>= fun x167 => (((replG 'a' ['A']) line_147) >>= fun x165 => (addS line_147 (['\t'] : Tx)) >>= fun x166 => Res.ok (x165, x166)) >>= fun x168 => Res.ok (x167, x168)) >>= fun x170 => Res.ok (x169, x170)) >>= fun x172 => Res.ok (x171, x172)) >>= fun a => Res.ok [a.1, a.2.1, a.2.2.1, a.2.2.2.1, a.2.2.2.2]) >>= fun x174 => (fun a b => lim (a ++ b)) x173 x174) fun (turned_here_175 : (List Tx)) => (kRet (((Res.ok (cutL a_lines none (some place_146))) >>= fun x182 => ((((Res.ok turned_here_175) >>= fun x178 => (((ixL a_numbers_here a_at) >>= fun x176 => (fun a => Res.ok (a / 9)) x176) >>= fun x177 => (fun a => Res.ok (a % 13)) x177) >>= fun x179 => ixL x178 x179) >>= fun x180 => (Res.ok ([] : List Tx)) >>= fun x181 => Res.ok (x180 :: x181)) >>= lim) >>= fun x183 => (fun a b => lim (a ++ b)) x182 x183) >>= fun x184 => (Res.ok (cutL a_lines (some (place_146 + (1 : Int))) none)) >>= fun x185 => (fun a b => lim (a ++ b)) x184 x185))))))
theorem t__law_turned_2 (a_numbers_here : (List Int)) (a_at : Int) (a_lines : (List Tx)) : Ev (F__law_turned [(eL .imm eI) a_numbers_here, eI a_at, (eL .imm eS) a_lines]) (eL .own eS) (T__law_turned_2 a_numbers_here a_at a_lines) := by
  unfold T__law_turned_2
  refine fr_body (n := 3) (m := 6) (Rn := fun r _ => (eL .own eS) r = .non) (Rl := fun _ _ => True) rfl (fun _ _ h => h) ?_
  show SR (S__law_turned [some ((eL .imm eI) a_numbers_here), some (eI a_at), some ((eL .imm eS) a_lines), none, none, none]) _ _ _ _ _
  unfold S__law_turned
  refine sr_asg (e := eI) xt (ev_bin (ft := modI) op_modI (ev_dm (ev_unI op_int (ev_binp (ft := ixL) op_ixL (ev_var (e := (eL .imm eI)) (a := a_numbers_here) rfl) (ev_var (e := eI) (a := a_at) rfl)))) (ev_dm (ev_unp (ft := (fun a => Res.ok ((List.length a : Nat) : Int))) op_lenL (ev_var (e := (eL .imm eS)) (a := a_lines) rfl)))) rfl ?_
  intro place_146
  refine sr_env (E' := [some ((eL .imm eI) a_numbers_here), some (eI a_at), some ((eL .imm eS) a_lines), some (eI place_146), none, none]) rfl ?_
  refine sr_asgV (e := eS) xt (ev_binp (ft := ixL) op_ixL (ev_var (e := (eL .imm eS)) (a := a_lines) rfl) (ev_var (e := eI) (a := place_146) rfl)) rfl ?_
  intro line_147
  refine sr_env (E' := [some ((eL .imm eI) a_numbers_here), some (eI a_at), some ((eL .imm eS) a_lines), some (eI place_146), some (eS line_147), none]) rfl ?_
  refine sr_asg (e := (eTL eS)) xt (Ev.co (g := (eT (pc eS (pc eS (pc eS (pc eS (pc eS (pc eS (pc eS (p1 eS)))))))))) (g' := (eTL eS)) (fun a => [a.1, a.2.1, a.2.2.1, a.2.2.2.1, a.2.2.2.2.1, a.2.2.2.2.2.1, a.2.2.2.2.2.2.1, a.2.2.2.2.2.2.2]) (fun _ => rfl) (ev_fr (ev_tup (ev_tcons (ev_fr (ev_binp (ft := addS) op_addS (ev_var (e := eS) (a := line_147) rfl) (ev_dm (ev_c (e := eS) (a := ([' ', 'x'] : Tx)) rfl)))) (ev_tcons (ev_fr (ev_binp (ft := addS) op_addS (ev_var (e := eS) (a := line_147) rfl) (ev_dm (ev_c (e := eS) (a := ([' '] : Tx)) rfl)))) (ev_tcons (ev_fr (ev_binp (ft := addS) op_addS (ev_dm (ev_c (e := eS) (a := ([' '] : Tx)) rfl)) (ev_var (e := eS) (a := line_147) rfl))) (ev_tcons (ev_fr (ev_unp (ft := (replG ' ' [' ', ' '])) (fun t => op_repl ' ' [' ', ' '] rfl rfl t) (ev_var (e := eS) (a := line_147) rfl))) (ev_tcons (ev_fr (ev_chk (ev_bin (ft := ixL) op_ixL (ev_dm (ev_splitp (op_split ' ' rfl) (ev_var (e := eS) (a := line_147) rfl) (ev_dm (ev_c (e := eS) (a := ([' '] : Tx)) rfl)))) (ev_dm (ev_c (e := eI) (a := 0) rfl))))) (ev_tcons (ev_fr (ev_c (e := eS) (a := ([] : Tx)) rfl)) (ev_tcons (ev_fr (ev_binp (ft := addS) op_addS (ev_var (e := eS) (a := line_147) rfl) (ev_dm (ev_c (e := eS) (a := ([' ', 'A'] : Tx)) rfl)))) (ev_tone (ev_fr (ev_binp (ft := addS) op_addS (ev_var (e := eS) (a := line_147) rfl) (ev_dm (ev_c (e := eS) (a := (['_'] : Tx)) rfl)))))))))))) rfl))) rfl ?_
  intro turned_here_164
  refine sr_env (E' := [some ((eL .imm eI) a_numbers_here), some (eI a_at), some ((eL .imm eS) a_lines), some (eI place_146), some (eS line_147), some ((eTL eS) turned_here_164)]) rfl ?_
  refine sr_asg (e := (eTL eS)) xt (ev_fr (ev_bin (ft := (fun a b => lim (a ++ b))) op_addTL (ev_var (e := (eTL eS)) (a := turned_here_164) rfl) (Ev.co (g := (eT (pc eS (pc eS (pc eS (pc eS (p1 eS))))))) (g' := (eTL eS)) (fun a => [a.1, a.2.1, a.2.2.1, a.2.2.2.1, a.2.2.2.2]) (fun _ => rfl) (ev_dm (ev_tup (ev_tcons (ev_fr (ev_binp (ft := addS) op_addS (ev_dm (ev_c (e := eS) (a := (['1'] : Tx)) rfl)) (ev_var (e := eS) (a := line_147) rfl))) (ev_tcons (ev_fr (ev_binp (ft := addS) op_addS (ev_var (e := eS) (a := line_147) rfl) (ev_dm (ev_c (e := eS) (a := (['0', '0', '0', '0', '0', '0', '0', '0', '0', '0', '0', '0', '0'] : Tx)) rfl)))) (ev_tcons (ev_fr (ev_binp (ft := addS) op_addS (ev_var (e := eS) (a := line_147) rfl) (ev_dm (ev_c (e := eS) (a := ([' ', 'x', ' ', 'y'] : Tx)) rfl)))) (ev_tcons (ev_fr (ev_unp (ft := (replG 'a' ['A'])) (fun t => op_repl 'a' ['A'] rfl rfl t) (ev_var (e := eS) (a := line_147) rfl))) (ev_tone (ev_fr (ev_binp (ft := addS) op_addS (ev_var (e := eS) (a := line_147) rfl) (ev_dm (ev_c (e := eS) (a := (['\t'] : Tx)) rfl))))))))) rfl))))) rfl ?_
  intro turned_here_175
  refine sr_env (E' := [some ((eL .imm eI) a_numbers_here), some (eI a_at), some ((eL .imm eS) a_lines), some (eI place_146), some (eS line_147), some ((eTL eS) turned_here_175)]) rfl ?_
  refine sr_last ?_
  exact sr_ret xt (fun _ => trivial) (ev_bin (ft := (fun a b => lim (a ++ b))) (op_addL (by decide) (by decide)) (ev_dm (ev_bin (ft := (fun a b => lim (a ++ b))) (op_addL (by decide) (by decide)) (ev_dm (ev_slp (ft := (fun a l h => Res.ok (cutL a l h))) op_slL (ev_var (e := (eL .imm eS)) (a := a_lines) rfl) ev_o0 (ev_op (ev_var (e := eI) (a := place_146) rfl)))) (ev_dm (ev_lst (ev_cons (ev_fr (ev_chk (ev_bin (ft := ixL) op_ixTL (ev_var (e := (eTL eS)) (a := turned_here_175) rfl) (ev_dm (ev_binc (ft := (fun a => Res.ok (a % 13))) (fun a => op_modIc (13) rfl a) (ev_dm (ev_binc (ft := (fun a => Res.ok (a / 9))) (fun a => op_divIc (9) rfl a) (ev_binp (ft := ixL) op_ixL (ev_var (e := (eL .imm eI)) (a := a_numbers_here) rfl) (ev_var (e := eI) (a := a_at) rfl)) (ev_dm (ev_c (e := eI) (a := 9) rfl)))) (ev_dm (ev_c (e := eI) (a := 13) rfl))))))) (ev_nil (e := eS))))))) (ev_dm (ev_slp (ft := (fun a l h => Res.ok (cutL a l h))) op_slL (ev_var (e := (eL .imm eS)) (a := a_lines) rfl) (ev_op (ev_dm (ev_binp (ft := (fun a b => Res.ok (a + b))) op_addI (ev_var (e := eI) (a := place_146) rfl) (ev_dm (ev_c (e := eI) (a := 1) rfl))))) ev_o0)))
@[irreducible] def T__law_is_name (a_word : Tx) : Res Bool := kEnd (kIf (kOr ((lenS a_word) >>= fun x97 => (Res.ok (1 : Int)) >>= fun x98 => (fun a b => Res.ok (decide (a < b))) x97 x98) (kOr ((lenS a_word) >>= fun x99 => (Res.ok (12 : Int)) >>= fun x100 => (fun a b => Res.ok (decide (a > b))) x99 x100) ((ixS a_word (0 : Int)) >>= fun x101 => (Res.ok tx1) >>= fun x102 => (fun a b => Res.ok (!inS a b)) x101 x102))) (kRet (Res.ok false)) (kLet (Res.ok (chT a_word)) fun (l108 : List Tx) => kSeq (kFor (fun (i105 : Tx) (s103 : Unit) => (if (!inS i105 tx0) = true then (kRet (Res.ok false)) else (TR.nx ()))) l108 ()) fun (u106 : Unit) => (kRet (Res.ok true))))
theorem t__law_is_name (a_word : Tx) : Ev (F__law_is_name [eS a_word]) eB (T__law_is_name a_word) := by
  unfold T__law_is_name
  refine fr_body (n := 1) (m := 2) (Rn := fun r _ => eB r = .non) (Rl := fun _ _ => True) rfl (fun _ _ h => h) ?_
  show SR (S__law_is_name [some (eS a_word), none]) _ _ _ _ _
  unfold S__law_is_name
  refine sr_if xt (ev_or (ev_b (ev_bin (ft := (fun a b => Res.ok (decide (a < b)))) op_lt (ev_dm (ev_unp (ft := lenS) op_lenS (ev_var (e := eS) (a := a_word) rfl))) (ev_dm (ev_c (e := eI) (a := 1) rfl)))) (ev_or (ev_b (ev_bin (ft := (fun a b => Res.ok (decide (a > b)))) op_gt (ev_dm (ev_unp (ft := lenS) op_lenS (ev_var (e := eS) (a := a_word) rfl))) (ev_dm (ev_c (e := eI) (a := 12) rfl)))) (ev_b (ev_bin (ft := (fun a b => Res.ok (!inS a b))) op_ninS (ev_binp (ft := ixS) op_ixS (ev_var (e := eS) (a := a_word) rfl) (ev_dm (ev_c (e := eI) (a := 0) rfl))) (ev_dm (ev_c (e := eS) (a := tx1) rfl)))))) ?_ ?_
  · exact sr_ret xt (fun _ => trivial) (ev_c (e := eB) (a := false) rfl)
  · refine sr_pass ?_
    refine sr_forF (fun (s103 : Unit) (o104 : Option D) => [some (eS a_word), o104]) (e := eS) (none) xt (ev_itp (ft := (fun a => Res.ok (chT a))) op_itS (ev_var (e := eS) (a := a_word) rfl)) rfl ?_ ?_
    · intro i105 s103 o104
      refine ⟨_, (ud_name (e := eS) (x := i105) rfl), ?_⟩
      refine sr_last ?_
      refine sr_ifp (ev_b (ev_binp (ft := (fun a b => Res.ok (!inS a b))) op_ninS (ev_var (e := eS) (a := i105) rfl) (ev_dm (ev_c (e := eS) (a := tx0) rfl)))) ?_ ?_
      · exact sr_ret xt (fun _ => trivial) (ev_c (e := eB) (a := false) rfl)
      · refine sr_pass ?_
        exact sr_nilF (some (eS i105)) rfl
    intro u106 o107
    refine sr_last ?_
    exact sr_ret xt (fun _ => trivial) (ev_c (e := eB) (a := true) rfl)
@[irreducible] def T__law_due (a_text : Tx) : Res ((Option (List (Bool × List (Option Tx)))) × (Option Int)) := kEnd (kLet (Res.ok ([] : (List (List (Option Tx))))) fun (actions_148 : (List (List (Option Tx)))) => (if (eqB a_text ([] : Tx)) = true then (kRet (Res.ok ((some (List.map (fun y => (false, y)) actions_148)), none))) else (kLet (splitG '\n' a_text) fun (lines_149 : (List Tx)) => (kLet (rng1 ((lines_149.length : Nat) : Int)) fun (l173 : List Int) => kSeq (kFor (fun (i152 : Int) (s150 : ((List (List (Option Tx))))) => (kLet ((ixL lines_149 i152) >>= fun a => splitG ' ' a) fun (words_153 : (List Tx)) => (if ((decide (((words_153.length : Nat) : Int) < (2 : Int))) || (decide (((words_153.length : Nat) : Int) > (3 : Int)))) = true then (kRet (Res.ok (none, (some (i152 + (1 : Int)))))) else (kLet (Res.ok words_153) fun (l167 : List Tx) => kSeq (kFor (fun (i156 : Tx) (s154 : Unit) => (kIf (kNot (T__law_is_name i156)) (kRet (Res.ok (none, (some (i152 + (1 : Int)))))) (TR.nx ()))) l167 ()) fun (u157 : Unit) => (kLet ((((fun a b => lim (a ++ b)) (List.map (fun y => (some y)) words_153) (List.map (fun y => none) [()])) >>= fun x159 => (Res.ok none) >>= fun x160 => (Res.ok (some (3 : Int))) >>= fun x161 => (fun a l h => Res.ok (cutL a l h)) x159 x160 x161) >>= fun x166 => appL s150 x166) fun (actions_165 : (List (List (Option Tx)))) => (TR.nx actions_165)))))) l173 actions_148) fun (u168 : ((List (List (Option Tx))))) => (kRet (((kLc u168 (fun (c170 : (List (Option Tx))) => (Res.ok true)) (fun (c170 : (List (Option Tx))) => (Res.ok c170))) >>= fun a => Res.ok (some (List.map (fun y => (true, y)) a))) >>= fun x171 => (Res.ok none) >>= fun x172 => Res.ok (x171, x172)))))))
theorem t__law_due (a_text : Tx) : Ev (F__law_due [eS a_text]) (eT (pc (eO (eL .imm (eQ .imm (eO eS)))) (p1 (eO eI)))) (T__law_due a_text) := by
  unfold T__law_due
  refine fr_body (n := 1) (m := 7) (Rn := fun r _ => (eT (pc (eO (eL .imm (eQ .imm (eO eS)))) (p1 (eO eI)))) r = .non) (Rl := fun _ _ => True) rfl (fun _ _ h => h) ?_
  show SR (S__law_due [some (eS a_text), none, none, none, none, none, none]) _ _ _ _ _
  unfold S__law_due
  refine sr_asg (e := (eL .own (eL .imm (eO eS)))) xt (ev_lst0 (e := (eL .imm (eO eS)))) rfl ?_
  intro actions_148
  refine sr_env (E' := [some (eS a_text), some ((eL .own (eL .imm (eO eS))) actions_148), none, none, none, none, none]) rfl ?_
  refine sr_ifp (ev_b (ev_binp (ft := (fun a b => Res.ok (eqB a b))) (op_eq rfl rfl) (ev_var (e := eS) (a := a_text) rfl) (ev_dm (ev_c (e := eS) (a := ([] : Tx)) rfl)))) ?_ ?_
  · refine sr_frz (i := 1) (e := (eL .own (eL .imm (eO eS)))) (a := actions_148) rfl ?_
    exact sr_ret xt (fun _ => trivial) (ev_tup (ev_tconsp (Ev.coP (g := (eL .imm (eL .imm (eO eS)))) (g' := (eO (eL .imm (eQ .imm (eO eS))))) (fun a => (some (List.map (fun y => (false, y)) a))) (fun a => co_L (e := (eL .imm (eO eS))) (e' := (eQ .imm (eO eS))) (c := fun y => (false, y)) (fun _ => rfl) a) (ev_fr (ev_chk (ev_var (e := (eL .imm (eL .imm (eO eS)))) (a := actions_148) rfl)))) (ev_tone (Ev.coP (g := eN) (g' := (eO eI)) (fun a => none) (fun _ => rfl) (ev_fr (ev_c (e := eN) (a := ()) rfl))))) rfl)
  · refine sr_pass ?_
    refine sr_asg (e := (eL .imm eS)) xt (ev_fr (ev_splitp (op_split '\n' rfl) (ev_var (e := eS) (a := a_text) rfl) (ev_dm (ev_c (e := eS) (a := (['\n'] : Tx)) rfl)))) rfl ?_
    intro lines_149
    refine sr_env (E' := [some (eS a_text), some ((eL .own (eL .imm (eO eS))) actions_148), some ((eL .imm eS) lines_149), none, none, none, none]) rfl ?_
    refine sr_forF (fun (s150 : ((List (List (Option Tx))))) (o151 : Option D × Option D × Option D) => [some (eS a_text), some ((eL .own (eL .imm (eO eS))) s150), some ((eL .imm eS) lines_149), o151.1, o151.2.1, o151.2.2, none]) (e := eI) ((none, none, none)) xt (ev_rng1p (ev_dm (ev_unp (ft := (fun a => Res.ok ((List.length a : Nat) : Int))) op_lenL (ev_var (e := (eL .imm eS)) (a := lines_149) rfl)))) rfl ?_ ?_
    · intro i152 s150 o151
      refine ⟨_, (ud_name (e := eI) (x := i152) rfl), ?_⟩
      refine sr_env (E' := [some (eS a_text), some ((eL .own (eL .imm (eO eS))) s150), some ((eL .imm eS) lines_149), some (eI i152), o151.2.1, o151.2.2, none]) rfl ?_
      refine sr_asg (e := (eL .imm eS)) xt (ev_fr (ev_split (op_split ' ' rfl) (ev_binp (ft := ixL) op_ixL (ev_var (e := (eL .imm eS)) (a := lines_149) rfl) (ev_var (e := eI) (a := i152) rfl)) (ev_dm (ev_c (e := eS) (a := ([' '] : Tx)) rfl)))) rfl ?_
      intro words_153
      refine sr_env (E' := [some (eS a_text), some ((eL .own (eL .imm (eO eS))) s150), some ((eL .imm eS) lines_149), some (eI i152), some ((eL .imm eS) words_153), o151.2.2, none]) rfl ?_
      refine sr_ifp (ev_orp (ev_b (ev_binp (ft := (fun a b => Res.ok (decide (a < b)))) op_lt (ev_dm (ev_unp (ft := (fun a => Res.ok ((List.length a : Nat) : Int))) op_lenL (ev_var (e := (eL .imm eS)) (a := words_153) rfl))) (ev_dm (ev_c (e := eI) (a := 2) rfl)))) (ev_b (ev_binp (ft := (fun a b => Res.ok (decide (a > b)))) op_gt (ev_dm (ev_unp (ft := (fun a => Res.ok ((List.length a : Nat) : Int))) op_lenL (ev_var (e := (eL .imm eS)) (a := words_153) rfl))) (ev_dm (ev_c (e := eI) (a := 3) rfl))))) ?_ ?_
      · exact sr_ret xt (fun _ => trivial) (ev_tup (ev_tconsp (Ev.coP (g := eN) (g' := (eO (eL .imm (eQ .imm (eO eS))))) (fun a => none) (fun _ => rfl) (ev_fr (ev_c (e := eN) (a := ()) rfl))) (ev_tone (Ev.coP (g := eI) (g' := (eO eI)) (fun a => (some a)) (fun _ => rfl) (ev_fr (ev_binp (ft := (fun a b => Res.ok (a + b))) op_addI (ev_var (e := eI) (a := i152) rfl) (ev_dm (ev_c (e := eI) (a := 1) rfl))))))) rfl)
      · refine sr_pass ?_
        refine sr_forF (fun (s154 : Unit) (o155 : Option D) => [some (eS a_text), some ((eL .own (eL .imm (eO eS))) s150), some ((eL .imm eS) lines_149), some (eI i152), some ((eL .imm eS) words_153), o155, none]) (e := eS) (o151.2.2) xt (ev_itp (ft := (fun a => Res.ok a)) (op_it (by decide)) (ev_var (e := (eL .imm eS)) (a := words_153) rfl)) rfl ?_ ?_
        · intro i156 s154 o155
          refine ⟨_, (ud_name (e := eS) (x := i156) rfl), ?_⟩
          refine sr_env (E' := [some (eS a_text), some ((eL .own (eL .imm (eO eS))) s150), some ((eL .imm eS) lines_149), some (eI i152), some ((eL .imm eS) words_153), some (eS i156), none]) rfl ?_
          refine sr_last ?_
          refine sr_if xt (ev_not (ev_truI (ev_dm (ev_argsp (es := (p1 eS)) (a := i156) (e2 := eB) (ft := T__law_is_name i156) (t__law_is_name i156) (ev_tone (ev_dm (ev_var (e := eS) (a := i156) rfl))))))) ?_ ?_
          · exact sr_ret xt (fun _ => trivial) (ev_tup (ev_tconsp (Ev.coP (g := eN) (g' := (eO (eL .imm (eQ .imm (eO eS))))) (fun a => none) (fun _ => rfl) (ev_fr (ev_c (e := eN) (a := ()) rfl))) (ev_tone (Ev.coP (g := eI) (g' := (eO eI)) (fun a => (some a)) (fun _ => rfl) (ev_fr (ev_binp (ft := (fun a b => Res.ok (a + b))) op_addI (ev_var (e := eI) (a := i152) rfl) (ev_dm (ev_c (e := eI) (a := 1) rfl))))))) rfl)
          · refine sr_pass ?_
            exact sr_nilF (some (eS i156)) rfl
        intro u157 o158
        refine sr_env (E' := [some (eS a_text), some ((eL .own (eL .imm (eO eS))) s150), some ((eL .imm eS) lines_149), some (eI i152), some ((eL .imm eS) words_153), o158, none]) rfl ?_
        refine sr_last ?_
        refine sr_app (e := (eL .imm (eO eS))) (xs := s150) xt rfl (ev_fr (ev_sl (ft := (fun a l h => Res.ok (cutL a l h))) op_slL (ev_dm (ev_binp (ft := (fun a b => lim (a ++ b))) (op_addL (by decide) (by decide)) (Ev.coP (g := (eL .imm eS)) (g' := (eL .imm (eO eS))) (fun a => (List.map (fun y => (some y)) a)) (fun a => co_L (e := eS) (e' := (eO eS)) (c := fun y => (some y)) (fun _ => rfl) a) (ev_var (e := (eL .imm eS)) (a := words_153) rfl)) (Ev.coP (g := (eL .bor eN)) (g' := (eL .bor (eO eS))) (fun a => (List.map (fun y => none) a)) (fun a => co_L (e := eN) (e' := (eO eS)) (c := fun y => none) (fun _ => rfl) a) (ev_dm (ev_lstp (ev_consp (ev_fr (ev_c (e := eN) (a := ()) rfl)) (ev_nil (e := eN))) rfl))))) ev_o0 (ev_op (ev_dm (ev_c (e := eI) (a := 3) rfl))))) ?_
        intro actions_165
        refine sr_env (E' := [some (eS a_text), some ((eL .own (eL .imm (eO eS))) actions_165), some ((eL .imm eS) lines_149), some (eI i152), some ((eL .imm eS) words_153), o158, none]) rfl ?_
        exact sr_nilF ((some (eI i152), some ((eL .imm eS) words_153), o158)) rfl
    intro u168 o169
    refine sr_env (E' := [some (eS a_text), some ((eL .own (eL .imm (eO eS))) u168), some ((eL .imm eS) lines_149), o169.1, o169.2.1, o169.2.2, none]) rfl ?_
    refine sr_last ?_
    refine sr_frz (i := 1) (e := (eL .own (eL .imm (eO eS)))) (a := u168) rfl ?_
    exact sr_ret xt (fun _ => trivial) (ev_tup (ev_tcons (Ev.co (g := (eL .imm (eTL (eO eS)))) (g' := (eO (eL .imm (eQ .imm (eO eS))))) (fun a => (some (List.map (fun y => (true, y)) a))) (fun a => co_L (e := (eTL (eO eS))) (e' := (eQ .imm (eO eS))) (c := fun y => (true, y)) (fun _ => rfl) a) (ev_fr (ev_lcp (e := (eL .imm (eO eS))) (e2 := (eTL (eO eS))) (e3 := (eTL (eO eS))) (tc := (fun (c170 : (List (Option Tx))) => (Res.ok true))) (tb := (fun (c170 : (List (Option Tx))) => (Res.ok c170))) (ev_itp (ft := (fun a => Res.ok a)) (op_it (by decide)) (ev_var (e := (eL .imm (eL .imm (eO eS)))) (a := u168) rfl)) (fun (c170 : (List (Option Tx))) => ⟨_, (ud_name (e := (eL .imm (eO eS))) (x := c170) rfl), ev_yes, (ev_unp (ft := (fun a => Res.ok a)) op_tupL (ev_var (e := (eL .imm (eO eS))) (a := c170) rfl))⟩)))) (ev_tone (Ev.coP (g := eN) (g' := (eO eI)) (fun a => none) (fun _ => rfl) (ev_fr (ev_c (e := eN) (a := ()) rfl))))) rfl)
@[irreducible] def T_is_name (text : Tx) : Res Bool := kEnd (kIf (kOr (kNot ((Res.ok (1 : Int)) >>= fun x89 => (lenS text) >>= fun x90 => if (decide (x89 ≤ x90)) = true then (Res.ok (12)) >>= fun x91 => Res.ok (decide (x90 ≤ x91)) else Res.ok false)) ((ixS text (0 : Int)) >>= fun x92 => (Res.ok (['0', '1', '2', '3', '4', '5', '6', '7', '8', '9'] : Tx)) >>= fun x93 => (fun a b => Res.ok (inS a b)) x92 x93)) (kRet (Res.ok false)) (kRet ((kLc (chT text) (fun (c94 : Tx) => (Res.ok true)) (fun (c94 : Tx) => (Res.ok (inS c94 tx0)))) >>= fun x95 => (fun a => Res.ok (List.all a id)) x95)))
theorem t_is_name (text : Tx) : Ev (F_is_name [eS text]) eB (T_is_name text) := by
  unfold T_is_name
  refine fr_body (n := 1) (m := 2) (Rn := fun r _ => eB r = .non) (Rl := fun _ _ => True) rfl (fun _ _ h => h) ?_
  show SR (S_is_name [some (eS text), none]) _ _ _ _ _
  unfold S_is_name
  refine sr_if xt (ev_or (ev_not (ev_b (ev_chain (ev_dm (ev_c (e := eI) (a := 1) rfl)) (ev_dm (ev_unp (ft := lenS) op_lenS (ev_var (e := eS) (a := text) rfl))) (ev_dm (ev_c (e := eI) (a := (12)) rfl))))) (ev_b (ev_bin (ft := (fun a b => Res.ok (inS a b))) op_inS (ev_binp (ft := ixS) op_ixS (ev_var (e := eS) (a := text) rfl) (ev_dm (ev_c (e := eI) (a := 0) rfl))) (ev_dm (ev_c (e := eS) (a := (['0', '1', '2', '3', '4', '5', '6', '7', '8', '9'] : Tx)) rfl))))) ?_ ?_
  · exact sr_ret xt (fun _ => trivial) (ev_c (e := eB) (a := false) rfl)
  · refine sr_pass ?_
    refine sr_last ?_
    exact sr_ret xt (fun _ => trivial) (ev_un (ft := (fun a => Res.ok (List.all a id))) op_all (ev_dm (ev_lcp (e := eS) (e2 := eB) (e3 := eB) (tc := (fun (c94 : Tx) => (Res.ok true))) (tb := (fun (c94 : Tx) => (Res.ok (inS c94 tx0)))) (ev_itp (ft := (fun a => Res.ok (chT a))) op_itS (ev_var (e := eS) (a := text) rfl)) (fun (c94 : Tx) => ⟨_, (ud_name (e := eS) (x := c94) rfl), ev_yes, (ev_binp (ft := (fun a b => Res.ok (inS a b))) op_inS (ev_var (e := eS) (a := c94) rfl) (ev_dm (ev_c (e := eS) (a := tx0) rfl)))⟩))))
@[irreducible] def T_parse_plan (text : Tx) : Res (List (Tx × Tx × (Option Tx))) := kEnd (if (eqB text ([] : Tx)) = true then (kRet (Res.ok ([] : (List (Tx × Tx × (Option Tx)))))) else (kLet (Res.ok ([] : (List (Tx × Tx × (Option Tx))))) fun (actions_115 : (List (Tx × Tx × (Option Tx)))) => (kLet ((splitG '\n' text) >>= fun x116 => (fun a => Res.ok (enT 1 a)) x116) fun (l136 : List (Int × Tx)) => kSeq (kFor (fun (i119 : (Int × Tx)) (s117 : ((List (Tx × Tx × (Option Tx))))) => (kLet (splitG ' ' i119.2) fun (words_120 : (List Tx)) => (kIf (kOr (Res.ok (!(decide ((2 : Int) ≤ ((words_120.length : Nat) : Int)) && decide (((words_120.length : Nat) : Int) ≤ (3 : Int))))) (kNot ((kLc words_120 (fun (c121 : Tx) => (Res.ok true)) (fun (c121 : Tx) => (T_is_name c121))) >>= fun x122 => (fun a => Res.ok (List.all a id)) x122))) (kLet (Res.ok i119.1) fun x123 => TR.ex ⟨0, [0], [eI x123]⟩) (kLet (((ixL words_120 (0 : Int)) >>= fun x126 => ((ixL words_120 (1 : Int)) >>= fun x124 => (if (eqB ((words_120.length : Nat) : Int) (3 : Int)) = true then ((ixL words_120 (2 : Int)) >>= fun a => Res.ok (some a)) else (Res.ok none)) >>= fun x125 => Res.ok (x124, x125)) >>= fun x127 => Res.ok (x126, x127)) >>= fun x133 => appL s117 x133) fun (actions_132 : (List (Tx × Tx × (Option Tx)))) => (TR.nx actions_132))))) l136 actions_115) fun (u134 : ((List (Tx × Tx × (Option Tx))))) => (TR.rt u134))))
theorem t_parse_plan (text : Tx) : Ev (F_parse_plan [eS text]) (eL .own (eT (pc eS (pc eS (p1 (eO eS)))))) (T_parse_plan text) := by
  unfold T_parse_plan
  refine fr_body (n := 1) (m := 6) (Rn := fun r _ => (eL .own (eT (pc eS (pc eS (p1 (eO eS)))))) r = .non) (Rl := fun _ _ => True) rfl (fun _ _ h => h) ?_
  show SR (S_parse_plan [some (eS text), none, none, none, none, none]) _ _ _ _ _
  unfold S_parse_plan
  refine sr_ifp (ev_b (ev_binp (ft := (fun a b => Res.ok (eqB a b))) (op_eq rfl rfl) (ev_var (e := eS) (a := text) rfl) (ev_dm (ev_c (e := eS) (a := ([] : Tx)) rfl)))) ?_ ?_
  · exact sr_ret xt (fun _ => trivial) (ev_lst0 (e := (eT (pc eS (pc eS (p1 (eO eS)))))))
  · refine sr_pass ?_
    refine sr_asg (e := (eL .own (eT (pc eS (pc eS (p1 (eO eS))))))) xt (ev_lst0 (e := (eT (pc eS (pc eS (p1 (eO eS))))))) rfl ?_
    intro actions_115
    refine sr_env (E' := [some (eS text), some ((eL .own (eT (pc eS (pc eS (p1 (eO eS)))))) actions_115), none, none, none, none]) rfl ?_
    refine sr_forF (fun (s117 : ((List (Tx × Tx × (Option Tx))))) (o118 : Option D × Option D × Option D) => [some (eS text), some ((eL .own (eT (pc eS (pc eS (p1 (eO eS)))))) s117), o118.1, o118.2.1, o118.2.2, none]) (e := (eT (pc eI (p1 eS)))) ((none, none, none)) xt (ev_en (ft := (fun a => Res.ok (enT 1 a))) (op_enL (by decide)) (ev_dm (ev_fr (ev_splitp (op_split '\n' rfl) (ev_var (e := eS) (a := text) rfl) (ev_dm (ev_c (e := eS) (a := (['\n'] : Tx)) rfl)))))) rfl ?_ ?_
    · intro i119 s117 o118
      refine ⟨_, (ud_tup (es := (pc eI (p1 eS))) (x := i119) (ud_cons (ud_name (e := eI) (x := i119.1) rfl) (ud_one (ud_name (e := eS) (x := i119.2) rfl)))), ?_⟩
      refine sr_env (E' := [some (eS text), some ((eL .own (eT (pc eS (pc eS (p1 (eO eS)))))) s117), some (eI i119.1), some (eS i119.2), o118.2.2, none]) rfl ?_
      refine sr_asg (e := (eL .imm eS)) xt (ev_fr (ev_splitp (op_split ' ' rfl) (ev_var (e := eS) (a := i119.2) rfl) (ev_dm (ev_c (e := eS) (a := ([' '] : Tx)) rfl)))) rfl ?_
      intro words_120
      refine sr_env (E' := [some (eS text), some ((eL .own (eT (pc eS (pc eS (p1 (eO eS)))))) s117), some (eI i119.1), some (eS i119.2), some ((eL .imm eS) words_120), none]) rfl ?_
      refine sr_if xt (ev_or (ev_notp (ev_b (ev_chainp (ev_dm (ev_c (e := eI) (a := 2) rfl)) (ev_dm (ev_unp (ft := (fun a => Res.ok ((List.length a : Nat) : Int))) op_lenL (ev_var (e := (eL .imm eS)) (a := words_120) rfl))) (ev_dm (ev_c (e := eI) (a := 3) rfl))))) (ev_not (ev_truI (ev_dm (ev_un (ft := (fun a => Res.ok (List.all a id))) op_all (ev_dm (ev_lcp (e := eS) (e2 := eB) (e3 := eB) (tc := (fun (c121 : Tx) => (Res.ok true))) (tb := (fun (c121 : Tx) => (T_is_name c121))) (ev_itp (ft := (fun a => Res.ok a)) (op_it (by decide)) (ev_var (e := (eL .imm eS)) (a := words_120) rfl)) (fun (c121 : Tx) => ⟨_, (ud_name (e := eS) (x := c121) rfl), ev_yes, (ev_argsp (es := (p1 eS)) (a := c121) (e2 := eB) (ft := T_is_name c121) (t_is_name c121) (ev_tone (ev_dm (ev_var (e := eS) (a := c121) rfl))))⟩)))))))) ?_ ?_
      · exact sr_raiseI (e := eI) xt (ev_var (e := eI) (a := i119.1) rfl)
      · refine sr_pass ?_
        refine sr_last ?_
        refine sr_app (e := (eT (pc eS (pc eS (p1 (eO eS)))))) (xs := s117) xt rfl (ev_fr (ev_tup (ev_tcons (ev_fr (ev_chk (ev_binp (ft := ixL) op_ixL (ev_var (e := (eL .imm eS)) (a := words_120) rfl) (ev_dm (ev_c (e := eI) (a := 0) rfl))))) (ev_tcons (ev_fr (ev_chk (ev_binp (ft := ixL) op_ixL (ev_var (e := (eL .imm eS)) (a := words_120) rfl) (ev_dm (ev_c (e := eI) (a := 1) rfl))))) (ev_tone (ev_fr (ev_chk (ev_ifp (ev_b (ev_binp (ft := (fun a b => Res.ok (eqB a b))) (op_eq rfl rfl) (ev_dm (ev_unp (ft := (fun a => Res.ok ((List.length a : Nat) : Int))) op_lenL (ev_var (e := (eL .imm eS)) (a := words_120) rfl))) (ev_dm (ev_c (e := eI) (a := 3) rfl)))) (Ev.co (g := eS) (g' := (eO eS)) (fun a => (some a)) (fun _ => rfl) (ev_binp (ft := ixL) op_ixL (ev_var (e := (eL .imm eS)) (a := words_120) rfl) (ev_dm (ev_c (e := eI) (a := 2) rfl)))) (Ev.coP (g := eN) (g' := (eO eS)) (fun a => none) (fun _ => rfl) (ev_dm (ev_c (e := eN) (a := ()) rfl))))))))) rfl)) ?_
        intro actions_132
        refine sr_env (E' := [some (eS text), some ((eL .own (eT (pc eS (pc eS (p1 (eO eS)))))) actions_132), some (eI i119.1), some (eS i119.2), some ((eL .imm eS) words_120), none]) rfl ?_
        exact sr_nilF ((some (eI i119.1), some (eS i119.2), some ((eL .imm eS) words_120))) rfl
    intro u134 o135
    refine sr_env (E' := [some (eS text), some ((eL .own (eT (pc eS (pc eS (p1 (eO eS)))))) u134), o135.1, o135.2.1, o135.2.2, none]) rfl ?_
    refine sr_last ?_
    exact sr_retV (i := 1) (e := (eL .own (eT (pc eS (pc eS (p1 (eO eS))))))) (a := u134) (b := u134) rfl rfl trivial
@[irreducible] def T_law (a_script : (List Int)) : Res Bool := kEnd (kLet (T__law_numbers a_script (40 : Int)) fun (numbers_here_147 : (List Int)) => (kLet (((ixL numbers_here_147 (0 : Int)) >>= fun x148 => (Res.ok (12 : Int)) >>= fun x149 => Res.ok (x148, x149)) >>= fun x150 => T__law_names x150.1 x150.2) fun (names_here_151 : (List Tx)) => (kLet (Res.ok ([] : (List (Tx × Tx × (Option Tx))))) fun (actions_152 : (List (Tx × Tx × (Option Tx)))) => (kLet (((ixL numbers_here_147 (1 : Int)) >>= fun x153 => (fun a => Res.ok (a % 9)) x153) >>= rng1) fun (l225 : List Int) => kSeq (kFor (fun (i156 : Int) (s154 : ((List (Tx × Tx × (Option Tx))))) => (kLet (Res.ok none) fun (target_157 : (Option Tx)) => (kSeq (kIf (((ixL numbers_here_147 ((2 : Int) + (3 * i156))) >>= fun x158 => (fun a => Res.ok (a % 3)) x158) >>= fun x159 => (Res.ok (0 : Int)) >>= fun x160 => (fun a b => Res.ok (decide (a > b))) x159 x160) (kLet (((Res.ok names_here_151) >>= fun x169 => (((ixL numbers_here_147 ((2 : Int) + (3 * i156))) >>= fun x167 => (fun a => Res.ok (a / 3)) x167) >>= fun x168 => (fun a => Res.ok (a % 12)) x168) >>= fun x170 => ixL x169 x170) >>= fun a => Res.ok (some a)) fun (target_171 : (Option Tx)) => (TR.nx target_171)) (TR.nx target_157)) fun (u161 : ((Option Tx))) => (kLet ((((Res.ok names_here_151) >>= fun x173 => ((ixL numbers_here_147 ((3 : Int) + (3 * i156))) >>= fun x172 => (fun a => Res.ok (a % 12)) x172) >>= fun x174 => ixL x173 x174) >>= fun x180 => (((Res.ok names_here_151) >>= fun x176 => ((ixL numbers_here_147 ((4 : Int) + (3 * i156))) >>= fun x175 => (fun a => Res.ok (a % 12)) x175) >>= fun x177 => ixL x176 x177) >>= fun x178 => (Res.ok u161) >>= fun x179 => Res.ok (x178, x179)) >>= fun x181 => Res.ok (x180, x181)) >>= fun x193 => appL s154 x193) fun (actions_192 : (List (Tx × Tx × (Option Tx)))) => (TR.nx actions_192))))) l225 actions_152) fun (u194 : ((List (Tx × Tx × (Option Tx))))) => (kLet (kLc u194 (fun (c196 : (Tx × Tx × (Option Tx))) => (Res.ok true)) (fun (c196 : (Tx × Tx × (Option Tx))) => ((Res.ok ([' '] : Tx)) >>= fun x198 => (kLc [(some c196.1), (some c196.2.1), c196.2.2] (fun (c197 : (Option Tx)) => (Res.ok c197.isSome)) (fun (c197 : (Option Tx)) => ((Res.ok c197) >>= getO))) >>= fun x199 => joinG x198 x199))) fun (lines_200 : (List Tx)) => (kIf ((T_plan_text u194) >>= fun x201 => (joinG (['\n'] : Tx) lines_200) >>= fun x202 => (fun a b => Res.ok (!eqB a b)) x201 x202) (kRet (Res.ok false)) (kSeq (kIf (kAnd (((ixL numbers_here_147 (36 : Int)) >>= fun x203 => (fun a => Res.ok (a % 2)) x203) >>= fun x204 => (Res.ok (0 : Int)) >>= fun x205 => (fun a b => Res.ok (eqB a b)) x204 x205) (Res.ok (decide (((lines_200.length : Nat) : Int) > (0 : Int))))) (kLet (T__law_turned_2 numbers_here_147 (37 : Int) lines_200) fun (lines_208 : (List Tx)) => (TR.nx lines_208)) (TR.nx lines_200)) fun (u206 : ((List Tx))) => (kSeq (kIf (kAnd (((ixL numbers_here_147 (36 : Int)) >>= fun x209 => (fun a => Res.ok (a % 4)) x209) >>= fun x210 => (Res.ok (0 : Int)) >>= fun x211 => (fun a b => Res.ok (eqB a b)) x210 x211) (Res.ok (decide (((u206.length : Nat) : Int) > (0 : Int))))) (kLet (T__law_turned_2 numbers_here_147 (38 : Int) u206) fun (lines_214 : (List Tx)) => (TR.nx lines_214)) (TR.nx u206)) fun (u212 : ((List Tx))) => (kLet (joinG (['\n'] : Tx) u212) fun (text_215 : Tx) => (kLet (T__law_due text_215) fun (p216 : ((Option (List (Bool × List (Option Tx)))) × (Option Int))) => (kSeq (kTry (kLet (T_parse_plan text_215) fun (actual_219 : (List (Tx × Tx × (Option Tx)))) => (TR.nx actual_219)) fun x => (kHd [1, 0] [0] x (kRet (kAnd (Res.ok p216.1.isNone) (((xfR eI 0 x) >>= fun a => Res.ok (some a)) >>= fun x221 => (Res.ok p216.2) >>= fun x222 => (fun a b => Res.ok (eqB a b)) x221 x222))) (TR.ex x))) fun (u217 : ((List (Tx × Tx × (Option Tx))))) => (kRet (kAnd (Res.ok p216.1.isSome) (kAnd (Res.ok true) (((reprT (eL .imm (eT (pc eS (pc eS (p1 (eO eS))))))) u217) >>= fun x223 => ((reprT (eO (eL .imm (eQ .imm (eO eS))))) p216.1) >>= fun x224 => (fun a b => Res.ok (decide (a = b))) x223 x224)))))))))))))))
theorem t_law (a_script : (List Int)) : Ev (F_law [(eL .frz eI) a_script]) eB (T_law a_script) := by
  unfold T_law
  refine fr_body (n := 1) (m := 14) (Rn := fun r _ => eB r = .non) (Rl := fun _ _ => True) rfl (fun _ _ h => h) ?_
  show SR (S_law [some ((eL .frz eI) a_script), none, none, none, none, none, none, none, none, none, none, none, none, none]) _ _ _ _ _
  unfold S_law
  refine sr_asg (e := (eL .imm eI)) xt (ev_fr (ev_argsp (es := (pc (eL .frz eI) (p1 eI))) (a := (a_script, (40 : Int))) (e2 := (eL .own eI)) (ft := T__law_numbers a_script (40 : Int)) (t__law_numbers a_script (40 : Int)) (ev_tconsp (ev_dm (ev_var (e := (eL .frz eI)) (a := a_script) rfl)) (ev_tone (ev_dm (ev_dm (ev_c (e := eI) (a := 40) rfl))))))) rfl ?_
  intro numbers_here_147
  refine sr_env (E' := [some ((eL .frz eI) a_script), some ((eL .imm eI) numbers_here_147), none, none, none, none, none, none, none, none, none, none, none, none]) rfl ?_
  refine sr_asg (e := (eL .imm eS)) xt (ev_fr (ev_args (es := (pc eI (p1 eI))) (e2 := (eL .own eS)) (ft := fun x150 => T__law_names x150.1 x150.2) (fun x150 => t__law_names x150.1 x150.2) (ev_tcons (ev_dm (ev_binp (ft := ixL) op_ixL (ev_var (e := (eL .imm eI)) (a := numbers_here_147) rfl) (ev_dm (ev_c (e := eI) (a := 0) rfl)))) (ev_tone (ev_dm (ev_dm (ev_c (e := eI) (a := 12) rfl))))))) rfl ?_
  intro names_here_151
  refine sr_env (E' := [some ((eL .frz eI) a_script), some ((eL .imm eI) numbers_here_147), some ((eL .imm eS) names_here_151), none, none, none, none, none, none, none, none, none, none, none]) rfl ?_
  refine sr_asg (e := (eL .own (eT (pc eS (pc eS (p1 (eO eS))))))) xt (ev_lst0 (e := (eT (pc eS (pc eS (p1 (eO eS))))))) rfl ?_
  intro actions_152
  refine sr_env (E' := [some ((eL .frz eI) a_script), some ((eL .imm eI) numbers_here_147), some ((eL .imm eS) names_here_151), some ((eL .own (eT (pc eS (pc eS (p1 (eO eS)))))) actions_152), none, none, none, none, none, none, none, none, none, none]) rfl ?_
  refine sr_forF (fun (s154 : ((List (Tx × Tx × (Option Tx))))) (o155 : Option D × Option D) => [some ((eL .frz eI) a_script), some ((eL .imm eI) numbers_here_147), some ((eL .imm eS) names_here_151), some ((eL .own (eT (pc eS (pc eS (p1 (eO eS)))))) s154), o155.1, o155.2, none, none, none, none, none, none, none, none]) (e := eI) ((none, none)) xt (ev_rng1 (ev_dm (ev_binc (ft := (fun a => Res.ok (a % 9))) (fun a => op_modIc (9) rfl a) (ev_dm (ev_unI op_int (ev_binp (ft := ixL) op_ixL (ev_var (e := (eL .imm eI)) (a := numbers_here_147) rfl) (ev_dm (ev_c (e := eI) (a := 1) rfl))))) (ev_dm (ev_c (e := eI) (a := 9) rfl))))) rfl ?_ ?_
  · intro i156 s154 o155
    refine ⟨_, (ud_name (e := eI) (x := i156) rfl), ?_⟩
    refine sr_env (E' := [some ((eL .frz eI) a_script), some ((eL .imm eI) numbers_here_147), some ((eL .imm eS) names_here_151), some ((eL .own (eT (pc eS (pc eS (p1 (eO eS)))))) s154), some (eI i156), o155.2, none, none, none, none, none, none, none, none]) rfl ?_
    refine sr_asg (e := (eO eS)) xt (Ev.coP (g := eN) (g' := (eO eS)) (fun a => none) (fun _ => rfl) (ev_c (e := eN) (a := ()) rfl)) rfl ?_
    intro target_157
    refine sr_env (E' := [some ((eL .frz eI) a_script), some ((eL .imm eI) numbers_here_147), some ((eL .imm eS) names_here_151), some ((eL .own (eT (pc eS (pc eS (p1 (eO eS)))))) s154), some (eI i156), some ((eO eS) target_157), none, none, none, none, none, none, none, none]) rfl ?_
    refine sr_joinF (fun (u161 : ((Option Tx))) (o162 : Unit) => [some ((eL .frz eI) a_script), some ((eL .imm eI) numbers_here_147), some ((eL .imm eS) names_here_151), some ((eL .own (eT (pc eS (pc eS (p1 (eO eS)))))) s154), some (eI i156), some ((eO eS) u161), none, none, none, none, none, none, none, none]) (sr_last ?_) ?_
    · refine sr_if xt (ev_b (ev_bin (ft := (fun a b => Res.ok (decide (a > b)))) op_gt (ev_dm (ev_binc (ft := (fun a => Res.ok (a % 3))) (fun a => op_modIc (3) rfl a) (ev_dm (ev_unI op_int (ev_binp (ft := ixL) op_ixL (ev_var (e := (eL .imm eI)) (a := numbers_here_147) rfl) (ev_dm (ev_binp (ft := (fun a b => Res.ok (a + b))) op_addI (ev_dm (ev_c (e := eI) (a := 2) rfl)) (ev_dm (ev_bincpl (ft := (fun a => Res.ok (3 * a))) (fun a => op_mulcI (3) rfl a) (ev_dm (ev_c (e := eI) (a := 3) rfl)) (ev_var (e := eI) (a := i156) rfl)))))))) (ev_dm (ev_c (e := eI) (a := 3) rfl)))) (ev_dm (ev_c (e := eI) (a := 0) rfl)))) ?_ ?_
      · refine sr_asgV (e := (eO eS)) xt (Ev.co (g := eS) (g' := (eO eS)) (fun a => (some a)) (fun _ => rfl) (ev_bin (ft := ixL) op_ixL (ev_var (e := (eL .imm eS)) (a := names_here_151) rfl) (ev_dm (ev_binc (ft := (fun a => Res.ok (a % 12))) (fun a => op_modIc (12) rfl a) (ev_dm (ev_binc (ft := (fun a => Res.ok (a / 3))) (fun a => op_divIc (3) rfl a) (ev_binp (ft := ixL) op_ixL (ev_var (e := (eL .imm eI)) (a := numbers_here_147) rfl) (ev_dm (ev_binp (ft := (fun a b => Res.ok (a + b))) op_addI (ev_dm (ev_c (e := eI) (a := 2) rfl)) (ev_dm (ev_bincpl (ft := (fun a => Res.ok (3 * a))) (fun a => op_mulcI (3) rfl a) (ev_dm (ev_c (e := eI) (a := 3) rfl)) (ev_var (e := eI) (a := i156) rfl)))))) (ev_dm (ev_c (e := eI) (a := 3) rfl)))) (ev_dm (ev_c (e := eI) (a := 12) rfl)))))) rfl ?_
        intro target_171
        refine sr_env (E' := [some ((eL .frz eI) a_script), some ((eL .imm eI) numbers_here_147), some ((eL .imm eS) names_here_151), some ((eL .own (eT (pc eS (pc eS (p1 (eO eS)))))) s154), some (eI i156), some ((eO eS) target_171), none, none, none, none, none, none, none, none]) rfl ?_
        exact sr_nilF (()) rfl
      · refine sr_pass ?_
        exact sr_nilF (()) rfl
    intro u161 o162
    refine sr_env (E' := [some ((eL .frz eI) a_script), some ((eL .imm eI) numbers_here_147), some ((eL .imm eS) names_here_151), some ((eL .own (eT (pc eS (pc eS (p1 (eO eS)))))) s154), some (eI i156), some ((eO eS) u161), none, none, none, none, none, none, none, none]) rfl ?_
    refine sr_last ?_
    refine sr_app (e := (eT (pc eS (pc eS (p1 (eO eS)))))) (xs := s154) xt rfl (ev_fr (ev_tup (ev_tcons (ev_fr (ev_chk (ev_bin (ft := ixL) op_ixL (ev_var (e := (eL .imm eS)) (a := names_here_151) rfl) (ev_dm (ev_binc (ft := (fun a => Res.ok (a % 12))) (fun a => op_modIc (12) rfl a) (ev_dm (ev_unI op_int (ev_binp (ft := ixL) op_ixL (ev_var (e := (eL .imm eI)) (a := numbers_here_147) rfl) (ev_dm (ev_binp (ft := (fun a b => Res.ok (a + b))) op_addI (ev_dm (ev_c (e := eI) (a := 3) rfl)) (ev_dm (ev_bincpl (ft := (fun a => Res.ok (3 * a))) (fun a => op_mulcI (3) rfl a) (ev_dm (ev_c (e := eI) (a := 3) rfl)) (ev_var (e := eI) (a := i156) rfl)))))))) (ev_dm (ev_c (e := eI) (a := 12) rfl))))))) (ev_tcons (ev_fr (ev_chk (ev_bin (ft := ixL) op_ixL (ev_var (e := (eL .imm eS)) (a := names_here_151) rfl) (ev_dm (ev_binc (ft := (fun a => Res.ok (a % 12))) (fun a => op_modIc (12) rfl a) (ev_dm (ev_unI op_int (ev_binp (ft := ixL) op_ixL (ev_var (e := (eL .imm eI)) (a := numbers_here_147) rfl) (ev_dm (ev_binp (ft := (fun a b => Res.ok (a + b))) op_addI (ev_dm (ev_c (e := eI) (a := 4) rfl)) (ev_dm (ev_bincpl (ft := (fun a => Res.ok (3 * a))) (fun a => op_mulcI (3) rfl a) (ev_dm (ev_c (e := eI) (a := 3) rfl)) (ev_var (e := eI) (a := i156) rfl)))))))) (ev_dm (ev_c (e := eI) (a := 12) rfl))))))) (ev_tone (ev_fr (ev_chk (ev_var (e := (eO eS)) (a := u161) rfl)))))) rfl)) ?_
    intro actions_192
    refine sr_env (E' := [some ((eL .frz eI) a_script), some ((eL .imm eI) numbers_here_147), some ((eL .imm eS) names_here_151), some ((eL .own (eT (pc eS (pc eS (p1 (eO eS)))))) actions_192), some (eI i156), some ((eO eS) u161), none, none, none, none, none, none, none, none]) rfl ?_
    exact sr_nilF ((some (eI i156), some ((eO eS) u161))) rfl
  intro u194 o195
  refine sr_env (E' := [some ((eL .frz eI) a_script), some ((eL .imm eI) numbers_here_147), some ((eL .imm eS) names_here_151), some ((eL .own (eT (pc eS (pc eS (p1 (eO eS)))))) u194), o195.1, o195.2, none, none, none, none, none, none, none, none]) rfl ?_
  refine sr_frz (i := 3) (e := (eL .own (eT (pc eS (pc eS (p1 (eO eS))))))) (a := u194) rfl ?_
  refine sr_asg (e := (eL .own eS)) xt (ev_lcp (e := (eT (pc eS (pc eS (p1 (eO eS)))))) (e2 := eS) (e3 := eS) (tc := (fun (c196 : (Tx × Tx × (Option Tx))) => (Res.ok true))) (tb := (fun (c196 : (Tx × Tx × (Option Tx))) => ((Res.ok ([' '] : Tx)) >>= fun x198 => (kLc [(some c196.1), (some c196.2.1), c196.2.2] (fun (c197 : (Option Tx)) => (Res.ok c197.isSome)) (fun (c197 : (Option Tx)) => ((Res.ok c197) >>= getO))) >>= fun x199 => joinG x198 x199))) (ev_itp (ft := (fun a => Res.ok a)) (op_it (by decide)) (ev_var (e := (eL .imm (eT (pc eS (pc eS (p1 (eO eS))))))) (a := u194) rfl)) (fun (c196 : (Tx × Tx × (Option Tx))) => ⟨_, (ud_name (e := (eT (pc eS (pc eS (p1 (eO eS)))))) (x := c196) rfl), ev_yes, (ev_binS (ft := joinG) op_join (ev_dm (ev_c (e := eS) (a := ([' '] : Tx)) rfl)) (ev_dm (ev_lcp (e := (eO eS)) (e2 := eS) (e3 := eS) (tc := (fun (c197 : (Option Tx)) => (Res.ok c197.isSome))) (tb := (fun (c197 : (Option Tx)) => ((Res.ok c197) >>= getO))) (ev_itp (ft := (fun a => Res.ok a)) op_itTL (Ev.coP (g := (eT (pc eS (pc eS (p1 (eO eS)))))) (g' := (eTL (eO eS))) (fun a => [(some a.1), (some a.2.1), a.2.2]) (fun _ => rfl) (ev_var (e := (eT (pc eS (pc eS (p1 (eO eS)))))) (a := c196) rfl))) (fun (c197 : (Option Tx)) => ⟨_, (ud_name (e := (eO eS)) (x := c197) rfl), (ev_b (ev_binp (ft := (fun a _ => Res.ok (Option.isSome a))) op_not (ev_var (e := (eO eS)) (a := c197) rfl) (ev_dm (ev_c (e := eN) (a := ()) rfl)))), (Ev.getO (ev_chk (ev_var (e := (eO eS)) (a := c197) rfl)))⟩))))⟩)) rfl ?_
  intro lines_200
  refine sr_env (E' := [some ((eL .frz eI) a_script), some ((eL .imm eI) numbers_here_147), some ((eL .imm eS) names_here_151), some ((eL .imm (eT (pc eS (pc eS (p1 (eO eS)))))) u194), o195.1, o195.2, some ((eL .own eS) lines_200), none, none, none, none, none, none, none]) rfl ?_
  refine sr_frz (i := 3) (e := (eL .imm (eT (pc eS (pc eS (p1 (eO eS))))))) (a := u194) rfl ?_
  refine sr_if xt (ev_b (ev_bin (ft := (fun a b => Res.ok (!eqB a b))) (op_ne rfl rfl) (ev_dm (ev_argsp (es := (p1 (eL .imm (eT (pc eS (pc eS (p1 (eO eS)))))))) (a := u194) (e2 := eS) (ft := T_plan_text u194) (t_plan_text u194) (ev_tone (ev_dm (ev_dm (ev_fr (ev_unp (ft := (fun a => Res.ok a)) op_listL (ev_var (e := (eL .imm (eT (pc eS (pc eS (p1 (eO eS))))))) (a := u194) rfl)))))))) (ev_dm (ev_binSp (ft := joinG) op_join (ev_dm (ev_c (e := eS) (a := (['\n'] : Tx)) rfl)) (ev_var (e := (eL .own eS)) (a := lines_200) rfl))))) ?_ ?_
  · exact sr_ret xt (fun _ => trivial) (ev_c (e := eB) (a := false) rfl)
  · refine sr_pass ?_
    refine sr_joinF (fun (u206 : ((List Tx))) (o207 : Unit) => [some ((eL .frz eI) a_script), some ((eL .imm eI) numbers_here_147), some ((eL .imm eS) names_here_151), some ((eL .imm (eT (pc eS (pc eS (p1 (eO eS)))))) u194), o195.1, o195.2, some ((eL .own eS) u206), none, none, none, none, none, none, none]) (sr_last ?_) ?_
    · refine sr_if xt (ev_and (ev_b (ev_bin (ft := (fun a b => Res.ok (eqB a b))) (op_eq rfl rfl) (ev_dm (ev_binc (ft := (fun a => Res.ok (a % 2))) (fun a => op_modIc (2) rfl a) (ev_dm (ev_unI op_int (ev_binp (ft := ixL) op_ixL (ev_var (e := (eL .imm eI)) (a := numbers_here_147) rfl) (ev_dm (ev_c (e := eI) (a := 36) rfl))))) (ev_dm (ev_c (e := eI) (a := 2) rfl)))) (ev_dm (ev_c (e := eI) (a := 0) rfl)))) (ev_b (ev_binp (ft := (fun a b => Res.ok (decide (a > b)))) op_gt (ev_dm (ev_unp (ft := (fun a => Res.ok ((List.length a : Nat) : Int))) op_lenL (ev_var (e := (eL .own eS)) (a := lines_200) rfl))) (ev_dm (ev_c (e := eI) (a := 0) rfl))))) ?_ ?_
      · refine sr_frz (i := 6) (e := (eL .own eS)) (a := lines_200) rfl ?_
        refine sr_asg (e := (eL .own eS)) xt (ev_argsp (es := (pc (eL .imm eI) (pc eI (p1 (eL .imm eS))))) (a := (numbers_here_147, (37 : Int), lines_200)) (e2 := (eL .own eS)) (ft := T__law_turned_2 numbers_here_147 (37 : Int) lines_200) (t__law_turned_2 numbers_here_147 (37 : Int) lines_200) (ev_tconsp (ev_dm (ev_var (e := (eL .imm eI)) (a := numbers_here_147) rfl)) (ev_tconsp (ev_dm (ev_dm (ev_c (e := eI) (a := 37) rfl))) (ev_tone (ev_dm (ev_var (e := (eL .imm eS)) (a := lines_200) rfl)))))) rfl ?_
        intro lines_208
        refine sr_env (E' := [some ((eL .frz eI) a_script), some ((eL .imm eI) numbers_here_147), some ((eL .imm eS) names_here_151), some ((eL .imm (eT (pc eS (pc eS (p1 (eO eS)))))) u194), o195.1, o195.2, some ((eL .own eS) lines_208), none, none, none, none, none, none, none]) rfl ?_
        exact sr_nilF (()) rfl
      · refine sr_pass ?_
        exact sr_nilF (()) rfl
    intro u206 o207
    refine sr_env (E' := [some ((eL .frz eI) a_script), some ((eL .imm eI) numbers_here_147), some ((eL .imm eS) names_here_151), some ((eL .imm (eT (pc eS (pc eS (p1 (eO eS)))))) u194), o195.1, o195.2, some ((eL .own eS) u206), none, none, none, none, none, none, none]) rfl ?_
    refine sr_joinF (fun (u212 : ((List Tx))) (o213 : Unit) => [some ((eL .frz eI) a_script), some ((eL .imm eI) numbers_here_147), some ((eL .imm eS) names_here_151), some ((eL .imm (eT (pc eS (pc eS (p1 (eO eS)))))) u194), o195.1, o195.2, some ((eL .own eS) u212), none, none, none, none, none, none, none]) (sr_last ?_) ?_
    · refine sr_if xt (ev_and (ev_b (ev_bin (ft := (fun a b => Res.ok (eqB a b))) (op_eq rfl rfl) (ev_dm (ev_binc (ft := (fun a => Res.ok (a % 4))) (fun a => op_modIc (4) rfl a) (ev_dm (ev_unI op_int (ev_binp (ft := ixL) op_ixL (ev_var (e := (eL .imm eI)) (a := numbers_here_147) rfl) (ev_dm (ev_c (e := eI) (a := 36) rfl))))) (ev_dm (ev_c (e := eI) (a := 4) rfl)))) (ev_dm (ev_c (e := eI) (a := 0) rfl)))) (ev_b (ev_binp (ft := (fun a b => Res.ok (decide (a > b)))) op_gt (ev_dm (ev_unp (ft := (fun a => Res.ok ((List.length a : Nat) : Int))) op_lenL (ev_var (e := (eL .own eS)) (a := u206) rfl))) (ev_dm (ev_c (e := eI) (a := 0) rfl))))) ?_ ?_
      · refine sr_frz (i := 6) (e := (eL .own eS)) (a := u206) rfl ?_
        refine sr_asg (e := (eL .own eS)) xt (ev_argsp (es := (pc (eL .imm eI) (pc eI (p1 (eL .imm eS))))) (a := (numbers_here_147, (38 : Int), u206)) (e2 := (eL .own eS)) (ft := T__law_turned_2 numbers_here_147 (38 : Int) u206) (t__law_turned_2 numbers_here_147 (38 : Int) u206) (ev_tconsp (ev_dm (ev_var (e := (eL .imm eI)) (a := numbers_here_147) rfl)) (ev_tconsp (ev_dm (ev_dm (ev_c (e := eI) (a := 38) rfl))) (ev_tone (ev_dm (ev_var (e := (eL .imm eS)) (a := u206) rfl)))))) rfl ?_
        intro lines_214
        refine sr_env (E' := [some ((eL .frz eI) a_script), some ((eL .imm eI) numbers_here_147), some ((eL .imm eS) names_here_151), some ((eL .imm (eT (pc eS (pc eS (p1 (eO eS)))))) u194), o195.1, o195.2, some ((eL .own eS) lines_214), none, none, none, none, none, none, none]) rfl ?_
        exact sr_nilF (()) rfl
      · refine sr_pass ?_
        exact sr_nilF (()) rfl
    intro u212 o213
    refine sr_env (E' := [some ((eL .frz eI) a_script), some ((eL .imm eI) numbers_here_147), some ((eL .imm eS) names_here_151), some ((eL .imm (eT (pc eS (pc eS (p1 (eO eS)))))) u194), o195.1, o195.2, some ((eL .own eS) u212), none, none, none, none, none, none, none]) rfl ?_
    refine sr_asg (e := eS) xt (ev_binSp (ft := joinG) op_join (ev_dm (ev_c (e := eS) (a := (['\n'] : Tx)) rfl)) (ev_var (e := (eL .own eS)) (a := u212) rfl)) rfl ?_
    intro text_215
    refine sr_env (E' := [some ((eL .frz eI) a_script), some ((eL .imm eI) numbers_here_147), some ((eL .imm eS) names_here_151), some ((eL .imm (eT (pc eS (pc eS (p1 (eO eS)))))) u194), o195.1, o195.2, some ((eL .own eS) u212), some (eS text_215), none, none, none, none, none, none]) rfl ?_
    refine sr_unp (e := (eT (pc (eO (eL .imm (eQ .imm (eO eS)))) (p1 (eO eI))))) xt (ev_dm (ev_argsp (es := (p1 eS)) (a := text_215) (e2 := (eT (pc (eO (eL .imm (eQ .imm (eO eS)))) (p1 (eO eI))))) (ft := T__law_due text_215) (t__law_due text_215) (ev_tone (ev_dm (ev_var (e := eS) (a := text_215) rfl))))) (fun (p216 : ((Option (List (Bool × List (Option Tx)))) × (Option Int))) => (ud_tup (es := (pc (eO (eL .imm (eQ .imm (eO eS)))) (p1 (eO eI)))) (x := p216) (ud_cons (ud_name (e := (eO (eL .imm (eQ .imm (eO eS))))) (x := p216.1) rfl) (ud_one (ud_name (e := (eO eI)) (x := p216.2) rfl))))) ?_
    intro p216
    refine sr_env (E' := [some ((eL .frz eI) a_script), some ((eL .imm eI) numbers_here_147), some ((eL .imm eS) names_here_151), some ((eL .imm (eT (pc eS (pc eS (p1 (eO eS)))))) u194), o195.1, o195.2, some ((eL .own eS) u212), some (eS text_215), some ((eO (eL .imm (eQ .imm (eO eS)))) p216.1), some ((eO eI) p216.2), none, none, none, none]) rfl ?_
    refine sr_joinF (fun (u217 : ((List (Tx × Tx × (Option Tx))))) (o218 : Option D) => [some ((eL .frz eI) a_script), some ((eL .imm eI) numbers_here_147), some ((eL .imm eS) names_here_151), some ((eL .imm (eT (pc eS (pc eS (p1 (eO eS)))))) u194), o195.1, o195.2, some ((eL .own eS) u212), some (eS text_215), some ((eO (eL .imm (eQ .imm (eO eS)))) p216.1), some ((eO eI) p216.2), some ((eL .imm (eT (pc eS (pc eS (p1 (eO eS)))))) u217), o218, none, none]) (sr_try (fun (w220 : Unit) => [some ((eL .frz eI) a_script), some ((eL .imm eI) numbers_here_147), some ((eL .imm eS) names_here_151), some ((eL .imm (eT (pc eS (pc eS (p1 (eO eS)))))) u194), o195.1, o195.2, some ((eL .own eS) u212), some (eS text_215), some ((eO (eL .imm (eQ .imm (eO eS)))) p216.1), some ((eO eI) p216.2), none, none, none, none]) ?_ ?_) ?_
    · refine sr_env (E' := [some ((eL .frz eI) a_script), some ((eL .imm eI) numbers_here_147), some ((eL .imm eS) names_here_151), some ((eL .imm (eT (pc eS (pc eS (p1 (eO eS)))))) u194), o195.1, o195.2, some ((eL .own eS) u212), some (eS text_215), some ((eO (eL .imm (eQ .imm (eO eS)))) p216.1), some ((eO eI) p216.2), none, none, none, none]) rfl ?_
      refine sr_last ?_
      refine sr_asg (e := (eL .imm (eT (pc eS (pc eS (p1 (eO eS))))))) ⟨(), rfl⟩ (ev_fr (ev_argsp (es := (p1 eS)) (a := text_215) (e2 := (eL .own (eT (pc eS (pc eS (p1 (eO eS))))))) (ft := T_parse_plan text_215) (t_parse_plan text_215) (ev_tone (ev_dm (ev_var (e := eS) (a := text_215) rfl))))) rfl ?_
      intro actual_219
      refine sr_env (E' := [some ((eL .frz eI) a_script), some ((eL .imm eI) numbers_here_147), some ((eL .imm eS) names_here_151), some ((eL .imm (eT (pc eS (pc eS (p1 (eO eS)))))) u194), o195.1, o195.2, some ((eL .own eS) u212), some (eS text_215), some ((eO (eL .imm (eQ .imm (eO eS)))) p216.1), some ((eO eI) p216.2), some ((eL .imm (eT (pc eS (pc eS (p1 (eO eS)))))) actual_219), none, none, none]) rfl ?_
      exact sr_nilF (none) rfl
    · intro x w220
      refine sr_hdC rfl ?_ ?_
      · refine sr_env (E' := [some ((eL .frz eI) a_script), some ((eL .imm eI) numbers_here_147), some ((eL .imm eS) names_here_151), some ((eL .imm (eT (pc eS (pc eS (p1 (eO eS)))))) u194), o195.1, o195.2, some ((eL .own eS) u212), some (eS text_215), some ((eO (eL .imm (eQ .imm (eO eS)))) p216.1), some ((eO eI) p216.2), none, none, none, none]) rfl ?_
        refine sr_last ?_
        exact sr_ret xt (fun _ => trivial) (ev_andV (ev_binp (ft := (fun a _ => Res.ok (Option.isNone a))) op_is (ev_var (e := (eO (eL .imm (eQ .imm (eO eS))))) (a := p216.1) rfl) (ev_dm (ev_c (e := eN) (a := ()) rfl))) (ev_bin (ft := (fun a b => Res.ok (eqB a b))) (op_eq rfl rfl) (Ev.co (g := eI) (g' := (eO eI)) (fun a => (some a)) (fun _ => rfl) (ev_xf (e := eI) (n := 0) (x := x))) (ev_var (e := (eO eI)) (a := p216.2) rfl)))
      · exact sr_hd0 xt
    intro u217 o218
    refine sr_env (E' := [some ((eL .frz eI) a_script), some ((eL .imm eI) numbers_here_147), some ((eL .imm eS) names_here_151), some ((eL .imm (eT (pc eS (pc eS (p1 (eO eS)))))) u194), o195.1, o195.2, some ((eL .own eS) u212), some (eS text_215), some ((eO (eL .imm (eQ .imm (eO eS)))) p216.1), some ((eO eI) p216.2), some ((eL .imm (eT (pc eS (pc eS (p1 (eO eS)))))) u217), o218, none, none]) rfl ?_
    refine sr_last ?_
    exact sr_ret xt (fun _ => trivial) (ev_andV (ev_binp (ft := (fun a _ => Res.ok (Option.isSome a))) op_not (ev_var (e := (eO (eL .imm (eQ .imm (eO eS))))) (a := p216.1) rfl) (ev_dm (ev_c (e := eN) (a := ()) rfl))) (ev_andV (ev_unp (ft := (fun _ => Res.ok true)) (op_isi (b := true) (by decide +kernel)) (ev_var (e := (eL .imm (eT (pc eS (pc eS (p1 (eO eS))))))) (a := u217) rfl)) (ev_bin (ft := (fun a b => Res.ok (decide (a = b)))) op_eqZ (ev_dm (ev_unp (ft := (reprT (eL .imm (eT (pc eS (pc eS (p1 (eO eS)))))))) (op_repr (e := (eL .imm (eT (pc eS (pc eS (p1 (eO eS)))))))) (ev_var (e := (eL .imm (eT (pc eS (pc eS (p1 (eO eS))))))) (a := u217) rfl))) (ev_dm (ev_unp (ft := (reprT (eO (eL .imm (eQ .imm (eO eS)))))) (op_repr (e := (eO (eL .imm (eQ .imm (eO eS)))))) (ev_var (e := (eO (eL .imm (eQ .imm (eO eS))))) (a := p216.1) rfl))))))
end K49
end
noncomputable section
namespace K49
open PySem L2 PD
theorem row_ok (c : Int) (k : Nat) (hk : k ≤ 10000) : ∃ rs, T__law_row c (k : Int) = .ok rs ∧ rs.length = k ∧ Small rs := by
  refine wpR_get ?_
  unfold T__law_row
  rw [rng1_nat (by omega)]
  generalize (if c < 0 then -c else c) = a0
  simp only [wpR_end, wpT_let, wpT_seq, wpR_ok]
  refine wpT_for (fun pre s => s.2.1.length = pre.length ∧ Small s.2.1) ⟨rfl, fun _ h => (by cases h)⟩ (fun p x q s e ⟨i1, i2⟩ => ?_) (fun s ⟨i1, i2⟩ => ?_)
  · have hl := congrArg List.length e
    simp at hl
    simp only [wpT_let, wpR_ok, wpT_ite, wpT_nx, res_bind_ok]
    rw [appL_ok (by omega), appL_ok (by omega)]
    split
    · exact ⟨by simp [i1], i2.snoc (by omega) (by omega)⟩
    · exact ⟨by simp [i1], i2.snoc (by omega) (by omega)⟩
  · exact ⟨by simpa using i1, i2⟩
theorem cells_len (script : List Int) : (cutL script none (some 63)).length ≤ 63 := by
  have := cutL_take script 63
  rw [show ((63 : Nat) : Int) = 63 from rfl] at this
  rw [this, List.length_take]
  omega
theorem numbers_ok (script : List Int) (n : Nat) (hn : n ≤ 5000) : ∃ ns, T__law_numbers script (n : Int) = .ok ns ∧ ns.length = n ∧ Small ns := by
  refine wpR_get ?_
  unfold T__law_numbers
  simp only [kLet_ok, res_bind_ok]
  have hc := cells_len script
  generalize cutL script none (some 63) = cells at hc ⊢
  have hm : ∃ m : Nat, (if ((cells.length : Nat) : Int) > 1 then ((cells.length : Nat) : Int) else 1) = (m : Int) ∧ 0 < m ∧ m ≤ 63 := by
    by_cases h : ((cells.length : Nat) : Int) > 1
    · rw [if_pos h]; exact ⟨_, rfl, by omega, hc⟩
    · rw [if_neg h]; exact ⟨1, rfl, by omega, by omega⟩
  obtain ⟨m, hm1, hm2, hm3⟩ := hm
  rw [hm1, divI_of ⟨by omega, by omega⟩]
  have he : (1 : Int) + (n : Int) / (m : Int) = ((1 + n / m : Nat) : Int) := by simp
  simp only [res_bind_ok, kLet_ok, he, wpR_end, wpT_seq]
  have hk : 1 + n / m ≤ 5001 := by
    have := Nat.div_le_self n m
    omega
  generalize 1 + n / m = k at hk
  refine wpT_for (fun pre s => s.length = pre.length * k ∧ Small s) ⟨by simp, fun _ h => (by cases h)⟩ (fun p x q s e ⟨i1, i2⟩ => ?_) (fun s ⟨i1, i2⟩ => ?_)
  · obtain ⟨rs, r1, r2, r3⟩ := row_ok x k (by omega)
    have hl := congrArg List.length e
    simp at hl
    have hp : p.length ≤ 62 := by omega
    have hpk : p.length * k ≤ 62 * 5001 := Nat.mul_le_mul hp hk
    simp only [r1, kLet_ok, wpT_seq, wpT_nx]
    refine wpT_for (fun pre z => z.length = s.length + pre.length ∧ Small z) ⟨by simp, i2⟩ (fun p2 y q2 z e2 ⟨j1, j2⟩ => ?_) (fun z ⟨j1, j2⟩ => ?_)
    · have hl2 := congrArg List.length e2
      simp at hl2
      have hy := r3 y (by rw [e2]; simp)
      rw [appL_ok (by omega)]
      exact ⟨by simp; omega, j2.snoc hy.1 hy.2⟩
    · exact ⟨by rw [j1, i1, r2, List.length_append, List.length_singleton, Nat.add_mul, Nat.one_mul], j2⟩
  · have hlen : s.length ≤ 63 * 5001 := by rw [i1]; exact Nat.mul_le_mul hc hk
    refine wpT_while (fun t => Small t ∧ t.length ≤ 63 * 5001 + 5000) (fun t => n - t.length) ⟨i2, by omega⟩ (by omega) fun t ⟨j1, j2⟩ => ?_
    simp only [wpR_ok]
    by_cases h : ((t.length : Nat) : Int) < (n : Int)
    · rw [decide_eq_true h, if_pos rfl, appL_ok (by omega)]
      exact ⟨⟨j1.snoc (by omega) (by omega), by simp; omega⟩, by simp; omega⟩
    · rw [decide_eq_false h, if_neg (by simp)]
      simp only [wpT_ret, wpR_ok, cutL_take]
      exact ⟨by rw [List.length_take]; omega, fun x hx => j1 x (List.mem_of_mem_take hx)⟩
def digits : Tx := ['0', '1', '2', '3', '4', '5', '6', '7', '8', '9']
def isNm (t : Tx) : Bool := match t with
  | [] => false
  | c :: r => decide (t.length ≤ 12) && (!decide (c ∈ digits) && t.all fun d => decide (d ∈ tx0))
theorem all_map_id {α : Type} (xs : List α) (p : α → Bool) : (xs.map p).all id = xs.all p := by
  rw [List.all_map]
  rfl
theorem chT_all (t : Tx) (u : Tx) : ((chT t).map fun c => inS c u).all id = t.all fun d => decide (d ∈ u) := by
  unfold chT
  rw [List.map_map, List.all_map]
  rfl
theorem chT_len (t : Tx) : (chT t).length = t.length := by simp [chT]
theorem letter_iff (c : Char) : (c ∈ tx1) ↔ (c ∉ digits ∧ c ∈ tx0) := by
  constructor
  · intro h
    simp only [tx1, List.mem_cons, List.not_mem_nil, or_false] at h
    rcases h with h | h | h | h | h | h | h | h | h | h | h | h | h | h | h | h | h | h | h | h | h | h | h | h | h | h <;> (subst h; decide)
  · rintro ⟨h1, h⟩
    simp only [tx0, List.mem_cons, List.not_mem_nil, or_false] at h
    rcases h with h | h | h | h | h | h | h | h | h | h | h | h | h | h | h | h | h | h | h | h | h | h | h | h | h | h | h | h | h | h | h | h | h | h | h | h <;> (subst h; revert h1; decide)
theorem is_name_ok (t : Tx) (h : t.length ≤ 100000) : T_is_name t = .ok (isNm t) := by
  refine wpR_eq ?_
  unfold T_is_name
  simp only [wpR_end, wpT_if, wpR_orR, wpR_not, wpR_bind, wpR_ok, lenS_of (show t.length ≤ 16777216 by omega), wpR_ite]
  cases t with
  | nil => simp [isNm]
  | cons c r =>
    have h0 : ixS (c :: r) 0 = .ok [c] := ixS_of (by omega) ixL_zero
    have e1 : decide ((1 : Int) ≤ (((c :: r).length : Nat) : Int)) = true := decide_eq_true (by simp only [List.length_cons]; omega)
    simp only [e1, if_true, h0, wpR_ok]
    have e2 : inS [c] ['0', '1', '2', '3', '4', '5', '6', '7', '8', '9'] = decide (c ∈ digits) := rfl
    rw [e2]
    by_cases h12 : (c :: r).length ≤ 12
    · have e3 : decide ((((c :: r).length : Nat) : Int) ≤ 12) = true := decide_eq_true (by omega)
      simp only [e3, Bool.not_true, Bool.false_eq_true, if_false]
      by_cases hd : c ∈ digits
      · simp [hd, isNm]
      · rw [decide_eq_false hd]
        simp only [Bool.false_eq_true, if_false, wpT_ret, wpR_bind, kLc_map]
        rw [lim_ok (by rw [List.length_map, chT_len]; omega)]
        simp only [wpR_ok, chT_all]
        unfold isNm
        simp only [decide_eq_true h12, decide_eq_false hd, Bool.not_false, Bool.true_and]
    · have e3 : decide ((((c :: r).length : Nat) : Int) ≤ 12) = false := decide_eq_false (by omega)
      simp only [e3, Bool.not_false, if_true, wpT_ret, wpR_ok]
      unfold isNm
      simp only [decide_eq_false h12, Bool.false_and]
theorem law_is_name_core (t : Tx) : (match t with | [] => false | c :: _ => decide (t.length ≤ 12) && (decide (c ∈ tx1) && t.all fun d => decide (d ∈ tx0))) = isNm t := by
  cases t with
  | nil => rfl
  | cons c r =>
    simp only [isNm, List.all_cons]
    have := letter_iff c
    by_cases h1 : c ∈ tx1
    · have h2 := this.mp h1
      simp [h1, h2]
    · by_cases h3 : c ∈ tx0
      · have h4 : c ∈ digits := Classical.byContradiction fun q => h1 (this.mpr ⟨q, h3⟩)
        simp [h1, h4]
      · simp [h1, h3]
def chAt (i : Nat) : Char := tx0.getD i 'a'
theorem chAt_mem : ∀ i : Fin 36, chAt i.val ∈ tx0 := by decide +kernel
theorem chAt_let : ∀ i : Fin 26, chAt i.val ∉ digits := by decide +kernel
theorem chAt_inj : ∀ i j : Fin 36, chAt i.val = chAt j.val → i = j := by decide +kernel
theorem ch_of {i : Int} (h0 : 0 ≤ i) (h : i < 36) : ixS tx0 i = .ok [chAt i.toNat] := by
  refine ixS_of (by decide) ?_
  have hl : tx0.length = 36 := rfl
  rw [ixL_get h0 (by omega)]
  congr 1
  unfold chAt
  rw [List.getD_eq_getElem?_getD, List.getElem?_eq_getElem (by omega)]
  rfl
/-- a beginning of a name -/
def Pfx (t : Tx) : Prop := ∃ c r, t = c :: r ∧ c ∉ digits ∧ ∀ d ∈ t, d ∈ tx0
theorem Pfx.snoc {t : Tx} {c : Char} (h : Pfx t) (hc : c ∈ tx0) : Pfx (t ++ [c]) := by
  obtain ⟨a, r, rfl, h1, h2⟩ := h
  refine ⟨a, r ++ [c], rfl, h1, fun d hd => ?_⟩
  rcases List.mem_append.mp hd with hd | hd
  · exact h2 d hd
  · rw [List.mem_singleton.mp hd]; exact hc
theorem Pfx.nm {t : Tx} (h : Pfx t) (hl : t.length ≤ 12) : isNm t = true := by
  obtain ⟨a, r, rfl, h1, h2⟩ := h
  simp only [isNm, Bool.and_eq_true, decide_eq_true_eq, Bool.not_eq_true', decide_eq_false_iff_not, List.all_eq_true]
  exact ⟨hl, h1, fun d hd => h2 d hd⟩
theorem Pfx.app {t u : Tx} (h : Pfx t) (hu : ∀ c ∈ u, c ∈ tx0) : Pfx (t ++ u) := by
  obtain ⟨a, r, rfl, h1, h2⟩ := h
  refine ⟨a, r ++ u, rfl, h1, fun d hd => ?_⟩
  rcases List.mem_append.mp hd with hd | hd
  · exact h2 d hd
  · exact hu d hd
theorem names2_ok {x : Int} {m : Nat} (h0 : 0 ≤ x) (h1 : x < 1009) (hm : m ≤ 20) : ∃ ws, T__law_names x (m : Int) = .ok ws ∧ ws.length = m ∧ ws.Nodup ∧ ∀ w ∈ ws, isNm w = true := by
  refine wpR_get ?_
  unfold T__law_names
  obtain ⟨n, hn, hn2⟩ : ∃ n : Nat, x % 11 = (n : Int) ∧ n ≤ 10 := ⟨(x % 11).toNat, by omega, by omega⟩
  obtain ⟨pl, hp, hp2⟩ : ∃ p : Nat, x / 11 % ((n : Int) + 1) = (p : Int) ∧ p ≤ n := by
    have a1 := Int.emod_nonneg (x / 11) (show (n : Int) + 1 ≠ 0 by omega)
    have a2 := Int.emod_lt_of_pos (x / 11) (show (0 : Int) < (n : Int) + 1 by omega)
    exact ⟨(x / 11 % ((n : Int) + 1)).toNat, by omega, by omega⟩
  have chx : ∀ z : Int, ∃ c, ixS tx0 (z % 36) = .ok [c] ∧ c ∈ tx0 := fun z => by
    have a1 := Int.emod_nonneg z (show (36 : Int) ≠ 0 by omega)
    have a2 := Int.emod_lt_of_pos z (show (0 : Int) < 36 by omega)
    exact ⟨_, ch_of a1 a2, chAt_mem ⟨(z % 36).toNat, by omega⟩⟩
  simp only [kLet_ok, res_bind_ok, hn, rng1_nat (show n < 1000000000 by omega), wpR_end, wpT_let, wpR_bind, wpT_seq]
  refine wpR_lcM (fun y => ∃ c, y = [c] ∧ c ∈ tx0) (fun z hz => ?_) (by simp; omega) fun ys y1 y2 => ?_
  · obtain ⟨j, hj, rfl⟩ := List.mem_map.mp hz
    rw [List.mem_range] at hj
    have hj2 : Int.ofNat j = (j : Int) := rfl
    rw [hj2, mulI_r (show -18446744073709551616 < (j : Int) ∧ (j : Int) < 18446744073709551616 by omega), res_bind_ok, res_bind_ok]
    obtain ⟨c, c1, c2⟩ := chx (x + 7 * (j : Int) * (j : Int))
    exact ⟨[c], c1, c, rfl, c2⟩
  have yl : ys.length = n := by simpa using y1
  have fl : ∀ zs : List Tx, (∀ y ∈ zs, ∃ c, y = [c] ∧ c ∈ tx0) → zs.flatten.length = zs.length ∧ (∀ c ∈ zs.flatten, c ∈ tx0) ∧ (zs.map List.length).sum = zs.length := by
    intro zs
    induction zs with
    | nil => exact fun _ => ⟨rfl, ⟨(fun _ h => by cases h), rfl⟩⟩
    | cons z zs ih =>
      intro h
      obtain ⟨i1, i2, i3⟩ := ih fun y hy => h y (List.mem_cons_of_mem _ hy)
      obtain ⟨c, rfl, hc⟩ := h z List.mem_cons_self
      refine ⟨by simp [i1], fun d hd => ?_, by simp [i3]; omega⟩
      rw [List.flatten_cons, List.mem_append] at hd
      rcases hd with hd | hd
      · rw [List.mem_singleton.mp hd]; exact hc
      · exact i2 d hd
  obtain ⟨f1, f2, f3⟩ := fl ys y2
  rw [joinG_of (by rw [f3]; simp; omega), joinT_nil]
  generalize ys.flatten = rest at f1 f2
  simp only [wpR_ok, modI_of (show (0 : Int) < (n : Int) + 1 by omega), hp, rng1_nat (show m < 1000000000 by omega)]
  refine wpT_for (fun (pre : List Int) (s : List Tx) => s.length = pre.length ∧ ∀ (k : Nat) (w : Tx), s[k]? = some w → isNm w = true ∧ w.head? = some (chAt ((x + 3 * (k : Int)) % 26).toNat)) ⟨rfl, fun k w h => by simp at h⟩ (fun p z q s e ⟨i1, i2⟩ => ?_) (fun s ⟨i1, i2⟩ => ?_)
  · obtain ⟨rfl, hq⟩ := range_at e
    have hown : ∀ own : Tx, own.length ≤ n ∧ (∀ c ∈ own, c ∈ tx0) → ∀ st : Int, (0 ≤ st ∧ st < 100) → wpT (kLet (((((ixS tx0 ((x + (3 * (p.length : Int))) % 26)) >>= fun x176 => ((Res.ok own) >>= fun x173 => (Res.ok none) >>= fun x174 => (Res.ok (some (if (own.length : Int) < (pl : Int) then (own.length : Int) else (pl : Int)))) >>= fun x175 => slS x173 x174 x175) >>= fun x177 => addS x176 x177) >>= fun x183 => ((Res.ok tx0) >>= fun x181 => (((Res.ok x) >>= fun x178 => (mulI st (p.length : Int)) >>= fun x179 => Res.ok (x178 + x179)) >>= fun x180 => Res.ok (x180 % 36)) >>= fun x182 => ixS x181 x182) >>= fun x184 => addS x183 x184) >>= fun x188 => ((Res.ok own) >>= fun x185 => (Res.ok (some (if (own.length : Int) < (pl : Int) then (own.length : Int) else (pl : Int)))) >>= fun x186 => (Res.ok none) >>= fun x187 => slS x185 x186 x187) >>= fun x189 => addS x188 x189) >>= fun x208 => appL s x208) fun (nh : List Tx) => (TR.nx nh : TR (List Tx) (List Tx) (List Tx)))
        (fun t => t.length = (p ++ [(p.length : Int)]).length ∧ ∀ (k : Nat) (w : Tx), t[k]? = some w → isNm w = true ∧ w.head? = some (chAt ((x + 3 * (k : Int)) % 26).toNat)) (fun t => t.length = (p ++ [(p.length : Int)]).length ∧ ∀ (k : Nat) (w : Tx), t[k]? = some w → isNm w = true ∧ w.head? = some (chAt ((x + 3 * (k : Int)) % 26).toNat)) (fun t => wpT (TR.rt t : TR (List Tx) Empty (List Tx)) (fun ws => ws.length = m ∧ ws.Nodup ∧ ∀ w ∈ ws, isNm w = true) (fun _ => False) (fun _ => False) (fun ws => ws.length = m ∧ ws.Nodup ∧ ∀ w ∈ ws, isNm w = true) (fun _ => False)) (fun ws => ws.length = m ∧ ws.Nodup ∧ ∀ w ∈ ws, isNm w = true) (fun _ => False) := by
      intro own ⟨o1, o2⟩ st ⟨s1, s2⟩
      obtain ⟨sp, hs⟩ : ∃ sp : Nat, (if (own.length : Int) < (pl : Int) then (own.length : Int) else (pl : Int)) = (sp : Int) := by split <;> exact ⟨_, rfl⟩
      obtain ⟨c, c1, c2⟩ := chx (x + st * (p.length : Int))
      have b1 := Int.emod_nonneg (x + 3 * (p.length : Int)) (show (26 : Int) ≠ 0 by omega)
      have b2 := Int.emod_lt_of_pos (x + 3 * (p.length : Int)) (show (0 : Int) < 26 by omega)
      have tl := congrArg List.length (List.take_append_drop sp own)
      rw [List.length_append] at tl
      simp only [hs, ch_of b1 (show (x + 3 * (p.length : Int)) % 26 < 36 by omega), res_bind_ok, slS_of (show own.length ≤ 16777216 by omega), cutL_take, cutL_drop, mulI_l (show -18446744073709551616 < st ∧ st < 18446744073709551616 by omega), c1, addS_of (show [chAt ((x + 3 * (p.length : Int)) % 26).toNat].length + (own.take sp).length ≤ 16777216 by simp; omega)]
      rw [addS_of (by simp only [List.length_append, List.length_singleton]; omega), res_bind_ok, addS_of (by simp only [List.length_append, List.length_singleton]; omega), res_bind_ok, appL_ok (by omega)]
      simp only [kLet_ok, wpT_nx]
      refine ⟨by simp [i1], fun k w hw => ?_⟩
      by_cases hk : k < s.length
      · rw [List.getElem?_append_left hk] at hw
        exact i2 k w hw
      · have hk2 : k = p.length := by
          have := (List.getElem?_eq_some_iff.mp hw).1
          simp at this
          omega
        rw [List.getElem?_append_right (by omega), show k - s.length = 0 by omega] at hw
        simp only [List.getElem?_cons_zero, Option.some.injEq] at hw
        subst hk2
        rw [← hw]
        refine ⟨?_, rfl⟩
        have pf : Pfx [chAt ((x + 3 * (p.length : Int)) % 26).toNat] := ⟨_, [], rfl, chAt_let ⟨((x + 3 * (p.length : Int)) % 26).toNat, by omega⟩, fun d hd => by rw [List.mem_singleton.mp hd]; exact chAt_mem ⟨((x + 3 * (p.length : Int)) % 26).toNat, by omega⟩⟩
        refine (((pf.app fun d hd => o2 d (List.mem_of_mem_take hd)).app fun d hd => by rw [List.mem_singleton.mp hd]; exact c2).app fun d hd => o2 d (List.mem_of_mem_drop hd)).nm ?_
        simp only [List.length_append, List.length_singleton]
        omega
    simp only [kLet_ok, wpT_seq]
    refine wpT_mono (N := fun own => own.length ≤ n ∧ ∀ c ∈ own, c ∈ tx0) ?_ fun own ho => ?_
    · simp only [wpT_ite, wpT_let, wpT_nx, res_bind_ok, slS_of (show rest.length ≤ 16777216 by omega), wpR_ok]
      rw [show (1 : Int) = ((1 : Nat) : Int) from rfl, cutL_drop]
      split
      · exact ⟨by rw [List.length_drop]; omega, fun c hc => f2 c (List.mem_of_mem_drop hc)⟩
      · exact ⟨by omega, f2⟩
    · simp only [wpT_let, res_bind_ok, lenS_of (show own.length ≤ 16777216 by omega), wpR_ok, wpT_seq]
      refine wpT_mono (N := fun st => 0 ≤ st ∧ st < 100) ?_ fun st hst => ?_
      · simp only [wpT_ite, wpT_nx]
        split <;> omega
      · have hh := hown own ho st hst
        simp only [wpT_let, wpT_nx, wpT_rt, res_bind_ok, res_assoc] at hh ⊢
        exact hh
  · have sl : s.length = m := by simpa using i1
    simp only [wpT_rt]
    refine ⟨sl, List.nodup_iff_pairwise_ne.mpr (List.pairwise_iff_getElem.mpr fun i j hi hj hij e => ?_), fun w hw => ?_⟩
    · have a1 := (i2 i _ (List.getElem?_eq_getElem hi)).2
      have a2 := (i2 j _ (List.getElem?_eq_getElem hj)).2
      rw [e, a2] at a1
      have a3 := Option.some.inj a1
      have z1 : ((x + 3 * (i : Int)) % 26).toNat < 36 := by omega
      have z2 : ((x + 3 * (j : Int)) % 26).toNat < 36 := by omega
      have a4 := congrArg Fin.val (chAt_inj ⟨_, z2⟩ ⟨_, z1⟩ a3)
      have a4 : ((x + 3 * (j : Int)) % 26).toNat = ((x + 3 * (i : Int)) % 26).toNat := a4
      omega
    · obtain ⟨k, hk, e⟩ := List.getElem_of_mem hw
      exact (i2 k w (by rw [← e]; exact List.getElem?_eq_getElem hk)).1
theorem law_is_name_ok (t : Tx) (h : t.length ≤ 100000) : T__law_is_name t = .ok (isNm t) := by
  refine wpR_eq ?_
  unfold T__law_is_name
  simp only [wpR_end, wpT_if, wpR_orR, wpR_bind, wpR_ok, lenS_of (show t.length ≤ 16777216 by omega)]
  rw [← law_is_name_core t]
  cases t with
  | nil => simp
  | cons c r =>
    have h0 : ixS (c :: r) 0 = .ok [c] := ixS_of (by omega) ixL_zero
    have e1 : decide ((((c :: r).length : Nat) : Int) < 1) = false := decide_eq_false (by simp only [List.length_cons]; omega)
    have e2 : inS [c] tx1 = decide (c ∈ tx1) := rfl
    simp only [e1, Bool.false_eq_true, if_false, h0, wpR_ok, e2]
    by_cases h12 : (c :: r).length ≤ 12
    · have e3 : decide ((((c :: r).length : Nat) : Int) > 12) = false := decide_eq_false (by omega)
      simp only [e3, Bool.false_eq_true, if_false, decide_eq_true h12, Bool.true_and]
      by_cases hd : c ∈ tx1
      · rw [decide_eq_true hd]
        simp only [Bool.not_true, Bool.false_eq_true, if_false, wpT_let, wpR_ok, wpT_seq, Bool.true_and]
        have hp : (chT (c :: r)).all (fun x => inS x tx0) = (c :: r).all fun d => decide (d ∈ tx0) := by
          rw [← chT_all, all_map_id]
        refine wpT_look (fun x => inS x tx0) false (fun x _ => ?_) (fun hp2 => ?_) (fun hp2 => ?_)
        · cases hx : inS x tx0 <;> simp
        · rw [hp] at hp2
          rw [hp2]
          rfl
        · rw [hp] at hp2
          rw [hp2]
      · rw [decide_eq_false hd]
        rfl
    · have e3 : decide ((((c :: r).length : Nat) : Int) > 12) = true := decide_eq_true (by omega)
      simp only [e3, if_true, decide_eq_false h12, Bool.false_and]
      rfl
abbrev Ac := Tx × Tx × Option Tx
def good (ws : List Tx) : Bool := decide (2 ≤ ws.length) && (decide (ws.length ≤ 3) && ws.all isNm)
def actW (ws : List Tx) : Ac := (ws.getD 0 [], ws.getD 1 [], ws[2]?)
def rowW (ws : List Tx) : List (Option Tx) := (ws.map some ++ [none]).take 3
def badL (l : Tx) : Bool := !good (splitT ' ' l)
theorem good_len {ws : List Tx} (h : good ws = true) : 2 ≤ ws.length ∧ ws.length ≤ 3 := by
  simp only [good, Bool.and_eq_true, decide_eq_true_eq] at h
  exact ⟨h.1, h.2.1⟩
theorem find_at {α : Type} {P : α → Bool} {p q : List α} {x : α} (h : ∀ y ∈ p, P y = false) (hx : P x = true) : (p ++ x :: q).findIdx? P = some p.length := by
  rw [List.findIdx?_eq_some_iff_getElem]
  refine ⟨by simp, by simpa using hx, fun j hj => ?_⟩
  rw [List.getElem_append_left hj]
  simp [h _ (List.getElem_mem hj)]
theorem find_no {α : Type} {P : α → Bool} {p : List α} (h : ∀ y ∈ p, P y = false) : p.findIdx? P = none := List.findIdx?_eq_none_iff.mpr h
theorem is_names_ok (ws : List Tx) (hl : ws.length ≤ 1000000) (h : ∀ w ∈ ws, w.length ≤ 100000) : kLc ws (fun (_ : Tx) => (Res.ok true)) (fun (c : Tx) => (T_is_name c)) = .ok (ws.map isNm) := by
  refine wpR_eq (wpR_lc (fun _ => true) isNm (fun _ _ => rfl) (fun x hx _ => is_name_ok x (h x hx)) (by omega) ?_)
  rw [List.filter_eq_self.mpr fun _ _ => rfl]
theorem enT_get {α : Type} {k : Int} {xs : List α} {i : Nat} {a : α} (h : xs[i]? = some a) : (enT k xs)[i]? = some (k + i, a) := by
  have hi := (List.getElem?_eq_some_iff.mp h).1
  unfold enT
  rw [List.getElem?_zipWith, h, List.getElem?_range hi]
theorem enT_at {α : Type} {k : Int} {xs : List α} {p q : List (Int × α)} {x : Int × α} (e : enT k xs = p ++ x :: q) : x.1 = k + p.length ∧ xs[p.length]? = some x.2 := by
  have h1 : (enT k xs)[p.length]? = some x := by rw [e]; simp
  have hl : (enT k xs).length = xs.length := by simp [enT]
  have hp : p.length < xs.length := by
    rw [← hl, e]; simp
  have h2 := enT_get (k := k) (List.getElem?_eq_getElem hp)
  rw [h1] at h2
  cases h2
  exact ⟨rfl, List.getElem?_eq_getElem hp⟩
theorem spT_short (c : Char) : ∀ (t acc : Tx), ∀ w ∈ PD.spT c acc t, w.length ≤ acc.length + t.length
  | [], acc, w, hw => by
    unfold PD.spT at hw
    rw [List.mem_singleton.mp hw]; simp
  | d :: r, acc, w, hw => by
    unfold PD.spT at hw
    split at hw
    · rcases List.mem_cons.mp hw with rfl | hw
      · omega
      · have := spT_short c r [] w hw
        simp at this ⊢; omega
    · have := spT_short c r (acc ++ [d]) w hw
      simp at this ⊢; omega
theorem split_short (c : Char) (t : Tx) : ∀ w ∈ splitT c t, w.length ≤ t.length := fun w hw => by
  have := spT_short c t [] w hw
  simpa using this
theorem enT_snd {α : Type} {k : Int} (xs : List α) : (enT k xs).map (·.2) = xs := by
  refine List.ext_getElem? fun i => ?_
  rw [List.getElem?_map]
  cases h : xs[i]? with
  | some a => rw [enT_get h]; rfl
  | none =>
    have hl : (enT k xs).length = xs.length := by unfold enT; simp
    rw [List.getElem?_eq_none_iff] at h
    rw [List.getElem?_eq_none (by omega)]
    rfl
theorem enT_len {α : Type} {k : Int} (xs : List α) : (enT k xs).length = xs.length := by unfold enT; simp
theorem all3 (a b c : Bool) : (a && (b && c)) = (a && b && c) := by cases a <;> rfl
theorem good_int (ws : List Tx) : good ws = (decide ((2 : Int) ≤ (ws.length : Nat)) && decide (((ws.length : Nat) : Int) ≤ 3) && ws.all isNm) := by
  unfold good
  rw [all3]
  congr 1
  congr 1
  · exact decide_eq_decide.mpr (by omega)
  · exact decide_eq_decide.mpr (by omega)
theorem good_shape {ws : List Tx} (h : good ws = true) : (∃ a b, ws = [a, b]) ∨ ∃ a b c, ws = [a, b, c] := by
  have h2 := good_len h
  match ws, h2 with
  | [a, b], _ => exact .inl ⟨a, b, rfl⟩
  | [a, b, c], _ => exact .inr ⟨a, b, c, rfl⟩
  | a :: b :: c :: d :: r, z => have := z.2; simp at this
  | [a], z => have := z.1; simp at this
  | [], z => have := z.1; simp at this
def PARSED (text : Tx) (as : List Ac) : Prop := (text = [] ∧ as = []) ∨ (text ≠ [] ∧ (splitT '\n' text).findIdx? badL = none ∧ as = (splitT '\n' text).map fun l => actW (splitT ' ' l))
theorem splits_ok {lines : List Tx} {n : Nat} (hw : ∀ w ∈ lines, w.length ≤ n) (hn : n ≤ 100000) : ∀ s ∈ lines, splitG ' ' s = .ok (splitT ' ' s) ∧ (splitT ' ' s).length ≤ 100001 ∧ ∀ w ∈ splitT ' ' s, w.length ≤ 100000 := fun s z => by
  have l1 := splitT_len ' ' s
  have l2 := hw s z
  exact ⟨splitG_of (by omega), by omega, fun w y => by have := split_short ' ' s w y; omega⟩
theorem parse_ok (text : Tx) (hl : text.length ≤ 100000) : wpR (T_parse_plan text) (PARSED text) (fun x => ∃ k : Nat, text ≠ [] ∧ (splitT '\n' text).findIdx? badL = some k ∧ x = ⟨0, [0], [eI ((k : Int) + 1)]⟩) := by
  unfold T_parse_plan
  simp only [wpR_end, wpT_ite, eqB_iff]
  by_cases h0 : text = []
  · rw [if_pos h0]
    exact .inl ⟨h0, rfl⟩
  rw [if_neg h0]
  have hw := split_short '\n' text
  have hn := splitT_len '\n' text
  have hs := splits_ok hw hl
  simp only [wpT_let, wpR_ok, wpR_bind, splitG_of (show text.length ≤ 1000000 by omega), wpT_seq]
  unfold PARSED
  generalize splitT '\n' text = lines at hw hn hs
  refine wpT_for (fun p s => (∀ y ∈ p, badL y.2 = false) ∧ s = p.map fun y => actW (splitT ' ' y.2)) ⟨fun _ z => (by cases z), rfl⟩ (fun p x q s e ⟨i1, i2⟩ => ?_) (fun s ⟨i1, i2⟩ => ?_)
  · obtain ⟨e1, e2⟩ := enT_at e
    have hm : x.2 ∈ lines := List.mem_of_getElem? e2
    have hpl : lines = (p.map (·.2)) ++ x.2 :: (q.map (·.2)) := by
      rw [← enT_snd (k := 1) lines, e]; simp
    have hlen := congrArg List.length e
    rw [enT_len, List.length_append, List.length_cons] at hlen
    obtain ⟨w1, w2, w3⟩ := hs x.2 hm
    have hb : badL x.2 = !good (splitT ' ' x.2) := rfl
    rw [good_int] at hb
    have hgs : badL x.2 = false → (∃ a b, splitT ' ' x.2 = [a, b]) ∨ ∃ a b c, splitT ' ' x.2 = [a, b, c] := fun z => good_shape (by unfold badL at z; simpa using z)
    simp only [wpT_let, w1, wpR_ok, wpT_if, wpR_orR, wpR_not, wpR_bind, is_names_ok _ (show (splitT ' ' x.2).length ≤ 1000000 by omega) w3, all_map_id]
    generalize hws : splitT ' ' x.2 = ws at hb hgs
    have sn : s.length < 16777216 := by rw [i2, List.length_map]; omega
    by_cases hgd : badL x.2 = false
    · have hp := hgs hgd
      have hb2 := hb
      rw [hgd] at hb2
      have hb3 : (decide ((2 : Int) ≤ (ws.length : Nat)) && decide (((ws.length : Nat) : Int) ≤ 3) && ws.all isNm) = true := by
        cases h : (decide ((2 : Int) ≤ (ws.length : Nat)) && decide (((ws.length : Nat) : Int) ≤ 3) && ws.all isNm) with
        | true => rfl
        | false => rw [h] at hb2; cases hb2
      rw [Bool.and_eq_true] at hb3
      simp only [hb3.1, hb3.2, Bool.not_true, Bool.false_eq_true, if_false]
      have I : ∀ y ∈ p ++ [x], badL y.2 = false := fun y hy => (List.mem_append.mp hy).elim (i1 y) fun z => by rw [List.mem_singleton.mp z]; exact hgd
      rcases hp with ⟨a, b, rfl⟩ | ⟨a, b, c, rfl⟩
      · have e5 : eqB ((([a, b] : List Tx).length : Nat) : Int) 3 = false := rfl
        simp only [ixL_zero, ixL_one, res_bind_ok, e5, Bool.false_eq_true, if_false, appL_ok sn, kLet_ok, wpT_let, wpR_ok, wpT_nx]
        exact ⟨I, by rw [List.map_append, ← i2]; simp only [List.map_cons, List.map_nil, hws]; rfl⟩
      · have e5 : eqB ((([a, b, c] : List Tx).length : Nat) : Int) 3 = true := rfl
        simp only [ixL_zero, ixL_one, ixL_two, res_bind_ok, e5, if_true, appL_ok sn, kLet_ok, wpT_let, wpR_ok, wpT_nx]
        exact ⟨I, by rw [List.map_append, ← i2]; simp only [List.map_cons, List.map_nil, hws]; rfl⟩
    · have hgd : badL x.2 = true := by simpa using hgd
      have hfi : lines.findIdx? badL = some p.length := by
        rw [hpl, find_at (fun y hy => by obtain ⟨z, hz, rfl⟩ := List.mem_map.mp hy; exact i1 z hz) hgd, List.length_map]
      have fin : ∃ k : Nat, text ≠ [] ∧ lines.findIdx? badL = some k ∧ (⟨0, [0], [eI x.1]⟩ : Exc) = ⟨0, [0], [eI ((k : Int) + 1)]⟩ := ⟨p.length, h0, hfi, by rw [e1, Int.add_comm]⟩
      rw [hgd] at hb
      cases hA : (decide ((2 : Int) ≤ (ws.length : Nat)) && decide (((ws.length : Nat) : Int) ≤ 3)) with
      | true =>
        rw [hA] at hb
        have hB : ws.all isNm = false := by cases h : ws.all isNm with
          | false => rfl
          | true => rw [h] at hb; cases hb
        simp only [hB, Bool.not_true, Bool.not_false, Bool.false_eq_true, if_false, if_true, wpT_ex]
        exact fin
      | false =>
        simp only [Bool.not_false, if_true, wpT_ex]
        exact fin
  · simp only [wpT_rt]
    have hp : ∀ y ∈ lines, badL y = false := fun y hy => by
      rw [← enT_snd (k := 1) lines] at hy
      obtain ⟨z, hz, rfl⟩ := List.mem_map.mp hy
      exact i1 z hz
    refine .inr ⟨h0, find_no hp, ?_⟩
    rw [i2]
    conv => rhs; rw [← enT_snd (k := 1) lines, List.map_map]
    rfl
abbrev Du := Option (List (Bool × List (Option Tx))) × Option Int
def dueV (text : Tx) : Du := if text = [] then (some [], none) else match (splitT '\n' text).findIdx? badL with
  | none => (some ((splitT '\n' text).map fun l => (true, rowW (splitT ' ' l))), none)
  | some k => (none, some ((k : Int) + 1))
theorem due_ok (text : Tx) (hl : text.length ≤ 100000) : T__law_due text = .ok (dueV text) := by
  refine wpR_eq ?_
  unfold T__law_due
  simp only [wpR_end, wpT_let, wpR_ok, wpT_ite, eqB_iff]
  by_cases h0 : text = []
  · rw [if_pos h0]
    simp only [wpT_ret, wpR_ok]
    unfold dueV
    rw [if_pos h0]
    rfl
  rw [if_neg h0]
  have hw := split_short '\n' text
  have hn := splitT_len '\n' text
  have hs := splits_ok hw hl
  have hd : dueV text = match (splitT '\n' text).findIdx? badL with
  | none => (some ((splitT '\n' text).map fun l => (true, rowW (splitT ' ' l))), none)
  | some k => (none, some ((k : Int) + 1)) := by unfold dueV; rw [if_neg h0]
  rw [hd]
  simp only [splitG_of (show text.length ≤ 1000000 by omega), wpR_ok, wpT_seq]
  generalize splitT '\n' text = lines at hw hn hs
  rw [rng1_nat (show lines.length < 1000000000 by omega)]
  simp only [wpR_ok]
  refine wpT_for (fun p s => (∀ y ∈ lines.take p.length, badL y = false) ∧ s = (lines.take p.length).map fun y => rowW (splitT ' ' y)) ⟨fun _ z => (by simp at z), rfl⟩ (fun p x q s e ⟨i1, i2⟩ => ?_) (fun s ⟨i1, i2⟩ => ?_)
  · obtain ⟨rfl, hq⟩ := range_at e
    have hx : lines[p.length]? = some lines[p.length] := List.getElem?_eq_getElem hq
    have hm : lines[p.length] ∈ lines := List.getElem_mem hq
    have htk : lines.take (p ++ [(p.length : Int)]).length = lines.take p.length ++ [lines[p.length]] := by
      rw [List.length_append, List.length_singleton, List.take_add_one, hx]; rfl
    have hdr : lines = lines.take p.length ++ lines[p.length] :: lines.drop (p.length + 1) := by
      rw [← List.drop_eq_getElem_cons hq, List.take_append_drop]
    generalize lines[p.length] = x at hx hm htk hdr
    obtain ⟨w1, w2, w3⟩ := hs x hm
    have hb : badL x = !good (splitT ' ' x) := rfl
    have hgs : badL x = false → (∃ a b, splitT ' ' x = [a, b]) ∨ ∃ a b c, splitT ' ' x = [a, b, c] := fun z => good_shape (by unfold badL at z; simpa using z)
    have hfi : badL x = true → lines.findIdx? badL = some p.length := fun z => by
      have := find_at (q := lines.drop (p.length + 1)) i1 z
      rw [← hdr, List.length_take] at this
      rw [this]
      congr 1
      omega
    simp only [ixL_nat hx, res_bind_ok, wpT_let, w1, wpR_ok, wpT_ite]
    generalize hws : splitT ' ' x = ws at hb hgs w2 w3
    have sn : s.length < 16777216 := by rw [i2, List.length_map, List.length_take]; omega
    have e1 : (decide (((ws.length : Nat) : Int) < 2) || decide (((ws.length : Nat) : Int) > 3)) = !(decide (2 ≤ ws.length) && decide (ws.length ≤ 3)) := by
      rw [Bool.not_and]
      congr 1
      · rw [← decide_not]; exact decide_eq_decide.mpr (by omega)
      · rw [← decide_not]; exact decide_eq_decide.mpr (by omega)
    rw [e1]
    unfold good at hb
    rw [all3] at hb
    cases hA : (decide (2 ≤ ws.length) && decide (ws.length ≤ 3)) with
    | false =>
      rw [hA] at hb
      simp only [Bool.not_false, if_true, wpT_ret, wpR_ok]
      rw [hfi hb]
    | true =>
      rw [hA, Bool.true_and] at hb
      simp only [Bool.not_true, Bool.false_eq_true, if_false, wpT_let, wpR_ok, wpT_seq]
      refine wpT_look isNm (none, some ((p.length : Int) + 1)) (fun y hy => ?_) (fun hB => ?_) (fun hB => ?_)
      · rw [law_is_name_ok y (w3 y hy)]
        simp only [wpT_if, wpR_not, wpR_ok]
        cases hy2 : isNm y <;> simp
      · rw [hB] at hb
        have I : ∀ y ∈ lines.take (p ++ [(p.length : Int)]).length, badL y = false := fun y hy => by
          rw [htk] at hy
          exact (List.mem_append.mp hy).elim (i1 y) fun z => by rw [List.mem_singleton.mp z]; exact hb
        have hz : ∀ r : List (Option Tx), r = rowW ws → s ++ [r] = (lines.take (p ++ [(p.length : Int)]).length).map fun y => rowW (splitT ' ' y) := fun r hr => by
          rw [htk, List.map_append, ← i2, hr]
          simp only [List.map_cons, List.map_nil, hws]
        rw [lim_ok (by simp; omega)]
        simp only [wpT_let, wpR_ok, wpR_bind, res_bind_ok, appL_ok sn, wpT_nx]
        refine ⟨I, hz _ ?_⟩
        have := cutL_take (ws.map some ++ [none]) 3
        exact this
      · rw [hB] at hb
        rw [hfi hb]
  · have hlen : ((List.range lines.length).map Int.ofNat).length = lines.length := by simp
    rw [hlen, List.take_length] at i1 i2
    rw [find_no i1]
    simp only [wpT_ret, wpR_bind]
    refine wpR_lc (fun _ => true) id (fun _ _ => rfl) (fun _ _ _ => rfl) (by rw [i2]; simp; omega) ?_
    rw [List.filter_eq_self.mpr fun _ _ => rfl, List.map_id]
    simp only [wpR_ok]
    rw [i2]
    simp [List.map_map, Function.comp_def]
theorem textFrom_le {n : Nat} : ∀ (ts : List Str) (k : Nat) (acc : Str), (∀ t ∈ ts, t.length ≤ n) → (textFrom k acc ts).length ≤ acc.length + ts.length * (n + 2)
  | [], k, acc, _ => by
    unfold textFrom
    simp
  | t :: ts, k, acc, h => by
    unfold textFrom
    have ih := textFrom_le ts (k + 1) (acc ++ (if k > 0 then ", " else "" : String) ++ t) fun x hx => h x (List.mem_cons_of_mem _ hx)
    have ht := h t List.mem_cons_self
    rw [Str.length_append, Str.length_append] at ih
    have hs : (((if k > 0 then ", " else "" : String) : Str)).length ≤ 2 := by
      split
      · exact (by decide +kernel : ((", " : String) : Str).length ≤ 2)
      · exact (by decide +kernel : (("" : String) : Str).length ≤ 2)
    rw [List.length_cons, Nat.add_mul, Nat.one_mul]
    omega
theorem listText_le {n : Nat} {ts : List Str} (h : ∀ t ∈ ts, t.length ≤ n) : (listText ts).length ≤ 2 + ts.length * (n + 2) := by
  unfold listText
  rw [Str.length_append]
  have h1 := textFrom_le ts 0 "[" h
  have h2 : ("[" : Str).length = 1 := by decide +kernel
  have h3 : ("]" : Str).length = 1 := by decide +kernel
  omega
theorem piled_le {n : Nat} : ∀ {ts : List Str}, (∀ t ∈ ts, t.length ≤ n) → piled ts ≤ ts.length * (n + 2)
  | [], _ => by rw [piled_nil]; omega
  | t :: ts, h => by
    rw [piled_cons, List.length_cons, Nat.add_mul, Nat.one_mul]
    have := piled_le (n := n) (ts := ts) fun x hx => h x (List.mem_cons_of_mem _ hx)
    have := h t List.mem_cons_self
    omega
theorem tupleText_le {n : Nat} {ts : List Str} (h : ∀ t ∈ ts, t.length ≤ n) : (tupleText ts).length ≤ 3 + ts.length * (n + 2) := by
  unfold tupleText
  rw [Str.length_append, Str.length_append]
  have h1 : ("(" : Str).length = 1 := by decide +kernel
  have h2 : (((if ts.length == 1 then ",)" else ")" : String)) : Str).length ≤ 2 := by
    split
    · exact (by decide +kernel : ((",)" : String) : Str).length ≤ 2)
    · exact (by decide +kernel : ((")" : String) : Str).length ≤ 2)
  have h3 : (Str.join ", " ts).length ≤ ts.length * (n + 2) := by
    cases ts with
    | nil =>
      have : (Str.join ", " []).length = 0 := by decide +kernel
      omega
    | cons x r =>
      have := join_length_add (x :: r) (by simp)
      have := piled_le h
      omega
  omega
/-- short data -/
structure Brief (n d : Nat) (p : PyData) : Prop where
  s : p.showable = true
  h : p.hasDict = false
  d : p.depth ≤ d
  l : p.shown.length ≤ n
theorem showAll_of {n d : Nat} : ∀ {ps : List PyData}, (∀ p ∈ ps, Brief n d p) → PyData.showableAll ps = true ∧ PyData.hasDictAll ps = false ∧ PyData.depthAll ps ≤ d ∧ ∀ t ∈ PyData.shownAll ps, t.length ≤ n
  | [], _ => ⟨rfl, rfl, Nat.zero_le _, fun t ht => by cases ht⟩
  | p :: ps, h => by
    obtain ⟨a, b, c, e⟩ := showAll_of fun x hx => h x (List.mem_cons_of_mem p hx)
    have hp := h p List.mem_cons_self
    refine ⟨?_, ?_, ?_, fun t ht => ?_⟩
    · unfold PyData.showableAll
      rw [hp.s, a]
      rfl
    · unfold PyData.hasDictAll
      rw [hp.h, b]
      rfl
    · unfold PyData.depthAll
      exact Nat.max_le.mpr ⟨hp.d, c⟩
    · unfold PyData.shownAll at ht
      rcases List.mem_cons.mp ht with rfl | ht
      · exact hp.l
      · exact e t ht
theorem shownAll_len : ∀ ps : List PyData, (PyData.shownAll ps).length = ps.length
  | [] => rfl
  | p :: ps => by
    unfold PyData.shownAll
    rw [List.length_cons, shownAll_len ps, List.length_cons]
theorem Brief.list {n d k : Nat} {ps : List PyData} (h : ∀ p ∈ ps, Brief n d p) (hk : ps.length ≤ k) : Brief (2 + k * (n + 2)) (d + 1) (.list ps) := by
  obtain ⟨a, b, c, e⟩ := showAll_of h
  refine ⟨by unfold PyData.showable; exact a, by unfold PyData.hasDict; exact b, by unfold PyData.depth; omega, ?_⟩
  unfold PyData.shown
  have := listText_le e
  rw [shownAll_len] at this
  exact Nat.le_trans this (Nat.add_le_add_left (Nat.mul_le_mul_right _ hk) _)
theorem Brief.tup {n d k : Nat} {ps : List PyData} (h : ∀ p ∈ ps, Brief n d p) (hk : ps.length ≤ k) : Brief (3 + k * (n + 2)) (d + 1) (.tuple ps) := by
  obtain ⟨a, b, c, e⟩ := showAll_of h
  refine ⟨by unfold PyData.showable; exact a, by unfold PyData.hasDict; exact b, by unfold PyData.depth; omega, ?_⟩
  unfold PyData.shown
  have := tupleText_le e
  rw [shownAll_len] at this
  exact Nat.le_trans this (Nat.add_le_add_left (Nat.mul_le_mul_right _ hk) _)
theorem Brief.mono {n d n' d' : Nat} {p : PyData} (h : Brief n d p) (h1 : n ≤ n') (h2 : d ≤ d') : Brief n' d' p := ⟨h.s, h.h, Nat.le_trans h.d h2, Nat.le_trans h.l h1⟩
theorem Brief.none : Brief 4 0 .none := ⟨rfl, rfl, Nat.le_refl _, by decide +kernel⟩
theorem Brief.ok {n d : Nat} {p : PyData} (h : Brief n d p) (h1 : n ≤ 16777216) (h2 : d ≤ 40) : ShowOk p := ⟨h.s, h.h, Nat.le_trans h.d h2, Nat.le_trans h.l h1⟩
theorem int_short : ∀ i : Fin 64, (PyData.int ((i.val : Nat) : Int)).shown.length ≤ 2 := by decide +kernel
theorem Brief.int {i : Nat} (h : i < 64) : Brief 2 0 (.int (i : Int)) := ⟨by
  unfold PyData.showable
  refine decide_eq_true ?_
  rw [Int.natAbs_natCast]
  exact Nat.lt_of_le_of_lt (Nat.log2_le_self _) (by omega), rfl, Nat.le_refl _, int_short ⟨i, h⟩⟩
def pyS (t : Tx) : PyData := .str (sT t)
def pyO (o : Option Tx) : PyData := match o with | none => .none | some t => pyS t
theorem pyL_map {α : Type} {e : α → D} {f : α → PyData} (h : ∀ a, (e a).py = some (f a)) : ∀ xs : List α, pyL (xs.map e) = some (xs.map f)
  | [] => rfl
  | x :: xs => by
    rw [List.map_cons, List.map_cons]
    unfold pyL
    rw [h x, pyL_map h xs]
theorem py_o (o : Option Tx) : (eO eS o).py = some (pyO o) := by cases o <;> rfl
theorem Brief.str {t : Tx} (h : t.length ≤ 20) : Brief 202 0 (pyS t) := by
  refine ⟨rfl, rfl, Nat.le_refl _, ?_⟩
  show (reprText (sT t)).length ≤ 202
  have h1 := StrLaws.reprText_len (sT t) fun c hc => by
    rw [sT_toList] at hc
    obtain ⟨x, _, rfl⟩ := List.mem_map.mp hc
    exact x.val.toNat_lt
  have h2 : (sT t).length = t.length := by
    show (sT t).cps.size = t.length
    rw [← Array.length_toList, sT_toList, List.length_map]
  omega
theorem repr_tree {α β : Type} {e : α → D} {e' : β → D} {a : α} {b : β} (h : e a = e' b) : reprT e a = reprT e' b := by
  unfold reprT
  rw [h]
abbrev eAc : Ac → D := eT (pc eS (pc eS (p1 (eO eS))))
def pyA (a : Ac) : PyData := .tuple [pyS a.1, pyS a.2.1, pyO a.2.2]
theorem py_a (a : Ac) : (eAc a).py = some (pyA a) := by
  show (pyL [eS a.1, eS a.2.1, eO eS a.2.2]).map PyData.tuple = _
  unfold pyL pyL pyL pyL
  rw [py_o]
  rfl
theorem acts_repr {as : List Ac} (hl : as.length ≤ 10000) (h : ∀ a ∈ as, a.1.length ≤ 20 ∧ a.2.1.length ≤ 20 ∧ ∀ t, a.2.2 = some t → t.length ≤ 20) : ∃ s, reprT (eL .imm eAc) as = .ok s := by
  refine ⟨_, reprT_lst (f := .imm) (xs := as.map eAc) (ps := as.map pyA) rfl (pyL_map py_a as) ?_⟩
  refine (Brief.list (n := 3 + 3 * (202 + 2)) (d := 1) (k := 10000) (fun p hp => ?_) (by rw [List.length_map]; exact hl)).ok (by omega) (by omega)
  obtain ⟨a, ha, rfl⟩ := List.mem_map.mp hp
  obtain ⟨h1, h2, h3⟩ := h a ha
  refine Brief.tup (n := 202) (d := 0) (fun z hz => ?_) (Nat.le_refl _)
  simp only [List.mem_cons, List.not_mem_nil, or_false] at hz
  rcases hz with rfl | rfl | rfl
  · exact Brief.str h1
  · exact Brief.str h2
  · cases hd : a.2.2 with
    | none => exact Brief.none.mono (by omega) (Nat.le_refl _)
    | some t => exact Brief.str (h3 t hd)
theorem row_tree {ws : List Tx} (h : good ws = true) : eAc (actW ws) = eQ .imm (eO eS) (true, rowW ws) := by
  rcases good_shape h with ⟨a, b, rfl⟩ | ⟨a, b, c, rfl⟩ <;> rfl
theorem nm_le {w : Tx} (h : isNm w = true) : w.length ≤ 12 := by
  cases w with
  | nil => simp
  | cons c r =>
    simp only [isNm, Bool.and_eq_true, decide_eq_true_eq] at h
    exact h.1
theorem good_short {ws : List Tx} (h : good ws = true) : (actW ws).1.length ≤ 20 ∧ (actW ws).2.1.length ≤ 20 ∧ ∀ t, (actW ws).2.2 = some t → t.length ≤ 20 := by
  have ha : ∀ w ∈ ws, w.length ≤ 12 := fun w hw => by
    simp only [good, Bool.and_eq_true, List.all_eq_true] at h
    exact nm_le (h.2.2 w hw)
  rcases good_shape h with ⟨a, b, rfl⟩ | ⟨a, b, c, rfl⟩
  · have h1 := ha a (by simp)
    have h2 := ha b (by simp)
    exact ⟨by simp [actW]; omega, by simp [actW]; omega, fun t z => by simp [actW] at z⟩
  · have h1 := ha a (by simp)
    have h2 := ha b (by simp)
    have h3 := ha c (by simp)
    exact ⟨by simp [actW]; omega, by simp [actW]; omega, fun t z => by simp [actW] at z; subst z; omega⟩
theorem spT_ne (c : Char) : ∀ (t acc : Tx), PD.spT c acc t ≠ []
  | [], acc => by simp [PD.spT]
  | d :: t, acc => by
    rw [PD.spT]
    split
    · simp
    · exact spT_ne c t _
theorem replG_ok {c : Char} {z t : Tx} (h : t.length ≤ 10000) (hz : 1 ≤ z.length) (hz2 : z.length ≤ 10) : ∃ u, replG c z t = .ok u ∧ u.length ≤ t.length * z.length := by
  refine ⟨replC c z t, grd_ok ?_, replC_len c z hz t⟩
  have := Nat.mul_le_mul (show t.length + 1 ≤ 10001 by omega) hz2
  omega
theorem mod_get {α : Type} {xs : List α} {i : Int} (h : xs ≠ []) : ∃ j : Nat, i % ((xs.length : Nat) : Int) = (j : Int) ∧ j < xs.length := by
  have h1 : 0 < xs.length := List.length_pos_iff.mpr h
  have h2 := Int.emod_nonneg i (show ((xs.length : Nat) : Int) ≠ 0 by omega)
  have h3 := Int.emod_lt_of_pos i (show (0 : Int) < ((xs.length : Nat) : Int) by omega)
  exact ⟨(i % ((xs.length : Nat) : Int)).toNat, by omega, by omega⟩
theorem turned_ok {ns : List Int} (hs : Small ns) {at_ : Nat} (ha : at_ < ns.length) {lines : List Tx} {B : Nat} (hB : B ≤ 3000) (h : ∀ l ∈ lines, l.length ≤ B) (hn : lines ≠ []) (hl : lines.length ≤ 100) :
    ∃ ls, T__law_turned_2 ns (at_ : Int) lines = .ok ls ∧ ls.length = lines.length ∧ ∀ l ∈ ls, l.length ≤ 2 * B + 20 := by
  refine wpR_get ?_
  unfold T__law_turned_2
  obtain ⟨j, hj, hj2⟩ := mod_get (i := nth ns at_) hn
  have h1 : 0 < lines.length := List.length_pos_iff.mpr hn
  simp only [ixL_nth ha, res_bind_ok, modI_of (show (0 : Int) < ((lines.length : Nat) : Int) by omega), hj, wpR_end, wpT_let, wpR_ok, ixL_nat (List.getElem?_eq_getElem hj2)]
  have hx : lines[j].length ≤ B := h _ (List.getElem_mem hj2)
  generalize lines[j] = x at hx
  obtain ⟨u, hu, hu2⟩ := replG_ok (c := ' ') (z := [' ', ' ']) (t := x) (by omega) (by decide) (by decide)
  obtain ⟨v, hv, hv2⟩ := replG_ok (c := 'a') (z := ['A']) (t := x) (by omega) (by decide) (by decide)
  obtain ⟨w, r, hw⟩ : ∃ w r, splitT ' ' x = w :: r := by
    cases hh : splitT ' ' x with
    | nil => exact absurd hh (spT_ne ' ' x [])
    | cons w r => exact ⟨w, r, rfl⟩
  have hw2 : w.length ≤ x.length := split_short ' ' x w (by rw [hw]; exact List.mem_cons_self)
  simp only [List.length_cons, List.length_nil] at hu2 hv2
  have ad : ∀ a b : Tx, a.length + b.length ≤ 10000 → addS a b = .ok (a ++ b) := fun a b z => addS_of (by omega)
  have fs : splitG ' ' x = .ok (w :: r) := by rw [splitG_of (by omega), hw]
  rw [ad x _ (by simp; omega), ad x _ (by simp; omega), ad _ x (by simp; omega), hu, fs, ad x _ (by simp; omega), ad x _ (by simp; omega), ad _ x (by simp; omega), ad x _ (by simp; omega), ad x _ (by simp; omega), hv, ad x _ (by simp; omega)]
  simp only [res_bind_ok, wpR_ok, ixL_zero]
  rw [lim_ok (by simp)]
  have hm1 := Int.emod_nonneg (nth ns at_ / 9) (show (13 : Int) ≠ 0 by omega)
  have hm2 := Int.emod_lt_of_pos (nth ns at_ / 9) (show (0 : Int) < 13 by omega)
  simp only [wpR_ok, wpT_let, List.cons_append, List.nil_append]
  generalize hL : [x ++ [' ', 'x'], x ++ [' '], ' ' :: x, u, w, [], x ++ [' ', 'A'], x ++ ['_'], '1' :: x, x ++ ['0', '0', '0', '0', '0', '0', '0', '0', '0', '0', '0', '0', '0'], x ++ [' ', 'x', ' ', 'y'], v, x ++ ['\t']] = L
  have hL1 : ∀ l ∈ L, l.length ≤ 2 * B + 20 := by
    rw [← hL]
    intro l hl
    simp only [List.mem_cons, List.not_mem_nil, or_false] at hl
    rcases hl with rfl | rfl | rfl | rfl | rfl | rfl | rfl | rfl | rfl | rfl | rfl | rfl | rfl <;> (try simp) <;> omega
  have hL2 : L.length = 13 := by rw [← hL]; rfl
  have hg : (nth ns at_ / 9 % 13).toNat < L.length := by omega
  have tl : (lines.take j).length = j := by rw [List.length_take]; omega
  have dl : (lines.drop (j + 1)).length = lines.length - (j + 1) := List.length_drop ..
  rw [show (j : Int) + 1 = ((j + 1 : Nat) : Int) by omega]
  simp only [ixL_int hm1 (List.getElem?_eq_getElem hg), res_bind_ok, wpT_ret, cutL_take, cutL_drop]
  rw [lim_ok (by simp)]
  simp only [res_bind_ok]
  rw [lim_ok (by simp; omega)]
  simp only [res_bind_ok]
  rw [lim_ok (by simp; omega)]
  refine ⟨by simp; omega, fun l hl => ?_⟩
  simp only [List.mem_append, List.mem_singleton] at hl
  rcases hl with (hl | hl) | hl
  · have := h l (List.mem_of_mem_take hl); omega
  · rw [hl]; exact hL1 _ (List.getElem_mem hg)
  · have := h l (List.mem_of_mem_drop hl); omega
def lineP (a : Ac) : Tx := joinT [' '] (a.1 :: a.2.1 :: a.2.2.toList)
theorem lineP_none (a b : Tx) : lineP (a, b, none) = (a ++ [' ']) ++ b := by simp [lineP, joinT]
theorem lineP_some (a b c : Tx) : lineP (a, b, some c) = (((a ++ [' ']) ++ b) ++ [' ']) ++ c := by simp [lineP, joinT]
def OkA (a : Ac) : Prop := a.1.length ≤ 12 ∧ a.2.1.length ≤ 12 ∧ ∀ t, a.2.2 = some t → t.length ≤ 12
theorem lineP_len {a : Ac} (h : OkA a) : (lineP a).length ≤ 38 := by
  obtain ⟨a, b, c⟩ := a
  obtain ⟨h1, h2, h3⟩ := h
  cases c with
  | none => rw [lineP_none]; simp at h1 h2 ⊢; omega
  | some c => have := h3 c rfl; rw [lineP_some]; simp at h1 h2 ⊢; omega
theorem sum_le {n : Nat} : ∀ {l : List Nat}, (∀ x ∈ l, x ≤ n) → l.sum ≤ l.length * n
  | [], _ => by simp
  | x :: l, h => by
    have h1 := h x List.mem_cons_self
    have h2 := sum_le (n := n) (l := l) fun y hy => h y (List.mem_cons_of_mem _ hy)
    simp only [List.sum_cons, List.length_cons, Nat.add_mul, Nat.one_mul]
    omega
theorem joinG_ok {ls : List Tx} {B k : Nat} (c : Char) (hl : ls.length ≤ k) (h : ∀ l ∈ ls, l.length ≤ B) (hb : k * B + k ≤ 16777216) : joinG [c] ls = .ok (joinT [c] ls) := by
  refine joinG_of ?_
  have h1 := sum_le (n := B) (l := ls.map List.length) fun x hx => by obtain ⟨l, hl, rfl⟩ := List.mem_map.mp hx; exact h l hl
  rw [List.length_map] at h1
  have h2 := Nat.mul_le_mul_right B hl
  simp only [List.length_cons, List.length_nil]
  omega
theorem joinT_len (c : Char) : ∀ ws : List Tx, (joinT [c] ws).length ≤ (ws.map List.length).sum + ws.length
  | [] => by simp [joinT]
  | [w] => by simp [joinT]
  | w :: x :: r => by
    have := joinT_len c (x :: r)
    rw [joinT]
    simp only [List.length_append, List.map_cons, List.sum_cons, List.length_cons] at this ⊢
    simp at this ⊢
    omega
theorem plan_text_ok {as : List Ac} (hl : as.length ≤ 100) (h : ∀ a ∈ as, OkA a) : T_plan_text as = .ok (joinT ['\n'] (as.map lineP)) := by
  refine wpR_eq ?_
  unfold T_plan_text
  simp only [wpR_end, wpT_let, wpR_ok, wpT_seq]
  refine wpT_for (fun p s => s = p.map lineP) rfl (fun p a q s e i => ?_) (fun s i => ?_)
  · have hm : a ∈ as := by rw [e]; simp
    have hp : p.length ≤ 100 := by
      have := congrArg List.length e
      simp at this; omega
    have sn : s.length < 16777216 := by rw [i, List.length_map]; omega
    obtain ⟨a, b, c⟩ := a
    obtain ⟨h1, h2, h3⟩ := h _ hm
    have gp : ∀ {x : Tx} {r : Res Tx}, x.length ≤ 1000 → grd (x.length ≤ 16777216) r = r := fun z => grd_ok (by omega)
    dsimp only at h1 h2 h3
    cases c with
    | none =>
      simp only [Option.isNone_none, if_true, wpT_let, res_bind_ok, fmtT_ok, List.nil_append]
      rw [gp (by omega), gp (by simp; omega), gp (by simp; omega), fmtT]
      simp only [res_bind_ok, appL_ok sn, wpR_ok, wpT_nx]
      rw [i, List.map_append, ← lineP_none]; rfl
    | some c =>
      have h4 := h3 c rfl
      simp only [Option.isNone_some, Bool.false_eq_true, if_false, wpT_let, res_bind_ok, getO, fmtT_ok, List.nil_append]
      rw [gp (by omega), gp (by simp; omega), gp (by simp; omega), gp (by simp; omega), gp (by simp; omega), fmtT]
      simp only [res_bind_ok, appL_ok sn, wpR_ok, wpT_nx]
      rw [i, List.map_append, ← lineP_some]; rfl
  · simp only [wpT_ret]
    rw [i]
    rw [joinG_ok (B := 38) (k := 100) '\n' (by simpa using hl) (fun l hl => by obtain ⟨a, ha, rfl⟩ := List.mem_map.mp hl; exact lineP_len (h a ha)) (by omega)]
    rfl
theorem parsed_due {text : Tx} {as : List Ac} (hl : text.length ≤ 9000) (h : PARSED text as) : (dueV text).1.isSome = true ∧ ∃ s, reprT (eL .imm eAc) as = .ok s ∧ reprT (eO (eL .imm (eQ .imm (eO eS)))) (dueV text).1 = .ok s := by
  rcases h with ⟨h0, rfl⟩ | ⟨h0, h1, rfl⟩
  · unfold dueV
    rw [if_pos h0]
    obtain ⟨s, hs⟩ := acts_repr (as := []) (Nat.zero_le _) (fun a z => by cases z)
    exact ⟨rfl, s, hs, hs ▸ repr_tree rfl⟩
  · have hd : dueV text = (some ((splitT '\n' text).map fun l => (true, rowW (splitT ' ' l))), none) := by
      unfold dueV
      rw [if_neg h0, h1]
    rw [hd]
    have hn := splitT_len '\n' text
    have hg : ∀ l ∈ splitT '\n' text, good (splitT ' ' l) = true := fun l z => by
      have := (List.findIdx?_eq_none_iff.mp h1) l z
      unfold badL at this
      simpa using this
    generalize splitT '\n' text = lines at hn hg
    obtain ⟨s, hs⟩ := acts_repr (as := lines.map fun l => actW (splitT ' ' l)) (by rw [List.length_map]; omega) (fun a z => by
      obtain ⟨l, hl, rfl⟩ := List.mem_map.mp z
      exact good_short (hg l hl))
    refine ⟨rfl, s, hs, ?_⟩
    rw [← hs]
    refine (repr_tree ?_).symm
    show D.lst .imm _ = D.lst .imm _
    congr 1
    rw [List.map_map, List.map_map]
    exact List.map_congr_left fun l hl => row_tree (hg l hl)
theorem wpR_both {α : Type} {t : Res α} {Q Q' : α → Prop} {X X' : Exc → Prop} (h : wpR t Q X) (h1 : ∀ a, Q a → Q' a) (h2 : ∀ x, X x → X' x) : wpR t Q' X' := by
  cases t with
  | ok a => exact h1 a h
  | ex x => exact h2 x h
  | bad => exact h
theorem law_true (script : List Int) : T_law script = .ok true := by
  refine wpR_eq ?_
  unfold T_law
  obtain ⟨ns, hns, hnl, hs⟩ := numbers_ok script 40 (by omega)
  have hi : ∀ {i : Int}, 0 ≤ i → i < 40 → ixL ns i = .ok (nth ns i.toNat) := fun a b => ixL_nth' a (by omega)
  obtain ⟨nm, hnm, nl, _, nn⟩ := names2_ok (m := 12) (hs.nth 0).1 (hs.nth 0).2 (by omega)
  have ni : ∀ z : Int, ∃ w, ixL nm (z % 12) = .ok w ∧ w.length ≤ 12 := fun z => by
    have a1 := Int.emod_nonneg z (show (12 : Int) ≠ 0 by omega)
    have a2 := Int.emod_lt_of_pos z (show (0 : Int) < 12 by omega)
    have a3 : (z % 12).toNat < nm.length := by omega
    exact ⟨_, ixL_get a1 a3, nm_le (nn _ (List.getElem_mem a3))⟩
  have h9 : ∃ n : Nat, nth ns 1 % 9 = (n : Int) ∧ n ≤ 8 := ⟨(nth ns 1 % 9).toNat, by omega, by omega⟩
  obtain ⟨n, hn, hn8⟩ := h9
  have e40 : T__law_numbers script 40 = .ok ns := hns
  have e12 : T__law_names (nth ns 0) 12 = .ok nm := hnm
  have i1 : ixL ns 1 = .ok (nth ns 1) := hi (by omega) (by omega)
  have i0 : ixL ns 0 = .ok (nth ns 0) := hi (by omega) (by omega)
  have i36 : ixL ns 36 = .ok (nth ns 36) := hi (by omega) (by omega)
  simp only [e40, i0, i1, res_bind_ok, e12, wpR_end, wpT_let, wpR_ok, wpR_bind, hn, rng1_nat (show n < 1000000000 by omega), wpT_seq]
  refine wpT_for (fun p s => s.length = p.length ∧ ∀ a ∈ s, OkA a) ⟨rfl, fun a z => by cases z⟩ (fun p x q s e ⟨j1, j2⟩ => ?_) (fun as ⟨j1, j2⟩ => ?_)
  · obtain ⟨rfl, hq⟩ := range_at e
    have k2 := hi (i := 2 + 3 * (p.length : Int)) (by omega) (by omega)
    have k3 := hi (i := 3 + 3 * (p.length : Int)) (by omega) (by omega)
    have k4 := hi (i := 4 + 3 * (p.length : Int)) (by omega) (by omega)
    obtain ⟨w2, v2, l2⟩ := ni (nth ns (2 + 3 * (p.length : Int)).toNat / 3)
    obtain ⟨w3, v3, l3⟩ := ni (nth ns (3 + 3 * (p.length : Int)).toNat)
    obtain ⟨w4, v4, l4⟩ := ni (nth ns (4 + 3 * (p.length : Int)).toNat)
    simp only [wpT_let, wpR_ok, wpT_seq]
    refine wpT_mono (N := fun t => ∀ w, t = some w → w.length ≤ 12) ?_ fun t ht => ?_
    · simp only [wpT_if, k2, res_bind_ok, wpR_ok, v2, wpT_let, wpT_nx]
      split
      · intro w z; cases z; exact l2
      · intro w z; cases z
    · simp only [wpT_let, k3, k4, v3, v4, res_bind_ok, appL_ok (show s.length < 16777216 by omega), wpR_ok, wpT_nx]
      refine ⟨by simp [j1], fun a ha => ?_⟩
      rcases List.mem_append.mp ha with ha | ha
      · exact j2 a ha
      · rw [List.mem_singleton.mp ha]; exact ⟨l3, l4, ht⟩
  · have al : as.length ≤ 8 := by rw [j1]; simp; omega
    have hls : kLc as (fun (_ : Ac) => (Res.ok true)) (fun (c : Ac) => ((kLc [(some c.1), (some c.2.1), c.2.2] (fun (c197 : (Option Tx)) => (Res.ok c197.isSome)) (fun (c197 : (Option Tx)) => (getO c197))) >>= fun x199 => joinG [' '] x199)) = .ok (as.map lineP) := by
      refine wpR_eq (wpR_lc (fun _ => true) lineP (fun _ _ => rfl) (fun a ha _ => ?_) (by omega) ?_)
      · obtain ⟨h1, h2, h3⟩ := j2 a ha
        have hk : kLc [(some a.1), (some a.2.1), a.2.2] (fun (c197 : (Option Tx)) => (Res.ok c197.isSome)) (fun (c197 : (Option Tx)) => (getO c197)) = .ok (a.1 :: a.2.1 :: a.2.2.toList) := by
          refine wpR_eq (wpR_lc (fun o => o.isSome) (fun o => o.getD []) (fun _ _ => rfl) (fun o _ ho => ?_) (by simp) ?_)
          · cases o with
            | none => cases ho
            | some t => rfl
          · obtain ⟨a, b, c⟩ := a
            cases c <;> rfl
        rw [hk, res_bind_ok]
        refine joinG_ok (B := 12) (k := 3) ' ' ?_ (fun l hl => ?_) (by omega)
        · cases a.2.2 <;> simp
        · simp only [List.mem_cons, Option.mem_toList] at hl
          rcases hl with rfl | rfl | hl
          · exact h1
          · exact h2
          · exact h3 l hl
      · rw [List.filter_eq_self.mpr fun _ _ => rfl]
    have ll : ∀ l ∈ as.map lineP, l.length ≤ 38 := fun l hl => by obtain ⟨a, ha, rfl⟩ := List.mem_map.mp hl; exact lineP_len (j2 a ha)
    rw [hls, plan_text_ok (by omega) j2]
    have jl : joinG ['\n'] (as.map lineP) = .ok (joinT ['\n'] (as.map lineP)) := joinG_ok (B := 38) (k := 8) '\n' (by rw [List.length_map]; exact al) ll (by omega)
    have ln : (as.map lineP).length ≤ 8 := by rw [List.length_map]; exact al
    generalize as.map lineP = ls at ll jl ln
    have eqq : ∀ t : Tx, eqB t t = true := fun t => by simp
    rw [wpR_ok, wpT_if]
    simp only [wpR_ok, wpR_bind, jl, eqq, Bool.not_true, Bool.false_eq_true, if_false]
    rw [wpT_seq]
    have tn : ∀ (at_ : Nat) (us : List Tx) (B : Nat), at_ < 40 → us.length ≤ 8 → B ≤ 3000 → (∀ l ∈ us, l.length ≤ B) → 0 < us.length → ∃ vs, T__law_turned_2 ns (at_ : Int) us = .ok vs ∧ vs.length ≤ 8 ∧ ∀ l ∈ vs, l.length ≤ 2 * B + 20 := fun at_ us B h1 h2 h3 h4 h5 => by
      obtain ⟨vs, q1, q2, q3⟩ := turned_ok hs (at_ := at_) (by omega) h3 h4 (List.length_pos_iff.mp h5) (by omega)
      exact ⟨vs, q1, by omega, q3⟩
    refine wpT_mono (N := fun (us : List Tx) => us.length ≤ 8 ∧ ∀ l ∈ us, l.length ≤ 100) ?_ fun us ⟨u1, u2⟩ => ?_
    · simp only [wpT_if, i36, res_bind_ok, wpR_ok, kAnd_oo]
      split
      · rename_i hh
        simp only [Bool.and_eq_true, decide_eq_true_eq] at hh
        obtain ⟨vs, q1, q2, q3⟩ := tn 37 ls 38 (by omega) ln (by omega) ll (by omega)
        have q1 : T__law_turned_2 ns 37 ls = .ok vs := q1
        simp only [wpT_let, q1, wpR_ok, wpT_nx]
        exact ⟨q2, fun l hl => by have := q3 l hl; omega⟩
      · simp only [wpT_nx]
        exact ⟨ln, fun l hl => by have := ll l hl; omega⟩
    rw [wpT_seq]
    refine wpT_mono (N := fun (us : List Tx) => us.length ≤ 8 ∧ ∀ l ∈ us, l.length ≤ 300) ?_ fun vs ⟨v1, v2⟩ => ?_
    · simp only [wpT_if, i36, res_bind_ok, wpR_ok, kAnd_oo]
      split
      · rename_i hh
        simp only [Bool.and_eq_true, decide_eq_true_eq] at hh
        obtain ⟨vs, q1, q2, q3⟩ := tn 38 us 100 (by omega) u1 (by omega) u2 (by omega)
        have q1 : T__law_turned_2 ns 38 us = .ok vs := q1
        simp only [wpT_let, q1, wpR_ok, wpT_nx]
        exact ⟨q2, fun l hl => by have := q3 l hl; omega⟩
      · simp only [wpT_nx]
        exact ⟨u1, fun l hl => by have := u2 l hl; omega⟩
    have jv : joinG ['\n'] vs = .ok (joinT ['\n'] vs) := joinG_ok (B := 300) (k := 8) '\n' v1 v2 (by omega)
    have tl : (joinT ['\n'] vs).length ≤ 9000 := by
      have h1 := joinT_len '\n' vs
      have h2 := sum_le (n := 300) (l := vs.map List.length) fun x hx => by obtain ⟨l, hl, rfl⟩ := List.mem_map.mp hx; exact v2 l hl
      rw [List.length_map] at h2
      omega
    simp only [wpT_let, jv, wpR_ok]
    generalize joinT ['\n'] vs = text at tl
    simp only [due_ok text (by omega), wpR_ok, wpT_seq, wpT_try, wpT_let]
    refine wpR_both (parse_ok text (by omega)) (fun as has => ?_) (fun x hx => ?_)
    · obtain ⟨h1, s, h2, h3⟩ := parsed_due tl has
      simp only [wpT_nx, wpT_ret]
      have h3' := h3
      rw [h1, h2, h3']
      simp only [res_bind_ok, kAnd_oo, wpR_ok]
      simp
    · obtain ⟨k, h0, h1, rfl⟩ := hx
      have hd : dueV text = (none, some ((k : Int) + 1)) := by
        unfold dueV
        rw [if_neg h0, h1]
      rw [kHd_yes (by simp) (by simp), hd]
      refine wpT_noX ?_
      rw [xfR_one (fun a b z => by cases z; rfl)]
      simp
theorem hF (ns : List Int) : F_law [.lst .frz (ns.map PD.D.int)] = .ok (.bl true) := Ev.get (g := eB) (t_law ns) (law_true ns)
end K49
end
open PySem PySem.W PySem.Calls PyProof.Rows
theorem PySem.Challenge.cw_whoevermay_k49_texts_of_plans_holds : PySem.Challenge.rw_whoevermay_k49_texts_of_plans.Holds := by
  exact K49.closed fun ns _ => K49.hF ns
