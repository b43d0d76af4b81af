import PyProof.Rows.All
import HandS.ForMost
import HandS.ForExc
import HandS.More
import HandS.Star
import HandS.CallSlots
import HandS.Slots
import HandS.SlotsOwn
import HandS.Property
import HandS.TryMany
import KE.KDictKeyed
import KE.KDictWalk
import KE.GoesDict
import HandS.Deep
import HandS.TupAny
import HandS.TupMul
import HandS.Conv
import HandS.Style
import HandS.IsInst
import HandS.WordsExc
import HandS.Comp
import HandS.Iter
import KE.GoesEnum
import HandS.Defaults
import HandS.Dict
import HandS.Small
import HandS.ExcInit
import HandS.ExcIs
import HandS.ExcField
import KE.KExcIs
import HandS.SortInts
import HandS.SortRule
import KE.KDictCopyH
import KE.KDictSum
import PyProof.TupleOfSeq
import HandS.HeadHook2
import HandS.HeadEnd
import HandS.Head2
import HandS.TupSets
import HandS.SetFor
import HandS.Strs
import HandS.DictComp
import KE.SortData
import OpenK.KOps
import KE.KUnpack
import KE.KDictDisplayH
import HandS.DictSubView
import HandS.Text
import HandS.FStr
import PyProof.StrBlock2
import PySem.Challenge.RW_couplerreach_k10_organs_written
set_option Elab.async false
set_option linter.all false
section
set_option maxRecDepth 100000
set_option maxHeartbeats 2000000
set_option autoImplicit false
namespace Mi
open PySem PySem.Spec PyProof.Rows L2

inductive D where
  | non | bl (b : Bool) | int (i : Int) | str (x : Str) | tup (xs : List D) | ref (n : Nat) | klst (xs : List D) | exc (a : Addr) (d : Option Addr) (c : Nat) (ns : List Str) (fs : List D)

/-- what stands at a number -/
inductive MO where
  | lst (xs : List D)
  | ro (xs : List D)
  | dct (kvs : List (D × D))
  | fdc (kvs : List (D × D))
  | dks (kvs : List (Key × D))
  | ins (c : Nat) (fs : List D)
  | slo (c : Nat) (fs : List (Option D))

abbrev Sl := List (Option D)
abbrev Hs := List MO

inductive R (α : Type) where
  | ok (a : α) (M : Hs)
  | ex (c : Nat) (fs : List D) (M : Hs)
  | no

def R.bind {α β : Type} (r : R α) (k : α → Hs → R β) : R β := match r with
  | .ok a M => k a M
  | .ex c fs M => .ex c fs M
  | .no => .no

/-- a statement's end -/
inductive RS where
  | nx (ζ : Sl) (M : Hs)
  | rt (d : D) (M : Hs)
  | bk (ζ : Sl) (M : Hs)
  | ct (ζ : Sl) (M : Hs)
  | ex (c : Nat) (fs : List D) (ζ : Sl) (M : Hs)
  | no

abbrev MX := Sl → Hs → R D
abbrev MT := Sl → Hs → R Bool
abbrev MA := Sl → Hs → R (List D)
abbrev MS := Sl → Hs → RS
abbrev MF := List D → Hs → R D

/-- the classes of the program by numbers: where they stand, their fields' names -/
structure Gm where
  cA : Nat → Addr
  cN : Nat → List Str

/-- a list that nothing writes: the script, a list of the module -/
def SqK (K : PySem.W.Frag) (H : Hp) (a : Addr) (xs : List V) : Prop := (∃ o, H a = some (.frz o (.lst xs))) ∨
  ∃ (o : Obj) (its : Array Value) (n : Nat), K.lookup a = some o ∧ o.cls = .type "list" ∧ o.dict = none ∧ o.data = .seq its n ∧ its.size ≤ sizeLine ∧ Vals xs its.toList
theorem SqK.sq {K : PySem.W.Frag} {H : Hp} {a : Addr} {xs : List V} (h : SqK K H a xs) : SqL K H a xs := h.imp (fun h => .inr h) id
theorem SqK.of {K : PySem.W.Frag} {H : Hp} {a : Addr} {xs : List V} (h : SqL K H a xs) (n : H a ≠ some (.lst xs)) : SqK K H a xs := by
  rcases h with (h | h) | h
  · exact absurd h n
  · exact .inl h
  · exact .inr h
mutual
inductive RV (K : PySem.W.Frag) (H : Hp) (μ : List Addr) : D → V → Prop
  | non : RV K H μ .non .non
  | bl (b : Bool) : RV K H μ (.bl b) (.bl b)
  | int (i : Int) : RV K H μ (.int i) (.int i)
  | str (x : Str) : RV K H μ (.str x) (.str x)
  | tup {a : Addr} {vs : List V} {ds : List D} : SqT K H a vs → RVs K H μ ds vs → RV K H μ (.tup ds) (.ref a)
  | ref {n : Nat} {a : Addr} : μ[n]? = some a → RV K H μ (.ref n) (.ref a)
  | kls {a : Addr} {vs : List V} {ds : List D} : SqK K H a vs → RVs K H μ ds vs → RV K H μ (.klst ds) (.ref a)
  | excN {a : Addr} {c : Nat} {ns : List Str} : RV K H μ (.exc a none c ns []) (.ref a)
  | excD {a d : Addr} {c : Nat} {ns : List Str} {fs : List D} {vs : List V} : H d = some (.xd (ns.zip vs)) → fs.length = ns.length → RVs K H μ fs vs → RV K H μ (.exc a (some d) c ns fs) (.ref a)
inductive RVs (K : PySem.W.Frag) (H : Hp) (μ : List Addr) : List D → List V → Prop
  | nil : RVs K H μ [] []
  | cons {d : D} {v : V} {ds : List D} {vs : List V} : RV K H μ d v → RVs K H μ ds vs → RVs K H μ (d :: ds) (v :: vs)
end

/-- from (μ, H) to (μ', H') nothing that is by value has changed -/
structure Nx (μ : List Addr) (H : Hp) (μ' : List Addr) (H' : Hp) : Prop where
  pre : ∀ (n : Nat) (a : Addr), μ[n]? = some a → μ'[n]? = some a
  tup : ∀ a xs, Rd H a (.tup xs) → Rd H' a (.tup xs)
  frz : ∀ a o u, H a = some (.frz o u) → H' a = some (.frz o u)
  xd : ∀ a fs, H a = some (.xd fs) → H' a = some (.xd fs)
theorem Nx.refl (μ : List Addr) (H : Hp) : Nx μ H μ H := ⟨fun _ _ e => e, fun _ _ e => e, fun _ _ _ e => e, fun _ _ e => e⟩
theorem Nx.trans {μ μ1 μ2 : List Addr} {H H1 H2 : Hp} (x : Nx μ H μ1 H1) (y : Nx μ1 H1 μ2 H2) : Nx μ H μ2 H2 :=
  ⟨fun n a e => y.pre n a (x.pre n a e), fun a xs e => y.tup a xs (x.tup a xs e), fun a o u e => y.frz a o u (x.frz a o u e), fun a fs e => y.xd a fs (x.xd a fs e)⟩
section
variable {K : PySem.W.Frag} {H H' : Hp} {μ μ' : List Addr}
theorem Nx.sqT (x : Nx μ H μ' H') {a : Addr} {xs : List V} (h : SqT K H a xs) : SqT K H' a xs := h.imp (x.tup a xs) id
mutual
theorem RV.mono (x : Nx μ H μ' H') : ∀ {d : D} {v : V}, RV K H μ d v → RV K H' μ' d v
  | _, _, .non => .non
  | _, _, .bl b => .bl b
  | _, _, .int i => .int i
  | _, _, .str z => .str z
  | _, _, .tup h r => .tup (x.sqT h) (RVs.mono x r)
  | _, _, .ref e => .ref (x.pre _ _ e)
  | _, _, .kls h r => .kls (h.imp (fun ⟨o, h⟩ => ⟨o, x.frz _ _ _ h⟩) id) (RVs.mono x r)
  | _, _, .excN => .excN
  | _, _, .excD h l r => .excD (x.xd _ _ h) l (RVs.mono x r)
theorem RVs.mono (x : Nx μ H μ' H') : ∀ {ds : List D} {vs : List V}, RVs K H μ ds vs → RVs K H' μ' ds vs
  | _, _, .nil => .nil
  | _, _, .cons r t => .cons (RV.mono x r) (RVs.mono x t)
end
theorem RVs.length : ∀ {ds : List D} {vs : List V}, RVs K H μ ds vs → ds.length = vs.length
  | _, _, .nil => rfl
  | _, _, .cons _ t => congrArg (· + 1) (RVs.length t)
theorem RVs.get : ∀ {ds : List D} {vs : List V} {i : Nat} {d : D}, RVs K H μ ds vs → ds[i]? = some d → ∃ v, vs[i]? = some v ∧ RV K H μ d v
  | _, _, _, _, .nil, e => by simp at e
  | _, _, 0, _, .cons r _, e => by simp at e; subst e; exact ⟨_, rfl, r⟩
  | _, _, i + 1, d, .cons _ t, e => by
    obtain ⟨v, h1, h2⟩ := RVs.get (i := i) (d := d) t (by simpa using e)
    exact ⟨v, by simpa using h1, h2⟩
theorem RVs.got : ∀ {ds : List D} {vs : List V} {i : Nat} {v : V}, RVs K H μ ds vs → vs[i]? = some v → ∃ d, ds[i]? = some d ∧ RV K H μ d v
  | _, _, _, _, .nil, e => by simp at e
  | _, _, 0, _, .cons r _, e => by simp at e; subst e; exact ⟨_, rfl, r⟩
  | _, _, i + 1, d, .cons _ t, e => by
    obtain ⟨v, h1, h2⟩ := RVs.got (i := i) t (by simpa using e)
    exact ⟨v, by simpa using h1, h2⟩
theorem RVs.append : ∀ {ds es : List D} {vs us : List V}, RVs K H μ ds vs → RVs K H μ es us → RVs K H μ (ds ++ es) (vs ++ us)
  | _, _, _, _, .nil, s => s
  | _, _, _, _, .cons r t, s => .cons r (RVs.append t s)
theorem RVs.take : ∀ {ds : List D} {vs : List V} (n : Nat), RVs K H μ ds vs → RVs K H μ (ds.take n) (vs.take n)
  | _, _, 0, _ => .nil
  | _, _, _ + 1, .nil => .nil
  | _, _, n + 1, .cons r t => .cons r (RVs.take n t)
theorem RVs.drop : ∀ {ds : List D} {vs : List V} (n : Nat), RVs K H μ ds vs → RVs K H μ (ds.drop n) (vs.drop n)
  | _, _, 0, r => r
  | _, _, _ + 1, .nil => .nil
  | _, _, n + 1, .cons _ t => RVs.drop n t
theorem RVs.set {d : D} {v : V} (r : RV K H μ d v) : ∀ {ds : List D} {vs : List V} (i : Nat), RVs K H μ ds vs → RVs K H μ (ds.set i d) (vs.set i v)
  | _, _, _, .nil => .nil
  | _, _, 0, .cons _ t => .cons r t
  | _, _, i + 1, .cons q t => .cons q (RVs.set r i t)
theorem RVs.eraseIdx : ∀ {ds : List D} {vs : List V} (i : Nat), RVs K H μ ds vs → RVs K H μ (ds.eraseIdx i) (vs.eraseIdx i)
  | _, _, _, .nil => .nil
  | _, _, 0, .cons _ t => t
  | _, _, i + 1, .cons r t => .cons r (RVs.eraseIdx i t)
theorem RVs.dropLast {ds : List D} {vs : List V} (r : RVs K H μ ds vs) : RVs K H μ ds.dropLast vs.dropLast := by
  rw [List.dropLast_eq_take, List.dropLast_eq_take, r.length]
  exact r.take _
theorem RVs.reverse : ∀ {ds : List D} {vs : List V}, RVs K H μ ds vs → RVs K H μ ds.reverse vs.reverse
  | _, _, .nil => .nil
  | _, _, .cons r t => by
    rw [List.reverse_cons, List.reverse_cons]
    exact (RVs.reverse t).append (.cons r .nil)
theorem RVs.map {α : Type} (f : α → D) (g : α → V) (h : ∀ a, RV K H μ (f a) (g a)) : ∀ xs : List α, RVs K H μ (xs.map f) (xs.map g)
  | [] => .nil
  | a :: xs => .cons (h a) (RVs.map f g h xs)
theorem RVs.ints (ns : List Int) : RVs K H μ (ns.map D.int) (ns.map V.int) := RVs.map _ _ (fun i => .int i) ns
end

mutual
def nkey : D → Option NestedKey
  | .non => some NestedKey.none
  | .bl b => some (.num (if b = true then 1 else 0))
  | .int i => some (.num i)
  | .str x => some (.text x)
  | .tup xs => (nkeys xs).map .tup
  | .ref _ => none
  | .klst _ => none
  | .exc .. => none
def nkeys : List D → Option (List NestedKey)
  | [] => some []
  | x :: xs => match nkey x, nkeys xs with
    | some k, some ks => some (k :: ks)
    | _, _ => none
end

/-- the dict at d: its entries, keys known by where they stand -/
def dObj (P : Program) (w : World) (d : Addr) (es : List (NestedKey × Addr × V)) (h : Heap) : Prop :=
  ∃ xs : List (NestedKey × Addr × Value), Paired (fun (p : NestedKey × Addr × V) (q : NestedKey × Addr × Value) => p.1 = q.1 ∧ p.2.1 = q.2.1 ∧ RelV p.2.2 q.2.2) es xs ∧
    ∃ o ds ep, h.get? d = some o ∧ o.ExactDict ∧ o.data = .dict ds ep ∧ ds.toList = xs.map (entryOfKey (nestedKind P w)) ∧ (xs.map (·.1)).Nodup ∧ (d == sysModules) = false ∧ xs.length ≤ sizeLine
def dHO (P : Program) (w : World) (d : Addr) (es : List (NestedKey × Addr × V)) : HO := .ext (dObj P w d es)

section
variable (P : Program) (w : World) (K : PySem.W.Frag) (Γ : Gm)
/-- one entry of a dict -/
def REn (K : PySem.W.Frag) (H : Hp) (μ : List Addr) (p : D × D) (q : NestedKey × Addr × V) : Prop := nkey p.1 = some q.1 ∧ q.1.depth ≤ 8 ∧ RV K H μ p.1 (.ref q.2.1) ∧ RV K H μ p.2 q.2.2
def RO (H : Hp) (μ : List Addr) (a : Addr) : MO → Prop
  | .lst xs => ∃ vs, H a = some (.lst vs) ∧ RVs K H μ xs vs
  | .ro xs => ∃ vs, (∃ o, H a = some (.frz o (.lst vs))) ∧ RVs K H μ xs vs
  | .dct kvs => ∃ es, H a = some (dHO P w a es) ∧ Paired (REn K H μ) kvs es
  | .fdc kvs => ∃ es, (∃ o, H a = some (.frz o (dHO P w a es))) ∧ Paired (REn K H μ) kvs es
  | .dks kvs => ∃ vs, H a = some (.dK vs) ∧ Paired (fun (p : Key × D) (q : Key × V) => p.1 = q.1 ∧ RV K H μ p.2 q.2) kvs vs ∧ (kvs.map (·.1)).Nodup
  | .ins c fs => ∃ dx vs, RVs K H μ fs vs ∧ H a = some (.ins (Γ.cA c) dx ((Γ.cN c).zip vs)) ∧ vs.length ≤ (Γ.cN c).length
  | .slo c fs => ∃ (dx : Addr) (vs : List (Option V)), SlX.Slt H a (Γ.cA c) dx vs ∧ dx ≠ a ∧ (H dx = some (.own a) ∨ H dx = some (.xd [])) ∧ ∀ (i : Nat) (d : D), fs[i]? = some (some d) → ∃ v, vs[i]? = some (some v) ∧ RV K H μ d v
/-- the numbers' world lies in the heap -/
structure RH (μ : List Addr) (M : Hs) (H : Hp) : Prop where
  len : M.length = μ.length
  nd : μ.Nodup
  at_ : ∀ (n : Nat) (o : MO) (a : Addr), M[n]? = some o → μ[n]? = some a → RO P w K Γ H μ a o
end
/-- the slots -/
structure RSl (K : PySem.W.Frag) (H : Hp) (μ : List Addr) (ζ : Sl) (σ : L2.St) : Prop where
  len : ζ.length = σ.length
  at_ : ∀ (i : Nat) (d : D), ζ[i]? = some (some d) → ∃ v, σ[i]? = some (some v) ∧ RV K H μ d v
theorem RSl.mono {K : PySem.W.Frag} {H H' : Hp} {μ μ' : List Addr} {ζ : Sl} {σ : L2.St} (r : RSl K H μ ζ σ) (x : Nx μ H μ' H') : RSl K H' μ' ζ σ :=
  ⟨r.len, fun i d e => let ⟨v, h1, h2⟩ := r.at_ i d e; ⟨v, h1, h2.mono x⟩⟩
theorem RSl.set {K : PySem.W.Frag} {H : Hp} {μ : List Addr} {ζ : Sl} {σ : L2.St} (r : RSl K H μ ζ σ) {d : D} {v : V} (rv : RV K H μ d v) (i : Nat) : RSl K H μ (ζ.set i (some d)) (σ.set i (some v)) := by
  refine ⟨by simp [r.len], fun j e h => ?_⟩
  by_cases hj : i = j
  · subst hj
    by_cases hl : i < ζ.length
    · rw [List.getElem?_set_self hl] at h
      cases h
      exact ⟨v, List.getElem?_set_self (by rw [← r.len]; exact hl), rv⟩
    · rw [List.getElem?_eq_none (by simpa using hl)] at h
      cases h
  · rw [List.getElem?_set_ne hj] at h ⊢
    exact r.at_ j e h

section
variable (P : Program) (w : World) (K : PySem.W.Frag) (Γ : Gm)
/-- an exception of the class c with the fields fs -/
def RX (H : Hp) (μ : List Addr) (c : Nat) (fs : List D) (cls : Value) (dd : Option Addr) : Prop :=
  cls = .ref (Γ.cA c) ∧ (fs = [] ∧ dd = none ∨ fs ≠ [] ∧ ∃ d vs, dd = some d ∧ H d = some (.xd ((Γ.cN c).zip vs)) ∧ fs.length = (Γ.cN c).length ∧ RVs K H μ fs vs)
def Pst {α β : Type} (rel : Hp → List Addr → α → β → Prop) (W : WX) (σ : L2.St) (μ : List Addr) (H : Hp) (r : R α) (Q : β → Hp → Prop) : Prop := match r with
  | .ok d M' => ∀ v H' μ', Nx μ H μ' H' → RH P w K Γ μ' M' H' → rel H' μ' d v → Q v H'
  | .ex c fs M' => ∀ cls dd H' μ', Nx μ H μ' H' → RH P w K Γ μ' M' H' → RX K Γ H' μ' c fs cls dd → W cls dd σ H'
  | .no => False
abbrev relV (H : Hp) (μ : List Addr) (d : D) (v : V) : Prop := RV K H μ d v
abbrev relA (H : Hp) (μ : List Addr) (ds : List D) (vs : List V) : Prop := RVs K H μ ds vs
abbrev relB (_ : Hp) (_ : List Addr) (b : Bool) (c : Bool) : Prop := b = c
def PstS (W : WX) (μ : List Addr) (H : Hp) (r : RS) (E : Ends) : Prop := match r with
  | .nx ζ M' => ∀ σ' H' μ', Nx μ H μ' H' → RH P w K Γ μ' M' H' → RSl K H' μ' ζ σ' → E.nx σ' H'
  | .rt d M' => ∀ v H' μ', Nx μ H μ' H' → RH P w K Γ μ' M' H' → RV K H' μ' d v → E.rt v H'
  | .bk ζ M' => ∀ σ' H' μ', Nx μ H μ' H' → RH P w K Γ μ' M' H' → RSl K H' μ' ζ σ' → E.bk σ' H'
  | .ct ζ M' => ∀ σ' H' μ', Nx μ H μ' H' → RH P w K Γ μ' M' H' → RSl K H' μ' ζ σ' → E.ct σ' H'
  | .ex c fs ζ M' => ∀ cls dd σ' H' μ', Nx μ H μ' H' → RH P w K Γ μ' M' H' → RSl K H' μ' ζ σ' → RX K Γ H' μ' c fs cls dd → W cls dd σ' H'
  | .no => False
/-- the state -/
structure RR (μ : List Addr) (H : Hp) (ζ : Sl) (M : Hs) (σ : L2.St) : Prop where
  sl : RSl K H μ ζ σ
  hp : RH P w K Γ μ M H
def tX (W : WX) (f : MX) : TE := fun σ H Q => ∃ ζ M μ, RR P w K Γ μ H ζ M σ ∧ Pst P w K Γ (relV K) W σ μ H (f ζ M) Q
def tT (W : WX) (f : MT) : TT := fun σ H Q => ∃ ζ M μ, RR P w K Γ μ H ζ M σ ∧ Pst P w K Γ relB W σ μ H (f ζ M) Q
def tA (W : WX) (f : MA) : TA := fun σ H Q => ∃ ζ M μ, RR P w K Γ μ H ζ M σ ∧ Pst P w K Γ (relA K) W σ μ H (f ζ M) Q
def tS (W : WX) (f : MS) : TS := fun E σ H => ∃ ζ M μ, RR P w K Γ μ H ζ M σ ∧ PstS P w K Γ W μ H (f ζ M) E
end
section
variable {P : Program} {w : World} {K : PySem.W.Frag} {Γ : Gm} {W : WX} {σ : L2.St} {μ μ1 : List Addr} {H H1 : Hp}
theorem Pst.mono {α β : Type} {rel : Hp → List Addr → α → β → Prop} {r : R α} {Q : β → Hp → Prop} (h : Pst P w K Γ rel W σ μ H r Q) (x : Nx μ H μ1 H1) : Pst P w K Γ rel W σ μ1 H1 r Q := by
  cases r with
  | ok d M => exact fun v H' μ' y rh rv => h v H' μ' (x.trans y) rh rv
  | ex c fs M => exact fun cls dd H' μ' y rh rx => h cls dd H' μ' (x.trans y) rh rx
  | no => exact h
theorem PstS.mono {r : RS} {E : Ends} (h : PstS P w K Γ W μ H r E) (x : Nx μ H μ1 H1) : PstS P w K Γ W μ1 H1 r E := by
  cases r with
  | nx ζ M => exact fun σ' H' μ' y => h σ' H' μ' (x.trans y)
  | bk ζ M => exact fun σ' H' μ' y => h σ' H' μ' (x.trans y)
  | ct ζ M => exact fun σ' H' μ' y => h σ' H' μ' (x.trans y)
  | rt d M => exact fun v H' μ' y => h v H' μ' (x.trans y)
  | ex c fs ζ M => exact fun cls dd σ' H' μ' y => h cls dd σ' H' μ' (x.trans y)
  | no => exact h
theorem Pst.bind {α β γ δ : Type} {rel : Hp → List Addr → α → β → Prop} {rel' : Hp → List Addr → γ → δ → Prop} {r : R α} {k : α → Hs → R γ} {Q : δ → Hp → Prop} (h : Pst P w K Γ rel' W σ μ H (r.bind k) Q) :
    Pst P w K Γ rel W σ μ H r fun v H1 => ∃ d M1 μ1, Nx μ H μ1 H1 ∧ RH P w K Γ μ1 M1 H1 ∧ rel H1 μ1 d v ∧ Pst P w K Γ rel' W σ μ1 H1 (k d M1) Q := by
  cases r with
  | ok d M => exact fun v H' μ' y rh rv => ⟨d, M, μ', y, rh, rv, Pst.mono h y⟩
  | ex c fs M => exact h
  | no => exact h
end
/-- weaker readings -/
theorem PE.imp {X : Cx} {e : Expr} {t t' : TE} (h : PE X e t) (i : ∀ σ H Q, t' σ H Q → t σ H Q) : PE X e t' := ⟨fun pins s σ H Q I q => h.run pins s σ H Q I (i _ _ _ q)⟩
theorem PT.imp {X : Cx} {e : Expr} {t t' : TT} (h : PT X e t) (i : ∀ σ H Q, t' σ H Q → t σ H Q) : PT X e t' := ⟨fun pins s σ H Q I q => h.run pins s σ H Q I (i _ _ _ q)⟩
theorem PA.imp {X : Cx} {e : List Expr} {t t' : TA} (h : PA X e t) (i : ∀ σ H Q, t' σ H Q → t σ H Q) : PA X e t' := ⟨fun pos pins s σ H Q I q => h.run pos pins s σ H Q I (i _ _ _ q)⟩
theorem PS.imp {X : Cx} {e : Stmt} {t t' : TS} (h : PS X e t) (i : ∀ E σ H, t' E σ H → t E σ H) : PS X e t' := ⟨fun pins s σ H E I q => h.run pins s σ H E I (i _ _ _ q)⟩
theorem PSs.imp {X : Cx} {e : List Stmt} {t t' : TS} (h : PSs X e t) (i : ∀ E σ H, t' E σ H → t E σ H) : PSs X e t' := ⟨fun pins s σ H E I q => h.run pins s σ H E I (i _ _ _ q)⟩
end Mi
end
section
set_option maxRecDepth 100000
set_option maxHeartbeats 2000000
set_option autoImplicit false
namespace Mi
open PySem PySem.Spec PyProof.Rows L2

section
variable {P : Program} {w : World} {K : PySem.W.Frag} {Γ : Gm} {W : WX} {σ : L2.St} {μ μ' : List Addr} {H H' : Hp} {M : Hs}
theorem Paired.imp {α β : Type} {F G : α → β → Prop} : ∀ {l₁ : List α} {l₂ : List β}, Paired F l₁ l₂ → (∀ a b, F a b → G a b) → Paired G l₁ l₂
  | _, _, .nil, _ => .nil
  | _, _, .cons r t, f => .cons (f _ _ r) (Paired.imp t f)
theorem REn.mono (x : Nx μ H μ' H') {p : D × D} {q : NestedKey × Addr × V} (h : REn K H μ p q) : REn K H' μ' p q := ⟨h.1, h.2.1, h.2.2.1.mono x, h.2.2.2.mono x⟩
theorem RO.keep {a : Addr} {o : MO} (h : RO P w K Γ H μ a o) (x : Nx μ H μ' H') (e : ∀ u, H a = some u → H' a = some u) (eo : ∀ b, H b = some (.own a) → H' b = some (.own a)) (ed : ∀ b, H b = some (.xd []) → H' b = some (.xd [])) : RO P w K Γ H' μ' a o := by
  cases o with
  | lst xs => obtain ⟨vs, h1, r⟩ := h; exact ⟨vs, e _ h1, r.mono x⟩
  | ro xs => obtain ⟨vs, ⟨o, h1⟩, r⟩ := h; exact ⟨vs, ⟨o, e _ h1⟩, r.mono x⟩
  | dct kvs => obtain ⟨es, h1, r⟩ := h; exact ⟨es, e _ h1, Paired.imp r fun _ _ => REn.mono x⟩
  | fdc kvs => obtain ⟨es, ⟨o, h1⟩, r⟩ := h; exact ⟨es, ⟨o, e _ h1⟩, Paired.imp r fun _ _ => REn.mono x⟩
  | dks kvs => obtain ⟨vs, h1, r, nd⟩ := h; exact ⟨vs, e _ h1, Paired.imp r fun _ _ q => ⟨q.1, q.2.mono x⟩, nd⟩
  | ins c fs => obtain ⟨dx, vs, r, h1, h2⟩ := h; exact ⟨dx, vs, r.mono x, e _ h1, h2⟩
  | slo c fs =>
    obtain ⟨dx, vs, h1, h2, h3, h4⟩ := h
    refine ⟨dx, vs, ?_, h2, h3.imp (eo _) (ed _), fun i d q => let ⟨v, q1, q2⟩ := h4 i d q; ⟨v, q1, q2.mono x⟩⟩
    rcases h1 with ⟨h1, h5⟩ | ⟨h1, h5⟩
    · exact .inl ⟨e _ h1, h5⟩
    · exact .inr ⟨e _ h1, ed _ h5⟩
theorem RO.some {a : Addr} {o : MO} (h : RO P w K Γ H μ a o) : ∃ u, H a = some u := by
  cases o with
  | lst xs => obtain ⟨vs, h1, r⟩ := h; exact ⟨_, h1⟩
  | ro xs => obtain ⟨vs, ⟨o, h1⟩, r⟩ := h; exact ⟨_, h1⟩
  | dct kvs => obtain ⟨es, h1, r⟩ := h; exact ⟨_, h1⟩
  | fdc kvs => obtain ⟨es, ⟨o, h1⟩, r⟩ := h; exact ⟨_, h1⟩
  | dks kvs => obtain ⟨vs, h1, r, nd⟩ := h; exact ⟨_, h1⟩
  | ins c fs => obtain ⟨dx, vs, r, h1, h2⟩ := h; exact ⟨_, h1⟩
  | slo c fs =>
    obtain ⟨dx, vs, h1 | h1, h2⟩ := h
    · exact ⟨_, h1.1⟩
    · exact ⟨_, h1.1⟩
theorem Nx.fresh {p : Addr} {u : HO} (hp : H p = none) (l : List Addr) : Nx μ H (μ ++ l) (upd H p u) := by
  refine ⟨fun n a e => ?_, fun a xs e => ?_, fun a o v e => by rw [upd_ne (ne_of_none e hp)]; exact e, fun a fs e => by rw [upd_ne (ne_of_none e hp)]; exact e⟩
  · rw [List.getElem?_append_left (List.getElem?_eq_some_iff.mp e).1]
    exact e
  · rcases e with e | ⟨o, e⟩
    · exact .inl (by rw [upd_ne (ne_of_none e hp)]; exact e)
    · exact .inr ⟨o, by rw [upd_ne (ne_of_none e hp)]; exact e⟩
theorem Nx.fresh0 {p : Addr} {u : HO} (hp : H p = none) : Nx μ H μ (upd H p u) := by
  have := Nx.fresh (μ := μ) (u := u) hp []
  rwa [List.append_nil] at this
theorem RH.fresh {p : Addr} {u : HO} (rh : RH P w K Γ μ M H) (hp : H p = none) : RH P w K Γ μ M (upd H p u) :=
  ⟨rh.len, rh.nd, fun n o a h1 h2 => (rh.at_ n o a h1 h2).keep (Nx.fresh0 hp) (fun v e => by rw [upd_ne (ne_of_none e hp)]; exact e) (fun b e => by rw [upd_ne (ne_of_none e hp)]; exact e) fun b e => by rw [upd_ne (ne_of_none e hp)]; exact e⟩
theorem RH.alloc {p : Addr} {u : HO} {o : MO} (rh : RH P w K Γ μ M H) (hp : H p = none) (new : RO P w K Γ (upd H p u) (μ ++ [p]) p o) : RH P w K Γ (μ ++ [p]) (M ++ [o]) (upd H p u) := by
  have hpm : p ∉ μ := fun hm => by
    obtain ⟨n, hn⟩ := List.mem_iff_getElem?.mp hm
    have hl : n < M.length := by rw [rh.len]; exact (List.getElem?_eq_some_iff.mp hn).1
    obtain ⟨v, hv⟩ := (rh.at_ n _ p (List.getElem?_eq_getElem hl) hn).some
    rw [hp] at hv; cases hv
  refine ⟨by simp [rh.len], ?_, fun n o' a h1 h2 => ?_⟩
  · rw [List.nodup_append]
    exact ⟨rh.nd, by simp, fun a ha b hb e => by simp at hb; subst hb; subst e; exact hpm ha⟩
  · by_cases hn : n < M.length
    · rw [List.getElem?_append_left hn] at h1
      rw [List.getElem?_append_left (by rw [← rh.len]; exact hn)] at h2
      exact (rh.at_ n o' a h1 h2).keep (Nx.fresh hp [p]) (fun v e => by rw [upd_ne (ne_of_none e hp)]; exact e) (fun b e => by rw [upd_ne (ne_of_none e hp)]; exact e) fun b e => by rw [upd_ne (ne_of_none e hp)]; exact e
    · rw [List.getElem?_append_right (by omega)] at h1
      rw [List.getElem?_append_right (by rw [← rh.len]; omega)] at h2
      have e1 : n - M.length = 0 := by
        by_cases z : n - M.length = 0
        · exact z
        · rw [List.getElem?_eq_none (by simp; omega)] at h1; cases h1
      rw [e1] at h1
      rw [← rh.len, e1] at h2
      simp at h1 h2
      subst h1; subst h2
      exact new
theorem mutNe {a b : Addr} {u : HO} (hm : Mut (H a)) (e : H b = some u) (nm : ¬ Mut (some u)) : b ≠ a := fun z => by
  subst z
  rw [e] at hm
  exact nm hm
theorem Nx.write {a : Addr} {u : HO} (hm : Mut (H a)) : Nx μ H μ (upd H a u) := by
  refine ⟨fun n a e => e, fun b xs e => ?_, fun b o v e => by rw [upd_ne (mutNe hm e (fun z => z))]; exact e, fun b fs e => by rw [upd_ne (mutNe hm e (fun z => z))]; exact e⟩
  rcases e with e | ⟨o, e⟩
  · exact .inl (by rw [upd_ne (mutNe hm e (fun z => z))]; exact e)
  · exact .inr ⟨o, by rw [upd_ne (mutNe hm e (fun z => z))]; exact e⟩
theorem RH.write {n : Nat} {a : Addr} {u : HO} {o : MO} (rh : RH P w K Γ μ M H) (hn : μ[n]? = some a) (hm : Mut (H a)) (new : RO P w K Γ (upd H a u) μ a o) : RH P w K Γ μ (M.set n o) (upd H a u) := by
  refine ⟨by simp [rh.len], rh.nd, fun m o' b h1 h2 => ?_⟩
  by_cases hmn : n = m
  · subst hmn
    rw [hn] at h2; cases h2
    by_cases hl : n < M.length
    · rw [List.getElem?_set_self hl] at h1; cases h1
      exact new
    · rw [List.getElem?_eq_none (by simpa using hl)] at h1; cases h1
  · rw [List.getElem?_set_ne hmn] at h1
    have hba : b ≠ a := fun z => by
      subst z
      exact hmn ((List.getElem?_inj (List.getElem?_eq_some_iff.mp hn).1 rh.nd).mp (hn.trans h2.symm))
    exact (rh.at_ m o' b h1 h2).keep (Nx.write hm) (fun v e => by rw [upd_ne hba]; exact e) (fun c e => by rw [upd_ne (mutNe hm e (fun z => z))]; exact e) fun c e => by rw [upd_ne (mutNe hm e (fun z => z))]; exact e
theorem RH.addr {n : Nat} {o : MO} (rh : RH P w K Γ μ M H) (h : M[n]? = some o) : ∃ a, μ[n]? = some a ∧ RO P w K Γ H μ a o := by
  have hl : n < μ.length := by rw [← rh.len]; exact (List.getElem?_eq_some_iff.mp h).1
  exact ⟨_, List.getElem?_eq_getElem hl, rh.at_ n o _ h (List.getElem?_eq_getElem hl)⟩
theorem RH.last {p : Addr} (rh : RH P w K Γ μ M H) : (μ ++ [p])[M.length]? = some p := by
  rw [rh.len]
  simp

def R.of {α : Type} : Option (α × Hs) → R α
  | some (a, M) => .ok a M
  | none => .no
variable (P w K Γ) in
def Pk {α β : Type} (rel : Hp → List Addr → α → β → Prop) (μ : List Addr) (H : Hp) (r : Option (α × Hs)) (Q : β → Hp → Prop) : Prop := match r with
  | some (d, M') => ∀ v H' μ', Nx μ H μ' H' → RH P w K Γ μ' M' H' → rel H' μ' d v → Q v H'
  | none => False
theorem Pst.of {α β : Type} {rel : Hp → List Addr → α → β → Prop} {r : Option (α × Hs)} {Q : β → Hp → Prop} (h : Pst P w K Γ rel W σ μ H (R.of r) Q) : Pk P w K Γ rel μ H r Q := by
  cases r with
  | none => exact h
  | some p => exact h
theorem Pst.imp {α β : Type} {rel : Hp → List Addr → α → β → Prop} {r : R α} {Q Q' : β → Hp → Prop} (h : Pst P w K Γ rel W σ μ H r Q) (i : ∀ v H', Q v H' → Q' v H') : Pst P w K Γ rel W σ μ H r Q' := by
  cases r with
  | ok d M => exact fun v H' μ' x rh rv => i _ _ (h v H' μ' x rh rv)
  | ex c fs M => exact h
  | no => exact h
theorem Pst.then {α β γ δ : Type} {rel : Hp → List Addr → α → β → Prop} {rel' : Hp → List Addr → γ → δ → Prop} {r : R α} {k : α → Hs → R γ} {Q : δ → Hp → Prop} {Q' : β → Hp → Prop} (h : Pst P w K Γ rel' W σ μ H (r.bind k) Q)
    (i : ∀ v H1 d M1 μ1, Nx μ H μ1 H1 → RH P w K Γ μ1 M1 H1 → rel H1 μ1 d v → Pst P w K Γ rel' W σ μ1 H1 (k d M1) Q → Q' v H1) : Pst P w K Γ rel W σ μ H r Q' :=
  Pst.imp (Pst.bind h) fun v H1 ⟨d, M1, μ1, a, b, c, e⟩ => i v H1 d M1 μ1 a b c e
theorem Pk.new {Q : VK} {o : MO} {p : Addr} {u : HO} (rh : RH P w K Γ μ M H) (h : Pk P w K Γ (relV K) μ H (some (.ref M.length, M ++ [o])) Q) (hp : H p = none) (new : RO P w K Γ (upd H p u) (μ ++ [p]) p o) : Q (.ref p) (upd H p u) :=
  h _ _ _ (Nx.fresh hp [p]) (rh.alloc hp new) (.ref rh.last)
theorem Pk.tup {Q : VK} {ds : List D} {vs : List V} {p : Addr} (rh : RH P w K Γ μ M H) (h : Pk P w K Γ (relV K) μ H (some (.tup ds, M)) Q) (hp : H p = none) (r : RVs K H μ ds vs) : Q (.ref p) (upd H p (.tup vs)) :=
  h _ _ _ (Nx.fresh0 hp) (rh.fresh hp) (.tup (SqT.of upd_same) (r.mono (Nx.fresh0 hp)))
theorem Pk.here {α β : Type} {rel : Hp → List Addr → α → β → Prop} {Q : β → Hp → Prop} {d : α} {v : β} (rh : RH P w K Γ μ M H) (h : Pk P w K Γ rel μ H (some (d, M)) Q) (r : rel H μ d v) : Q v H := h _ _ _ (Nx.refl _ _) rh r
theorem nlst (rh : RH P w K Γ μ M H) {n : Nat} {a : Addr} {xs : List D} (h : M[n]? = some (.lst xs)) (e : μ[n]? = some a) : ∃ vs, H a = some (.lst vs) ∧ RVs K H μ xs vs := rh.at_ n _ a h e
end

abbrev EX (X : Cx) (Γ : Gm) (W : WX) (e : Expr) (f : MX) : Prop := PE X e (tX X.prog X.w X.K Γ W f)
abbrev ET (X : Cx) (Γ : Gm) (W : WX) (e : Expr) (f : MT) : Prop := PT X e (tT X.prog X.w X.K Γ W f)
abbrev EW (X : Cx) (Γ : Gm) (W : WX) (e : Expr) (f : MT) : Prop := PW X e (tT X.prog X.w X.K Γ W f)
abbrev EA (X : Cx) (Γ : Gm) (W : WX) (es : List Expr) (f : MA) : Prop := PA X es (tA X.prog X.w X.K Γ W f)
abbrev ES (X : Cx) (Γ : Gm) (W : WX) (st : Stmt) (f : MS) : Prop := PS X st (tS X.prog X.w X.K Γ W f)
abbrev ESs (X : Cx) (Γ : Gm) (W : WX) (st : List Stmt) (f : MS) : Prop := PSs X st (tS X.prog X.w X.K Γ W f)

section
variable {X : Cx} {Γ : Gm} {W : WX} {a b c : Expr} {fa fb fc : MX} {pos : Pos}
def xVar (i : Nat) : MX := fun ζ M => match ζ[i]? with
  | some (some d) => .ok d M
  | _ => .no
def xC (d : D) : MX := fun _ M => .ok d M
theorem ex_var (i : Nat) {x : Str} (hN : X.N[i]? = some x := by rfl) (hv : Vis X.env.scope x := by first | exact Or.inl rfl | exact Or.inr (Or.inl rfl) | exact Or.inr (Or.inr rfl)) (hd : (x == ("__debug__" : Str)) = false := by decide)
    (hcd : (x == ("__classdict__" : Str)) = false := by decide) : EX X Γ W (.Name x pos) (xVar i) := PE.imp (pe_var hN hv hd hcd) fun σ H Q ⟨ζ, M, μ, rr, h⟩ => by
  unfold xVar at h
  cases e : ζ[i]? with
  | none => rw [e] at h; exact h.elim
  | some o =>
    cases o with
    | none => rw [e] at h; exact h.elim
    | some d =>
      rw [e] at h
      obtain ⟨v, h1, h2⟩ := rr.sl.at_ i d e
      exact ⟨v, h1, h _ _ _ (Nx.refl _ _) rr.hp h2⟩
theorem ex_const {e : Expr} {d : D} {v : V} (h : PE X e (tC v)) (r : ∀ H μ, RV X.K H μ d v) : EX X Γ W e (xC d) := PE.imp h fun σ H Q ⟨ζ, M, μ, rr, h⟩ => h _ _ _ (Nx.refl _ _) rr.hp (r _ _)
theorem ex_int {i : Int} {j} : EX X Γ W (.Constant (.int i) j pos) (xC (.int i)) := ex_const pe_int fun _ _ => .int i
theorem ex_bl {i : Bool} {j} : EX X Γ W (.Constant (.bool i) j pos) (xC (.bl i)) := ex_const pe_bl fun _ _ => .bl i
theorem ex_non {j} : EX X Γ W (.Constant .none j pos) (xC .non) := ex_const pe_non fun _ _ => .non
theorem ex_str {x : Str} {j} : EX X Γ W (.Constant (.str x) j pos) (xC (.str x)) := ex_const pe_str fun _ _ => .str x
/-- a module's constant -/
def CstOk (K : PySem.W.Frag) (mg : Str → Option Value) (x : Str) (d : D) : Prop := ∃ u v, mg x = some u ∧ RelV v u ∧ ∀ H μ, RV K H μ d v
theorem ex_glob {x : Str} {d : D} (h : CstOk X.K X.mg x d) (hg : Gl X x := by rfl) (hd : (x == ("__debug__" : Str)) = false := by decide) : EX X Γ W (.Name x pos) (xC d) := by
  obtain ⟨u, v, h1, h2, h3⟩ := h
  exact ex_const (pe_glob hg h1 h2 hd) h3

def x2 (g : D → D → Hs → Option (D × Hs)) (fa fb : MX) : MX := fun ζ M => (fa ζ M).bind fun x M1 => (fb ζ M1).bind fun y M2 => R.of (g x y M2)
def r2 (P : Program) (w : World) (K : PySem.W.Frag) (Γ : Gm) (g : D → D → Hs → Option (D × Hs)) : R2 := fun x y H Q => ∃ d e M μ, RH P w K Γ μ M H ∧ RV K H μ d x ∧ RV K H μ e y ∧ Pk P w K Γ (relV K) μ H (g d e M) Q
abbrev Op2 (X : Cx) (Γ : Gm) (f : Value → Value → Sem Value) (g : D → D → Hs → Option (D × Hs)) : Prop := OpR X f (r2 X.prog X.w X.K Γ g)
theorem tOp_of {g : D → D → Hs → Option (D × Hs)} {σ : L2.St} {H : Hp} {Q : VK} (h : tX X.prog X.w X.K Γ W (x2 g fa fb) σ H Q) : tOp (r2 X.prog X.w X.K Γ g) (tX X.prog X.w X.K Γ W fa) (tX X.prog X.w X.K Γ W fb) σ H Q := by
  obtain ⟨ζ, M, μ, rr, h⟩ := h
  exact ⟨ζ, M, μ, rr, Pst.then h fun v H1 d M1 μ1 nx rh rv h1 => ⟨ζ, M1, μ1, ⟨rr.sl.mono nx, rh⟩, Pst.then h1 fun v2 H2 e M2 μ2 nx2 rh2 rv2 h2 => ⟨d, e, M2, μ2, rh2, rv.mono nx2, rv2, h2.of⟩⟩⟩
theorem ex_op {op : Operator} {g : D → D → Hs → Option (D × Hs)} (ho : Op2 X Γ (binaryOp op) g) (ha : EX X Γ W a fa) (hb : EX X Γ W b fb) : EX X Γ W (.BinOp a op b pos) (x2 g fa fb) :=
  PE.imp (pe_op ho ha hb) fun _ _ _ h => tOp_of h
theorem ex_cmp {op : CmpOp} {g : D → D → Hs → Option (D × Hs)} (ho : Op2 X Γ (compareOp op) g) (ha : EX X Γ W a fa) (hb : EX X Γ W b fb) (hm : behindInMarks op b = false := by rfl) : EX X Γ W (.Compare a [op] [b] pos) (x2 g fa fb) :=
  PE.imp (pe_cmpR ho ha hb hm) fun _ _ _ h => tOp_of h
/-- a value that is a truth value, as a test -/
def tB1 (f : MX) : MT := fun ζ M => (f ζ M).bind fun x M1 => match x with
  | .bl k => .ok k M1
  | _ => .no
theorem tTest_of {f : MX} {t : TE} {σ : L2.St} {H : Hp} {Q : Bool → Hp → Prop} (i : ∀ Q, tX X.prog X.w X.K Γ W f σ H Q → t σ H Q) (h : tT X.prog X.w X.K Γ W (tB1 f) σ H Q) : tTest t σ H Q := by
  obtain ⟨ζ, M, μ, rr, h⟩ := h
  refine i _ ⟨ζ, M, μ, rr, Pst.then h fun v H1 d M1 μ1 nx rh rv h1 => ?_⟩
  cases d with
  | bl k => cases rv; exact ⟨k, rfl, h1 _ _ _ (Nx.refl _ _) rh rfl⟩
  | _ => exact h1.elim
theorem et_cmp {op : CmpOp} {g : D → D → Hs → Option (D × Hs)} (ho : Op2 X Γ (compareOp op) g) (ha : EX X Γ W a fa) (hb : EX X Γ W b fb) (hm : behindInMarks op b = false := by rfl) : ET X Γ W (.Compare a [op] [b] pos) (tB1 (x2 g fa fb)) :=
  PT.imp (pt_cmpR ho ha hb hm) fun _ _ _ h => tTest_of (fun _ => tOp_of) h
theorem et_val (ha : EX X Γ W a fa) (he : ∀ whole, isTrue a X.env whole = (do let v ← whole; standAt a.pos; holding [v] (truthy v)) := by intro _; rfl) : ET X Γ W a (tB1 fa) :=
  PT.imp (pt_val ha he) fun _ _ _ h => tTest_of (fun _ h => h) h
/-- a < b < c -/
def x3 (g g' : D → D → Hs → Option (D × Hs)) (fa fb fc : MX) : MX := fun ζ M => (fa ζ M).bind fun x M1 => (fb ζ M1).bind fun y M2 => (R.of (g x y M2)).bind fun z M3 => match z with
  | .bl true => (fc ζ M3).bind fun u M4 => R.of (g' y u M4)
  | .bl false => .ok (.bl false) M3
  | _ => .no
end

def hLst (M : Hs) (n : Nat) : Option (List D) := match M[n]? with
  | some (.lst xs) => some xs
  | _ => none
def hSeq (M : Hs) : D → Option (List D)
  | .tup xs => some xs
  | .klst xs => some xs
  | .ref n => match M[n]? with
    | some (.lst xs) => some xs
    | some (.ro xs) => some xs
    | _ => none
  | _ => none
def newL (xs : List D) (M : Hs) : Option (D × Hs) := if xs.length ≤ sizeLine then some (.ref M.length, M ++ [.lst xs]) else none
def gAdd (x y : D) (M : Hs) : Option (D × Hs) := match x, y with
  | .int i, .int j => some (.int (i + j), M)
  | .str x, .str y => if x.length + y.length ≤ sizeLine then some (.str (x ++ y), M) else none
  | .tup xs, .tup ys => if xs.length + ys.length ≤ sizeLine then some (.tup (xs ++ ys), M) else none
  | .ref m, .ref n => match M[m]?, M[n]? with
    | some (.lst xs), some (.lst ys) => newL (xs ++ ys) M
    | _, _ => none
  | _, _ => none
def gI (C : Int → Int → Bool) (g : Int → Int → D) (x y : D) (M : Hs) : Option (D × Hs) := match x, y with
  | .int i, .int j => if C i j = true then some (g i j, M) else none
  | _, _ => none
def gSub : D → D → Hs → Option (D × Hs) := gI (fun _ _ => true) fun i j => .int (i - j)
def inW (i : Int) : Bool := decide (-(2 ^ 64) < i) && decide (i < 2 ^ 64)
def gMul : D → D → Hs → Option (D × Hs) := gI (fun i j => inW i || inW j) fun i j => .int (i * j)
def gDiv : D → D → Hs → Option (D × Hs) := gI (fun _ j => decide (0 < j) && decide (j < 1073741824)) fun i j => .int (i / j)
def gMod : D → D → Hs → Option (D × Hs) := gI (fun _ j => decide (0 < j)) fun i j => .int (i % j)
def gPow : D → D → Hs → Option (D × Hs) := gI (fun i j => decide (0 ≤ j) && decide (j ≤ 1000000) && decide (i.natAbs < 2 ^ 64)) fun i j => .int (i ^ j.toNat)
def gLt : D → D → Hs → Option (D × Hs) := gI (fun _ _ => true) fun i j => .bl (decide (i < j))
def gLe : D → D → Hs → Option (D × Hs) := gI (fun _ _ => true) fun i j => .bl (decide (i ≤ j))
def gGt : D → D → Hs → Option (D × Hs) := gI (fun _ _ => true) fun i j => .bl (decide (j < i))
def gGe : D → D → Hs → Option (D × Hs) := gI (fun _ _ => true) fun i j => .bl (decide (j ≤ i))
section
variable {X : Cx} {Γ : Gm}
theorem gI_ok {f : Value → Value → Sem Value} {C : Int → Int → Bool} {g : Int → Int → D} {gv : Int → Int → V} {C' : Int → Int → Prop} (h : OpR X f (rI C' gv)) (hc : ∀ i j, C i j = true → C' i j) (hg : ∀ H μ i j, RV X.K H μ (g i j) (gv i j)) : Op2 X Γ f (gI C g) := by
  intro pins s σ H x y v u Q I rx ry hq
  obtain ⟨d, e, M, μ, rh, rd, re, hq⟩ := hq
  unfold gI at hq
  cases d with
  | int i =>
    cases e with
    | int j =>
      cases rd; cases re
      simp only at hq
      split at hq
      · rename_i hcc
        exact h pins s σ H _ _ v u Q I rx ry ⟨i, j, rfl, rfl, hc i j hcc, Pk.here rh hq (hg _ _ _ _)⟩
      · exact hq.elim
    | _ => exact hq.elim
  | _ => exact hq.elim
theorem gI_ok0 {f : Value → Value → Sem Value} {g : Int → Int → D} {gv : Int → Int → V} (h : OpR X f (rI0 gv)) (hg : ∀ H μ i j, RV X.K H μ (g i j) (gv i j)) : Op2 X Γ f (gI (fun _ _ => true) g) :=
  gI_ok (C' := fun _ _ => True) (gv := gv) (fun pins s σ H x y v u Q I rx ry ⟨i, j, e1, e2, _, q⟩ => h pins s σ H x y v u Q I rx ry ⟨i, j, e1, e2, q⟩) (fun _ _ _ => trivial) hg
theorem m_sub : Op2 X Γ (binaryOp .Sub) gSub := gI_ok0 op_sub fun _ _ _ _ => .int _
theorem inW_ok {i : Int} (h : inW i = true) : -(2 ^ 64) < i ∧ i < 2 ^ 64 := by
  unfold inW at h
  rw [Bool.and_eq_true, decide_eq_true_eq, decide_eq_true_eq] at h
  exact h
theorem m_mul : Op2 X Γ (binaryOp .Mult) gMul := gI_ok op_mul (fun i j h => by
  rw [Bool.or_eq_true] at h
  exact h.imp inW_ok inW_ok) fun _ _ _ _ => .int _
theorem m_div : Op2 X Γ (binaryOp .FloorDiv) gDiv := gI_ok op_fdiv (fun i j h => by
  rw [Bool.and_eq_true, decide_eq_true_eq, decide_eq_true_eq] at h
  exact h) fun _ _ _ _ => .int _
theorem m_mod : Op2 X Γ (binaryOp .Mod) gMod := gI_ok op_mod (fun i j h => of_decide_eq_true h) fun _ _ _ _ => .int _
theorem m_pow : Op2 X Γ (binaryOp .Pow) gPow := gI_ok op_pow (fun i j h => by
  rw [Bool.and_eq_true, Bool.and_eq_true, decide_eq_true_eq, decide_eq_true_eq, decide_eq_true_eq] at h
  exact ⟨h.1.1, h.1.2, h.2⟩) fun _ _ _ _ => .int _
theorem m_lt : Op2 X Γ (compareOp .Lt) gLt := gI_ok0 op_lt fun _ _ _ _ => .bl _
theorem m_le : Op2 X Γ (compareOp .LtE) gLe := gI_ok0 op_le fun _ _ _ _ => .bl _
theorem m_gt : Op2 X Γ (compareOp .Gt) gGt := gI_ok0 op_gt fun _ _ _ _ => .bl _
theorem m_ge : Op2 X Γ (compareOp .GtE) gGe := gI_ok0 op_ge fun _ _ _ _ => .bl _
theorem m_add : Op2 X Γ (binaryOp .Add) gAdd := by
  intro pins s σ H x y v u Q I rx ry hq
  obtain ⟨d, e, M, μ, rh, rd, re, hq⟩ := hq
  unfold gAdd at hq
  split at hq
  · cases rd; cases re
    exact op_add pins s σ H _ _ v u Q I rx ry ⟨_, _, rfl, rfl, Pk.here rh hq (.int _)⟩
  · cases rd; cases re
    split at hq
    · rename_i hl
      exact op_add_str pins s σ H _ _ v u Q I rx ry ⟨_, _, rfl, rfl, hl, Pk.here rh hq (.str _)⟩
    · exact hq.elim
  · cases rd with
    | tup h1 r1 =>
      cases re with
      | tup h2 r2 =>
        split at hq
        · rename_i hl
          refine op_catA pins s σ H _ _ v u Q I rx ry ⟨_, _, _, _, rfl, rfl, h1, h2, by rw [← r1.length, ← r2.length]; exact hl, fun e => ?_, fun _ e => ?_, fun _ _ p hp => Pk.tup rh hq hp (r1.append r2)⟩
          · subst e
            cases r1
            exact Pk.here rh hq (.tup h2 r2)
          · subst e
            cases r2
            rw [List.append_nil] at hq
            exact Pk.here rh hq (.tup h1 r1)
        · exact hq.elim
  · cases rd with
    | ref e1 =>
      cases re with
      | ref e2 =>
        split at hq
        · rename_i xs ys h1 h2
          obtain ⟨vs1, g1, r1⟩ := nlst rh h1 e1
          obtain ⟨vs2, g2, r2⟩ := nlst rh h2 e2
          unfold newL at hq
          split at hq
          · rename_i hl
            rw [List.length_append] at hl
            refine op_cat pins s σ H _ _ v u Q I rx ry ⟨_, _, _, _, rfl, rfl, g1, g2, by rw [← r1.length, ← r2.length]; exact hl, fun p hp => ?_⟩
            exact Pk.new rh hq hp ⟨_, upd_same, (r1.append r2).mono (Nx.fresh hp _)⟩
          · exact hq.elim
        · exact hq.elim
  · exact hq.elim
end
end Mi
end
section
set_option maxRecDepth 100000
set_option maxHeartbeats 2000000
set_option autoImplicit false
namespace Mi
open PySem PySem.Spec PyProof.Rows L2

def mapO {α β : Type} (f : α → Option β) : List α → Option (List β)
  | [] => some []
  | x :: xs => match f x, mapO f xs with
    | some y, some ys => some (y :: ys)
    | _, _ => none
/-- data as a whole -/
def toPD (M : Hs) : Nat → D → Option PyData
  | 0, _ => none
  | n + 1, d => match d with
    | .non => some .none
    | .bl b => some (.bool b)
    | .int i => some (.int i)
    | .str x => some (.str x)
    | .tup xs => match mapO (toPD M n) xs with
      | some ps => some (.tuple ps)
      | none => none
    | .ref m => match M[m]? with
      | some (.lst xs) => (match mapO (toPD M n) xs with
        | some ps => some (.list ps)
        | none => none)
      | some (.ro xs) => (match mapO (toPD M n) xs with
        | some ps => some (.list ps)
        | none => none)
      | _ => none
    | .klst _ => none
    | .exc .. => none
section
variable {P : Program} {w : World} {K : PySem.W.Frag} {Γ : Gm} {W : WX} {σ : L2.St} {μ μ' : List Addr} {H H' : Hp} {M : Hs}
theorem dpAll_of {n : Nat} (ih : ∀ d p v, toPD M n d = some p → RV K H μ d v → Dp K H v p) : ∀ {xs : List D} {ps : List PyData} {vs : List V}, mapO (toPD M n) xs = some ps → RVs K H μ xs vs → DpAll K H vs ps
  | [], ps, vs, h, r => by
    cases r
    cases h
    exact .nil
  | x :: xs, ps, vs, h, r => by
    unfold mapO at h
    split at h
    · rename_i y ys h1 h2
      cases h
      cases r with
      | cons r1 r2 => exact .cons (ih _ _ _ h1 r1) (dpAll_of ih h2 r2)
    · cases h
theorem dp_of (rh : RH P w K Γ μ M H) : ∀ (n : Nat) (d : D) (p : PyData) (v : V), toPD M n d = some p → RV K H μ d v → Dp K H v p
  | 0, _, _, _, h, _ => by cases h
  | n + 1, d, p, v, h, r => by
    have ih := dp_of rh n
    cases r with
    | non => cases h; exact .non
    | bl b => cases h; exact .bl b
    | int i => cases h; exact .int i
    | str x => cases h; exact .str x
    | kls => cases h
    | excN => cases h
    | excD => cases h
    | tup h1 r1 =>
      simp only [toPD] at h
      split at h
      · rename_i ps h2
        cases h
        exact .tup h1 (dpAll_of ih h2 r1)
      · cases h
    | ref e =>
      simp only [toPD] at h
      split at h
      · rename_i xs h3
        split at h
        · rename_i ps h2
          cases h
          obtain ⟨vs, g, r1⟩ := rh.at_ _ _ _ h3 e
          exact .lst (SqL.of g) (dpAll_of ih h2 r1)
        · cases h
      · rename_i xs h3
        split at h
        · rename_i ps h2
          cases h
          obtain ⟨vs, ⟨o, g⟩, r1⟩ := rh.at_ _ _ _ h3 e
          exact .lst (.inl (.inr ⟨o, g⟩)) (dpAll_of ih h2 r1)
        · cases h
      · cases h
end
/-- how deep data may lie -/
def deep : Nat := 12
def gEqB (k : Bool → Bool) (x y : D) (M : Hs) : Option (D × Hs) := match toPD M deep x, toPD M deep y with
  | some p, some q => if (SeqAt.shaped p && SeqAt.shaped q) = true then some (.bl (k (PyData.eqv p q)), M) else none
  | _, _ => none
def gEq : D → D → Hs → Option (D × Hs) := gEqB id
def gNe : D → D → Hs → Option (D × Hs) := gEqB not
def gInB (k : Bool → Bool) (x y : D) (M : Hs) : Option (D × Hs) := match toPD M deep x, toPD M deep y with
  | some p, some (.list qs) => if (SeqAt.shaped p && SeqAt.shaped (.list qs)) = true then some (.bl (k (qs.any fun z => PyData.eqv z p)), M) else none
  | some p, some (.tuple qs) => if (SeqAt.shaped p && SeqAt.shaped (.tuple qs)) = true then some (.bl (k (qs.any fun z => PyData.eqv z p)), M) else none
  | _, _ => none
def gIn : D → D → Hs → Option (D × Hs) := gInB id
def gNotIn : D → D → Hs → Option (D × Hs) := gInB not
def isNon : D → Bool
  | .non => true
  | _ => false
def gIsN (k : Bool → Bool) (x y : D) (M : Hs) : Option (D × Hs) := match y with
  | .non => some (.bl (k (isNon x)), M)
  | _ => none
def gIs : D → D → Hs → Option (D × Hs) := gIsN id
def gIsNot : D → D → Hs → Option (D × Hs) := gIsN not
section
variable {X : Cx} {Γ : Gm}
theorem m_eq (hu : X.A.units + 64 < cLine) : Op2 X Γ (compareOp .Eq) gEq := by
  intro pins s σ H x y v u Q I rx ry hq
  obtain ⟨d, e, M, μ, rh, rd, re, hq⟩ := hq
  unfold gEq gEqB at hq
  split at hq
  · rename_i p q h1 h2
    split at hq
    · rename_i hs
      rw [Bool.and_eq_true] at hs
      exact op_eqD hu pins s σ H _ _ v u Q I rx ry ⟨p, q, dp_of rh _ _ _ _ h1 rd, dp_of rh _ _ _ _ h2 re, hs.1, hs.2, Pk.here rh hq (.bl _)⟩
    · exact hq.elim
  · exact hq.elim
theorem m_ne (hu : X.A.units + 64 < cLine) : Op2 X Γ (compareOp .NotEq) gNe := by
  intro pins s σ H x y v u Q I rx ry hq
  obtain ⟨d, e, M, μ, rh, rd, re, hq⟩ := hq
  unfold gNe gEqB at hq
  split at hq
  · rename_i p q h1 h2
    split at hq
    · rename_i hs
      rw [Bool.and_eq_true] at hs
      exact op_neD hu pins s σ H _ _ v u Q I rx ry ⟨p, q, dp_of rh _ _ _ _ h1 rd, dp_of rh _ _ _ _ h2 re, hs.1, hs.2, Pk.here rh hq (.bl _)⟩
    · exact hq.elim
  · exact hq.elim
theorem m_in (hu : X.A.units + 65 < cLine) : Op2 X Γ (compareOp .In) gIn := by
  intro pins s σ H x y v u Q I rx ry hq
  obtain ⟨d, e, M, μ, rh, rd, re, hq⟩ := hq
  unfold gIn gInB at hq
  split at hq
  · rename_i p qs h1 h2
    split at hq
    · rename_i hs
      rw [Bool.and_eq_true] at hs
      exact op_inD hu pins s σ H _ _ v u Q I rx ry ⟨p, qs, dp_of rh _ _ _ _ h1 rd, dp_of rh _ _ _ _ h2 re, hs.1, hs.2, Pk.here rh hq (.bl _)⟩
    · exact hq.elim
  · rename_i p qs h1 h2
    split at hq
    · rename_i hs
      rw [Bool.and_eq_true] at hs
      obtain ⟨as, r1⟩ := Dp.reads I p x v (dp_of rh _ _ _ _ h1 rd) rx
      obtain ⟨bs, r2⟩ := Dp.reads I (.tuple qs) y u (dp_of rh _ _ _ _ h2 re) ry
      exact SeqAt.in_tuple_reads r2 r1 (SeqAt.canLay_of_shaped hs.2) (SeqAt.canLay_of_shaped hs.1) (room_in_shaped hs.1 hu) ⟨.bl _, H, I, rfl, Pk.here rh hq (.bl _)⟩
    · exact hq.elim
  · exact hq.elim
theorem m_notIn (hu : X.A.units + 65 < cLine) : Op2 X Γ (compareOp .NotIn) gNotIn := by
  intro pins s σ H x y v u Q I rx ry hq
  obtain ⟨d, e, M, μ, rh, rd, re, hq⟩ := hq
  unfold gNotIn gInB at hq
  split at hq
  · rename_i p qs h1 h2
    split at hq
    · rename_i hs
      rw [Bool.and_eq_true] at hs
      exact op_notInD hu pins s σ H _ _ v u Q I rx ry ⟨p, qs, dp_of rh _ _ _ _ h1 rd, dp_of rh _ _ _ _ h2 re, hs.1, hs.2, Pk.here rh hq (.bl _)⟩
    · exact hq.elim
  · rename_i p qs h1 h2
    split at hq
    · rename_i hs
      rw [Bool.and_eq_true] at hs
      obtain ⟨as, r1⟩ := Dp.reads I p x v (dp_of rh _ _ _ _ h1 rd) rx
      obtain ⟨bs, r2⟩ := Dp.reads I (.tuple qs) y u (dp_of rh _ _ _ _ h2 re) ry
      exact SeqAt.notIn_tuple_reads r2 r1 (SeqAt.canLay_of_shaped hs.2) (SeqAt.canLay_of_shaped hs.1) (room_in_shaped hs.1 hu) ⟨.bl _, H, I, rfl, Pk.here rh hq (.bl _)⟩
    · exact hq.elim
  · exact hq.elim
theorem isN_of {K : PySem.W.Frag} {H : Hp} {μ : List Addr} {d : D} {x : V} (r : RV K H μ d x) : decide (x = .non) = isNon d := by
  cases r <;> first | rfl | exact decide_eq_false (fun e => by cases e)
theorem m_is : Op2 X Γ (compareOp .Is) gIs := by
  intro pins s σ H x y v u Q I rx ry hq
  obtain ⟨d, e, M, μ, rh, rd, re, hq⟩ := hq
  unfold gIs gIsN at hq
  split at hq
  · cases re
    exact op_isN pins s σ H _ _ v u Q I rx ry ⟨rfl, by rw [isN_of rd]; exact Pk.here rh hq (.bl _)⟩
  · exact hq.elim
theorem m_isNot : Op2 X Γ (compareOp .IsNot) gIsNot := by
  intro pins s σ H x y v u Q I rx ry hq
  obtain ⟨d, e, M, μ, rh, rd, re, hq⟩ := hq
  unfold gIsNot gIsN at hq
  split at hq
  · cases re
    exact op_notN pins s σ H _ _ v u Q I rx ry ⟨rfl, by rw [isN_of rd]; exact Pk.here rh hq (.bl _)⟩
  · exact hq.elim
end

def tAnd2 (f g : MT) : MT := fun ζ M => (f ζ M).bind fun c M1 => if c = true then g ζ M1 else .ok false M1
def tOr2 (f g : MT) : MT := fun ζ M => (f ζ M).bind fun c M1 => if c = true then .ok true M1 else g ζ M1
def tNot1 (f : MT) : MT := fun ζ M => (f ζ M).bind fun c M1 => .ok (!c) M1
def xAnd (f g : MX) : MX := fun ζ M => (f ζ M).bind fun x M1 => match x with
  | .bl true => g ζ M1
  | .bl false => .ok (.bl false) M1
  | _ => .no
def xOr (f g : MX) : MX := fun ζ M => (f ζ M).bind fun x M1 => match x with
  | .bl true => .ok (.bl true) M1
  | .bl false => g ζ M1
  | _ => .no
def xNot (f : MX) : MX := fun ζ M => (f ζ M).bind fun x M1 => match x with
  | .bl k => .ok (.bl (!k)) M1
  | _ => .no
def xIf (t : MT) (f g : MX) : MX := fun ζ M => (t ζ M).bind fun c M1 => if c = true then f ζ M1 else g ζ M1
def xNeg (f : MX) : MX := fun ζ M => (f ζ M).bind fun x M1 => match x with
  | .int i => .ok (.int (-i)) M1
  | _ => .no
section
variable {X : Cx} {Γ : Gm} {W : WX} {a b c : Expr} {rest : List Expr} {fa fb fc : MX} {ta tb : MT} {pos : Pos}
theorem PW.imp {e : Expr} {t t' : TT} (h : PW X e t) (i : ∀ σ H Q, t' σ H Q → t σ H Q) : PW X e t' := ⟨fun wh pins s σ H Q I q => h.run wh pins s σ H Q I (i _ _ _ q)⟩
theorem et_and1 (ha : ET X Γ W a ta) : EW X Γ W (.BoolOp .And [a] pos) ta := pw_and1 ha
theorem et_or1 (ha : ET X Γ W a ta) : EW X Γ W (.BoolOp .Or [a] pos) ta := pw_or1 ha
theorem et_and (ha : ET X Γ W a ta) (hb : EW X Γ W (.BoolOp .And (b :: rest) pos) tb) : EW X Γ W (.BoolOp .And (a :: b :: rest) pos) (tAnd2 ta tb) :=
  PW.imp (pw_and ha hb) fun σ H Q ⟨ζ, M, μ, rr, h⟩ => ⟨ζ, M, μ, rr, Pst.then h fun v H1 d M1 μ1 nx rh rv h1 => by
    have rv : d = v := rv
    subst rv
    cases d with
    | true => exact ⟨ζ, M1, μ1, ⟨rr.sl.mono nx, rh⟩, h1⟩
    | false => exact h1 _ _ _ (Nx.refl _ _) rh rfl⟩
theorem et_or (ha : ET X Γ W a ta) (hb : EW X Γ W (.BoolOp .Or (b :: rest) pos) tb) : EW X Γ W (.BoolOp .Or (a :: b :: rest) pos) (tOr2 ta tb) :=
  PW.imp (pw_or ha hb) fun σ H Q ⟨ζ, M, μ, rr, h⟩ => ⟨ζ, M, μ, rr, Pst.then h fun v H1 d M1 μ1 nx rh rv h1 => by
    have rv : d = v := rv
    subst rv
    cases d with
    | false => exact ⟨ζ, M1, μ1, ⟨rr.sl.mono nx, rh⟩, h1⟩
    | true => exact h1 _ _ _ (Nx.refl _ _) rh rfl⟩
theorem et_w (h : EW X Γ W a ta) : ET X Γ W a ta := PW.pt h
theorem et_not (ha : ET X Γ W a ta) : ET X Γ W (.UnaryOp .Not a pos) (tNot1 ta) :=
  PT.imp (pt_not ha) fun σ H Q ⟨ζ, M, μ, rr, h⟩ => ⟨ζ, M, μ, rr, Pst.then h fun v H1 d M1 μ1 nx rh rv h1 => by
    cases rv
    exact h1 _ _ _ (Nx.refl _ _) rh rfl⟩
theorem ex_one {op} (h : EX X Γ W a fa) : EX X Γ W (.BoolOp op [a] pos) fa := pe_one h
theorem ex_and (ha : EX X Γ W a fa) (hb : EX X Γ W (.BoolOp .And (b :: rest) pos) fb) : EX X Γ W (.BoolOp .And (a :: b :: rest) pos) (xAnd fa fb) :=
  PE.imp (pe_and ha hb) fun σ H Q ⟨ζ, M, μ, rr, h⟩ => ⟨ζ, M, μ, rr, Pst.then h fun v H1 d M1 μ1 nx rh rv h1 => by
    cases d with
    | bl k =>
      cases rv
      refine ⟨k, rfl, ?_⟩
      cases k with
      | true => exact ⟨ζ, M1, μ1, ⟨rr.sl.mono nx, rh⟩, h1⟩
      | false => exact h1 _ _ _ (Nx.refl _ _) rh (.bl _)
    | _ => exact h1.elim⟩
theorem ex_or (ha : EX X Γ W a fa) (hb : EX X Γ W (.BoolOp .Or (b :: rest) pos) fb) : EX X Γ W (.BoolOp .Or (a :: b :: rest) pos) (xOr fa fb) :=
  PE.imp (pe_or ha hb) fun σ H Q ⟨ζ, M, μ, rr, h⟩ => ⟨ζ, M, μ, rr, Pst.then h fun v H1 d M1 μ1 nx rh rv h1 => by
    cases d with
    | bl k =>
      cases rv
      refine ⟨k, rfl, ?_⟩
      cases k with
      | false => exact ⟨ζ, M1, μ1, ⟨rr.sl.mono nx, rh⟩, h1⟩
      | true => exact h1 _ _ _ (Nx.refl _ _) rh (.bl _)
    | _ => exact h1.elim⟩
theorem ex_not (ha : EX X Γ W a fa) : EX X Γ W (.UnaryOp .Not a pos) (xNot fa) :=
  PE.imp (pe_not ha) fun σ H Q ⟨ζ, M, μ, rr, h⟩ => ⟨ζ, M, μ, rr, Pst.then h fun v H1 d M1 μ1 nx rh rv h1 => by
    cases d with
    | bl k =>
      cases rv
      exact ⟨k, rfl, h1 _ _ _ (Nx.refl _ _) rh (.bl _)⟩
    | _ => exact h1.elim⟩
theorem ex_if (hc : ET X Γ W c ta) (ha : EX X Γ W a fa) (hb : EX X Γ W b fb) : EX X Γ W (.IfExp c a b pos) (xIf ta fa fb) :=
  PE.imp (pe_ifExp hc ha hb) fun σ H Q ⟨ζ, M, μ, rr, h⟩ => ⟨ζ, M, μ, rr, Pst.then h fun v H1 d M1 μ1 nx rh rv h1 => by
    have rv : d = v := rv
    subst rv
    cases d with
    | true => exact ⟨ζ, M1, μ1, ⟨rr.sl.mono nx, rh⟩, h1⟩
    | false => exact ⟨ζ, M1, μ1, ⟨rr.sl.mono nx, rh⟩, h1⟩⟩
theorem ex_neg (ha : EX X Γ W a fa) : EX X Γ W (.UnaryOp .USub a pos) (xNeg fa) :=
  PE.imp (pe_un un_neg ha) fun σ H Q ⟨ζ, M, μ, rr, h⟩ => ⟨ζ, M, μ, rr, Pst.then h fun v H1 d M1 μ1 nx rh rv h1 => by
    cases d with
    | int i =>
      cases rv
      exact ⟨i, rfl, h1 _ _ _ (Nx.refl _ _) rh (.int _)⟩
    | _ => exact h1.elim⟩
theorem tChain_of {g g' : D → D → Hs → Option (D × Hs)} {σ : L2.St} {H : Hp} {Q : VK} (h : tX X.prog X.w X.K Γ W (x3 g g' fa fb fc) σ H Q) :
    tChain (r2 X.prog X.w X.K Γ g) (r2 X.prog X.w X.K Γ g') (tX X.prog X.w X.K Γ W fa) (tX X.prog X.w X.K Γ W fb) (tX X.prog X.w X.K Γ W fc) σ H Q := by
  obtain ⟨ζ, M, μ, rr, h⟩ := h
  refine ⟨ζ, M, μ, rr, Pst.then h fun v H1 d M1 μ1 nx rh rv h1 => ⟨ζ, M1, μ1, ⟨rr.sl.mono nx, rh⟩, Pst.then h1 fun v2 H2 e M2 μ2 nx2 rh2 rv2 h2 => ⟨d, e, M2, μ2, rh2, rv.mono nx2, rv2, ?_⟩⟩⟩
  cases hg : g d e M2 with
  | none => rw [hg] at h2; exact h2.elim
  | some p =>
    rw [hg] at h2
    obtain ⟨z, M3⟩ := p
    intro v3 H3 μ3 nx3 rh3 rv3
    have h3 := Pst.mono h2 nx3
    cases z with
    | bl k =>
      cases rv3
      refine ⟨k, rfl, ?_⟩
      cases k with
      | true =>
        rw [if_pos rfl]
        exact ⟨ζ, M3, μ3, ⟨(rr.sl.mono nx).mono (nx2.trans nx3), rh3⟩, Pst.then h3 fun v4 H4 u M4 μ4 nx4 rh4 rv4 h4 => ⟨e, u, M4, μ4, rh4, (rv2.mono nx3).mono nx4, rv4, h4.of⟩⟩
      | false =>
        rw [if_neg Bool.false_ne_true]
        exact h3 _ _ _ (Nx.refl _ _) rh3 (.bl _)
    | _ => exact h3.elim
theorem ex_chain {op op' : CmpOp} {g g' : D → D → Hs → Option (D × Hs)} (ho : Op2 X Γ (compareOp op) g) (ho' : Op2 X Γ (compareOp op') g') (ha : EX X Γ W a fa) (hb : EX X Γ W b fb) (hc : EX X Γ W c fc)
    (hm : lastMarks [op, op'] [b, c] = false := by with_unfolding_all rfl) : EX X Γ W (.Compare a [op, op'] [b, c] pos) (x3 g g' fa fb fc) := PE.imp (pe_chain ho ho' ha hb hc hm) fun _ _ _ h => tChain_of h
theorem et_chain {op op' : CmpOp} {g g' : D → D → Hs → Option (D × Hs)} (ho : Op2 X Γ (compareOp op) g) (ho' : Op2 X Γ (compareOp op') g') (ha : EX X Γ W a fa) (hb : EX X Γ W b fb) (hc : EX X Γ W c fc)
    (hm : lastMarks [op, op'] [b, c] = false := by with_unfolding_all rfl) : ET X Γ W (.Compare a [op, op'] [b, c] pos) (tB1 (x3 g g' fa fb fc)) := PT.imp (pt_chain ho ho' ha hb hc hm) fun _ _ _ h => tTest_of (fun _ => tChain_of) h
end
end Mi
end
section
set_option maxRecDepth 100000
set_option maxHeartbeats 2000000
set_option autoImplicit false
namespace Mi
open PySem PySem.Spec PyProof.Rows L2

def aNil : MA := fun _ M => .ok [] M
def aCons (f : MX) (g : MA) : MA := fun ζ M => (f ζ M).bind fun x M1 => (g ζ M1).bind fun xs M2 => .ok (x :: xs) M2
def aStar (f : MX) (g : MA) : MA := fun ζ M => (f ζ M).bind fun x M1 => match hSeq M1 x with
  | some ys => (g ζ M1).bind fun xs M2 => .ok (ys ++ xs) M2
  | none => .no
def xTup (g : MA) : MX := fun ζ M => (g ζ M).bind fun ds M1 => if ds.length ≤ sizeLine then .ok (.tup ds) M1 else .no
def xLst (g : MA) : MX := fun ζ M => (g ζ M).bind fun ds M1 => R.of (newL ds M1)
section
variable {X : Cx} {Γ : Gm} {W : WX} {a b c e : Expr} {es : List Expr} {fa fb fc fe : MX} {ga : MA} {pos p : Pos}
theorem ea_nil : EA X Γ W [] aNil := PA.imp pa_nil fun σ H Q ⟨ζ, M, μ, rr, h⟩ => h _ _ _ (Nx.refl _ _) rr.hp .nil
theorem ea_cons (he : EX X Γ W e fe) (hr : EA X Γ W es ga) (hs : starEach (e :: es) X.env = (false, eval e X.env) :: starEach es X.env := by rfl) : EA X Γ W (e :: es) (aCons fe ga) :=
  PA.imp (pa_cons he hr hs) fun σ H Q ⟨ζ, M, μ, rr, h⟩ => ⟨ζ, M, μ, rr, Pst.then h fun v H1 d M1 μ1 nx rh rv h1 => ⟨ζ, M1, μ1, ⟨rr.sl.mono nx, rh⟩, Pst.then h1 fun vs H2 ds M2 μ2 nx2 rh2 rvs h2 =>
    h2 _ _ _ (Nx.refl _ _) rh2 (.cons (rv.mono nx2) rvs)⟩⟩
theorem hSeq_ok {P : Program} {w : World} {K : PySem.W.Frag} {μ : List Addr} {M : Hs} {H : Hp} {d : D} {v : V} {xs : List D} (rh : RH P w K Γ μ M H) (h : hSeq M d = some xs) (r : RV K H μ d v) : ∃ a vs, v = .ref a ∧ (SqL K H a vs ∨ SqT K H a vs) ∧ RVs K H μ xs vs := by
  cases r with
  | tup h1 r1 => cases h; exact ⟨_, _, rfl, .inr h1, r1⟩
  | kls h1 r1 => cases h; exact ⟨_, _, rfl, .inl h1.sq, r1⟩
  | ref e1 =>
    simp only [hSeq] at h
    split at h
    · rename_i ys h2
      cases h
      obtain ⟨vs, g, r1⟩ := rh.at_ _ _ _ h2 e1
      exact ⟨_, vs, rfl, .inl (SqL.of g), r1⟩
    · rename_i ys h2
      cases h
      obtain ⟨vs, ⟨o, g⟩, r1⟩ := rh.at_ _ _ _ h2 e1
      exact ⟨_, vs, rfl, .inl (.inl (.inr ⟨o, g⟩)), r1⟩
    · cases h
  | _ => cases h
theorem hRef_ok {P : Program} {w : World} {K : PySem.W.Frag} {μ : List Addr} {M : Hs} {H : Hp} {n : Nat} {v : V} {xs : List D} (rh : RH P w K Γ μ M H) (h : hSeq M (.ref n) = some xs) (r : RV K H μ (.ref n) v) : ∃ a vs, v = .ref a ∧ SqL K H a vs ∧ RVs K H μ xs vs := by
  cases r with
  | ref e1 =>
    simp only [hSeq] at h
    split at h
    · rename_i ys h2
      cases h
      obtain ⟨vs, g, r1⟩ := rh.at_ _ _ _ h2 e1
      exact ⟨_, vs, rfl, SqL.of g, r1⟩
    · rename_i ys h2
      cases h
      obtain ⟨vs, ⟨o, g⟩, r1⟩ := rh.at_ _ _ _ h2 e1
      exact ⟨_, vs, rfl, (.inl (.inr ⟨o, g⟩)), r1⟩
    · cases h
theorem ea_star (he : EX X Γ W e fe) (hr : EA X Γ W es ga) (hs : starEach (.Starred e p :: es) X.env = (true, eval e X.env) :: starEach es X.env := by rfl) : EA X Γ W (.Starred e p :: es) (aStar fe ga) :=
  PA.imp (StX.pa_star he hr hs) fun σ H Q ⟨ζ, M, μ, rr, h⟩ => ⟨ζ, M, μ, rr, Pst.then h fun v H1 d M1 μ1 nx rh rv h1 => by
    cases hq : hSeq M1 d with
    | none => rw [hq] at h1; exact h1.elim
    | some ys =>
      rw [hq] at h1
      obtain ⟨a, vs, rfl, hs, r⟩ := hSeq_ok rh hq rv
      exact ⟨a, vs, rfl, hs.symm, ⟨ζ, M1, μ1, ⟨rr.sl.mono nx, rh⟩, Pst.then h1 fun ws H2 ds M2 μ2 nx2 rh2 rvs h2 => h2 _ _ _ (Nx.refl _ _) rh2 ((r.mono nx2).append rvs)⟩⟩⟩
theorem ex_tup {k} (ha : EA X Γ W es ga) : EX X Γ W (.Tuple es k pos) (xTup ga) :=
  PE.imp (pe_tup ha) fun σ H Q ⟨ζ, M, μ, rr, h⟩ => ⟨ζ, M, μ, rr, Pst.then h fun vs H1 ds M1 μ1 nx rh rv h1 => by
    split at h1
    · rename_i hl
      exact ⟨by rw [← RVs.length rv]; exact hl, fun p hp => h1 _ _ _ (Nx.fresh0 hp) (rh.fresh hp) (.tup (SqT.of upd_same) (RVs.mono (Nx.fresh0 hp) rv))⟩
    · exact h1.elim⟩
theorem ex_lst (ha : EA X Γ W es ga) : EX X Γ W (.List es pos) (xLst ga) :=
  PE.imp (pe_lst ha) fun σ H Q ⟨ζ, M, μ, rr, h⟩ => ⟨ζ, M, μ, rr, Pst.then h fun vs H1 ds M1 μ1 nx rh rv h1 => by
    unfold newL at h1
    split at h1
    · rename_i hl
      exact ⟨by rw [← RVs.length rv]; exact hl, fun p hp => Pk.new rh h1 hp ⟨_, upd_same, RVs.mono (Nx.fresh hp _) rv⟩⟩
    · exact h1.elim⟩

def gIx (x y : D) (M : Hs) : Option (D × Hs) := match hSeq M x, y with
  | some xs, .int i => match atI xs i with
    | some d => some (d, M)
    | none => none
  | _, _ => none
theorem atI_rel {K : PySem.W.Frag} {H : Hp} {μ : List Addr} {xs : List D} {vs : List V} {i : Int} {d : D} (r : RVs K H μ xs vs) (h : atI xs i = some d) : ∃ v, atI vs i = some v ∧ RV K H μ d v := by
  unfold atI at h ⊢
  rw [← r.length]
  cases e : ixN xs.length i with
  | none => rw [e] at h; cases h
  | some j =>
    rw [e] at h
    exact r.get h
theorem ix_any : IxR X (fun x y H Q => rIxL X.K x y H Q ∨ rIxT X.K x y H Q) := ix_list.or ix_tup
theorem ex_ix (ha : EX X Γ W a fa) (hb : EX X Γ W b fb) (hs : PlainIx b := by intro _ _; rfl) : EX X Γ W (.Subscript a b pos) (x2 gIx fa fb) :=
  PE.imp (pe_ix ix_any ha hb hs) fun σ H Q ⟨ζ, M, μ, rr, h⟩ => ⟨ζ, M, μ, rr, Pst.then h fun v H1 d M1 μ1 nx rh rv h1 => ⟨ζ, M1, μ1, ⟨rr.sl.mono nx, rh⟩, Pst.then h1 fun v2 H2 e M2 μ2 nx2 rh2 rv2 h2 => by
    replace h2 := h2.of
    unfold gIx at h2
    split at h2
    · rename_i xs i hq
      cases rv2
      split at h2
      · rename_i z hz
        obtain ⟨a, vs, rfl, hs, r⟩ := hSeq_ok rh2 hq (RV.mono nx2 rv)
        obtain ⟨u, g1, g2⟩ := atI_rel r hz
        rcases hs with hs | hs
        · exact .inl ⟨_, _, _, _, rfl, rfl, hs, g1, Pk.here rh2 h2 g2⟩
        · exact .inr ⟨_, _, _, _, rfl, rfl, hs, g1, Pk.here rh2 h2 g2⟩
      · exact h2.elim
    · exact h2.elim⟩⟩
abbrev MO' := Sl → Hs → R (Option Int)
def oNone : MO' := fun _ M => .ok none M
def oSome (f : MX) : MO' := fun ζ M => (f ζ M).bind fun x M1 => match x with
  | .int i => .ok (some i) M1
  | _ => .no
abbrev EO (X : Cx) (Γ : Gm) (W : WX) (e : Option Expr) (f : MO') : Prop := PO X e (fun σ H Q => ∃ ζ M μ, RR X.prog X.w X.K Γ μ H ζ M σ ∧ Pst X.prog X.w X.K Γ (fun _ _ a b => a = b) W σ μ H (f ζ M) Q)
theorem PO.imp {e : Option Expr} {t t' : TO} (h : PO X e t) (i : ∀ σ H Q, t' σ H Q → t σ H Q) : PO X e t' := ⟨fun pins s σ H Q I q => h.run pins s σ H Q I (i _ _ _ q)⟩
theorem eo_none : EO X Γ W none oNone := PO.imp po_none fun σ H Q ⟨ζ, M, μ, rr, h⟩ => h _ _ _ (Nx.refl _ _) rr.hp rfl
theorem eo_some (ha : EX X Γ W a fa) : EO X Γ W (some a) (oSome fa) := PO.imp (po_some ha) fun σ H Q ⟨ζ, M, μ, rr, h⟩ => ⟨ζ, M, μ, rr, Pst.then h fun v H1 d M1 μ1 nx rh rv h1 => by
  cases d with
  | int i => cases rv; exact ⟨i, rfl, h1 _ _ _ (Nx.refl _ _) rh rfl⟩
  | _ => exact h1.elim⟩
def cutD {α : Type} (xs : List α) (lo hi : Option Int) : List α := (xs.drop (HT.sIx xs.length 0 lo)).take (HT.sIx xs.length xs.length hi - HT.sIx xs.length 0 lo)
theorem cut_rel {K : PySem.W.Frag} {H : Hp} {μ : List Addr} {xs : List D} {vs : List V} (r : RVs K H μ xs vs) (lo hi : Option Int) : RVs K H μ (cutD xs lo hi) (cutV vs lo hi) := by
  unfold cutD cutV
  rw [← r.length]
  exact (r.drop _).take _
theorem cutV_whole {vs : List V} {lo hi : Option Int} (h : HT.sIx vs.length 0 lo = 0 ∧ HT.sIx vs.length vs.length hi = vs.length) : cutV vs lo hi = vs := by
  unfold cutV
  rw [h.1, h.2]
  simp
def gCut (x : D) (lo hi : Option Int) (M : Hs) : Option (D × Hs) := match x with
  | .tup xs => some (.tup (cutD xs lo hi), M)
  | .ref n => match hSeq M (.ref n) with
    | some xs => some (.ref M.length, M ++ [.lst (cutD xs lo hi)])
    | none => none
  | _ => none
def xCut (f : MX) (l h : MO') : MX := fun ζ M => (f ζ M).bind fun x M1 => (l ζ M1).bind fun i M2 => (h ζ M2).bind fun j M3 => R.of (gCut x i j M3)
theorem sl_any : L2.SlR X (fun x lo hi H Q => rSlL X.K x lo hi H Q ∨ rSlA X.K x lo hi H Q) := sl_list.or sl_tupA
theorem ex_cut {lo hi : Option Expr} {fl fh : MO'} {p2 : Pos} (ha : EX X Γ W a fa) (hl : EO X Γ W lo fl) (hh : EO X Γ W hi fh) : EX X Γ W (.Subscript a (.Slice lo hi none p2) pos) (xCut fa fl fh) :=
  PE.imp (pe_slice sl_any ha hl hh) fun σ H Q ⟨ζ, M, μ, rr, h⟩ => ⟨ζ, M, μ, rr, Pst.then h fun v H1 d M1 μ1 nx rh rv h1 => ⟨ζ, M1, μ1, ⟨rr.sl.mono nx, rh⟩, Pst.then h1 fun v2 H2 i M2 μ2 nx2 rh2 rv2 h2 =>
    ⟨ζ, M2, μ2, ⟨(rr.sl.mono nx).mono nx2, rh2⟩, Pst.then h2 fun v3 H3 j M3 μ3 nx3 rh3 rv3 h3 => by
    replace h3 := h3.of
    replace rv2 : i = v2 := rv2
    replace rv3 : j = v3 := rv3
    subst rv2 rv3
    replace rv := (RV.mono nx2 rv).mono nx3
    unfold gCut at h3
    split at h3
    · cases rv with
      | tup g r =>
        refine .inr ⟨_, _, rfl, g, fun hw => ?_, fun hw p hp => Pk.tup rh3 h3 hp (cut_rel r _ _)⟩
        refine Pk.here rh3 h3 (.tup g ?_)
        have := cut_rel r i j
        rwa [cutV_whole hw] at this
    · split at h3
      · rename_i n xs hq
        obtain ⟨a, vs, rfl, hs, r⟩ := hRef_ok rh3 hq rv
        exact .inl ⟨_, _, rfl, hs, fun p hp => Pk.new rh3 h3 hp ⟨_, upd_same, (cut_rel r _ _).mono (Nx.fresh hp _)⟩⟩
      · exact h3.elim
    · exact h3.elim⟩⟩⟩
def gRevL (x : D) (M : Hs) : Option (D × Hs) := match x with
  | .ref n => match hSeq M (.ref n) with
    | some xs => some (.ref M.length, M ++ [.lst xs.reverse])
    | none => none
  | _ => none
end
end Mi
end
section
set_option maxRecDepth 100000
set_option maxHeartbeats 2000000
set_option autoImplicit false
namespace Mi
open PySem PySem.Spec PyProof.Rows L2

abbrev GL := List D → Hs → Option (D × Hs)
def xB (g : GL) (fas : MA) : MX := fun ζ M => (fas ζ M).bind fun ds M1 => R.of (g ds M1)
def rC (P : Program) (w : World) (K : PySem.W.Frag) (Γ : Gm) (g : GL) : List V → Hp → VK → Prop := fun xs H Q => ∃ ds M μ, RH P w K Γ μ M H ∧ RVs K H μ ds xs ∧ Pk P w K Γ (relV K) μ H (g ds M) Q
abbrev CB (X : Cx) (Γ : Gm) (f : Value) (g : GL) : Prop := CallR X f (rC X.prog X.w X.K Γ g)
abbrev GM := D → List D → Hs → Option (D × Hs)
def xMeth (ok : D → Hs → Bool) (g : GM) (fo : MX) (fas : MA) : MX := fun ζ M => (fo ζ M).bind fun x M1 => if ok x M1 = true then (fas ζ M1).bind fun ds M2 => R.of (g x ds M2) else .no
def rM (P : Program) (w : World) (K : PySem.W.Frag) (Γ : Gm) (g : GM) : V → List V → Hp → VK → Prop := fun x xs H Q => ∃ d ds M μ, RH P w K Γ μ M H ∧ RV K H μ d x ∧ RVs K H μ ds xs ∧ Pk P w K Γ (relV K) μ H (g d ds M) Q
abbrev CM (X : Cx) (Γ : Gm) (id : String) (g : GM) : Prop := MtR X id (rM X.prog X.w X.K Γ g)
def isLst (d : D) (M : Hs) : Bool := match d with
  | .ref n => (hLst M n).isSome
  | _ => false
def isStr (d : D) (_ : Hs) : Bool := match d with
  | .str _ => true
  | _ => false
/-- of which built-in type a value is told -/
def TyOk (T : String) (ok : D → Hs → Bool) : Prop := ∀ {P : Program} {w : World} {K : PySem.W.Frag} {Γ : Gm} {μ : List Addr} {M : Hs} {H : Hp} {d : D} {v : V}, RH P w K Γ μ M H → RV K H μ d v → ok d M = true → tyV K T v H
theorem hLst_ok {P : Program} {w : World} {K : PySem.W.Frag} {Γ : Gm} {μ : List Addr} {M : Hs} {H : Hp} {n : Nat} {xs : List D} (rh : RH P w K Γ μ M H) (h : hLst M n = some xs) : M[n]? = some (.lst xs) := by
  unfold hLst at h
  split at h
  · rename_i ys e
    cases h
    exact e
  · cases h
theorem ty_lst : TyOk "list" isLst := by
  intro P w K Γ μ M H d v rh r h
  unfold isLst at h
  split at h
  · rename_i n
    cases r with
    | ref e =>
      obtain ⟨xs, hx⟩ := Option.isSome_iff_exists.mp h
      obtain ⟨vs, g, _⟩ := nlst rh (hLst_ok rh hx) e
      exact .inl ⟨rfl, vs, SqL.of g⟩
  · cases h
theorem ty_str : TyOk "str" isStr := by
  intro P w K Γ μ M H d v rh r h
  unfold isStr at h
  split at h
  · cases r
    rfl
  · cases h
section
variable {X : Cx} {Γ : Gm} {W : WX} {a b c e o : Expr} {es : List Expr} {fa fb fc fe fo : MX} {ga : MA} {pos p apos cpos : Pos} {x name : Str} {id T : String}
theorem tCB_of {g : GL} {σ : L2.St} {H : Hp} {Q : VK} (h : tX X.prog X.w X.K Γ W (xB g ga) σ H Q) : tCB (rC X.prog X.w X.K Γ g) (tA X.prog X.w X.K Γ W ga) σ H Q := by
  obtain ⟨ζ, M, μ, rr, h⟩ := h
  exact ⟨ζ, M, μ, rr, Pst.then h fun vs H1 ds M1 μ1 nx rh rv h1 => ⟨ds, M1, μ1, rh, rv, h1.of⟩⟩
theorem ex_callB {g : GL} (hc : CB X Γ (.builtin id) g) (hm : X.mg x = none) (hv : bootBuiltins x = some (.builtin id)) (ha : EA X Γ W (e :: es) ga) (hg : Gl X x := by rfl) (hn : x ≠ "__name__" := by decide) (hdb : (x == ("__debug__" : Str)) = false := by decide)
    (he : starEach (e :: es) X.env = (false, eval e X.env) :: starEach es X.env := by rfl) (hpl : (backTo pos (starEach es X.env)).any (·.1) = false := by rfl) : EX X Γ W (.Call (.Name x p) (e :: es) [] pos) (xB g ga) :=
  PE.imp (pe_callB hc hg hm hv ha hn hdb he hpl) fun _ _ _ h => tCB_of h
theorem ex_callTy {g : GL} (hc : CB X Γ (.type T) g) (hm : X.mg x = none) (hv : bootBuiltins x = some (.type T)) (ha : EA X Γ W (e :: es) ga) (hg : Gl X x := by rfl) (hn : x ≠ "__name__" := by decide) (hdb : (x == ("__debug__" : Str)) = false := by decide)
    (he : starEach (e :: es) X.env = (false, eval e X.env) :: starEach es X.env := by rfl) (hpl : (backTo pos (starEach es X.env)).any (·.1) = false := by rfl) : EX X Γ W (.Call (.Name x p) (e :: es) [] pos) (xB g ga) :=
  PE.imp (pe_callTy hc hg hm hv ha hn hdb he hpl) fun _ _ _ h => tCB_of h
theorem ex_meth {ok : D → Hs → Bool} {g : GM} (pa : PlainAttrs T) (slot : Slot T name id) (hty : typeOf (.builtin id) = pure (.type "method_descriptor")) (hk : TyOk T ok) (hm : CM X Γ id g) (ho : EX X Γ W o fo) (ha : EA X Γ W (e :: es) ga)
    (hbase : attributeBase o name X.env (eval o X.env) = eval o X.env := by rfl)
    (hfew : ((backTo cpos (starEach (e :: es) X.env)).all (fun x => !x.1) && (backToKw cpos (keywordEach [] X.env)).all (fun x => x.1.isSome)
      && decide ((e :: es).length + ([] : List Keyword).length + (if ([] : List Keyword).isEmpty then 0 else 1) < 30)) = true := by rfl)
    (hline : (apos.endLine == cpos.line) = true := by rfl) (hs : starEach (e :: es) X.env = (false, eval e X.env) :: starEach es X.env := by rfl) (hplain : (backTo cpos (starEach es X.env)).any (·.1) = false := by rfl) :
    EX X Γ W (.Call (.Attribute o name apos) (e :: es) [] cpos) (xMeth ok g fo ga) :=
  PE.imp (pe_bm pa slot hty hm ho ha hbase hfew hline hs hplain) fun σ H Q ⟨ζ, M, μ, rr, h⟩ => ⟨ζ, M, μ, rr, Pst.then h fun v H1 d M1 μ1 nx rh rv h1 => by
    split at h1
    · rename_i hok
      exact ⟨hk rh rv hok, ζ, M1, μ1, ⟨rr.sl.mono nx, rh⟩, Pst.then h1 fun vs H2 ds M2 μ2 nx2 rh2 rvs h2 => ⟨d, ds, M2, μ2, rh2, RV.mono nx2 rv, rvs, h2.of⟩⟩
    · exact h1.elim⟩
theorem ex_meth0 {ok : D → Hs → Bool} {g : GM} (pa : PlainAttrs T) (slot : Slot T name id) (hty : typeOf (.builtin id) = pure (.type "method_descriptor")) (hk : TyOk T ok) (hm : CM X Γ id g) (ho : EX X Γ W o fo)
    (hbase : attributeBase o name X.env (eval o X.env) = eval o X.env := by rfl) (hline : (apos.endLine == cpos.line) = true := by rfl) : EX X Γ W (.Call (.Attribute o name apos) [] [] cpos) (xMeth ok g fo aNil) :=
  PE.imp (pe_bm0 pa slot hty hm ho hbase hline) fun σ H Q ⟨ζ, M, μ, rr, h⟩ => ⟨ζ, M, μ, rr, Pst.then h fun v H1 d M1 μ1 nx rh rv h1 => by
    split at h1
    · rename_i hok
      exact ⟨hk rh rv hok, d, [], M1, μ1, rh, rv, .nil, Pst.of h1⟩
    · exact h1.elim⟩
end

def gLen : GL := fun ds M => match ds with
  | [.str x] => if x.length ≤ sizeLine then some (.int x.length, M) else none
  | [d] => match hSeq M d with
    | some xs => some (.int xs.length, M)
    | none => none
  | _ => none
def gAbs : GL := fun ds M => match ds with
  | [.int i] => some (.int (if i < 0 then -i else i), M)
  | _ => none
def gMax2 : GL := fun ds M => match ds with
  | [.int i, .int j] => some (.int (if j > i then j else i), M)
  | _ => none
def gMin2 : GL := fun ds M => match ds with
  | [.int i, .int j] => some (.int (if j < i then j else i), M)
  | _ => none
def gInt : GL := fun ds M => match ds with
  | [.int i] => some (.int i, M)
  | [.bl k] => some (.int (if k then 1 else 0), M)
  | _ => none
def gList : GL := fun ds M => match ds with
  | [d] => match hSeq M d with
    | some xs => some (.ref M.length, M ++ [.lst xs])
    | none => none
  | _ => none
def gTuple : GL := fun ds M => match ds with
  | [d] => match hSeq M d with
    | some xs => some (.tup xs, M)
    | none => none
  | _ => none
def blsOf : List D → Option (List Bool)
  | [] => some []
  | .bl b :: r => match blsOf r with
    | some bs => some (b :: bs)
    | none => none
  | _ => none
def intsOf : List D → Option (List Int)
  | [] => some []
  | .int b :: r => match intsOf r with
    | some bs => some (b :: bs)
    | none => none
  | _ => none
def gBools (k : List Bool → Bool) : GL := fun ds M => match ds with
  | [.ref n] => match hSeq M (.ref n) with
    | some xs => match blsOf xs with
      | some bs => some (.bl (k bs), M)
      | none => none
    | none => none
  | _ => none
def gAny : GL := gBools fun bs => bs.any id
def gAll : GL := gBools fun bs => bs.all id
def minI : Int → List Int → Int
  | m, [] => m
  | m, x :: r => minI (if x < m then x else m) r
def maxI : Int → List Int → Int
  | m, [] => m
  | m, x :: r => maxI (if m < x then x else m) r
def gExt (k : Int → List Int → Int) : GL := fun ds M => match ds with
  | [.ref n] => match hSeq M (.ref n) with
    | some xs => match intsOf xs with
      | some (i :: is) => some (.int (k i is), M)
      | _ => none
    | none => none
  | _ => none
def gMinL : GL := gExt minI
def gMaxL : GL := gExt maxI
section
variable {K : PySem.W.Frag} {H : Hp} {μ : List Addr}
theorem blsOf_ok : ∀ {xs : List D} {bs : List Bool} {vs : List V}, blsOf xs = some bs → RVs K H μ xs vs → vs = bs.map V.bl
  | [], bs, vs, h, r => by cases h; cases r; rfl
  | d :: xs, bs, vs, h, r => by
    cases d with
    | bl b =>
      simp only [blsOf] at h
      split at h
      · rename_i cs e
        cases h
        cases r with
        | cons r1 r2 =>
          cases r1
          rw [List.map_cons, blsOf_ok e r2]
      · cases h
    | _ => cases h
theorem intsOf_ok : ∀ {xs : List D} {bs : List Int} {vs : List V}, intsOf xs = some bs → RVs K H μ xs vs → vs = bs.map V.int
  | [], bs, vs, h, r => by cases h; cases r; rfl
  | d :: xs, bs, vs, h, r => by
    cases d with
    | int b =>
      simp only [intsOf] at h
      split at h
      · rename_i cs e
        cases h
        cases r with
        | cons r1 r2 =>
          cases r1
          rw [List.map_cons, intsOf_ok e r2]
      · cases h
    | _ => cases h
theorem minI_spec : ∀ (r : List Int) (m : Int), (minI m r = m ∨ minI m r ∈ r) ∧ minI m r ≤ m ∧ ∀ y ∈ r, minI m r ≤ y
  | [], m => ⟨.inl rfl, Int.le_refl _, fun y h => nomatch h⟩
  | x :: r, m => by
    have ih := minI_spec r (if x < m then x else m)
    unfold minI
    refine ⟨?_, ?_, fun y hy => ?_⟩
    · rcases ih.1 with h | h
      · split at h
        · rename_i hlt
          rw [if_pos hlt]
          exact .inr (by rw [h]; exact List.mem_cons_self)
        · rename_i hlt
          rw [if_neg hlt]
          exact .inl h
      · exact .inr (List.mem_cons_of_mem _ h)
    · have := ih.2.1
      split at this <;> split <;> omega
    · rcases List.mem_cons.mp hy with e | hy
      · subst e
        have := ih.2.1
        split at this <;> split <;> omega
      · exact ih.2.2 y hy
theorem maxI_spec : ∀ (r : List Int) (m : Int), (maxI m r = m ∨ maxI m r ∈ r) ∧ m ≤ maxI m r ∧ ∀ y ∈ r, y ≤ maxI m r
  | [], m => ⟨.inl rfl, Int.le_refl _, fun y h => nomatch h⟩
  | x :: r, m => by
    have ih := maxI_spec r (if m < x then x else m)
    unfold maxI
    refine ⟨?_, ?_, fun y hy => ?_⟩
    · rcases ih.1 with h | h
      · split at h
        · rename_i hlt
          rw [if_pos hlt]
          exact .inr (by rw [h]; exact List.mem_cons_self)
        · rename_i hlt
          rw [if_neg hlt]
          exact .inl h
      · exact .inr (List.mem_cons_of_mem _ h)
    · have := ih.2.1
      split at this <;> split <;> omega
    · rcases List.mem_cons.mp hy with e | hy
      · subst e
        have := ih.2.1
        split at this <;> split <;> omega
      · exact ih.2.2 y hy
theorem one_rel {d : D} {vs : List V} (r : RVs K H μ [d] vs) : ∃ v, vs = [v] ∧ RV K H μ d v := by
  cases r with
  | cons r1 r2 => cases r2; exact ⟨_, rfl, r1⟩
theorem two_rel {d e : D} {vs : List V} (r : RVs K H μ [d, e] vs) : ∃ v u, vs = [v, u] ∧ RV K H μ d v ∧ RV K H μ e u := by
  cases r with
  | cons r1 r2 =>
    cases r2 with
    | cons r2 r3 => cases r3; exact ⟨_, _, rfl, r1, r2⟩
end
section
variable {X : Cx} {Γ : Gm}
theorem b_len : CB X Γ (.builtin "len") gLen := by
  intro pins s σ H xs us Q I r ⟨ds, M, μ, rh, rv, hq⟩
  unfold gLen at hq
  split at hq
  · obtain ⟨v, rfl, r1⟩ := one_rel rv
    cases r1
    split at hq
    · rename_i hl
      exact call_len pins s σ H _ us Q I r ⟨_, _, rfl, ⟨hl, rfl⟩, Pk.here rh hq (.int _)⟩
    · exact hq.elim
  · obtain ⟨v, rfl, r1⟩ := one_rel rv
    split at hq
    · rename_i ys e
      obtain ⟨a, vs, rfl, hs, r2⟩ := hSeq_ok rh e r1
      rw [r2.length] at hq
      rcases hs with hs | hs
      · exact call_len pins s σ H _ us Q I r ⟨_, _, rfl, .inl ⟨vs, hs, rfl⟩, Pk.here rh hq (.int _)⟩
      · exact call_len pins s σ H _ us Q I r ⟨_, _, rfl, .inr ⟨vs, hs, rfl⟩, Pk.here rh hq (.int _)⟩
    · exact hq.elim
  · exact hq.elim
theorem b_abs : CB X Γ (.builtin "abs") gAbs := by
  intro pins s σ H xs us Q I r ⟨ds, M, μ, rh, rv, hq⟩
  unfold gAbs at hq
  split at hq
  · obtain ⟨v, rfl, r1⟩ := one_rel rv
    cases r1
    exact call_abs pins s σ H _ us Q I r ⟨_, rfl, Pk.here rh hq (.int _)⟩
  · exact hq.elim
theorem b_max2 (hc : X.calm = true) : CB X Γ (.builtin "max") gMax2 := by
  intro pins s σ H xs us Q I r ⟨ds, M, μ, rh, rv, hq⟩
  unfold gMax2 at hq
  split at hq
  · obtain ⟨v, u, rfl, r1, r2⟩ := two_rel rv
    cases r1; cases r2
    exact call_max2 hc pins s σ H _ us Q I r ⟨_, _, rfl, Pk.here rh hq (.int _)⟩
  · exact hq.elim
theorem b_min2 (hc : X.calm = true) : CB X Γ (.builtin "min") gMin2 := by
  intro pins s σ H xs us Q I r ⟨ds, M, μ, rh, rv, hq⟩
  unfold gMin2 at hq
  split at hq
  · obtain ⟨v, u, rfl, r1, r2⟩ := two_rel rv
    cases r1; cases r2
    exact call_min2 hc pins s σ H _ us Q I r ⟨_, _, rfl, Pk.here rh hq (.int _)⟩
  · exact hq.elim
theorem b_int : CB X Γ (.type "int") gInt := by
  intro pins s σ H xs us Q I r ⟨ds, M, μ, rh, rv, hq⟩
  unfold gInt at hq
  split at hq
  · obtain ⟨v, rfl, r1⟩ := one_rel rv
    cases r1
    exact call_int1 pins s σ H _ us Q I r (.inl ⟨_, rfl, Pk.here rh hq (.int _)⟩)
  · obtain ⟨v, rfl, r1⟩ := one_rel rv
    cases r1
    exact call_int1 pins s σ H _ us Q I r (.inr ⟨_, rfl, Pk.here rh hq (.int _)⟩)
  · exact hq.elim
theorem b_list : CB X Γ (.type "list") gList := by
  intro pins s σ H xs us Q I r ⟨ds, M, μ, rh, rv, hq⟩
  unfold gList at hq
  split at hq
  · obtain ⟨v, rfl, r1⟩ := one_rel rv
    split at hq
    · rename_i ys e
      obtain ⟨a, vs, rfl, hs, r2⟩ := hSeq_ok rh e r1
      exact call_list_of pins s σ H _ us Q I r ⟨_, vs, rfl, hs, fun p hp => Pk.new rh hq hp ⟨_, upd_same, r2.mono (Nx.fresh hp _)⟩⟩
    · exact hq.elim
  · exact hq.elim
theorem b_tuple : CB X Γ (.type "tuple") gTuple := by
  intro pins s σ H xs us Q I r ⟨ds, M, μ, rh, rv, hq⟩
  unfold gTuple at hq
  split at hq
  · obtain ⟨v, rfl, r1⟩ := one_rel rv
    split at hq
    · rename_i ys e
      obtain ⟨a, vs, rfl, hs, r2⟩ := hSeq_ok rh e r1
      refine call_tuple_of pins s σ H _ us Q I r ⟨_, vs, rfl, hs.imp (fun hs => ⟨hs, fun p hp => Pk.tup rh hq hp r2⟩) fun hs => ⟨hs, Pk.here rh hq (.tup hs r2)⟩⟩
    · exact hq.elim
  · exact hq.elim
theorem b_bools {id : String} {k : List Bool → Bool} (h : CallR X (.builtin id) (fun vs H Q => ∃ (a : Addr) (bs : List Bool), vs = [V.ref a] ∧ SqL X.K H a (bs.map V.bl) ∧ Q (.bl (k bs)) H)) : CB X Γ (.builtin id) (gBools k) := by
  intro pins s σ H xs us Q I r ⟨ds, M, μ, rh, rv, hq⟩
  unfold gBools at hq
  split at hq
  · obtain ⟨v, rfl, r1⟩ := one_rel rv
    split at hq
    · rename_i ys e
      obtain ⟨a, vs, rfl, hs, r2⟩ := hRef_ok rh e r1
      split at hq
      · rename_i bs e2
        have e3 := blsOf_ok e2 r2
        subst e3
        exact h pins s σ H _ us Q I r ⟨a, bs, rfl, hs, Pk.here rh hq (.bl _)⟩
      · exact hq.elim
    · exact hq.elim
  · exact hq.elim
theorem b_any (hc : X.calm = true) : CB X Γ (.builtin "any") gAny := b_bools (cr_any hc)
theorem b_all (hc : X.calm = true) : CB X Γ (.builtin "all") gAll := b_bools (cr_all hc)
theorem b_minL (hc : X.calm = true) : CB X Γ (.builtin "min") gMinL := by
  intro pins s σ H xs us Q I r ⟨ds, M, μ, rh, rv, hq⟩
  unfold gMinL gExt at hq
  split at hq
  · obtain ⟨v, rfl, r1⟩ := one_rel rv
    split at hq
    · rename_i ys e
      obtain ⟨a, vs, rfl, hs, r2⟩ := hRef_ok rh e r1
      split at hq
      · rename_i i is e2
        have e3 := intsOf_ok e2 r2
        subst e3
        refine cr_min hc pins s σ H _ us Q I r ⟨a, i :: is, rfl, hs, by simp, fun m hm hle => ?_⟩
        have sp := minI_spec is i
        have e4 : m = minI i is := by
          have h1 : m ≤ minI i is := hle _ (by rcases sp.1 with h | h; rw [h]; exact List.mem_cons_self; exact List.mem_cons_of_mem _ h)
          have h2 : minI i is ≤ m := by rcases List.mem_cons.mp hm with h | h; rw [h]; exact sp.2.1; exact sp.2.2 m h
          omega
        rw [e4]
        exact Pk.here rh hq (.int _)
      · exact hq.elim
    · exact hq.elim
  · exact hq.elim
theorem b_maxL (hc : X.calm = true) : CB X Γ (.builtin "max") gMaxL := by
  intro pins s σ H xs us Q I r ⟨ds, M, μ, rh, rv, hq⟩
  unfold gMaxL gExt at hq
  split at hq
  · obtain ⟨v, rfl, r1⟩ := one_rel rv
    split at hq
    · rename_i ys e
      obtain ⟨a, vs, rfl, hs, r2⟩ := hRef_ok rh e r1
      split at hq
      · rename_i i is e2
        have e3 := intsOf_ok e2 r2
        subst e3
        refine cr_max hc pins s σ H _ us Q I r ⟨a, i :: is, rfl, hs, by simp, fun m hm hle => ?_⟩
        have sp := maxI_spec is i
        have e4 : m = maxI i is := by
          have h1 : maxI i is ≤ m := hle _ (by rcases sp.1 with h | h; rw [h]; exact List.mem_cons_self; exact List.mem_cons_of_mem _ h)
          have h2 : m ≤ maxI i is := by rcases List.mem_cons.mp hm with h | h; rw [h]; exact sp.2.1; exact sp.2.2 m h
          omega
        rw [e4]
        exact Pk.here rh hq (.int _)
      · exact hq.elim
    · exact hq.elim
  · exact hq.elim

def gAppend : GM := fun d ds M => match d, ds with
  | .ref n, [y] => match hLst M n with
    | some xs => if xs.length < sizeLine then some (.non, M.set n (.lst (xs ++ [y]))) else none
    | none => none
  | _, _ => none
def gExtend : GM := fun d ds M => match d, ds with
  | .ref n, [.ref m] => match hLst M n, hLst M m with
    | some xs, some ys => if xs.length + ys.length ≤ sizeLine then some (.non, M.set n (.lst (xs ++ ys))) else none
    | _, _ => none
  | _, _ => none
def gPop : GM := fun d ds M => match d, ds with
  | .ref n, [] => match hLst M n with
    | some xs => match xs[xs.length - 1]? with
      | some y => some (y, M.set n (.lst xs.dropLast))
      | none => none
    | none => none
  | _, _ => none
def gPopAt : GM := fun d ds M => match d, ds with
  | .ref n, [.int i] => match hLst M n with
    | some xs => if 0 ≤ i then match xs[i.toNat]? with
      | some y => some (y, M.set n (.lst (xs.eraseIdx i.toNat)))
      | none => none else none
    | none => none
  | _, _ => none
def gInsert : GM := fun d ds M => match d, ds with
  | .ref n, [.int i, y] => match hLst M n with
    | some xs => if 0 ≤ i ∧ i < 2 ^ 63 ∧ xs.length < sizeLine then some (.non, M.set n (.lst (xs.take i.toNat ++ [y] ++ xs.drop i.toNat))) else none
    | none => none
  | _, _ => none
def gReverse : GM := fun d ds M => match d, ds with
  | .ref n, [] => match hLst M n with
    | some xs => some (.non, M.set n (.lst xs.reverse))
    | none => none
  | _, _ => none
theorem mutL {H : Hp} {a : Addr} {vs : List V} (h : H a = some (.lst vs)) : Mut (H a) := by rw [h]; trivial
theorem Pk.lst {P : Program} {w : World} {K : PySem.W.Frag} {Γ : Gm} {μ : List Addr} {M : Hs} {H : Hp} {Q : VK} {n : Nat} {a : Addr} {vs vs' : List V} {xs' : List D} {d : D} {v : V} (rh : RH P w K Γ μ M H) (e : μ[n]? = some a) (g : H a = some (.lst vs))
    (h : Pk P w K Γ (relV K) μ H (some (d, M.set n (.lst xs'))) Q) (r : RVs K H μ xs' vs') (rd : RV K H μ d v) : Q v (upd H a (.lst vs')) :=
  h _ _ _ (Nx.write (mutL g)) (rh.write e (mutL g) ⟨_, upd_same, r.mono (Nx.write (mutL g))⟩) (RV.mono (Nx.write (mutL g)) rd)
theorem ref_rel {H : Hp} {μ : List Addr} {K : PySem.W.Frag} {n : Nat} {v : V} (r : RV K H μ (.ref n) v) : ∃ a, v = .ref a ∧ μ[n]? = some a := by
  cases r with
  | ref e => exact ⟨_, rfl, e⟩
theorem l_append : CM X Γ "list.append" gAppend := by
  intro pins s σ H x xs v us Q I rx rs ⟨d, ds, M, μ, rh, rd, rv, hq⟩
  unfold gAppend at hq
  split at hq
  · obtain ⟨a, rfl, e⟩ := ref_rel rd
    obtain ⟨y, rfl, r1⟩ := one_rel rv
    split at hq
    · rename_i ys e2
      obtain ⟨vs, g, r2⟩ := nlst rh (hLst_ok rh e2) e
      split at hq
      · rename_i hl
        exact mt_append pins s σ H _ _ v us Q I rx rs ⟨a, vs, y, rfl, rfl, g, by rw [← r2.length]; exact hl, Pk.lst rh e g hq (r2.append (.cons r1 .nil)) .non⟩
      · exact hq.elim
    · exact hq.elim
  · exact hq.elim
theorem l_extend : CM X Γ "list.extend" gExtend := by
  intro pins s σ H x xs v us Q I rx rs ⟨d, ds, M, μ, rh, rd, rv, hq⟩
  unfold gExtend at hq
  split at hq
  · obtain ⟨a, rfl, e⟩ := ref_rel rd
    obtain ⟨y, rfl, r1⟩ := one_rel rv
    obtain ⟨b, rfl, e'⟩ := ref_rel r1
    split at hq
    · rename_i ys zs e2 e3
      obtain ⟨vs, g, r2⟩ := nlst rh (hLst_ok rh e2) e
      obtain ⟨us', g', r3⟩ := nlst rh (hLst_ok rh e3) e'
      split at hq
      · rename_i hl
        exact mt_extend pins s σ H _ _ v us Q I rx rs ⟨a, b, vs, us', rfl, rfl, g, g', by rw [← r2.length, ← r3.length]; exact hl, Pk.lst rh e g hq (r2.append r3) .non⟩
      · exact hq.elim
    · exact hq.elim
  · exact hq.elim
theorem l_pop : CM X Γ "list.pop" gPop := by
  intro pins s σ H x xs v us Q I rx rs ⟨d, ds, M, μ, rh, rd, rv, hq⟩
  unfold gPop at hq
  split at hq
  · obtain ⟨a, rfl, e⟩ := ref_rel rd
    cases rv
    split at hq
    · rename_i ys e2
      obtain ⟨vs, g, r2⟩ := nlst rh (hLst_ok rh e2) e
      split at hq
      · rename_i y hy
        obtain ⟨u, hu, r3⟩ := r2.get hy
        rw [r2.length] at hu
        exact mt_pop pins s σ H _ _ v us Q I rx rs ⟨a, vs, u, rfl, rfl, g, hu, Pk.lst rh e g hq r2.dropLast r3⟩
      · exact hq.elim
    · exact hq.elim
  · exact hq.elim
theorem l_popAt : CM X Γ "list.pop" gPopAt := by
  intro pins s σ H x xs v us Q I rx rs ⟨d, ds, M, μ, rh, rd, rv, hq⟩
  unfold gPopAt at hq
  split at hq
  · obtain ⟨a, rfl, e⟩ := ref_rel rd
    obtain ⟨y, rfl, r1⟩ := one_rel rv
    cases r1
    split at hq
    · rename_i ys e2
      obtain ⟨vs, g, r2⟩ := nlst rh (hLst_ok rh e2) e
      split at hq
      · rename_i h0
        split at hq
        · rename_i y hy
          obtain ⟨u, hu, r3⟩ := r2.get hy
          have hl : vs.length ≤ sizeLine := (I.hok a _ g).1
          have hlt : _ < vs.length := (List.getElem?_eq_some_iff.mp hu).1
          have h63 := line63
          refine mt_popAt pins s σ H _ _ v us Q I rx rs ⟨a, vs, _, _, u, rfl, rfl, g, by omega, by omega, PySem.StrLaws.seqIndex_nonneg h0 (by omega), hu, Pk.lst rh e g hq (r2.eraseIdx _) r3⟩
        · exact hq.elim
      · exact hq.elim
    · exact hq.elim
  · exact hq.elim
theorem l_insert : CM X Γ "list.insert" gInsert := by
  intro pins s σ H x xs v us Q I rx rs ⟨d, ds, M, μ, rh, rd, rv, hq⟩
  unfold gInsert at hq
  split at hq
  · obtain ⟨a, rfl, e⟩ := ref_rel rd
    obtain ⟨y, z, rfl, r1, r2⟩ := two_rel rv
    cases r1
    split at hq
    · rename_i ys e2
      obtain ⟨vs, g, r3⟩ := nlst rh (hLst_ok rh e2) e
      split at hq
      · rename_i hc
        exact mt_insert pins s σ H _ _ v us Q I rx rs ⟨a, vs, _, z, rfl, rfl, g, by rw [← r3.length]; exact hc.2.2, hc.1, hc.2.1, Pk.lst rh e g hq (((r3.take _).append (.cons r2 .nil)).append (r3.drop _)) .non⟩
      · exact hq.elim
    · exact hq.elim
  · exact hq.elim
theorem l_reverse : CM X Γ "list.reverse" gReverse := by
  intro pins s σ H x xs v us Q I rx rs ⟨d, ds, M, μ, rh, rd, rv, hq⟩
  unfold gReverse at hq
  split at hq
  · obtain ⟨a, rfl, e⟩ := ref_rel rd
    cases rv
    split at hq
    · rename_i ys e2
      obtain ⟨vs, g, r2⟩ := nlst rh (hLst_ok rh e2) e
      exact mt_reverse pins s σ H _ _ v us Q I rx rs ⟨a, vs, rfl, rfl, g, Pk.lst rh e g hq r2.reverse .non⟩
    · exact hq.elim
  · exact hq.elim
end

def kindOf (d : D) (M : Hs) : Option String := match d with
  | .non => some "NoneType"
  | .bl _ => some "bool"
  | .int _ => some "int"
  | .str _ => some "str"
  | .tup _ => some "tuple"
  | .ref n => match M[n]? with
    | some (.lst _) => some "list"
    | some (.ro _) => some "list"
    | _ => none
  | .klst _ => none
  | .exc .. => none
def isKind (a b : String) : Bool := a == b || (a == "bool" && b == "int")
def xIs (T : String) (f : MX) : MX := fun ζ M => (f ζ M).bind fun x M1 => match kindOf x M1 with
  | some k => .ok (.bl (isKind k T)) M1
  | none => .no
def KindOk (T : String) : Prop := ∀ a ∈ ["NoneType", "bool", "int", "str", "tuple", "list"], kitB a T = some (isKind a T)
theorem kind_int : KindOk "int" := by unfold KindOk; decide +kernel
theorem kind_bool : KindOk "bool" := by unfold KindOk; decide +kernel
theorem kind_str : KindOk "str" := by unfold KindOk; decide +kernel
theorem kind_tuple : KindOk "tuple" := by unfold KindOk; decide +kernel
theorem kind_list : KindOk "list" := by unfold KindOk; decide +kernel
theorem kind_dict : KindOk "dict" := by unfold KindOk; decide +kernel
theorem kindOf_ok {P : Program} {w : World} {K : PySem.W.Frag} {Γ : Gm} {μ : List Addr} {M : Hs} {H : Hp} {d : D} {v : V} {k : String} (rh : RH P w K Γ μ M H) (r : RV K H μ d v) (h : kindOf d M = some k) : TyX K H v (.type k) ∧ k ∈ ["NoneType", "bool", "int", "str", "tuple", "list"] := by
  cases r with
  | non => cases h; exact ⟨.base .non, by simp⟩
  | bl b => cases h; exact ⟨.base (.bl b), by simp⟩
  | int b => cases h; exact ⟨.base (.int b), by simp⟩
  | str b => cases h; exact ⟨.base (.str b), by simp⟩
  | kls => cases h
  | excN => cases h
  | excD => cases h
  | tup g r =>
    cases h
    refine ⟨?_, by simp⟩
    rcases g with (g | ⟨o, g⟩) | ⟨o, its, n, g, hc, _⟩
    · exact .base (.tup g)
    · exact .fTuple g
    · exact .kTuple g hc
  | ref e =>
    simp only [kindOf] at h
    split at h
    · rename_i xs hx
      cases h
      obtain ⟨vs, g, _⟩ := rh.at_ _ _ _ hx e
      exact ⟨.base (.lst g), by simp⟩
    · rename_i xs hx
      cases h
      obtain ⟨vs, ⟨o, g⟩, _⟩ := rh.at_ _ _ _ hx e
      exact ⟨.base (.frz g), by simp⟩
    · cases h
section
variable {X : Cx} {Γ : Gm} {W : WX} {e : Expr} {fe : MX} {pos p p2 : Pos} {T : String} {x : Str}
theorem ex_isTy (hT : KindOk T) (he : EX X Γ W e fe) (hm : X.mg "isinstance" = none) (hm2 : X.mg x = none) (hv2 : bootBuiltins x = some (.type T)) (hg : Gl X "isinstance" := by rfl) (hg2 : Gl X x := by rfl)
    (he1 : starEach [e, .Name x p2] X.env = (false, eval e X.env) :: starEach [.Name x p2] X.env := by rfl) (hn : x ≠ "__name__" := by decide) (hdb : (x == ("__debug__" : Str)) = false := by decide) :
    EX X Γ W (.Call (.Name "isinstance" p) [e, .Name x p2] [] pos) (xIs T fe) :=
  PE.imp (pe_callB call_isi hg hm boot_isinstance (pa_cons he (pa_cons (pe_bltn (v := .ty T) hg2 hm2 hv2 rfl hn hdb) pa_nil) he1) (by decide) (by decide) he1) fun σ H Q ⟨ζ, M, μ, rr, h⟩ => ⟨ζ, M, μ, rr, Pst.then h fun v H1 d M1 μ1 nx rh rv h1 => by
    cases hk : kindOf d M1 with
    | none => rw [hk] at h1; exact h1.elim
    | some k =>
      rw [hk] at h1
      obtain ⟨h2, h3⟩ := kindOf_ok rh rv hk
      exact ⟨v, .ty T, .type k, .type T, isKind k T, rfl, .ty T, h2, kit_ty (hT k h3), h1 _ _ _ (Nx.refl _ _) rh (.bl _)⟩⟩
end
end Mi
end
section
set_option maxRecDepth 100000
set_option maxHeartbeats 2000000
set_option autoImplicit false
namespace Mi
open PySem PySem.Spec PyProof.Rows L2

inductive Pt where
  | n (i : Nat)
  | t (ps : List Pt)
mutual
def bindP : Pt → D → Option (List (Nat × D))
  | .n i, d => some [(i, d)]
  | .t ps, .tup ds => bindPs ps ds
  | .t _, _ => none
def bindPs : List Pt → List D → Option (List (Nat × D))
  | [], [] => some []
  | p :: ps, d :: ds => match bindP p d, bindPs ps ds with
    | some l, some r => some (l ++ r)
    | _, _ => none
  | _, _ => none
end
mutual
def Pt.slots : Pt → List Nat
  | .n i => [i]
  | .t ps => slotsOf ps
def slotsOf : List Pt → List Nat
  | [] => []
  | p :: ps => p.slots ++ slotsOf ps
end
def setAll {α : Type} (ζ : List (Option α)) : List (Nat × α) → List (Option α)
  | [] => ζ
  | (i, d) :: r => setAll (ζ.set i (some d)) r
theorem setAll_app {α : Type} : ∀ (l r : List (Nat × α)) (ζ : List (Option α)), setAll ζ (l ++ r) = setAll (setAll ζ l) r
  | [], _, _ => rfl
  | (i, d) :: l, r, ζ => setAll_app l r (ζ.set i (some d))
abbrev BR (K : PySem.W.Frag) (H : Hp) (μ : List Addr) : List (Nat × D) → List (Nat × V) → Prop := Paired fun p q => p.1 = q.1 ∧ RV K H μ p.2 q.2
theorem RSl.setAll {K : PySem.W.Frag} {H : Hp} {μ : List Addr} {l : List (Nat × D)} {l' : List (Nat × V)} (br : BR K H μ l l') : ∀ {ζ : Sl} {σ : L2.St}, RSl K H μ ζ σ → RSl K H μ (Mi.setAll ζ l) (Mi.setAll σ l') := by
  induction br with
  | nil => intro ζ σ r; exact r
  | @cons p q _ _ h t ih =>
    obtain ⟨i, d⟩ := p
    obtain ⟨j, v⟩ := q
    obtain ⟨e, q⟩ := h
    have e : i = j := e
    subst e
    intro ζ σ r
    exact ih (RSl.set r q i)
theorem paired_app {α β : Type} {F : α → β → Prop} : ∀ {a : List α} {b : List β} {c : List α} {d : List β}, Paired F a b → Paired F c d → Paired F (a ++ c) (b ++ d)
  | _, _, _, _, .nil, s => s
  | _, _, _, _, .cons r t, s => .cons r (paired_app t s)
def gP (P : Program) (w : World) (K : PySem.W.Frag) (Γ : Gm) (p : Pt) : TG := fun v σ H Q => ∃ d M μ, RH P w K Γ μ M H ∧ RV K H μ d v ∧ match bindP p d with
  | some l => ∀ l', BR K H μ l l' → Q (setAll σ l') H
  | none => False
def gPs (P : Program) (w : World) (K : PySem.W.Frag) (Γ : Gm) (ps : List Pt) : TGs := fun vs σ H Q => ∃ ds M μ, RH P w K Γ μ M H ∧ RVs K H μ ds vs ∧ match bindPs ps ds with
  | some l => ∀ l', BR K H μ l l' → Q (setAll σ l') H
  | none => False
theorem PG.imp {X : Cx} {e : Expr} {t t' : TG} (h : PG X e t) (i : ∀ v σ H Q, t' v σ H Q → t v σ H Q) : PG X e t' := ⟨fun pins s σ H v u Q I r q => h.run pins s σ H v u Q I r (i _ _ _ _ q)⟩
theorem PGs.imp {X : Cx} {e : List Expr} {t t' : TGs} (h : PGs X e t) (i : ∀ v σ H Q, t' v σ H Q → t v σ H Q) : PGs X e t' := ⟨fun pins s σ H v u Q I r q => h.run pins s σ H v u Q I r (i _ _ _ _ q)⟩
abbrev EG (X : Cx) (Γ : Gm) (e : Expr) (p : Pt) : Prop := PG X e (gP X.prog X.w X.K Γ p)
abbrev EGs (X : Cx) (Γ : Gm) (es : List Expr) (ps : List Pt) : Prop := PGs X es (gPs X.prog X.w X.K Γ ps)
section
variable {X : Cx} {Γ : Gm} {e : Expr} {es : List Expr} {p : Pt} {ps : List Pt} {pos : Pos}
theorem eg_name (i : Nat) {x : Str} (hN : X.N.Nodup) (hi : X.N[i]? = some x := by rfl) (hx : Loc X.env.scope x := by first | exact Or.inl rfl | exact Or.inr rfl) (hf : X.fn x = true ∨ X.env.scope.names.lookup x = some .local := by first | exact .inl rfl | exact .inr rfl) : EG X Γ (.Name x pos) (.n i) :=
  PG.imp (pg_name hN hi hx hf) fun v σ H Q ⟨d, M, μ, rh, r, h⟩ => h [(i, v)] (.cons ⟨rfl, r⟩ .nil)
theorem egs_nil : EGs X Γ [] [] := PGs.imp pgs_nil fun v σ H Q ⟨ds, M, μ, rh, r, h⟩ => by
  cases ds with
  | nil =>
    cases r
    exact ⟨rfl, h [] .nil⟩
  | cons d ds => exact h.elim
theorem egs_cons (h1 : EG X Γ e p) (h2 : EGs X Γ es ps) (hs : (assignEach (e :: es) X.env).map (·.2) = assign e X.env :: (assignEach es X.env).map (·.2) := by rfl) : EGs X Γ (e :: es) (p :: ps) :=
  PGs.imp (pgs_cons h1 h2 hs) fun v σ H Q ⟨ds, M, μ, rh, r, h⟩ => by
    cases r with
    | nil => exact h.elim
    | cons r1 r2 =>
      simp only [bindPs] at h
      split at h
      · rename_i l hl
        split at hl
        · rename_i l1 l2 e1 e2
          cases hl
          refine ⟨_, _, rfl, _, M, μ, rh, r1, ?_⟩
          rw [e1]
          intro l1' b1
          refine ⟨_, M, μ, rh, r2, ?_⟩
          rw [e2]
          intro l2' b2
          rw [← setAll_app]
          exact h _ (paired_app b1 b2)
        · cases hl
      · exact h.elim
theorem eg_tup {k} (hc : X.calm = true) (h : EGs X Γ es ps) (hn : (assignEach es X.env).length = ps.length := by rfl) (hst : (assignEach es X.env).findIdx? (·.1) = none := by rfl) : EG X Γ (.Tuple es k pos) (.t ps) :=
  PG.imp (pg_tup hc h hn hst) fun v σ H Q ⟨d, M, μ, rh, r, h⟩ => by
    cases r with
    | tup g rs =>
      simp only [bindP] at h
      refine ⟨_, _, rfl, g, ?_, _, M, μ, rh, rs, h⟩
      split at h
      · rename_i l hl
        rw [← rs.length]
        exact bindPs_len hl
      · exact h.elim
    | _ => exact h.elim
where
  bindPs_len : ∀ {ps : List Pt} {ds : List D} {l : List (Nat × D)}, bindPs ps ds = some l → ds.length = ps.length := by
    intro ps
    induction ps with
    | nil => intro ds l h; cases ds with | nil => rfl | cons d ds => simp [bindPs] at h
    | cons p ps ih =>
      intro ds l h
      cases ds with
      | nil => simp [bindPs] at h
      | cons d ds =>
        simp only [bindPs] at h
        split at h
        · rename_i h1 h2
          rw [List.length_cons, List.length_cons, ih h2]
        · cases h
end

def RS.of {α : Type} (ζ : Sl) (r : R α) (k : α → Hs → RS) : RS := match r with
  | .ok a M => k a M
  | .ex c fs M => .ex c fs ζ M
  | .no => .no
def sAsg (f : MX) (p : Pt) : MS := fun ζ M => RS.of ζ (f ζ M) fun d M1 => match bindP p d with
  | some l => .nx (setAll ζ l) M1
  | none => .no
def sSet (i : Nat) (f : MX) : MS := fun ζ M => RS.of ζ (f ζ M) fun d M1 => .nx (ζ.set i (some d)) M1
def sPar (i j : Nat) (g : MA) : MS := fun ζ M => RS.of ζ (g ζ M) fun ds M1 => match ds with
  | [d, e] => .nx ((ζ.set i (some d)).set j (some e)) M1
  | _ => .no
def sPut (g : D → D → D → Hs → Option Hs) (fo fi fv : MX) : MS := fun ζ M => RS.of ζ (fv ζ M) fun v M1 => RS.of ζ (fo ζ M1) fun o M2 => RS.of ζ (fi ζ M2) fun i M3 => match g o i v M3 with
  | some M4 => .nx ζ M4
  | none => .no
def sAug (i : Nat) (g : D → D → Hs → Option (D × Hs)) (f : MX) : MS := fun ζ M => match ζ[i]? with
  | some (some x) => RS.of ζ (f ζ M) fun y M1 => match g x y M1 with
    | some (d, M2) => .nx (ζ.set i (some d)) M2
    | none => .no
  | _ => .no
def sExpr (f : MX) : MS := fun ζ M => RS.of ζ (f ζ M) fun _ M1 => .nx ζ M1
def sRet (f : MX) : MS := fun ζ M => RS.of ζ (f ζ M) fun d M1 => .rt d M1
def sRetN : MS := fun _ M => .rt .non M
def sPass : MS := fun ζ M => .nx ζ M
def sIf (t : MT) (a b : MS) : MS := fun ζ M => RS.of ζ (t ζ M) fun c M1 => if c = true then a ζ M1 else b ζ M1
def sSeq (a b : MS) : MS := fun ζ M => match a ζ M with
  | .nx ζ1 M1 => b ζ1 M1
  | r => r
def whileN (t : MT) (b : MS) : Nat → MS
  | 0 => fun _ _ => .no
  | n + 1 => fun ζ M => RS.of ζ (t ζ M) fun c M1 => if c = true then match b ζ M1 with
      | .nx ζ' M' => whileN t b n ζ' M'
      | .ct ζ' M' => whileN t b n ζ' M'
      | .bk ζ' M' => .nx ζ' M'
      | r => r
    else .nx ζ M1
/-- more turns than any loop here takes -/
def far : Nat := 10 ^ 30
def sWhile (t : MT) (b : MS) : MS := whileN t b far
/-- what a loop walks: the item at a turn (none: it is told by nobody; some none: the end), and more turns than it takes -/
structure Yd where
  y : Nat → Hs → Option (Option D)
  fuel : Nat
abbrev MY := Sl → Hs → R Yd
def forN (y : Nat → Hs → Option (Option D)) (p : Pt) (b : MS) : Nat → Nat → MS
  | 0, _ => fun _ _ => .no
  | n + 1, i => fun ζ M => match y i M with
    | none => .no
    | some none => .nx ζ M
    | some (some d) => match bindP p d with
      | none => .no
      | some l => match b (setAll ζ l) M with
        | .nx ζ' M' => forN y p b n (i + 1) ζ' M'
        | .ct ζ' M' => forN y p b n (i + 1) ζ' M'
        | .bk ζ' M' => .nx ζ' M'
        | r => r
def sFor (s : MY) (p : Pt) (b : MS) : MS := fun ζ M => RS.of ζ (s ζ M) fun yd M1 => forN yd.y p b yd.fuel 0 ζ M1

section
variable {P : Program} {w : World} {K : PySem.W.Frag} {Γ : Gm} {W : WX} {σ : L2.St} {μ μ1 : List Addr} {H H1 : Hp} {M : Hs} {ζ : Sl}
theorem PstS.then {α β : Type} {rel : Hp → List Addr → α → β → Prop} {r : R α} {k : α → Hs → RS} {E : Ends} {Q' : β → Hp → Prop} (h : PstS P w K Γ W μ H (RS.of ζ r k) E) (sl : RSl K H μ ζ σ)
    (i : ∀ v H1 d M1 μ1, Nx μ H μ1 H1 → RH P w K Γ μ1 M1 H1 → rel H1 μ1 d v → PstS P w K Γ W μ1 H1 (k d M1) E → Q' v H1) : Pst P w K Γ rel W σ μ H r Q' := by
  cases r with
  | ok d M1 => exact fun v H' μ' x rh rv => i v H' d M1 μ' x rh rv (PstS.mono h x)
  | ex c fs M1 => exact fun cls dd H' μ' x rh rx => h cls dd σ H' μ' x rh (sl.mono x) rx
  | no => exact h.elim
theorem PstS.ends {r : RS} {E E' : Ends} (h : PstS P w K Γ W μ H r E) (h1 : ∀ σ H, E.nx σ H → E'.nx σ H) (h2 : ∀ v H, E.rt v H → E'.rt v H) (h3 : ∀ σ H, E.bk σ H → E'.bk σ H) (h4 : ∀ σ H, E.ct σ H → E'.ct σ H) : PstS P w K Γ W μ H r E' := by
  cases r with
  | nx ζ M => exact fun σ' H' μ' a b c => h1 _ _ (h σ' H' μ' a b c)
  | rt d M => exact fun σ' H' μ' a b c => h2 _ _ (h σ' H' μ' a b c)
  | bk ζ M => exact fun σ' H' μ' a b c => h3 _ _ (h σ' H' μ' a b c)
  | ct ζ M => exact fun σ' H' μ' a b c => h4 _ _ (h σ' H' μ' a b c)
  | ex c fs ζ M => exact h
  | no => exact h
end
section
variable {X : Cx} {Γ : Gm} {W : WX} {a b c e o v : Expr} {es : List Expr} {st : Stmt} {rest sa sb : List Stmt} {fa fb fc fe fo fv : MX} {ft : MT} {ga : MA} {ms ms' : MS} {pos pos' : Pos} {x : Str} {i j : Nat} {p : Pt}
theorem es_nil : ESs X Γ W [] sPass := PSs.imp pss_nil fun E σ H ⟨ζ, M, μ, rr, h⟩ => h _ _ _ (Nx.refl _ _) rr.hp rr.sl
theorem es_cons (h1 : ES X Γ W st ms) (h2 : ESs X Γ W rest ms') : ESs X Γ W (st :: rest) (sSeq ms ms') :=
  PSs.imp (pss_cons h1 h2) fun E σ H ⟨ζ, M, μ, rr, h⟩ => ⟨ζ, M, μ, rr, by
    unfold sSeq at h
    cases hr : ms ζ M with
    | nx ζ1 M1 => rw [hr] at h; exact fun σ' H' μ' x rh sl => ⟨ζ1, M1, μ', ⟨sl, rh⟩, PstS.mono h x⟩
    | rt d M1 => rw [hr] at h; exact h
    | bk ζ1 M1 => rw [hr] at h; exact h
    | ct ζ1 M1 => rw [hr] at h; exact h
    | ex c fs ζ1 M1 => rw [hr] at h; exact h
    | no => rw [hr] at h; exact h⟩
theorem es_one (h1 : ES X Γ W st ms) : ESs X Γ W [st] ms := pss_one h1
theorem es_pass : ES X Γ W (.Pass pos) sPass := PS.imp ps_pass fun E σ H ⟨ζ, M, μ, rr, h⟩ => h _ _ _ (Nx.refl _ _) rr.hp rr.sl
theorem es_doc {x : Str} {j} : ES X Γ W (.Expr (.Constant (.str x) j pos) pos') sPass := PS.imp ps_doc fun E σ H ⟨ζ, M, μ, rr, h⟩ => h _ _ _ (Nx.refl _ _) rr.hp rr.sl
theorem es_expr (he : EX X Γ W e fe) (hs : swapsWith e none pos.line X.env = pure false := by rfl) : ES X Γ W (.Expr e pos) (sExpr fe) :=
  PS.imp (ps_expr he hs) fun E σ H ⟨ζ, M, μ, rr, h⟩ => ⟨ζ, M, μ, rr, PstS.then h rr.sl fun v H1 d M1 μ1 nx rh rv h1 => h1 _ _ _ (Nx.refl _ _) rh (rr.sl.mono nx)⟩
theorem es_ret (he : EX X Γ W e fe) : ES X Γ W (.Return (some e) pos) (sRet fe) :=
  PS.imp (ps_ret he) fun E σ H ⟨ζ, M, μ, rr, h⟩ => ⟨ζ, M, μ, rr, PstS.then h rr.sl fun v H1 d M1 μ1 nx rh rv h1 => h1 _ _ _ (Nx.refl _ _) rh rv⟩
theorem es_retN : ES X Γ W (.Return none pos) sRetN := PS.imp ps_retN fun E σ H ⟨ζ, M, μ, rr, h⟩ => h _ _ _ (Nx.refl _ _) rr.hp .non
theorem es_if {ma mb : MS} (hc : ET X Γ W c ft) (ha : ESs X Γ W sa ma) (hb : ESs X Γ W sb mb) : ES X Γ W (.If c sa sb pos) (sIf ft ma mb) :=
  PS.imp (ps_if hc ha hb) fun E σ H ⟨ζ, M, μ, rr, h⟩ => ⟨ζ, M, μ, rr, PstS.then h rr.sl fun v H1 d M1 μ1 nx rh rv h1 => by
    have rv : d = v := rv
    subst rv
    cases d with
    | true => exact ⟨ζ, M1, μ1, ⟨rr.sl.mono nx, rh⟩, h1⟩
    | false => exact ⟨ζ, M1, μ1, ⟨rr.sl.mono nx, rh⟩, h1⟩⟩
theorem es_set (i : Nat) {pos' : Pos} (hN : X.N.Nodup) (he : EX X Γ W e fe) (hi : X.N[i]? = some x := by rfl) (hx : Loc X.env.scope x := by first | exact Or.inl rfl | exact Or.inr rfl) (hs : swapsWith e (some (.Name x pos')) pos.line X.env = pure false := by rfl)
    (hf : X.fn x = true ∨ X.env.scope.names.lookup x = some .local := by first | exact .inl rfl | exact .inr rfl) : ES X Γ W (.Assign [.Name x pos'] e pos) (sSet i fe) :=
  PS.imp (ps_set hN hi hx he hs hf) fun E σ H ⟨ζ, M, μ, rr, h⟩ => ⟨ζ, M, μ, rr, PstS.then h rr.sl fun v H1 d M1 μ1 nx rh rv h1 => h1 _ _ _ (Nx.refl _ _) rh ((rr.sl.mono nx).set rv i)⟩
theorem es_asg {tg : Expr} (he : EX X Γ W e fe) (hg : EG X Γ tg p) (hs : swapsWithSole [tg] e pos.line X.env = pure false := by rfl) (hw : swappedStores [tg] e X.env = pure none := by rfl)
    (h1 : (assignEach [tg] X.env).map (·.2) = [assign tg X.env] := by rfl) : ES X Γ W (.Assign [tg] e pos) (sAsg fe p) :=
  PS.imp (ps_asg he hg hs hw h1) fun E σ H ⟨ζ, M, μ, rr, h⟩ => ⟨ζ, M, μ, rr, PstS.then h rr.sl fun v H1 d M1 μ1 nx rh rv h1 => by
    refine ⟨d, M1, μ1, rh, rv, ?_⟩
    cases hb : bindP p d with
    | none => rw [hb] at h1; exact h1.elim
    | some l =>
      rw [hb] at h1
      exact fun l' br => h1 _ _ _ (Nx.refl _ _) rh (RSl.setAll br (rr.sl.mono nx))⟩
theorem es_par (i j : Nat) {y : Str} {px py pt : Pos} {kt k2 pt2} (hc : X.calm = true) (hN : X.N.Nodup) (ha : EA X Γ W [a, b] ga) (hij : i ≠ j) (hi : X.N[i]? = some x := by rfl) (hj : X.N[j]? = some y := by rfl)
    (hx : X.env.scope.names.lookup x = some .local := by rfl) (hy : X.env.scope.names.lookup y = some .local := by rfl)
    (hw : swappedStores [.Tuple [.Name x px, .Name y py] kt pt] (.Tuple [a, b] k2 pt2) X.env = pure (some [x, y]) := by rfl)
    (hs : swapsWithSole [.Tuple [.Name x px, .Name y py] kt pt] (.Tuple [a, b] k2 pt2) pos.line X.env = pure false := by rfl) :
    ES X Γ W (.Assign [.Tuple [.Name x px, .Name y py] kt pt] (.Tuple [a, b] k2 pt2) pos) (sPar i j ga) :=
  PS.imp (ps_par hc hN hi hj hij hx hy ha hw hs) fun E σ H ⟨ζ, M, μ, rr, h⟩ => ⟨ζ, M, μ, rr, PstS.then h rr.sl fun vs H1 ds M1 μ1 nx rh rv h1 => by
    replace rv : RVs X.K H1 μ1 ds vs := rv
    split at h1
    · obtain ⟨u, w', rfl, r1, r2⟩ := two_rel rv
      exact ⟨u, w', rfl, h1 _ _ _ (Nx.refl _ _) rh (((rr.sl.mono nx).set r1 i).set r2 j)⟩
    · exact h1.elim⟩
/-- o[i] = v -/
def rPut (P : Program) (w : World) (K : PySem.W.Frag) (Γ : Gm) (g : D → D → D → Hs → Option Hs) : TSet := fun o i v H Q => ∃ d e u M μ, RH P w K Γ μ M H ∧ RV K H μ d o ∧ RV K H μ e i ∧ RV K H μ u v ∧ match g d e u M with
  | some M' => ∀ H' μ', Nx μ H μ' H' → RH P w K Γ μ' M' H' → Q H'
  | none => False
theorem es_put {g : D → D → D → Hs → Option Hs} {fi : MX} {p2 : Pos} {ix : Expr} (hset : PSet X (rPut X.prog X.w X.K Γ g)) (ho : EX X Γ W o fo) (hi : EX X Γ W ix fi) (hv : EX X Γ W v fv)
    (ha : ∀ v, assign (.Subscript o ix p2) X.env v = (do
      let ov ← holding [v] (eval o X.env)
      let iv ← holding [v, ov] (eval ix X.env)
      standAt p2
      holding [v, ov, iv] (setItem ov iv v)
      release [v, ov, iv] []) := by intro _; rfl)
    (hs : swapsWithSole [.Subscript o ix p2] v pos.line X.env = pure false := by rfl) (hw : swappedStores [.Subscript o ix p2] v X.env = pure none := by rfl)
    (h1 : (assignEach [.Subscript o ix p2] X.env).map (·.2) = [assign (.Subscript o ix p2) X.env] := by rfl) : ES X Γ W (.Assign [.Subscript o ix p2] v pos) (sPut g fo fi fv) :=
  PS.imp (ps_asg hv (pg_sub ho hi hset ha) hs hw h1) fun E σ H ⟨ζ, M, μ, rr, h⟩ => ⟨ζ, M, μ, rr, PstS.then h rr.sl fun v H1 d M1 μ1 nx rh rv h1 => ⟨ζ, M1, μ1, ⟨rr.sl.mono nx, rh⟩, PstS.then h1 (rr.sl.mono nx) fun u H2 e M2 μ2 nx2 rh2 ru h2 =>
    ⟨ζ, M2, μ2, ⟨(rr.sl.mono nx).mono nx2, rh2⟩, PstS.then h2 ((rr.sl.mono nx).mono nx2) fun z H3 k M3 μ3 nx3 rh3 rz h3 => by
      refine ⟨e, k, d, M3, μ3, rh3, RV.mono nx3 ru, rz, RV.mono nx3 (RV.mono nx2 rv), ?_⟩
      cases hg : g e k d M3 with
      | none => rw [hg] at h3; exact h3.elim
      | some M4 =>
        rw [hg] at h3
        exact fun H4 μ4 nx4 rh4 => h3 _ _ _ nx4 rh4 (((rr.sl.mono nx).mono nx2).mono (nx3.trans nx4))⟩⟩⟩
def gPutL (o i v : D) (M : Hs) : Option Hs := match o, i with
  | .ref n, .int k => match hLst M n with
    | some xs => match ixN xs.length k with
      | some j => some (M.set n (.lst (xs.set j v)))
      | none => none
    | none => none
  | _, _ => none
theorem put_list : PSet X (rPut X.prog X.w X.K Γ gPutL) := by
  intro pins s σ H o i v ov iv u Q I ro ri rv ⟨d, e, f, M, μ, rh, rd, re, rf, h⟩
  unfold gPutL at h
  split at h
  · rename_i M' hg
    split at hg
    · obtain ⟨a, rfl, e1⟩ := ref_rel rd
      cases re
      split at hg
      · rename_i ys e2
        obtain ⟨vs, g, r2⟩ := nlst rh (hLst_ok rh e2) e1
        split at hg
        · rename_i j hj
          cases hg
          refine set_list pins s σ H _ _ v ov iv u Q I ro ri rv ⟨a, vs, _, j, rfl, rfl, g, by rw [← r2.length]; exact hj, ?_⟩
          exact h _ _ (Nx.write (mutL g)) (rh.write e1 (mutL g) ⟨_, upd_same, (RVs.set rf j r2).mono (Nx.write (mutL g))⟩)
        · cases hg
      · cases hg
    · cases hg
  · exact h.elim
/-- x op= e -/
def ipR (P : Program) (w : World) (K : PySem.W.Frag) (Γ : Gm) (g : D → D → Hs → Option (D × Hs)) : TIp := r2 P w K Γ g
theorem es_aug (i : Nat) {op : Operator} {g : D → D → Hs → Option (D × Hs)} {pos' : Pos} (hN : X.N.Nodup) (ho : PIp X op (ipR X.prog X.w X.K Γ g)) (he : EX X Γ W e fe) (hi : X.N[i]? = some x := by rfl) (hx : Loc X.env.scope x := by first | exact Or.inl rfl | exact Or.inr rfl)
    (hf : X.fn x = true ∨ X.env.scope.names.lookup x = some .local := by first | exact .inl rfl | exact .inr rfl) : ES X Γ W (.AugAssign (.Name x pos') op e pos) (sAug i g fe) :=
  PS.imp (ps_aug hN hi hx he ho hf) fun E σ H ⟨ζ, M, μ, rr, h⟩ => by
    unfold sAug at h
    split at h
    · rename_i d hd
      obtain ⟨v, e1, e2⟩ := rr.sl.at_ i d hd
      refine ⟨v, e1, ζ, M, μ, rr, PstS.then h rr.sl fun u H1 k M1 μ1 nx rh rv h1 => ⟨d, k, M1, μ1, rh, RV.mono nx e2, rv, ?_⟩⟩
      cases hg : g d k M1 with
      | none => rw [hg] at h1; exact h1.elim
      | some q =>
        rw [hg] at h1
        exact fun z H2 μ2 nx2 rh2 rz => h1 _ _ _ nx2 rh2 (((rr.sl.mono nx).mono nx2).set rz i)
    · exact h.elim
theorem ip_i {op : Operator} {g : Int → Int → Int} (h : PIp X op (ipI g)) : PIp X op (ipR X.prog X.w X.K Γ (gI (fun _ _ => true) fun i j => .int (g i j))) := by
  intro pins s σ H x y v u Q I rx ry ⟨d, e, M, μ, rh, rd, re, hq⟩
  unfold gI at hq
  split at hq
  · cases rd; cases re
    exact h pins s σ H _ _ v u Q I rx ry ⟨_, _, rfl, rfl, Pk.here rh hq (.int _)⟩
  · exact hq.elim
theorem i_add : PIp X .Add (ipR X.prog X.w X.K Γ (gI (fun _ _ => true) fun i j => .int (i + j))) := ip_i ip_add
theorem i_sub : PIp X .Sub (ipR X.prog X.w X.K Γ gSub) := ip_i ip_sub
theorem es_while {mb : MS} (hp : PassesOwn (model X.prog X.w) X.A X.env X.xe) (hc : ET X Γ W c ft) (hb : ESs X Γ W sb mb) : ES X Γ W (.While c sb [] pos) (sWhile ft mb) :=
  PS.imp (ps_while hp hc hb) fun E σ H ⟨ζ, M, μ, rr, h⟩ => by
    refine ⟨fun m σ H => ∃ ζ M μ, RR X.prog X.w X.K Γ μ H ζ M σ ∧ PstS X.prog X.w X.K Γ W μ H (whileN ft mb m ζ M) E, ⟨far, ζ, M, μ, rr, h⟩, ?_⟩
    rintro m σ H ⟨ζ, M, μ, rr, h⟩
    cases m with
    | zero => exact h.elim
    | succ m =>
      refine ⟨ζ, M, μ, rr, PstS.then h rr.sl fun v H1 d M1 μ1 nx rh rv h1 => ?_⟩
      have rv : d = v := rv
      subst rv
      cases d with
      | true =>
        rw [if_pos rfl]
        refine ⟨fun σ' H' => ∃ ζ M μ, RR X.prog X.w X.K Γ μ H' ζ M σ' ∧ PstS X.prog X.w X.K Γ W μ H' (whileN ft mb m ζ M) E, fun σ' H' q => ⟨m, Nat.lt_succ_self _, q⟩, ζ, M1, μ1, ⟨rr.sl.mono nx, rh⟩, ?_⟩
        rw [if_pos rfl] at h1
        cases hr : mb ζ M1 with
        | nx ζ1 M1 => rw [hr] at h1; exact fun σ' H' μ' x rh sl => ⟨ζ1, M1, μ', ⟨sl, rh⟩, PstS.mono h1 x⟩
        | ct ζ1 M1 => rw [hr] at h1; exact fun σ' H' μ' x rh sl => ⟨ζ1, M1, μ', ⟨sl, rh⟩, PstS.mono h1 x⟩
        | bk ζ1 M1 => rw [hr] at h1; exact h1
        | rt d M1 => rw [hr] at h1; exact h1
        | ex c fs ζ1 M1 => rw [hr] at h1; exact h1
        | no => rw [hr] at h1; exact h1
      | false =>
        rw [if_neg Bool.false_ne_true]
        exact h1 _ _ _ (Nx.refl _ _) rh (rr.sl.mono nx)
/-- the walked thing goes as told -/
def YOk (P : Program) (w : World) (K : PySem.W.Frag) (Γ : Gm) (H0 : Hp) (μ0 : List Addr) (yd : Yd) (J : It) : Prop := ∀ (i : Nat) (H : Hp) (μ : List Addr) (M : Hs), Nx μ0 H0 μ H → RH P w K Γ μ M H →
  (yd.y i M = some none → J.stop i H) ∧ ∀ d, yd.y i M = some (some d) → J.go i H ∧ ∀ x H2, J.yld i H x H2 → ∃ μ2, Nx μ H μ2 H2 ∧ RH P w K Γ μ2 M H2 ∧ RV K H2 μ2 d x
def iY (P : Program) (w : World) (K : PySem.W.Frag) (Γ : Gm) (W : WX) (s : MY) : TI := fun σ H R => ∃ ζ M μ, RR P w K Γ μ H ζ M σ ∧ Pst P w K Γ (YOk P w K Γ) W σ μ H (s ζ M) R
abbrev EI (X : Cx) (Γ : Gm) (W : WX) (tg it : Expr) (s : MY) : Prop := PI X tg it (iY X.prog X.w X.K Γ W s)
theorem PI.imp {tg e : Expr} {t t' : TI} (h : PI X tg e t) (i : ∀ σ H Q, t' σ H Q → t σ H Q) : PI X tg e t' := ⟨fun pins s σ H Q I q => h.run pins s σ H Q I (i _ _ _ q)⟩
theorem es_for {tg it : Expr} {s : MY} {mb : MS} (hp : PassesOwn (model X.prog X.w) X.A X.env X.xe) (hc : X.calm = true) (hi : EI X Γ W tg it s) (hg : EG X Γ tg p) (hb : ESs X Γ W sb mb)
    (hs : ∀ x, foldedSetIterable it X.env x = pure x := by intro _; rfl) : ES X Γ W (.For tg it sb [] pos) (sFor s p mb) :=
  PS.imp (ps_for hp hc hi hg hb hs) fun E σ H ⟨ζ, M, μ, rr, h⟩ => ⟨ζ, M, μ, rr, PstS.then h rr.sl fun J H1 yd M1 μ1 nx rh rv h1 => by
    refine ⟨fun i m σ H => ∃ ζ M μ, Nx μ1 H1 μ H ∧ RR X.prog X.w X.K Γ μ H ζ M σ ∧ PstS X.prog X.w X.K Γ W μ H (forN yd.y p mb m i ζ M) E, ⟨yd.fuel, ζ, M1, μ1, Nx.refl _ _, ⟨rr.sl.mono nx, rh⟩, h1⟩, ?_⟩
    rintro i m σ H ⟨ζ, M, μ, nx, rr, h⟩
    cases m with
    | zero => exact h.elim
    | succ m =>
      obtain ⟨st, go⟩ := rv i H μ M nx rr.hp
      simp only [forN] at h
      split at h
      · exact h.elim
      · rename_i hy
        exact .inl ⟨st hy, h _ _ _ (Nx.refl _ _) rr.hp rr.sl⟩
      · rename_i d hy
        obtain ⟨g1, g2⟩ := go d hy
        refine .inr ⟨g1, fun σ' H' => ∃ ζ M μ, Nx μ1 H1 μ H' ∧ RR X.prog X.w X.K Γ μ H' ζ M σ' ∧ PstS X.prog X.w X.K Γ W μ H' (forN yd.y p mb m (i + 1) ζ M) E, fun σ' H' q => ⟨m, Nat.lt_succ_self _, q⟩, fun x H2 hx => ?_⟩
        obtain ⟨μ2, nx2, rh2, rv2⟩ := g2 x H2 hx
        refine ⟨d, M, μ2, rh2, rv2, ?_⟩
        split at h
        · exact h.elim
        · rename_i l hl
          rw [hl]
          intro l' br
          refine ⟨setAll ζ l, M, μ2, ⟨RSl.setAll br (rr.sl.mono nx2), rh2⟩, ?_⟩
          have h2 := PstS.mono h nx2
          have n2 := nx.trans nx2
          cases hr : mb (setAll ζ l) M with
          | nx ζ3 M3 => rw [hr] at h2; exact fun σ' H' μ' x rh sl => ⟨ζ3, M3, μ', n2.trans x, ⟨sl, rh⟩, PstS.mono h2 x⟩
          | ct ζ3 M3 => rw [hr] at h2; exact fun σ' H' μ' x rh sl => ⟨ζ3, M3, μ', n2.trans x, ⟨sl, rh⟩, PstS.mono h2 x⟩
          | bk ζ3 M3 => rw [hr] at h2; exact h2
          | rt d M3 => rw [hr] at h2; exact h2
          | ex c fs ζ3 M3 => rw [hr] at h2; exact h2
          | no => rw [hr] at h2; exact h2⟩
end
end Mi
end
section
set_option maxRecDepth 100000
set_option maxHeartbeats 2000000
set_option autoImplicit false
namespace PySem
open Sem (wp)
open AutoSeq1 (wpAny_loadPart')
theorem mi_enumT (l : Addr) (items : Array Value) (n : Nat) (dct : Option Addr) (sl : Array (Option Value)) :
    Meets (Builtin.«enumerate.__new__» ⟨[.type "enumerate", .ref l], []⟩) (fun _ R s => s.heap.get? l = some { cls := .type "tuple", dict := dct, data := .seq items n, slots := sl } ∧
      R (.ok (.ret (.ref (s.heap.push { cls := .type "tuple_iterator", data := .fields #[.ref l, .int 0 0] }).objs.size)))
        { s with heap := (s.heap.push { cls := .type "tuple_iterator", data := .fields #[.ref l, .int 0 0] }).push { cls := .type "enumerate", data := .fields #[.none, .bool false, .ref s.heap.objs.size, rawInt 0, .none, .none] } }) :=
  .of_wp fun prog w A R s h => by
    obtain ⟨hp, g, d, tk, os⟩ := s; obtain ⟨hl, h⟩ := h
    have hsub := sub_enumerate
    have hL : Heap.IsTuple (Shared.heap ⟨hp, g, d, tk, os⟩) l items := ⟨_, hl, rfl, n, rfl⟩
    wp_walk using wpAny_loadPart' hl
    refine wpAny_stack_any fun st => wpAny_pure ?_
    split
    · rename_i c _ _ _ _ _
      cases (c == Value.type "enumerate")
      · wp_walk using wpAny_loadPart' hl, wpAny_pyIter_tuple hL
        exact ⟨_, rfl, h⟩
      · wp_walk using wpAny_loadPart' hl, wpAny_pyIter_tuple hL
        exact ⟨_, rfl, h⟩
    · wp_walk using wpAny_loadPart' hl, wpAny_pyIter_tuple hL
      exact ⟨_, rfl, h⟩
theorem mi_call_enumT {prog : Program} {w : World} {A : Around} {E : Value → Shared → Prop} {s : Shared} {l : Addr} {items : Array Value} {Q : Value → Shared → Prop} (hL : s.heap.IsTuple l items)
    (h : ∀ h', IsEnum h' (s.heap.objs.size + 1) s.heap.objs.size 0 .none → h'.IsTupleIter s.heap.objs.size l 0 → h'.objs.size = s.heap.objs.size + 2 →
      (∀ b o, s.heap.get? b = some o → h'.get? b = some o) → Q (.ref (s.heap.objs.size + 1)) { s with heap := h' }) :
    wpAny (model prog w) A (call (.type "enumerate") [.ref l]) Q E s := by
  obtain ⟨⟨c, dct, dt, sl⟩, hl, hc, n, hd⟩ := hL
  replace hc : c = .type "tuple" := hc
  replace hd : dt = .seq items n := hd
  subst hc hd
  refine callType_new F.called_enumerate (by decide) (F.typeCall_enumerate_1 _) (F.newCall_enumerate_1 _) (fun obj => F.args_object_init_2 obj _) F.entry_enumerate_new
    (mi_enumT l items n dct sl) ⟨hl, ?_⟩
  have hz : (s.heap.push { cls := .type "tuple_iterator", data := .fields #[.ref l, .int 0 0] }).objs.size = s.heap.objs.size + 1 := Heap.size_push ..
  show _ ∧ _
  rw [hz]
  have he : IsEnum ((s.heap.push { cls := .type "tuple_iterator", data := .fields #[.ref l, .int 0 0] }).push
      { cls := .type "enumerate", data := .fields #[.none, .bool false, .ref s.heap.objs.size, rawInt 0, .none, .none] }) (s.heap.objs.size + 1) s.heap.objs.size 0 .none := by
    have := Heap.get?_push_size (s.heap.push { cls := .type "tuple_iterator", data := .fields #[.ref l, .int 0 0] })
      (o := { cls := .type "enumerate", data := .fields #[.none, .bool false, .ref s.heap.objs.size, rawInt 0, .none, .none] }) rfl
    rw [hz] at this; exact this
  refine ⟨⟨_, he, rfl⟩, h _ he ⟨_, Heap.get?_push_of_some _ (Heap.get?_push_size _ rfl), rfl, rfl⟩ (by rw [Heap.size_push, hz]) fun b o x => Heap.get?_push_of_some _ (Heap.get?_push_of_some _ x)⟩
end PySem
namespace Mi
open PySem PySem.Spec PyProof.Rows L2

def IteT (K : PySem.W.Frag) (a : Addr) : It :=
  ⟨fun i H => ∃ (xs : List V) (x : V), SqT K H a xs ∧ xs[i]? = some x, fun i H v H' => ∃ T x, v = .ref T ∧ H T = none ∧ H' = upd H T (.tup [.int (i : Nat), x]) ∧ ∀ xs, SqT K H a xs → xs[i]? = some x, fun i H => ∃ xs : List V, SqT K H a xs ∧ xs.length ≤ i⟩
theorem turn_enumT {P : Program} {w : World} {K : PySem.W.Frag} {elts : List Expr} {kk : Nat} {tpos : Pos} (a e it : Addr) :
    Turn P w K (.Tuple elts kk tpos) (IteT K a) [e, it] e (fun i h => (∃ old, IsEnum h e it ((i : Nat) : Int) old) ∧ h.IsTupleIter it a i ∧ e ≠ it ∧ a ≠ it ∧ a ≠ e) where
  mem := by simp
  obj := fun i h st b hb => by
    obtain ⟨⟨old, he⟩, ⟨o, ho, hc, hd⟩, _⟩ := st
    have e' : b = e ∨ b = it := by simpa using hb
    rcases e' with z | z
    · rw [z]; exact ⟨_, he, fun v q => nomatch q⟩
    · rw [z]; exact ⟨o, ho, fun v q => by rw [hd] at q; cases q⟩
  keep := fun i h h' st k => let ⟨⟨old, he⟩, hi, hne⟩ := st; ⟨⟨old, k e (by simp) _ he⟩, hi.at fun o q => k it (by simp) o q, hne⟩
  item := by
    intro X hP hw hK hc i pins s σ H E I hf st hg
    subst hP hw hK
    obtain ⟨⟨old, he⟩, hit, hne, hai, hae⟩ := st
    obtain ⟨xs, x, hq, hx⟩ := hg
    obtain ⟨its, rv, p, hz⟩ := I.tuple hq
    obtain ⟨u, hu, ru⟩ := rv.get hx
    have hel : e < s.heap.objs.size := Heap.lt_size he
    have hil : it < s.heap.objs.size := by obtain ⟨_, q, _⟩ := hit; exact Heap.lt_size q
    have hit0 := hit
    have pt : s.heap.IsTuple a its.toArray := p
    have hlt : i < its.toArray.size := by
      have := (List.getElem?_eq_some_iff.mp hu).1
      simpa using this
    refine wpAny_pyNext_enum_itemD (Draws.tuple (by show X.A.in1.handled = none; exact I.ok.hd hc) it a hai its.toArray) he ⟨hit, pt⟩ hlt hne (by simp; exact ⟨hne, fun z => hae z.symm⟩) fun x' h' tk hP ho hit' hT hsz hk => ?_
    have hx' : x' = u := by
      have h1 : its.toArray[i]? = some x' := hP
      have h2 : its.toArray[i]? = some u := by simpa using hu
      rw [h1] at h2
      exact Option.some.inj h2
    subst hx'
    refine ⟨_, rfl, wpAny_letOwnedTupleGo_enum (s := { s with heap := h', toks := tk + 1 }) ho fun h'' he' sb => ?_⟩
    have hT2 : h''.get? s.heap.objs.size = some { cls := .type "tuple", data := .seq #[.int i tk, x'] } := (sb.2 _ (Nat.ne_of_gt hel)).trans hT
    have new : ObjOk X.prog X.w (upd H s.heap.objs.size (.tup [.int (i : Nat), x])) h'' s.heap.objs.size (.tup [.int (i : Nat), x]) :=
      ⟨by show 2 ≤ sizeLine; decide, [.int i tk, x'], .cons ⟨_, rfl⟩ (.cons ru .nil), ⟨_, hT2, rfl, _, rfl⟩⟩
    have I1 : Inv X pins σ (upd H s.heap.objs.size (.tup [.int (i : Nat), x])) { s with heap := h'', toks := tk + 1 } :=
      I.turnedNew (ch := [e, it]) (fun b ob hb q => (sb.2 b (fun z => hb (by simp [z]))).trans (hk b ob (fun z => hb (by simp [z])) (fun z => hb (by simp [z])) q)) hf (Nat.le_refl _) new
    refine ⟨.ref s.heap.objs.size, _, I1, rfl, ⟨_, x, rfl, I.hok.fresh (Nat.le_refl _), rfl, fun ys hy => by rw [I.tuple_inj hy hq]; exact hx⟩, ⟨⟨x', ?_⟩, hit'.1.at fun o q => (sb.2 it (Ne.symm hne)).trans q, hne, hai, hae⟩, fun b hb => ?_⟩
    · have e1 : ((i + 1 : Nat) : Int) = (i : Int) + 1 := by omega
      rw [e1]; exact he'
    · have hb' : b < s.heap.objs.size := by
        have e' : b = e ∨ b = it := by simpa using hb
        rcases e' with z | z
        · rw [z]; exact hel
        · rw [z]; exact hil
      rw [upd_ne (Nat.ne_of_lt hb')]
      exact (hf b hb).1
  done := by
    intro X hP hw hK hc i pins s σ H E I hf st hg
    subst hP hw hK
    obtain ⟨⟨old, he⟩, hit, hne, hai, hae⟩ := st
    obtain ⟨xs, hq, hx⟩ := hg
    obtain ⟨its, rv, p, hz⟩ := I.tuple hq
    obtain ⟨f0, f1, f2, f3, f4, f5⟩ := hf it (by simp)
    have hl := rv.length
    have pt : s.heap.IsTuple a its.toArray := p
    have hT : s.TypeIs (.ref e) "enumerate" := ⟨_, he, rfl⟩
    unfold pyNext
    refine wpAny_bind (wpAny_attempt (wpAny_callSpecial?_slot (name := Str.ofString "__next__") hT F.slot_enumerate_next
      (wpAny_call_entry F.slot_enumerate_next hT F.entry_enumerate_next ?_ (F.args_enumerate_next_1 _))))
    show wpAny _ _ (field (.ref e) 2 >>= _) _ _ _
    refine wpAny_bind (wpAny_field he rfl (x := .ref it) rfl ?_)
    refine wpAny_bind (wpAny_nextOf_tuple_end (by show X.A.in1.handled = none; exact I.ok.hd hc) hit pt (by simp; omega) fun h' x he' hx' => ?_)
    obtain ⟨o, ho, hcl⟩ := hx'
    refine wpAny_bind (wpAny_isInstance (T := "StopIteration") (b := true) ⟨o, ho, hcl⟩ isSubtype_stop ?_)
    exact wpAny_pure ⟨rfl, I.turned (t' := s.toks) (fun b o hb q => he' b o hb q) f0 f1 f3 f4 f5⟩
  self := fun A i s Q E st h => let ⟨⟨_, he⟩, _⟩ := st; wpAny_pyIter_enum he h
def iEnumT (K : PySem.W.Frag) (ta : TA) : TI := fun σ H R => ta σ H fun vs H1 => ∃ a xs, vs = [.ref a] ∧ SqT K H1 a xs ∧ R (IteT K a) H1
theorem pi_enumT {X : Cx} {e : Expr} {ta : TA} {p pos tpos : Pos} {elts : List Expr} {kk : Nat} (hg : Gl X "enumerate") (hm : X.mg "enumerate" = none) (ha : PA X [e] ta) (hs : starEach [e] X.env = [(false, eval e X.env)] := by rfl) :
    PI X (.Tuple elts kk tpos) (.Call (.Name "enumerate" p) [e] [] pos) (fun σ H R => ta σ H fun vs H1 => ∃ a xs, vs = [.ref a] ∧ ((SqL X.K H1 a xs ∧ R (Ite X.K a) H1) ∨ (SqT X.K H1 a xs ∧ R (IteT X.K a) H1))) := by
  refine ⟨fun pins s σ H R I h => ?_⟩
  refine Call_ (ld_blt I hg hm boot_enumerate (PyProof.Rows.callWith_type1 (thn (ha.run pos pins s σ H _ I h) fun us s1 ⟨vs, H1, I1, r1, q1⟩ => ?_) hs rfl))
  obtain ⟨a, xs, ex, hq⟩ := q1
  subst ex
  cases r1 with
  | cons r rr =>
    cases rr
    cases r
    have key : ∀ b, b = s1.heap.objs.size + 1 ∨ b = s1.heap.objs.size → s1.heap.objs.size ≤ b := fun b e' => by
      rcases e' with z | z
      · rw [z]; exact Nat.le_add_right _ _
      · rw [z]; exact Nat.le_refl _
    rcases hq with ⟨hq, q⟩ | ⟨hq, q⟩
    · obtain ⟨its, rv, p', hz⟩ := I1.list hq
      refine call_enumerate_list p'.isList fun h' he hit hsz hk => wpAny_pyIter_enum he ?_
      have I2 : Inv X pins σ H1 { s1 with heap := h' } := I1.kept (t' := s1.toks) hk
      refine ⟨s1.heap.objs.size + 1, [s1.heap.objs.size + 1, s1.heap.objs.size], _, _, H1, rfl, I2, turn_enum a (s1.heap.objs.size + 1) s1.heap.objs.size, ⟨⟨.none, he⟩, hit, Nat.succ_ne_self _⟩, fun b hb => ?_, q⟩
      have hle := key b (by simpa using hb)
      exact I1.fpOk hle (I1.hok.fresh hle)
    · obtain ⟨its, rv, p', hz⟩ := I1.tuple hq
      have pt : s1.heap.IsTuple a its.toArray := p'
      have hal : a < s1.heap.objs.size := by obtain ⟨o, ho, _⟩ := pt; exact Heap.lt_size ho
      refine mi_call_enumT pt fun h' he hit hsz hk => wpAny_pyIter_enum he ?_
      have I2 : Inv X pins σ H1 { s1 with heap := h' } := I1.kept (t' := s1.toks) hk
      refine ⟨s1.heap.objs.size + 1, [s1.heap.objs.size + 1, s1.heap.objs.size], _, _, H1, rfl, I2, turn_enumT a (s1.heap.objs.size + 1) s1.heap.objs.size, ⟨⟨.none, he⟩, hit, Nat.succ_ne_self _, Nat.ne_of_lt hal, Nat.ne_of_lt (Nat.lt_succ_of_lt hal)⟩, fun b hb => ?_, q⟩
      have hle := key b (by simpa using hb)
      exact I1.fpOk hle (I1.hok.fresh hle)

def ySeq (f : MX) : MY := fun ζ M => (f ζ M).bind fun d M1 => match d with
  | .tup xs => .ok ⟨fun i _ => some xs[i]?, xs.length + 1⟩ M1
  | .klst xs => .ok ⟨fun i _ => some xs[i]?, xs.length + 1⟩ M1
  | .ref n => match hSeq M1 (.ref n) with
    | some xs => .ok ⟨fun i M => match hSeq M (.ref n) with
      | some ys => some ys[i]?
      | none => none, xs.length + 1⟩ M1
    | none => .no
  | _ => .no
/-- what range takes; by cases, so that the kernel stops at an unknown number -/
def okRg (i : Int) : Bool := match i with
  | .ofNat m => Nat.ble m 4611686018427387903
  | .negSucc m => Nat.ble m 4611686018427387903
theorem okRg_ok {i : Int} (h : okRg i = true) : -(2 ^ 62) ≤ i ∧ i < 2 ^ 62 := by
  cases i with
  | ofNat m =>
    have := Nat.le_of_ble_eq_true (show Nat.ble m 4611686018427387903 = true from h)
    rw [show Int.ofNat m = (m : Int) from rfl]
    omega
  | negSucc m =>
    have := Nat.le_of_ble_eq_true (show Nat.ble m 4611686018427387903 = true from h)
    rw [Int.negSucc_eq]
    omega
theorem okRg_mk {i : Int} (h0 : -4611686018427387904 ≤ i) (h1 : i < 4611686018427387904) : okRg i = true := by
  cases i with
  | ofNat m =>
    rw [show Int.ofNat m = (m : Int) from rfl] at h0 h1
    exact Nat.ble_eq_true_of_le (show m ≤ 4611686018427387903 by omega)
  | negSucc m =>
    rw [Int.negSucc_eq] at h0 h1
    exact Nat.ble_eq_true_of_le (show m ≤ 4611686018427387903 by omega)
def yRg (lo : Int) (n : Nat) : Yd := ⟨fun i _ => some (if i < n then some (.int (lo + i)) else none), n + 1⟩
def yRg1 (f : MX) : MY := fun ζ M => (f ζ M).bind fun d M1 => match d with
  | .int j => if okRg j = true then .ok (yRg 0 j.toNat) M1 else .no
  | _ => .no
def yRg2 (f g : MX) : MY := fun ζ M => (f ζ M).bind fun d M1 => (g ζ M1).bind fun e M2 => match d, e with
  | .int i, .int j => if (okRg i && okRg j) = true then .ok (yRg i (j - i).toNat) M2 else .no
  | _, _ => .no
def yEnum (f : MX) : MY := fun ζ M => (f ζ M).bind fun d M1 => match d with
  | .tup xs => .ok ⟨fun i _ => some (match xs[i]? with | some x => some (.tup [.int (i : Nat), x]) | none => none), xs.length + 1⟩ M1
  | .ref n => match hSeq M1 (.ref n) with
    | some xs => .ok ⟨fun i M => match hSeq M (.ref n) with
      | some ys => some (match ys[i]? with | some x => some (.tup [.int (i : Nat), x]) | none => none)
      | none => none, xs.length + 1⟩ M1
    | none => .no
  | _ => .no
section
variable {P : Program} {w : World} {K : PySem.W.Frag} {Γ : Gm} {μ0 : List Addr} {H0 : Hp}
theorem RVs.getN {H : Hp} {μ : List Addr} {xs : List D} {vs : List V} {i : Nat} (r : RVs K H μ xs vs) (h : xs[i]? = none) : vs.length ≤ i := by
  rw [← r.length]
  exact List.getElem?_eq_none_iff.mp h
theorem y_tup {a : Addr} {vs : List V} {xs : List D} {f : Nat} (g : SqT K H0 a vs) (r : RVs K H0 μ0 xs vs) : YOk P w K Γ H0 μ0 ⟨fun i _ => some xs[i]?, f⟩ (Itt K a) := by
  intro i H μ M nx rh
  refine ⟨fun h => ⟨vs, nx.sqT g, (r.mono nx).getN (Option.some.inj h)⟩, fun d h => ?_⟩
  obtain ⟨v, h1, h2⟩ := (r.mono nx).get (Option.some.inj h)
  refine ⟨⟨vs, v, nx.sqT g, h1⟩, fun x H2 hy => ?_⟩
  obtain ⟨e, hy⟩ := hy
  subst e
  have h3 := hy vs (nx.sqT g)
  rw [h1] at h3
  cases h3
  exact ⟨μ, Nx.refl _ _, rh, h2⟩
theorem y_kls {a : Addr} {vs : List V} {xs : List D} {f : Nat} (g : SqK K H0 a vs) (r : RVs K H0 μ0 xs vs) : YOk P w K Γ H0 μ0 ⟨fun i _ => some xs[i]?, f⟩ (Itl K a) := by
  intro i H μ M nx rh
  have g1 : SqL K H a vs := (show SqK K H a vs from g.imp (fun ⟨o, h⟩ => ⟨o, nx.frz _ _ _ h⟩) id).sq
  refine ⟨fun h => ⟨vs, g1, (r.mono nx).getN (Option.some.inj h)⟩, fun d h => ?_⟩
  obtain ⟨v, h1, h2⟩ := (r.mono nx).get (Option.some.inj h)
  refine ⟨⟨vs, v, g1, h1⟩, fun x H2 hy => ?_⟩
  obtain ⟨e, hy⟩ := hy
  subst e
  have h3 := hy vs g1
  rw [h1] at h3
  cases h3
  exact ⟨μ, Nx.refl _ _, rh, h2⟩
theorem y_ref {a : Addr} {n f : Nat} (g : μ0[n]? = some a) : YOk P w K Γ H0 μ0 ⟨fun i M => match hSeq M (.ref n) with | some ys => some ys[i]? | none => none, f⟩ (Itl K a) := by
  intro i H μ M nx rh
  have e := nx.pre _ _ g
  have key : ∀ ys, hSeq M (.ref n) = some ys → ∃ vs, SqL K H a vs ∧ RVs K H μ ys vs := fun ys hy => by
    obtain ⟨b, vs, hb, hs, r⟩ := hRef_ok rh hy (.ref e)
    cases hb
    exact ⟨vs, hs, r⟩
  refine ⟨fun h => ?_, fun d h => ?_⟩
  · simp only at h
    split at h
    · rename_i ys hy
      obtain ⟨vs, hs, r⟩ := key ys hy
      exact ⟨vs, hs, r.getN (Option.some.inj h)⟩
    · cases h
  · simp only at h
    split at h
    · rename_i ys hy
      obtain ⟨vs, hs, r⟩ := key ys hy
      obtain ⟨v, h1, h2⟩ := r.get (Option.some.inj h)
      refine ⟨⟨vs, v, hs, h1⟩, fun x H2 hy => ?_⟩
      obtain ⟨e, hy⟩ := hy
      subst e
      have h3 := hy vs hs
      rw [h1] at h3
      cases h3
      exact ⟨μ, Nx.refl _ _, rh, h2⟩
    · cases h
theorem y_rg {lo : Int} {n : Nat} : YOk P w K Γ H0 μ0 (yRg lo n) (Itr lo n) := by
  intro i H μ M nx rh
  refine ⟨fun h => ?_, fun d h => ?_⟩
  · simp only [yRg] at h
    split at h
    · cases h
    · rename_i hn
      exact Nat.not_lt.mp hn
  · simp only [yRg] at h
    split at h
    · rename_i hn
      cases h
      refine ⟨hn, fun x H2 hy => ?_⟩
      obtain ⟨e, hy⟩ := hy
      subst e hy
      exact ⟨μ, Nx.refl _ _, rh, .int _⟩
    · cases h
theorem y_enumT {a : Addr} {vs : List V} {xs : List D} {f : Nat} (g : SqT K H0 a vs) (r : RVs K H0 μ0 xs vs) : YOk P w K Γ H0 μ0 ⟨fun i _ => some (match xs[i]? with | some x => some (.tup [.int (i : Nat), x]) | none => none), f⟩ (IteT K a) := by
  intro i H μ M nx rh
  refine ⟨fun h => ?_, fun d h => ?_⟩
  · simp only at h
    split at h
    · cases h
    · rename_i hx
      exact ⟨vs, nx.sqT g, (r.mono nx).getN hx⟩
  · simp only at h
    split at h
    · rename_i z hz
      cases h
      obtain ⟨v, h1, h2⟩ := (r.mono nx).get hz
      refine ⟨⟨vs, v, nx.sqT g, h1⟩, fun x H2 hy => ?_⟩
      obtain ⟨T, y, e1, hT, e2, hy⟩ := hy
      subst e1 e2
      have h3 := hy vs (nx.sqT g)
      rw [h1] at h3
      cases h3
      exact ⟨μ, Nx.fresh0 hT, rh.fresh hT, .tup (SqT.of upd_same) (.cons (.int _) (.cons (h2.mono (Nx.fresh0 hT)) .nil))⟩
    · cases h
theorem y_enumL {a : Addr} {n f : Nat} (g : μ0[n]? = some a) : YOk P w K Γ H0 μ0 ⟨fun i M => match hSeq M (.ref n) with | some ys => some (match ys[i]? with | some x => some (.tup [.int (i : Nat), x]) | none => none) | none => none, f⟩ (Ite K a) := by
  intro i H μ M nx rh
  have e := nx.pre _ _ g
  have key : ∀ ys, hSeq M (.ref n) = some ys → ∃ vs, SqL K H a vs ∧ RVs K H μ ys vs := fun ys hy => by
    obtain ⟨b, vs, hb, hs, r⟩ := hRef_ok rh hy (.ref e)
    cases hb
    exact ⟨vs, hs, r⟩
  refine ⟨fun h => ?_, fun d h => ?_⟩
  · simp only at h
    split at h
    · rename_i ys hy
      obtain ⟨vs, hs, r⟩ := key ys hy
      split at h
      · cases h
      · rename_i hx
        exact ⟨vs, hs, r.getN hx⟩
    · cases h
  · simp only at h
    split at h
    · rename_i ys hy
      obtain ⟨vs, hs, r⟩ := key ys hy
      split at h
      · rename_i z hz
        cases h
        obtain ⟨v, h1, h2⟩ := r.get hz
        refine ⟨⟨vs, v, hs, h1⟩, fun x H2 hy => ?_⟩
        obtain ⟨T, y, e1, hT, e2, hy⟩ := hy
        subst e1 e2
        have h3 := hy vs hs
        rw [h1] at h3
        cases h3
        exact ⟨μ, Nx.fresh0 hT, rh.fresh hT, .tup (SqT.of upd_same) (.cons (.int _) (.cons (h2.mono (Nx.fresh0 hT)) .nil))⟩
      · cases h
    · cases h
end
section
variable {X : Cx} {Γ : Gm} {W : WX} {tg a b e : Expr} {fa fb fe : MX} {p pos tpos : Pos} {elts : List Expr} {kk : Nat}
theorem pi_seq {l : Expr} {tl : TE} (hl : PE X l tl) : PI X tg l (fun σ H R => tl σ H fun x H1 => ∃ a, x = .ref a ∧ (((∃ xs, SqL X.K H1 a xs) ∧ R (Itl X.K a) H1) ∨ ((∃ xs, SqT X.K H1 a xs) ∧ R (Itt X.K a) H1))) := by
  refine ⟨fun pins s σ H R I h => ?_⟩
  refine thn (hl.run pins s σ H _ I h) fun v s1 ⟨x, H1, I1, r1, q1⟩ => ?_
  obtain ⟨a, e, q⟩ := q1
  subst e
  cases r1
  rcases q with ⟨⟨xs, hq⟩, q⟩ | ⟨⟨xs, hq⟩, q⟩
  · obtain ⟨its, rv, p, hz⟩ := I1.list hq
    refine wpAny_pyIter_list p.isList ?_
    refine ⟨s1.heap.objs.size, [s1.heap.objs.size], _, _, H1, rfl, I1.kept (t' := s1.toks) fun b o e => Heap.get?_push_of_some _ e, turn_list a _, ⟨_, Heap.get?_push_size _ rfl, rfl, rfl⟩, fun b hb => ?_, q⟩
    have e : b = s1.heap.objs.size := by simpa using hb
    subst e
    exact I1.fpOk (Nat.le_refl _) (I1.hok.fresh (Nat.le_refl _))
  · obtain ⟨its, rv, p, hz⟩ := I1.tuple hq
    refine wpAny_pyIter_tuple (show s1.heap.IsTuple a its.toArray from p) ?_
    refine ⟨s1.heap.objs.size, [s1.heap.objs.size], _, _, H1, rfl, I1.kept (t' := s1.toks) fun b o e => Heap.get?_push_of_some _ e, turn_tuple a _, ⟨_, Heap.get?_push_size _ rfl, rfl, rfl⟩, fun b hb => ?_, q⟩
    have e : b = s1.heap.objs.size := by simpa using hb
    subst e
    exact I1.fpOk (Nat.le_refl _) (I1.hok.fresh (Nat.le_refl _))
theorem ei_seq (he : EX X Γ W e fe) : EI X Γ W tg e (ySeq fe) :=
  PI.imp (pi_seq he) fun σ H R ⟨ζ, M, μ, rr, h⟩ => ⟨ζ, M, μ, rr, Pst.then h fun v H1 d M1 μ1 nx rh rv h1 => by
    replace rv : RV X.K H1 μ1 d v := rv
    cases rv with
    | tup g r => exact ⟨_, rfl, .inr ⟨⟨_, g⟩, h1 _ _ _ (Nx.refl _ _) rh (y_tup g r)⟩⟩
    | kls g r => exact ⟨_, rfl, .inl ⟨⟨_, g.sq⟩, h1 _ _ _ (Nx.refl _ _) rh (y_kls g r)⟩⟩
    | ref e1 =>
      simp only at h1
      split at h1
      · rename_i xs hx
        obtain ⟨b, vs, hb, hs, r⟩ := hRef_ok rh hx (.ref e1)
        cases hb
        exact ⟨_, rfl, .inl ⟨⟨_, hs⟩, h1 _ _ _ (Nx.refl _ _) rh (y_ref e1)⟩⟩
      · exact h1.elim
    | _ => exact h1.elim⟩
theorem ei_range1 (ha : EX X Γ W a fa) (hm : X.mg "range" = none) (hg : Gl X "range" := by rfl) (hs : starEach [a] X.env = [(false, eval a X.env)] := by rfl) : EI X Γ W tg (.Call (.Name "range" p) [a] [] pos) (yRg1 fa) :=
  PI.imp (pi_range1 hg hm (pa_cons ha pa_nil hs) hs) fun σ H R ⟨ζ, M, μ, rr, h⟩ => ⟨ζ, M, μ, rr, Pst.then h fun v H1 d M1 μ1 nx rh rv h1 => by
    cases d with
    | int j =>
      cases rv
      simp only at h1
      split at h1
      · rename_i hj
        obtain ⟨j1, j2⟩ := okRg_ok hj
        exact ⟨j, rfl, j1, j2, h1 _ _ _ (Nx.refl _ _) rh y_rg⟩
      · exact h1.elim
    | _ => exact h1.elim⟩
theorem ei_range2 (ha : EX X Γ W a fa) (hb : EX X Γ W b fb) (hm : X.mg "range" = none) (hg : Gl X "range" := by rfl) (hs : starEach [a, b] X.env = [(false, eval a X.env), (false, eval b X.env)] := by rfl)
    (hs2 : starEach [b] X.env = [(false, eval b X.env)] := by rfl) (hs3 : starEach [a, b] X.env = (false, eval a X.env) :: starEach [b] X.env := by rfl) : EI X Γ W tg (.Call (.Name "range" p) [a, b] [] pos) (yRg2 fa fb) :=
  PI.imp (pi_range2 hg hm (pa_cons ha (pa_cons hb pa_nil hs2) hs3) hs hs2) fun σ H R ⟨ζ, M, μ, rr, h⟩ => ⟨ζ, M, μ, rr, Pst.then h fun v H1 d M1 μ1 nx rh rv h1 => ⟨ζ, M1, μ1, ⟨rr.sl.mono nx, rh⟩, Pst.then h1 fun u H2 e M2 μ2 nx2 rh2 ru h2 => by
    replace rv : RV X.K H1 μ1 d v := rv
    replace ru : RV X.K H2 μ2 e u := ru
    split at h2
    · cases rv
      cases ru
      split at h2
      · rename_i hj
        rw [Bool.and_eq_true] at hj
        obtain ⟨i1, i2⟩ := okRg_ok hj.1
        obtain ⟨j1, j2⟩ := okRg_ok hj.2
        exact ⟨_, _, rfl, ⟨i1, i2, j1, j2⟩, h2 _ _ _ (Nx.refl _ _) rh2 y_rg⟩
      · exact h2.elim
    · exact h2.elim⟩⟩
theorem ei_enum (ha : EX X Γ W a fa) (hm : X.mg "enumerate" = none) (hg : Gl X "enumerate" := by rfl) (hs : starEach [a] X.env = [(false, eval a X.env)] := by rfl) : EI X Γ W (.Tuple elts kk tpos) (.Call (.Name "enumerate" p) [a] [] pos) (yEnum fa) :=
  PI.imp (pi_enumT hg hm (pa_cons ha pa_nil hs) hs) fun σ H R ⟨ζ, M, μ, rr, h⟩ => ⟨ζ, M, μ, rr, Pst.then h fun v H1 d M1 μ1 nx rh rv h1 => by
    replace rv : RV X.K H1 μ1 d v := rv
    cases rv with
    | tup g r => exact ⟨_, _, rfl, .inr ⟨g, h1 _ _ _ (Nx.refl _ _) rh (y_enumT g r)⟩⟩
    | ref e1 =>
      simp only at h1
      split at h1
      · rename_i xs hx
        obtain ⟨b, vs, hb, hs, r⟩ := hRef_ok rh hx (.ref e1)
        cases hb
        exact ⟨_, _, rfl, .inl ⟨hs, h1 _ _ _ (Nx.refl _ _) rh (y_enumL e1)⟩⟩
      · exact h1.elim
    | _ => exact h1.elim⟩
end
end Mi
end
section
set_option maxRecDepth 100000
set_option maxHeartbeats 2000000
set_option autoImplicit false
namespace Mi
open PySem PySem.Spec PyProof.Rows L2

def wipeD (ζ : Sl) : List Nat → Sl
  | [] => ζ
  | v :: vs => (wipeD ζ vs).set v none
def lcN (y : Nat → Hs → Option (Option D)) (p : Pt) (k : Sl → Hs → R Unit) (ζ : Sl) : Nat → Nat → Hs → R Unit
  | 0, _ => fun _ => .no
  | m + 1, i => fun M => match y i M with
    | none => .no
    | some none => .ok () M
    | some (some d) => match bindP p d with
      | none => .no
      | some l => match k (setAll ζ l) M with
        | .ok _ M' => lcN y p k ζ m (i + 1) M'
        | _ => .no
def lput (n : Nat) (v : D) (M : Hs) : R Unit := match hLst M n with
  | some acc => if acc.length < sizeLine then .ok () (M.set n (.lst (acc ++ [v]))) else .no
  | none => .no
def lcB (t : MT) (f : MX) (n : Nat) : Sl → Hs → R Unit := fun ζ M => match t ζ M with
  | .ok false M1 => .ok () M1
  | .ok true M1 => match f ζ M1 with
    | .ok v M2 => lput n v M2
    | _ => .no
  | _ => .no
def lcB2 (t : MT) (s : MY) (p1 : Pt) (vs1 : List Nat) (t1 : MT) (f : MX) (n : Nat) : Sl → Hs → R Unit := fun ζ M => match t ζ M with
  | .ok false M1 => .ok () M1
  | .ok true M1 => match s ζ M1 with
    | .ok yd M2 => lcN yd.y p1 (lcB t1 f n) (wipeD ζ vs1) yd.fuel 0 M2
    | _ => .no
  | _ => .no
def tTrue : MT := fun _ M => .ok true M
def xLc (s : MY) (vs : List Nat) (p : Pt) (t : MT) (f : MX) : MX := fun ζ M => (s ζ M).bind fun yd M1 => (lcN yd.y p (lcB t f M1.length) (wipeD ζ vs) yd.fuel 0 (M1 ++ [.lst []])).bind fun _ M2 => .ok (.ref M1.length) M2
def xLc2 (s : MY) (vs : List Nat) (p : Pt) (t : MT) (s1 : MY) (p1 : Pt) (vs1 : List Nat) (t1 : MT) (f : MX) : MX := fun ζ M => (s ζ M).bind fun yd M1 => (lcN yd.y p (lcB2 t s1 p1 vs1 t1 f M1.length) (wipeD ζ vs) yd.fuel 0 (M1 ++ [.lst []])).bind fun _ M2 => .ok (.ref M1.length) M2

theorem RSl.wiped {K : PySem.W.Frag} {H : Hp} {μ : List Addr} {ζ : Sl} {σ : L2.St} (r : RSl K H μ ζ σ) : ∀ vs : List Nat, RSl K H μ (wipeD ζ vs) (wipe σ vs)
  | [] => r
  | v :: vs => by
    have ih := RSl.wiped r vs
    refine ⟨by simp [wipeD, wipe, ih.len], fun i d h => ?_⟩
    simp only [wipeD] at h
    by_cases hi : v = i
    · subst hi
      by_cases hv : v < (wipeD ζ vs).length
      · rw [List.getElem?_set_self hv] at h; cases h
      · rw [List.getElem?_eq_none (by simpa using hv)] at h; cases h
    · rw [List.getElem?_set_ne hi] at h
      simp only [wipe]
      rw [List.getElem?_set_ne hi]
      exact ih.at_ i d h
theorem wipe_set {σ : L2.St} {i : Nat} {x : Option V} : ∀ {vs : List Nat}, i ∈ vs → wipe (σ.set i x) vs = wipe σ vs
  | [], h => by cases h
  | v :: vs, h => by
    simp only [wipe]
    by_cases hi : i ∈ vs
    · rw [wipe_set hi]
    · have hv : v = i := by
        rcases List.mem_cons.mp h with e | e
        · exact e.symm
        · exact absurd e hi
      subst hv
      rw [wipe_setn hi]
      rw [List.set_set]
where
  wipe_setn {σ : L2.St} {i : Nat} {x : Option V} : ∀ {vs : List Nat}, i ∉ vs → wipe (σ.set i x) vs = (wipe σ vs).set i x
    | [], _ => rfl
    | v :: vs, h => by
      have h1 : v ≠ i := fun e => h (by rw [e]; exact List.mem_cons_self)
      have h2 : i ∉ vs := fun m => h (List.mem_cons_of_mem _ m)
      simp only [wipe]
      rw [wipe_setn h2, List.set_comm _ _ (Ne.symm h1)]
theorem wipe_setAll : ∀ {l : List (Nat × V)} {σ : L2.St} {vs : List Nat}, (∀ p ∈ l, p.1 ∈ vs) → wipe (setAll σ l) vs = wipe σ vs
  | [], _, _, _ => rfl
  | (i, x) :: l, σ, vs, h => by
    show wipe (setAll (σ.set i (some x)) l) vs = _
    rw [wipe_setAll fun p hp => h p (List.mem_cons_of_mem _ hp), wipe_set (h (i, x) List.mem_cons_self)]
theorem wipe_wipe {σ : L2.St} : ∀ {vs us : List Nat}, (∀ v ∈ us, v ∈ vs) → wipe (wipe σ us) vs = wipe σ vs
  | _, [], _ => rfl
  | vs, u :: us, h => by
    show wipe ((wipe σ us).set u none) vs = _
    rw [wipe_set (h u List.mem_cons_self), wipe_wipe fun v hv => h v (List.mem_cons_of_mem _ hv)]
mutual
theorem bindP_slots : ∀ (p : Pt) {d : D} {l : List (Nat × D)}, bindP p d = some l → ∀ q ∈ l, q.1 ∈ p.slots
  | .n i, d, l, h => by
    simp only [bindP] at h
    cases h
    intro q hq
    simp only [List.mem_singleton] at hq
    subst hq
    simp [Pt.slots]
  | .t ps, d, l, h => by
    cases d with
    | tup ds => simp only [bindP] at h; simp only [Pt.slots]; exact bindPs_slots ps h
    | _ => simp [bindP] at h
theorem bindPs_slots : ∀ (ps : List Pt) {ds : List D} {l : List (Nat × D)}, bindPs ps ds = some l → ∀ q ∈ l, q.1 ∈ slotsOf ps
  | [], [], l, h => by simp only [bindPs] at h; cases h; intro q hq; cases hq
  | [], _ :: _, l, h => by simp [bindPs] at h
  | p :: ps, [], l, h => by simp [bindPs] at h
  | p :: ps, d :: ds, l, h => by
    simp only [bindPs] at h
    split at h
    · rename_i l1 l2 h1 h2
      cases h
      intro q hq
      simp only [slotsOf, List.mem_append]
      rcases List.mem_append.mp hq with hq | hq
      · exact .inl (bindP_slots p h1 q hq)
      · exact .inr (bindPs_slots ps h2 q hq)
    · cases h
end
theorem br_slots {K : PySem.W.Frag} {H : Hp} {μ : List Addr} {vs : List Nat} : ∀ {l : List (Nat × D)} {l' : List (Nat × V)}, BR K H μ l l' → (∀ q ∈ l, q.1 ∈ vs) → ∀ q ∈ l', q.1 ∈ vs
  | _, _, .nil, _ => fun q h => by cases h
  | _, _, .cons r t, h => fun q hq => by
    rcases List.mem_cons.mp hq with e | hq
    · subst e
      rw [← r.1]
      exact h _ List.mem_cons_self
    · exact br_slots t (fun q hq => h q (List.mem_cons_of_mem _ hq)) q hq
section
variable {X : Cx} {Γ : Gm} {W : WX}
/-- no exception leaves the block -/
abbrev W0 : WX := fun _ _ _ _ => False
/-- a turn of the block, told by its k -/
def Turned (P : Program) (w : World) (K : PySem.W.Frag) (Γ : Gm) (H1 : Hp) (μ1 : List Addr) (n : Nat) (D : Addr) (Q : Prop) : Prop := Q
theorem lput_ok {P : Program} {w : World} {K : PySem.W.Frag} {Γ : Gm} {n : Nat} {D' : Addr} {d : D} {v : V} {μ : List Addr} {M M' : Hs} {H : Hp} (rh : RH P w K Γ μ M H) (hn : μ[n]? = some D') (r : RV K H μ d v) (h : lput n d M = .ok () M') :
    ∃ acc, H D' = some (.lst acc) ∧ acc.length < sizeLine ∧ RH P w K Γ μ M' (upd H D' (.lst (acc ++ [v]))) ∧ Nx μ H μ (upd H D' (.lst (acc ++ [v]))) := by
  unfold lput at h
  split at h
  · rename_i acc hl
    obtain ⟨vs, g, ra⟩ := nlst rh (hLst_ok rh hl) hn
    split at h
    · rename_i hz
      cases h
      exact ⟨vs, g, by rw [← ra.length]; exact hz, rh.write hn (mutL g) ⟨_, upd_same, (ra.append (.cons r .nil)).mono (Nx.write (mutL g))⟩, Nx.write (mutL g)⟩
    · cases h
  · cases h
theorem ets_nil : PTs X [] (tT X.prog X.w X.K Γ W tTrue) := ⟨fun pins s σ H Q I ⟨ζ, M, μ, rr, h⟩ => pts_nil.run pins s σ H Q I (h _ _ _ (Nx.refl _ _) rr.hp rfl)⟩
theorem ets_one {c : Expr} {t : MT} (h : ET X Γ W c t) : PTs X [c] (tT X.prog X.w X.K Γ W t) := pts_one h
abbrev ETs (X : Cx) (Γ : Gm) (W : WX) (ifs : List Expr) (t : MT) : Prop := PTs X ifs (tT X.prog X.w X.K Γ W t)
variable {elt tg iter tg1 iter1 : Expr} {ifs ifs1 : List Expr} {scope : Scope} {own : List (Str × Nat)} {pos : Pos} {s s1 : MY} {p p1 : Pt} {t t1 : MT} {f : MX} {vs1 : List Nat}
theorem tLc_of {vs : List Nat} {σ : L2.St} {H : Hp} {Q : VK} (hp : ∀ i ∈ p.slots, i ∈ vs) (h : tX X.prog X.w X.K Γ W (xLc s vs p t f) σ H Q) :
    tLc (iY X.prog X.w X.K Γ W s) (gP X.prog X.w X.K Γ p) (tT X.prog X.w X.K Γ W0 t) (tX X.prog X.w X.K Γ W0 f) vs σ H Q := by
  obtain ⟨ζ, M, μ, rr, h⟩ := h
  refine ⟨ζ, M, μ, rr, Pst.then h fun J H1 yd M1 μ1 nx rh rv h1 => fun D' hD => ?_⟩
  have nx0 : Nx μ1 H1 (μ1 ++ [D']) (upd H1 D' (.lst [])) := Nx.fresh hD [D']
  have rh0 : RH X.prog X.w X.K Γ (μ1 ++ [D']) (M1 ++ [.lst []]) (upd H1 D' (.lst [])) := rh.alloc hD ⟨[], upd_same, .nil⟩
  refine ⟨fun i m H => ∃ M μ, Nx μ1 H1 μ H ∧ RH X.prog X.w X.K Γ μ M H ∧ μ[M1.length]? = some D' ∧
    Pst X.prog X.w X.K Γ (relV X.K) W σ μ H ((lcN yd.y p (lcB t f M1.length) (wipeD ζ vs) m i M).bind fun _ M2 => .ok (.ref M1.length) M2) Q,
    ⟨yd.fuel, _, _, nx0, rh0, rh.last, Pst.mono h1 nx0⟩, ?_⟩
  rintro i m H2 ⟨M2, μ2, nx2, rh2, hn, h2⟩
  cases m with
  | zero => exact h2.elim
  | succ m =>
    obtain ⟨st, go⟩ := rv i H2 μ2 M2 nx2 rh2
    simp only [lcN] at h2
    split at h2
    · exact h2.elim
    · rename_i hy
      exact .inl ⟨st hy, h2 _ _ _ (Nx.refl _ _) rh2 (.ref hn)⟩
    · rename_i d hy
      obtain ⟨g1, g2⟩ := go d hy
      refine .inr ⟨g1, fun H' => ∃ M μ, Nx μ1 H1 μ H' ∧ RH X.prog X.w X.K Γ μ M H' ∧ μ[M1.length]? = some D' ∧
        Pst X.prog X.w X.K Γ (relV X.K) W σ μ H' ((lcN yd.y p (lcB t f M1.length) (wipeD ζ vs) m (i + 1) M).bind fun _ M2 => .ok (.ref M1.length) M2) Q, fun H' q => ⟨m, Nat.lt_succ_self _, q⟩, fun x H3 hx => ?_⟩
      obtain ⟨μ3, nx3, rh3, rv3⟩ := g2 x H3 hx
      refine ⟨d, M2, μ3, rh3, rv3, ?_⟩
      split at h2
      · exact h2.elim
      · rename_i l hl
        rw [hl]
        intro l' br
        have hs : ∀ q ∈ l', q.1 ∈ vs := br_slots br fun q hq => hp _ (bindP_slots p hl q hq)
        refine ⟨(wipe_setAll hs).trans (wipe_wipe fun _ h => h), ?_⟩
        have sl3 : RSl X.K H3 μ3 (setAll (wipeD ζ vs) l) (setAll (wipe σ vs) l') := RSl.setAll br (((rr.sl.mono nx).mono (nx2.trans nx3)).wiped vs)
        have n3 := nx2.trans nx3
        have hn3 := nx3.pre _ _ hn
        have h3 := Pst.mono h2 nx3
        refine ⟨_, M2, μ3, ⟨sl3, rh3⟩, ?_⟩
        unfold lcB at h3
        cases ht : t (setAll (wipeD ζ vs) l) M2 with
        | ex c fs M4 => rw [ht] at h3; exact h3.elim
        | no => rw [ht] at h3; exact h3.elim
        | ok b M4 =>
          rw [ht] at h3
          intro b' H4 μ4 nx4 rh4 rb
          have rb : b = b' := rb
          subst rb
          have h4 := Pst.mono h3 nx4
          cases b with
          | false =>
            rw [if_neg Bool.false_ne_true]
            exact ⟨M4, μ4, n3.trans nx4, rh4, nx4.pre _ _ hn3, h4⟩
          | true =>
            rw [if_pos rfl]
            refine ⟨_, M4, μ4, ⟨sl3.mono nx4, rh4⟩, ?_⟩
            simp only at h4
            cases hf : f (setAll (wipeD ζ vs) l) M4 with
            | ex c fs M5 => rw [hf] at h4; exact h4.elim
            | no => rw [hf] at h4; exact h4.elim
            | ok v M5 =>
              rw [hf] at h4
              intro z H5 μ5 nx5 rh5 rz
              have h5 := Pst.mono h4 nx5
              simp only at h5
              cases hput : lput M1.length v M5 with
              | ex c fs M6 => rw [hput] at h5; exact h5.elim
              | no => rw [hput] at h5; exact h5.elim
              | ok u M6 =>
                rw [hput] at h5
                have hn5 := nx5.pre _ _ (nx4.pre _ _ hn3)
                obtain ⟨acc, ha, hz, rh6, nx6⟩ := lput_ok rh5 hn5 rz hput
                exact ⟨acc, ha, hz, M6, μ5, ((n3.trans nx4).trans nx5).trans nx6, rh6, hn5, Pst.mono h5 nx6⟩
theorem ex_lc (hc : X.calm = true) (hN : X.N.Nodup) (hi : EI X Γ W tg iter s) (ok : BlkOk X.N X.env.scope scope own) (hp : ∀ i ∈ p.slots, i ∈ own.map (·.2))
    (hg : ∀ (s : Shared) (H : Hp) (C : Addr) (cl : List (Str × Addr)) (fp : List Addr), EG (X.blk s H scope (compEnvC scope cl C X.env) fp) Γ tg p) (ht : ∀ (s : Shared) (H : Hp) (C : Addr) (cl : List (Str × Addr)) (fp : List Addr), ETs (X.blk s H scope (compEnvC scope cl C X.env) fp) Γ W0 ifs t)
    (he : ∀ (s : Shared) (H : Hp) (C : Addr) (cl : List (Str × Addr)) (fp : List Addr), EX (X.blk s H scope (compEnvC scope cl C X.env) fp) Γ W0 elt f) (hs : ∀ x, foldedSetIterable iter X.env x = pure x := by intro _; rfl) :
    EX X Γ W (.ListComp elt [⟨tg, iter, ifs, 0⟩] scope pos) (xLc s (own.map (·.2)) p t f) :=
  PE.imp (pe_lc hc hN hi ok hg ht he hs) fun σ H Q h => tLc_of hp h
/-- name = [..], the name a local on one line -/
theorem es_setLc (i : Nat) {y : Str} {py spos : Pos} (hc : X.calm = true) (hN : X.N.Nodup) (hi : EI X Γ W tg iter s) (ok : BlkOk X.N X.env.scope scope own) (hp : ∀ i ∈ p.slots, i ∈ own.map (·.2))
    (hg : ∀ (s : Shared) (H : Hp) (C : Addr) (cl : List (Str × Addr)) (fp : List Addr), EG (X.blk s H scope (compEnvC scope cl C X.env) fp) Γ tg p) (ht : ∀ (s : Shared) (H : Hp) (C : Addr) (cl : List (Str × Addr)) (fp : List Addr), ETs (X.blk s H scope (compEnvC scope cl C X.env) fp) Γ W0 ifs t)
    (he : ∀ (s : Shared) (H : Hp) (C : Addr) (cl : List (Str × Addr)) (fp : List Addr), EX (X.blk s H scope (compEnvC scope cl C X.env) fp) Γ W0 elt f)
    (hsw : swapsWith (.ListComp elt [⟨tg, iter, ifs, 0⟩] scope pos) (some (.Name y py)) spos.line X.env = pure true) (hy : X.N[i]? = some y := by rfl) (hyl : X.env.scope.names.lookup y = some .local := by rfl)
    (hs : ∀ x, foldedSetIterable iter X.env x = pure x := by intro _; rfl) : ES X Γ W (.Assign [.Name y py] (.ListComp elt [⟨tg, iter, ifs, 0⟩] scope pos) spos) (sSet i (xLc s (own.map (·.2)) p t f)) :=
  PS.imp (ps_setLc hc hN hy hyl hsw hi ok hg ht he hs) fun E σ H ⟨ζ, M, μ, rr, h⟩ => tLc_of hp ⟨ζ, M, μ, rr, PstS.then h rr.sl fun v H1 d M1 μ1 nx rh rv h1 => h1 _ _ _ (Nx.refl _ _) rh ((rr.sl.mono nx).set rv i)⟩
end

def spF (P : Program) (w : World) (K : PySem.W.Frag) (Γ : Gm) (n : Nat) (F : MF) : Sp := fun vs H Q E => ∃ ds M μ, RH P w K Γ μ M H ∧ RVs K H μ ds vs ∧ ds.length = n ∧ match F ds M with
  | .ok d M' => ∀ v H' μ', Nx μ H μ' H' → RH P w K Γ μ' M' H' → RV K H' μ' d v → Q v H'
  | .ex c fs M' => ∀ cls dd H' μ', Nx μ H μ' H' → RH P w K Γ μ' M' H' → RX K Γ H' μ' c fs cls dd → E cls dd H'
  | .no => False
/-- a def of the module that does what F does -/
structure Cal (P : Program) (w : World) (K : PySem.W.Frag) (mg : Str → Option Value) (base : Heap) (Γ : Gm) (k : Nat) (x : Str) (ps : List Str) (F : MF) : Prop where
  ex : ∃ f fd, FnOk P w K mg base (L2.CX P w) k f fd ps (spF P w K Γ ps.length F) ∧ mg x = some (.ref f) ∧ PySem.W.keepIn K (.ref f) = true ∧ Binds K fd ps []
theorem Cal.mono {P : Program} {w : World} {K : PySem.W.Frag} {mg : Str → Option Value} {base : Heap} {Γ : Gm} {j k : Nat} {x : Str} {ps : List Str} {F : MF} (c : Cal P w K mg base Γ j x ps F) (h : j ≤ k) : Cal P w K mg base Γ k x ps F :=
  ⟨let ⟨f, fd, F, a, b, d⟩ := c.ex; ⟨f, fd, F.mono h, a, b, d⟩⟩
def xCall (n : Nat) (F : MF) (ga : MA) : MX := fun ζ M => (ga ζ M).bind fun ds M1 => if ds.length = n then F ds M1 else .no
section
variable {X : Cx} {Γ : Gm} {W : WX} {e : Expr} {es : List Expr} {ga : MA} {k : Nat} {x : Str} {ps : List Str} {F : MF} {p pos : Pos}
theorem spF_of {n : Nat} {σ : L2.St} {μ : List Addr} {H : Hp} {ds : List D} {vs : List V} {M : Hs} {Q : VK} (rh : RH X.prog X.w X.K Γ μ M H) (r : RVs X.K H μ ds vs) (h : Pst X.prog X.w X.K Γ (relV X.K) W σ μ H (if ds.length = n then F ds M else .no) Q) :
    spF X.prog X.w X.K Γ n F vs H Q (WE W σ) := by
  split at h
  · rename_i hl
    refine ⟨ds, M, μ, rh, r, hl, ?_⟩
    cases hF : F ds M with
    | ok d M' => rw [hF] at h; exact h
    | ex c fs M' => rw [hF] at h; exact h
    | no => rw [hF] at h; exact h
  · exact h.elim
theorem ex_call (c : Cal X.prog X.w X.K X.mg X.base Γ k x ps F) (hr : Room k X.A) (tk : Takes X W) (ha : EA X Γ W (e :: es) ga) (hg : Gl X x := by rfl) (hdb : (x == ("__debug__" : Str)) = false := by decide)
    (he : starEach (e :: es) X.env = (false, eval e X.env) :: starEach es X.env := by rfl) (hpl : (backTo pos (starEach es X.env)).any (·.1) = false := by rfl) : EX X Γ W (.Call (.Name x p) (e :: es) [] pos) (xCall ps.length F ga) := by
  obtain ⟨f, fd, F', hm, hk, hb⟩ := c.ex
  exact PE.imp (pe_callSD (E := WE W) F' hr hg hm hk hb .nil (fun σ => passAt tk σ) ha hdb he hpl) fun σ H Q ⟨ζ, M, μ, rr, h⟩ => ⟨ζ, M, μ, rr, Pst.then h fun vs H1 ds M1 μ1 nx rh rv h1 => by
    rw [List.append_nil]
    exact spF_of rh rv h1⟩
theorem ex_call0 (c : Cal X.prog X.w X.K X.mg X.base Γ k x ps F) (hr : Room k X.A) (tk : Takes X W) (hg : Gl X x := by rfl) (hdb : (x == ("__debug__" : Str)) = false := by decide) : EX X Γ W (.Call (.Name x p) [] [] pos) (xCall ps.length F aNil) := by
  obtain ⟨f, fd, F', hm, hk, hb⟩ := c.ex
  refine ⟨fun pins s σ H Q I h => ?_⟩
  obtain ⟨ζ, M, μ, rr, h⟩ := h
  refine wpAny_Call_Name_kw (ld_glob I hg hm ?_ hdb)
  exact PySem.W.callWith_K0 I.kIn hk (run_fnSD (us := []) (E := WE W) F' hr hb .nil (passAt tk σ) I .nil (spF_of rr.hp .nil h))
end
/-- a def by its body: np parameters, nl names -/
def fnS (np nl : Nat) (b : MS) : MF := fun ds M => match b (ds.map some ++ List.replicate (nl - np) none) M with
  | .nx _ M' => .ok .non M'
  | .rt d M' => .ok d M'
  | .ex c fs _ M' => .ex c fs M'
  | _ => .no
section
variable {P : Program} {w : World} {K : PySem.W.Frag} {mg : Str → Option Value} {base : Heap} {Γ : Gm}
theorem rsl_start {H : Hp} {μ : List Addr} {ds : List D} {vs : List V} {N : List Str} {n : Nat} (r : RVs K H μ ds vs) (hn : ds.length = n) : RSl K H μ (ds.map some ++ List.replicate (N.length - n) none) (L2.start N vs) := by
  have hl := r.length
  refine ⟨by unfold L2.start; simp only [List.length_append, List.length_map, List.length_replicate]; omega, fun i d h => ?_⟩
  by_cases hi : i < ds.length
  · rw [List.getElem?_append_left (by simpa using hi), List.getElem?_map] at h
    cases e : ds[i]? with
    | none => rw [e] at h; cases h
    | some d' =>
      rw [e] at h
      cases h
      obtain ⟨v, h1, h2⟩ := r.get e
      refine ⟨v, ?_, h2⟩
      unfold L2.start
      rw [List.getElem?_append_left (by simpa using (List.getElem?_eq_some_iff.mp h1).1), List.getElem?_map, h1]
      rfl
  · rw [List.getElem?_append_right (by simpa using hi), List.getElem?_replicate] at h
    split at h <;> cases h
theorem fn_mk {qual : Str} {params : Arguments} {body : List Stmt} {scope : Scope} {f : Addr} {fd : FuncData} {x : Str} {N ps : List Str} {k : Nat} {b : MS} (F : FunD K x qual params body scope [] [] f fd) (S : FnScope N ps scope)
    (hbody : ∀ (cdv : Value) (A : Around) (outer : List Env) (s : Shared) (H : Hp) (E : XK), Room k (A.deeper (envOfC qual scope s.heap.objs.size f cdv)) →
      ESs (cxOf (L2.CX P w) P w K mg base N qual scope f cdv A outer s H E) Γ (fun cls d _ H => E cls d H) body b) : FnOk P w K mg base (L2.CX P w) (k + 1) f fd ps (spF P w K Γ ps.length (fnS ps.length N.length b)) := by
  refine F.ok S (fun vs H Q E ⟨ds, M, μ, rh, r, hl, _⟩ => by rw [← r.length]; exact hl) fun cdv A outer s H vs Q E hr h => ?_
  obtain ⟨ds, M, μ, rh, r, hl, h⟩ := h
  refine ⟨_, hbody cdv A outer s H E hr, _, M, μ, ⟨rsl_start (N := N) r hl, rh⟩, ?_⟩
  unfold fnS at h
  cases hb : b (ds.map some ++ List.replicate (N.length - ps.length) none) M with
  | nx ζ M' => rw [hb] at h; exact fun σ' H' μ' a c _ => h _ _ _ a c .non
  | rt d M' => rw [hb] at h; exact h
  | bk ζ M' => rw [hb] at h; exact h.elim
  | ct ζ M' => rw [hb] at h; exact h.elim
  | ex c fs ζ M' => rw [hb] at h; exact fun cls dd σ' H' μ' a c _ e => h cls dd H' μ' a c e
  | no => rw [hb] at h; exact h.elim
end
end Mi
end
section
set_option maxRecDepth 100000
set_option maxHeartbeats 2000000
set_option autoImplicit false
namespace Mi
open PySem PySem.Spec PyProof.Rows L2

def isTupD : D → Bool
  | .tup _ => true
  | _ => false
/-- the key of a dict's look-up -/
def keyOf (d : D) : Option NestedKey := if isTupD d = true then match nkey d with
  | some k => if k.depth ≤ 8 then some k else none
  | none => none else none
def dGet (kvs : List (D × D)) (k : NestedKey) : Option D := (kvs.find? fun p => decide (nkey p.1 = some k)).map (·.2)
def dPut (kvs : List (D × D)) (k : NestedKey) (d v : D) : List (D × D) := if (dGet kvs k).isSome then kvs.map fun p => if nkey p.1 = some k then (p.1, v) else p else kvs ++ [(d, v)]
section
variable {X : Cx} {pins : List (Addr × Obj)} {σ : L2.St} {H : Hp} {s : Shared} {μ : List Addr}
mutual
theorem nest_of (I : Inv X pins σ H s) : ∀ {d : D} {v : V} {u : Value} {k : NestedKey}, RV X.K H μ d v → RelV v u → nkey d = some k → NestedIs s.heap k u
  | _, _, _, _, .non, r, h => by cases r; simp only [nkey] at h; cases h; exact .none
  | _, _, _, _, .bl b, r, h => by cases r; simp only [nkey] at h; cases h; exact .bool rfl
  | _, _, _, _, .int i, r, h => by obtain ⟨t, rfl⟩ := r; simp only [nkey] at h; cases h; exact .int i t
  | _, _, _, _, .str x, r, h => by obtain ⟨t, rfl⟩ := r; simp only [nkey] at h; cases h; exact .text x t
  | _, _, _, _, .tup g rs, r, h => by
    cases r
    simp only [nkey] at h
    obtain ⟨its, rv, ⟨o, ho, hc, n, hd⟩, _⟩ := I.tuple g
    cases e : nkeys _ with
    | none => rw [e] at h; cases h
    | some ks =>
      rw [e] at h
      cases h
      exact .tup ho hc hd (nests_of I rs (by simpa using rv) e)
  | _, _, _, _, .ref _, _, h => by simp [nkey] at h
  | _, _, _, _, .kls _ _, _, h => by simp [nkey] at h
  | _, _, _, _, .excN, _, h => by simp [nkey] at h
  | _, _, _, _, .excD _ _ _, _, h => by simp [nkey] at h
theorem nests_of (I : Inv X pins σ H s) : ∀ {ds : List D} {vs : List V} {us : List Value} {ks : List NestedKey}, RVs X.K H μ ds vs → Vals vs us → nkeys ds = some ks → NestedAll s.heap ks us
  | _, _, _, _, .nil, r, h => by cases r; simp only [nkeys] at h; cases h; exact .nil
  | _, _, _, _, .cons a b, r, h => by
    cases r with
    | cons r1 r2 =>
      simp only [nkeys] at h
      split at h
      · rename_i k ks h1 h2
        cases h
        exact .cons (nest_of I a r1 h1) (nests_of I b r2 h2)
      · cases h
end
theorem keyOf_ok {d : D} {k : NestedKey} (h : keyOf d = some k) : nkey d = some k ∧ k.depth ≤ 8 ∧ isTupD d = true := by
  unfold keyOf at h
  split at h
  · rename_i ht
    split at h
    · rename_i k' hk
      split at h
      · rename_i hd
        cases h
        exact ⟨hk, hd, ht⟩
      · cases h
    · cases h
  · cases h
theorem key_is (I : Inv X pins σ H s) {d : D} {v : V} {u : Value} {k : NestedKey} (h : keyOf d = some k) (r : RV X.K H μ d v) (ru : RelV v u) : ∃ a, v = .ref a ∧ u = .ref a ∧ (nestedKind X.prog X.w).is s.heap k a := by
  obtain ⟨h1, h2, h3⟩ := keyOf_ok h
  have n := nest_of I r ru h1
  cases r with
  | tup g rs => cases ru; exact ⟨_, rfl, rfl, n, h2⟩
  | _ => cases h3
theorem entries (I : Inv X pins σ H s) {kvs : List (D × D)} {es : List (NestedKey × Addr × V)} (r : Paired (REn X.K H μ) kvs es) : ∀ {xs : List (NestedKey × Addr × Value)}, Paired (fun (p : NestedKey × Addr × V) (q : NestedKey × Addr × Value) => p.1 = q.1 ∧ p.2.1 = q.2.1 ∧ RelV p.2.2 q.2.2) es xs → ∀ x ∈ xs, (nestedKind X.prog X.w).is s.heap x.1 x.2.1 := by
  induction r with
  | nil => intro xs h x hx; cases h; cases hx
  | cons r1 r2 ih =>
    intro xs h x hx
    cases h with
    | cons q1 q2 =>
      rcases List.mem_cons.mp hx with e | hx
      · subst e
        obtain ⟨h1, h2, h3, _⟩ := r1
        obtain ⟨e1, e2, _⟩ := q1
        rw [← e1, ← e2]
        exact ⟨nest_of (u := .ref _) I h3 rfl h1, h2⟩
      · exact ih q2 x hx
theorem dict_at (I : Inv X pins σ H s) {kvs : List (D × D)} {es : List (NestedKey × Addr × V)} {a : Addr} (r : Paired (REn X.K H μ) kvs es) (g : Rd H a (dHO X.prog X.w a es)) : ∃ xs, Paired (fun (p : NestedKey × Addr × V) (q : NestedKey × Addr × Value) => p.1 = q.1 ∧ p.2.1 = q.2.1 ∧ RelV p.2.2 q.2.2) es xs ∧
    s.heap.DictOfH (nestedKind X.prog X.w) a xs ∧ (a == sysModules) = false ∧ xs.length ≤ sizeLine := by
  obtain ⟨⟨xs, p, o, ds, ep, ho, hx, hd, he, hn, hs, hl⟩, _⟩ := g.ok I.hok
  exact ⟨xs, p, ⟨o, ds, ep, ho, hx, hd, he, entries I r p, hn⟩, hs, hl⟩
theorem atKey_of {K : PySem.W.Frag} {k : NestedKey} : ∀ {kvs : List (D × D)} {es : List (NestedKey × Addr × V)} {xs : List (NestedKey × Addr × Value)}, Paired (REn K H μ) kvs es → Paired (fun (p : NestedKey × Addr × V) (q : NestedKey × Addr × Value) => p.1 = q.1 ∧ p.2.1 = q.2.1 ∧ RelV p.2.2 q.2.2) es xs →
    (match dGet kvs k with
      | some d => ∃ p v, atKey xs k = some p ∧ RelV v p.2 ∧ RV K H μ d v
      | none => atKey xs k = none)
  | _, _, _, .nil, .nil => rfl
  | (d, v) :: kvs, (k', a, z) :: es, (k'', a', u) :: xs, .cons ⟨h1, h2, h3, h4⟩ r, .cons ⟨e1, e2, e3⟩ q => by
    have e1 : k' = k'' := e1
    have e2 : a = a' := e2
    subst e1 e2
    have h1 : nkey d = some k' := h1
    unfold dGet atKey
    rw [List.find?_cons, List.find?_cons]
    by_cases hk : k' = k
    · subst hk
      have c1 : decide (nkey d = some k') = true := decide_eq_true h1
      simp only [c1]
      simp only [decide_eq_true_eq, decide_true, Option.map_some]
      exact ⟨_, z, rfl, e3, h4⟩
    · have c1 : decide (nkey d = some k) = false := decide_eq_false (by rw [h1]; exact fun e => hk (Option.some.inj e))
      have c2 : decide (k' = k) = false := decide_eq_false hk
      simp only [c1, c2]
      exact atKey_of r q
theorem puts_of {K : PySem.W.Frag} {k : NestedKey} {d : D} {a : Addr} {v : V} {w' : D} {u : Value} (hk : nkey d = some k) (hd : k.depth ≤ 8) (rk : RV K H μ d (.ref a)) (rv : RV K H μ w' v) (ru : RelV v u) {kvs : List (D × D)} {es : List (NestedKey × Addr × V)} {xs : List (NestedKey × Addr × Value)} (r : Paired (REn K H μ) kvs es)
    (q : Paired (fun (p : NestedKey × Addr × V) (q : NestedKey × Addr × Value) => p.1 = q.1 ∧ p.2.1 = q.2.1 ∧ RelV p.2.2 q.2.2) es xs) :
    ∃ es', Paired (REn K H μ) (dPut kvs k d w') es' ∧ Paired (fun (p : NestedKey × Addr × V) (q : NestedKey × Addr × Value) => p.1 = q.1 ∧ p.2.1 = q.2.1 ∧ RelV p.2.2 q.2.2) es' (storedH xs k a u) := by
  have ha := atKey_of (k := k) r q
  unfold dPut storedH
  cases hg : dGet kvs k with
  | none =>
    rw [hg] at ha
    simp only at ha
    rw [ha]
    exact ⟨es ++ [(k, a, v)], paired_app r (.cons ⟨hk, hd, rk, rv⟩ .nil), paired_app q (.cons ⟨rfl, rfl, ru⟩ .nil)⟩
  | some d0 =>
    rw [hg] at ha
    simp only at ha
    obtain ⟨p, v0, e, _, _⟩ := ha
    rw [e]
    simp only [Option.isSome_some, if_true]
    refine ⟨es.map fun p => if p.1 = k then (p.1, p.2.1, v) else p, ?_, ?_⟩
    · clear q hg e
      induction r with
      | nil => exact .nil
      | @cons p1 q1 _ _ h t ih =>
        refine .cons ?_ ih
        obtain ⟨h1, h2, h3, h4⟩ := h
        dsimp only
        by_cases hk' : q1.1 = k
        · rw [if_pos hk', if_pos (by rw [h1, hk'])]
          exact ⟨h1, h2, h3, rv⟩
        · rw [if_neg hk', if_neg (by rw [h1]; exact fun e => hk' (Option.some.inj e))]
          exact ⟨h1, h2, h3, h4⟩
    · clear r hg e
      induction q with
      | nil => exact .nil
      | @cons p1 q1 _ _ h t ih =>
        refine .cons ?_ ih
        obtain ⟨h1, h2, h3⟩ := h
        unfold putAt
        dsimp only
        by_cases hk' : p1.1 = k
        · rw [if_pos hk', if_pos (by rw [← h1]; exact hk')]
          exact ⟨h1, h2, ru⟩
        · rw [if_neg hk', if_neg (by rw [← h1]; exact hk')]
          exact ⟨h1, h2, h3⟩
end

def hDct (M : Hs) (n : Nat) : Option (List (D × D)) := match M[n]? with
  | some (.dct kvs) => some kvs
  | _ => none
theorem hDct_ok {M : Hs} {n : Nat} {kvs : List (D × D)} (h : hDct M n = some kvs) : M[n]? = some (.dct kvs) := by
  unfold hDct at h
  split at h
  · cases h
    assumption
  · cases h
def xDict : MX := fun _ M => .ok (.ref M.length) (M ++ [.dct []])
def gInA (k : Bool → Bool) (x y : D) (M : Hs) : Option (D × Hs) := match y with
  | .ref n => match hDct M n with
    | some kvs => match keyOf x with
      | some q => some (.bl (k (dGet kvs q).isSome), M)
      | none => none
    | none => gInB k x y M
  | _ => gInB k x y M
def gIxA (x y : D) (M : Hs) : Option (D × Hs) := match x with
  | .ref n => match hDct M n with
    | some kvs => match keyOf y with
      | some q => match dGet kvs q with
        | some d => some (d, M)
        | none => none
      | none => none
    | none => gIx x y M
  | _ => gIx x y M
def gPutA (o i v : D) (M : Hs) : Option Hs := match o with
  | .ref n => match hDct M n with
    | some kvs => match keyOf i with
      | some q => if kvs.length < sizeLine then some (M.set n (.dct (dPut kvs q i v))) else none
      | none => none
    | none => gPutL o i v M
  | _ => gPutL o i v M
section
variable {X : Cx} {Γ : Gm} {W : WX} {a b : Expr} {fa fb : MX} {pos : Pos}
theorem ex_dict : EX X Γ W (.Dict [] [] pos) xDict := ⟨fun pins s σ H Q I ⟨ζ, M, μ, rr, h⟩ => by
  have hp := I.hok.fresh (Nat.le_refl s.heap.objs.size)
  refine wpAny_Dict_empty ⟨.ref s.heap.objs.size, _, I.laid (a := s.heap.objs.size) (o := dHO X.prog X.w s.heap.objs.size []) (t' := s.toks) (fun _ _ q => Heap.get?_push_of_some _ q) (Nat.le_refl _) ?_, rfl,
    h _ _ _ (Nx.fresh hp [_]) (rr.hp.alloc hp ⟨[], upd_same, .nil⟩) (.ref rr.hp.last)⟩
  have ho := Heap.get?_push_size s.heap (o := { cls := .type "dict", data := .dict #[] }) rfl
  refine ⟨⟨[], .nil, _, #[], 0, ho, ⟨rfl, rfl, rfl⟩, rfl, rfl, List.nodup_nil, beq_eq_false_iff_ne.mpr (Ne.symm (Nat.ne_of_lt I.big)), Nat.zero_le _⟩, ⟨_, ho⟩, ?_⟩
  rintro h1 h2 ⟨xs, p, o, ds, ep, ho, r⟩ k
  exact ⟨xs, p, o, ds, ep, k _ ho, r⟩⟩
theorem dExt {P : Program} {w : World} {d : Addr} {es : List (NestedKey × Addr × V)} : ∀ h1 h2 : Heap, dObj P w d es h1 → (∀ o, h1.get? d = some o → h2.get? d = some o) → dObj P w d es h2 := by
  rintro h1 h2 ⟨xs, p, o, ds, ep, ho, r⟩ k
  exact ⟨xs, p, o, ds, ep, k _ ho, r⟩
theorem ndct {P : Program} {w : World} {K : PySem.W.Frag} {μ : List Addr} {H : Hp} {M : Hs} (rh : RH P w K Γ μ M H) {n : Nat} {a : Addr} {kvs : List (D × D)} (h : hDct M n = some kvs) (e : μ[n]? = some a) : ∃ es, H a = some (dHO P w a es) ∧ Paired (REn K H μ) kvs es := rh.at_ n _ a (hDct_ok h) e
theorem m_inA (hr : Room 1 X.A) : Op2 X Γ (compareOp .In) (gInA id) := by
  have hu := hr.un
  intro pins s σ H x y v u Q I rx ry hq
  obtain ⟨d, e, M, μ, rh, rd, re, hq⟩ := hq
  unfold gInA at hq
  split at hq
  · split at hq
    · rename_i n kvs hk
      split at hq
      · rename_i q hq'
        obtain ⟨b, rfl, e1⟩ := ref_rel re
        cases ry
        obtain ⟨es, g, r⟩ := ndct rh hk e1
        obtain ⟨xs, p, hd, hs, _⟩ := dict_at I r (.inl g)
        obtain ⟨c, rfl, rfl, hi⟩ := key_is I hq' rd rx
        have ha := atKey_of (k := q) r p
        refine wpAny_in_heap (by show X.A.units + 1 + 8 < cLine; omega) hi hs hd ?_
        cases hg : dGet kvs q with
        | none =>
          rw [hg] at ha hq
          have ha : atKey xs q = none := ha
          rw [ha]
          exact ⟨.bl false, H, I.tok _, rfl, Pk.here rh hq (.bl _)⟩
        | some d0 =>
          rw [hg] at ha hq
          obtain ⟨p0, v0, e0, _, _⟩ := ha
          rw [e0]
          exact ⟨.bl true, H, I.tok _, rfl, Pk.here rh hq (.bl _)⟩
      · exact hq.elim
    · exact m_in (by omega) pins s σ H x y v u Q I rx ry ⟨_, _, M, μ, rh, rd, re, hq⟩
  · exact m_in (by omega) pins s σ H x y v u Q I rx ry ⟨_, _, M, μ, rh, rd, re, hq⟩
theorem wpAny_notIn_heap {prog : Program} {w : World} {K : Type} [DecidableEq K] {knd : HeapKind prog w K} {A : Around} {E : Value → Shared → Prop} {s : Shared} {d a : Addr} {k : K} {xs : List (K × Addr × Value)} {Q : Value → Shared → Prop} (hu : knd.room A.in1) (hkey : knd.is s.heap k a) (hd : (d == sysModules) = false) (hm : s.heap.DictOfH knd d xs)
    (h : Q (.bool (!(atKey xs k).isSome)) { s with toks := s.toks + knd.draws k }) : wpAny (model prog w) A (compareOp .NotIn (.ref a) (.ref d)) Q E s :=
  notIn_keyed (kvs := pairsH xs) hu hkey hd ⟨xs, hm, rfl⟩ (by rw [valueAt_pairsH]; simpa using h)
theorem m_notInA (hr : Room 1 X.A) : Op2 X Γ (compareOp .NotIn) (gInA not) := by
  have hu := hr.un
  intro pins s σ H x y v u Q I rx ry hq
  obtain ⟨d, e, M, μ, rh, rd, re, hq⟩ := hq
  unfold gInA at hq
  split at hq
  · split at hq
    · rename_i n kvs hk
      split at hq
      · rename_i q hq'
        obtain ⟨b, rfl, e1⟩ := ref_rel re
        cases ry
        obtain ⟨es, g, r⟩ := ndct rh hk e1
        obtain ⟨xs, p, hd, hs, _⟩ := dict_at I r (.inl g)
        obtain ⟨c, rfl, rfl, hi⟩ := key_is I hq' rd rx
        have ha := atKey_of (k := q) r p
        refine wpAny_notIn_heap (by show X.A.units + 1 + 8 < cLine; omega) hi hs hd ?_
        cases hg : dGet kvs q with
        | none =>
          rw [hg] at ha hq
          have ha : atKey xs q = none := ha
          rw [ha]
          exact ⟨.bl true, H, I.tok _, rfl, Pk.here rh hq (.bl _)⟩
        | some d0 =>
          rw [hg] at ha hq
          obtain ⟨p0, v0, e0, _, _⟩ := ha
          rw [e0]
          exact ⟨.bl false, H, I.tok _, rfl, Pk.here rh hq (.bl _)⟩
      · exact hq.elim
    · exact m_notIn (by omega) pins s σ H x y v u Q I rx ry ⟨_, _, M, μ, rh, rd, re, hq⟩
  · exact m_notIn (by omega) pins s σ H x y v u Q I rx ry ⟨_, _, M, μ, rh, rd, re, hq⟩
theorem put_any (hr : Room 1 X.A) : PSet X (rPut X.prog X.w X.K Γ gPutA) := by
  have hu := hr.un
  intro pins s σ H o i v ov iv u Q I ro ri rv ⟨d, e, f, M, μ, rh, rd, re, rf, h⟩
  unfold gPutA at h
  split at h
  · rename_i M' hg
    split at hg
    · split at hg
      · rename_i n kvs hk
        split at hg
        · rename_i q hq'
          split at hg
          · rename_i hl
            cases hg
            obtain ⟨b, rfl, e1⟩ := ref_rel rd
            cases ro
            obtain ⟨es, g, r⟩ := ndct rh hk e1
            obtain ⟨xs, p, hd, hs, hz⟩ := dict_at I r (.inl g)
            obtain ⟨c, rfl, rfl, hi⟩ := key_is I hq' re ri
            obtain ⟨k1, k2, k3⟩ := keyOf_ok hq'
            have hlen : xs.length < sizeLine := by
              have l1 := Paired.length r
              have l2 := Paired.length p
              omega
            obtain ⟨es', r', p'⟩ := puts_of k1 k2 re rf rv r p
            have hm : Mut (H b) := by rw [g]; trivial
            refine wpAny_setItem_heap (by show X.A.units + 1 + 8 < cLine; omega) hi hd (fun h' hd' sb => ?_) hz
            have new : ObjOk X.prog X.w (upd H b (dHO X.prog X.w b es')) h' b (dHO X.prog X.w b es') := by
              obtain ⟨o', ds', ep', ho', hx', hdt', he', _, hn'⟩ := hd'
              refine ⟨⟨_, p', o', ds', ep', ho', hx', hdt', he', hn', hs, ?_⟩, ⟨_, ho'⟩, dExt⟩
              unfold storedH
              split
              · simp; omega
              · simp; omega
            have hex : ∃ u, h'.get? b = some u := by obtain ⟨o', _, _, ho', _⟩ := hd'; exact ⟨o', ho'⟩
            refine ⟨_, I.write (x := b) (e := b) (o := dHO X.prog X.w b es') (t' := s.toks + (nestedKind X.prog X.w).draws q) hm (.inl rfl) (fun c ob hc hb => (sb.2 c hc).trans hb) hex new, h _ _ (Nx.write hm) (rh.write e1 hm ⟨es', upd_same, Paired.imp r' fun _ _ => REn.mono (Nx.write hm)⟩)⟩
          · cases hg
        · cases hg
      · exact put_list pins s σ H o i v ov iv u Q I ro ri rv ⟨_, _, _, M, μ, rh, rd, re, rf, by rw [hg]; exact h⟩
    · exact put_list pins s σ H o i v ov iv u Q I ro ri rv ⟨_, _, _, M, μ, rh, rd, re, rf, by rw [hg]; exact h⟩
  · exact h.elim
def rIxA (P : Program) (w : World) (K : PySem.W.Frag) (Γ : Gm) : R2 := r2 P w K Γ gIxA
theorem ix_all (hr : Room 1 X.A) : IxR X (rIxA X.prog X.w X.K Γ) := by
  have hu := hr.un
  intro value slice pins s σ H x y v u Q I rx ry ⟨d, e, M, μ, rh, rd, re, hq⟩ hs'
  have plain : Pk X.prog X.w X.K Γ (relV X.K) μ H (gIx d e M) Q → wpAny (model X.prog X.w) X.A (subscriptTail value slice v u) (EP X pins σ Q) X.xe s := by
    clear hq
    intro hq
    unfold gIx at hq
    split at hq
    · rename_i xs i hx
      cases re
      split at hq
      · rename_i z hz
        obtain ⟨a, vs, rfl, hs, r⟩ := hSeq_ok rh hx rd
        obtain ⟨u', g1, g2⟩ := atI_rel r hz
        refine ix_any value slice pins s σ H _ _ v u Q I rx ry ?_ hs'
        rcases hs with hs | hs
        · exact .inl ⟨_, _, _, _, rfl, rfl, hs, g1, Pk.here rh hq g2⟩
        · exact .inr ⟨_, _, _, _, rfl, rfl, hs, g1, Pk.here rh hq g2⟩
      · exact hq.elim
    · exact hq.elim
  unfold gIxA at hq
  split at hq
  · split at hq
    · rename_i n kvs hk
      split at hq
      · rename_i q hq'
        obtain ⟨b, rfl, e1⟩ := ref_rel rd
        cases rx
        obtain ⟨es, g, r⟩ := ndct rh hk e1
        obtain ⟨xs, p, hd, hs, _⟩ := dict_at I r (.inl g)
        obtain ⟨c, rfl, rfl, hi⟩ := key_is I hq' re ry
        have ha := atKey_of (k := q) r p
        cases hg : dGet kvs q with
        | none => rw [hg] at hq; exact hq.elim
        | some d0 =>
          rw [hg] at ha hq
          obtain ⟨p0, v0, e0, r0, r1⟩ := ha
          refine subscriptTail_builtinR (x := p0.2) hd.typeIs F.slot_dict_getitem.lookup (wpAny_getItem_heap (by show X.A.units + 1 + 8 < cLine; omega) hi hd e0 ⟨rfl, ?_⟩) hs'
          exact ⟨v0, H, I.tok _, r0, Pk.here rh hq r1⟩
      · exact hq.elim
    · exact plain hq
  · exact plain hq
theorem ex_ixA (hr : Room 1 X.A) (ha : EX X Γ W a fa) (hb : EX X Γ W b fb) (hs : PlainIx b := by intro _ _; rfl) : EX X Γ W (.Subscript a b pos) (x2 gIxA fa fb) :=
  PE.imp (pe_ix (ix_all hr) ha hb hs) fun _ _ _ h => tOp_of h
end
end Mi
end
section
set_option maxRecDepth 100000
set_option maxHeartbeats 2000000
set_option autoImplicit false
namespace Mi
open PySem PySem.Spec PyProof.Rows L2

section
variable {X : Cx} {Γ : Gm} {W : WX} {C : Addr} {x : Str} {p pos pos2 : Pos} {c n k : Nat} {e : Expr} {es : List Expr} {ga : MA}
/-- of a class without own __init__, with nothing -/
theorem pmk_bare {bmB : List Value} {B newId initId : String} (F : ExcBaseFacts B newId initId bmB) (q : PySem.W.excIn X.K C bmB newId = true) (gC : X.mg x = some (.ref C)) (kC : PySem.W.keepIn X.K (.ref C) = true) (r : Raises X (.ref C)) (hg : Gl X x)
    (hdb : (x == ("__debug__" : Str)) = false := by decide) : PMk X (.Call (.Name x p) [] [] pos) (fun _ H Q => Q (.ref C) none H) := by
  intro pins s σ H Q I h
  refine wpAny_Call_Name_kw (ld_glob I hg gC ?_ hdb)
  refine PySem.W.callWith_K0 I.kIn kC ?_
  obtain ⟨bm, N, nm, qn, bs, hdct, sn, sub, ab, col, dd, k0, k1, k2, k3, k5, mN, hC, hN, hni, T⟩ := exc_obj I.kIn q
  refine wpAny_call_exc_subT F T hC hN hni (fun h' e hm => ?_) (Nat.zero_le _)
  exact mk_of I hm r h (I.hok.gone hm.new)
/-- what the written part says of a class without __init__ -/
structure Rz0 (K : PySem.W.Frag) (mg : Str → Option Value) (C : Addr) (x : Str) : Prop where
  q : PySem.W.excIn K C [.type "ValueError", .type "Exception", .type "BaseException", .type "object"] "ValueError.__new__" = true
  g : mg x = some (.ref C)
  kp : PySem.W.keepIn K (.ref C) = true
  sb : PySem.W.subIn K (.ref C) (.type "BaseException") = some true
  ty : PySem.W.typeIn K (.ref C) = some (.type "type")
def sRaise0 (c : Nat) : MS := fun ζ M => .ex c [] ζ M
theorem es_raise0 (T : Rz0 X.K X.mg (Γ.cA c) x) (hc : X.calm = true) (tk : Takes X W) (hg : Gl X x := by rfl) (hdb : (x == ("__debug__" : Str)) = false := by decide) : ES X Γ W (.Raise (some (.Call (.Name x p) [] [] pos)) none pos2) (sRaise0 c) :=
  PS.imp (ps_raise hc tk (pmk_bare F.excBase_ValueError T.q T.g T.kp (raises_own T.sb T.ty) hg hdb)) fun E σ H ⟨ζ, M, μ, rr, h⟩ => h _ _ _ _ _ (Nx.refl _ _) rr.hp rr.sl ⟨rfl, .inl ⟨rfl, rfl⟩⟩
/-- __init__ puts all it is handed into fields; ns: the fields' names, the last one first -/
def spInit (C : Addr) (ns : List Str) : Sp := fun vs H Q _ => ∃ (a : Addr) (ys : List V), vs = .ref a :: ys ∧ ys.length = ns.length ∧ H a = some (exo a C none) ∧
  ∀ (dx : Addr) (H' : Hp), H dx = none → dx ≠ a → H' a = some (exo a C (some dx)) → H' dx = some (exd dx (ns.zip ys.reverse)) → (∀ b, b ≠ a → b ≠ dx → H' b = H b) → Q .non H'
structure RzI (P : Program) (w : World) (K : PySem.W.Frag) (mg : Str → Option Value) (base : Heap) (k : Nat) (C : Addr) (x : Str) (ns : List Str) : Prop where
  o : OexC K C
  i : ∃ f fd ps, PySem.W.findIn K (.ref C) "__init__" = some (some (.ref f)) ∧ PySem.W.typeIn K (.ref f) = some (.type "function") ∧ FnOk P w K mg base (L2.CX P w) k f fd ps (spInit C ns) ∧ Binds K fd ps []
  g : mg x = some (.ref C)
def sRaise (c n : Nat) (ga : MA) : MS := fun ζ M => RS.of ζ (ga ζ M) fun ds M1 => if ds.length = n then .ex c ds.reverse ζ M1 else .no
theorem es_raise (T : RzI X.prog X.w X.K X.mg X.base k (Γ.cA c) x (Γ.cN c)) (hl : (Γ.cN c).length = n) (hn : 0 < n ∧ n ≤ 900) (hr : Room (k + 1) X.A) (hc : X.calm = true) (tk : Takes X W) (ha : EA X Γ W (e :: es) ga) (hg : Gl X x := by rfl)
    (hdb : (x == ("__debug__" : Str)) = false := by decide) (he : starEach (e :: es) X.env = (false, eval e X.env) :: starEach es X.env := by rfl) (hpl : (backTo pos (starEach es X.env)).any (·.1) = false := by rfl) :
    ES X Γ W (.Raise (some (.Call (.Name x p) (e :: es) [] pos)) none pos2) (sRaise c n ga) := by
  obtain ⟨f, fd, ps, h1, h2, F1, hb⟩ := T.i
  refine PS.imp (ps_raise hc tk (pmk_oex T.o h1 h2 F1 hr hb .nil (fun pins σ H s e s' I hx => passAt (W := fun _ _ _ _ => False) (fun u s' hx => (by obtain ⟨_, _, _, _, _, _, _, _, _, _, _, _, _, _, _, _, z⟩ := hx; exact z.elim)) σ pins H s e s' I hx) hg T.g ha hdb he hpl)) fun E σ H ⟨ζ, M, μ, rr, h⟩ => ⟨ζ, M, μ, rr, PstS.then h rr.sl fun vs H1 ds M1 μ1 nx rh rv h1 => ?_⟩
  replace rv : RVs X.K H1 μ1 ds vs := rv
  split at h1
  · rename_i hd
    have hv : vs.length = (Γ.cN c).length := by rw [← rv.length, hd, hl]
    refine ⟨by omega, fun a hna => ⟨a, vs, by rw [List.append_nil], hv, upd_same, fun dx H2 hdx hne ea ed oth => ⟨rfl, dx, _, ea, ed, ?_, ?_⟩⟩⟩
    · rw [upd_ne hne] at hdx; exact hdx
    · rw [upd_ne hne] at hdx
      have eH : upd (del H2 a) dx (.xd ((Γ.cN c).zip vs.reverse)) = upd H1 dx (.xd ((Γ.cN c).zip vs.reverse)) := by
        funext b
        by_cases hb : b = dx
        · rw [hb, upd_same, upd_same]
        · rw [upd_ne hb, upd_ne hb]
          by_cases hb2 : b = a
          · rw [hb2, del_same, hna]
          · rw [del_ne hb2, oth b hb2 hb, upd_ne hb2]
      rw [eH]
      have nx1 := Nx.fresh0 (μ := μ1) (u := HO.xd ((Γ.cN c).zip vs.reverse)) hdx
      refine h1 _ _ _ _ _ nx1 (rh.fresh hdx) ((rr.sl.mono nx).mono nx1) ⟨rfl, ?_⟩
      exact .inr ⟨fun hz => by rw [List.reverse_eq_nil_iff] at hz; rw [hz] at hd; simp at hd; omega, _, _, rfl, upd_same, by rw [List.length_reverse, hd, hl], (rv.mono nx1).reverse⟩
  · exact h1.elim
def bInit1 (K : PySem.W.Frag) (f : Str) : TS := tOst K f (tVar 0) (tVar 1)
def bInit2 (K : PySem.W.Frag) (f g : Str) : TS := tSeq (tOst K f (tVar 0) (tVar 1)) (tOst K g (tVar 0) (tVar 2))
end
section
variable {P : Program} {w : World} {K : PySem.W.Frag} {mg : Str → Option Value} {base : Heap} {qual : Str} {params : Arguments} {body : List Stmt} {scope : Scope} {i : Addr} {fd : FuncData} {x : Str} {N : List Str} {C : Addr} {f g : Str}
theorem init_mk1 (F : FunD K x qual params body scope [] [] i fd) {a b : Str} (S : FnScope [a, b] [a, b] scope) (T : OexC K C) (hf : PySem.W.findIn K (.ref C) f = some none)
    (hbody : ∀ (cdv : Value) (A : Around) (outer : List Env) (s : Shared) (H : Hp) (E : XK), PSs (cxOf (L2.CX P w) P w K mg base [a, b] qual scope i cdv A outer s H E) body (bInit1 K f)) : FnOk P w K mg base (L2.CX P w) 1 i fd [a, b] (spInit C [f]) := by
  refine F.ok S (fun vs H Q E ⟨o, ys, e, hl, _⟩ => by rw [e]; simp at hl; simp [hl]) fun cdv A outer s H vs Q E hr h => ⟨_, hbody cdv A outer s H E, ?_⟩
  obtain ⟨o, ys, rfl, hl, ho, q⟩ := h
  match ys, hl with
  | [y], _ =>
    refine ⟨y, rfl, .ref o, rfl, o, C, rfl, T, hf, .inl ⟨ho, fun dx h1 h2 => q dx _ h1 h2 upd_same (by rw [upd_ne h2, upd_same]; rfl) fun b h3 h4 => by rw [upd_ne h3, upd_ne h4]⟩⟩
theorem init_mk2 (F : FunD K x qual params body scope [] [] i fd) {a b c : Str} (S : FnScope [a, b, c] [a, b, c] scope) (T : OexC K C) (hf : PySem.W.findIn K (.ref C) f = some none) (hg : PySem.W.findIn K (.ref C) g = some none)
    (hbody : ∀ (cdv : Value) (A : Around) (outer : List Env) (s : Shared) (H : Hp) (E : XK), PSs (cxOf (L2.CX P w) P w K mg base [a, b, c] qual scope i cdv A outer s H E) body (bInit2 K f g)) : FnOk P w K mg base (L2.CX P w) 1 i fd [a, b, c] (spInit C [g, f]) := by
  refine F.ok S (fun vs H Q E ⟨o, ys, e, hl, _⟩ => by rw [e]; simp at hl; simp [hl]) fun cdv A outer s H vs Q E hr h => ⟨_, hbody cdv A outer s H E, ?_⟩
  obtain ⟨o, ys, rfl, hl, ho, q⟩ := h
  match ys, hl with
  | [y, z], _ =>
    refine ⟨y, rfl, .ref o, rfl, o, C, rfl, T, hf, .inl ⟨ho, fun dx h1 h2 => ⟨z, rfl, .ref o, rfl, o, C, rfl, T, hg, .inr ⟨dx, [(f, y)], upd_same, by rw [upd_ne h2, upd_same], by simp, ?_⟩⟩⟩⟩
    exact q dx _ h1 h2 (by rw [upd_ne (Ne.symm h2), upd_same]) (by rw [upd_same]; rfl) fun b h3 h4 => by rw [upd_ne h4, upd_ne h3, upd_ne h4]
end
end Mi
end
section
set_option maxRecDepth 100000
set_option maxHeartbeats 2000000
set_option autoImplicit false
namespace Mi
open PySem PySem.Spec PyProof.Rows L2

/-- a clause, as the layer below takes it: its class, its name's slot, its suite -/
structure VC where
  c : Value
  sl : Option Nat
  ts : Addr → Value → Option Addr → TS
def ungo (sl : Option Nat) (σ : L2.St) : L2.St := match sl with
  | none => σ
  | some i => σ.set i none
def offE (sl : Option Nat) (D : Ends) : Ends := { nx := fun σ H => D.nx (ungo sl σ) H, rt := D.rt, bk := fun σ H => D.bk (ungo sl σ) H, ct := fun σ H => D.ct (ungo sl σ) H }
def onE (sl : Option Nat) (a : Addr) (σ : L2.St) : L2.St := match sl with
  | none => σ
  | some i => σ.set i (some (.ref a))
def wVC (K : PySem.W.Frag) (Wo : WX) (D : Ends) : List VC → WX
  | [] => Wo
  | v :: r => fun cls d σ H => ∃ b, PySem.W.exmOne K cls v.c = some b ∧ (b = true → ∀ a, H a = none → v.ts a cls d (offE v.sl D) (onE v.sl a σ) H) ∧ (b = false → wVC K Wo D r cls d σ H)
def suOk (X : Cx) (su : List Stmt) (ts : Addr → Value → Option Addr → TS) : Prop := ∀ (a : Addr) (oe : Obj) (cls : Value) (d : Option Addr) (pn : List (Addr × Obj)), Zc cls d oe → (∃ vs, oe.data = .fields vs) → PSs (X.suite a ((a, oe) :: pn)) su (ts a cls d)
inductive VCs (X : Cx) : List ExceptHandler → List VC → Prop
  | nil : VCs X [] []
  | bare {x : Str} {v : VC} {b : Stmt} {su : List Stmt} {np pos : Pos} {hds : List ExceptHandler} {l : List VC} (hc : Names X x v.c) (hs : v.sl = none) (hu : suOk X (b :: su) v.ts) (r : VCs X hds l) : VCs X (.ExceptHandler (some (.Name x np)) none (b :: su) pos :: hds) (v :: l)
  | named {x n : Str} {i : Nat} {v : VC} {b : Stmt} {su : List Stmt} {np pos : Pos} {hds : List ExceptHandler} {l : List VC} (hc : Names X x v.c) (hs : v.sl = some i) (hi : X.N[i]? = some n) (hl : X.env.kindOf n = some .local) (hu : suOk X (b :: su) v.ts) (r : VCs X hds l) :
      VCs X (.ExceptHandler (some (.Name x np)) (some n) (b :: su) pos :: hds) (v :: l)
section
variable {X : Cx} {body : List Stmt} {h₀ : ExceptHandler} {hds : List ExceptHandler} {l : List VC} {pos : Pos} {tb : WX → TS} {Wo : WX}
theorem not_frame {h B : Heap} {l : List Env} {a : Addr} {o : Obj} {vs : Array Value} (ff : h.FunFrames B l) (e : h.get? a = some o) (dd : o.data = .fields vs) : a ∉ frs l := fun hm => by
  obtain ⟨_, o', e', hnf⟩ := ff.mem hm
  rw [e] at e'
  cases e'
  exact hnf _ dd
theorem handled (hs : X.stack = X.env :: X.outer) (hf : X.env.frame = some X.env.locals) (hN : X.N.Nodup) (tk : Takes X Wo) {pins : List (Addr × Obj)} {σ : L2.St} {H : Hp} {D : Ends} {a : Addr} {B h3 : Heap} {sI s' : Shared} {cls : Value} {d : Option Addr}
    (J : Inv X pins σ H sI) (nb : ∀ b o, sI.heap.get? b = some o → b ∉ frs X.stack → B.get? b = some o) (up : sI.heap.UpToSlots h3) (na : H a = none) (os : s'.os = sI.os) (ag : AllBare s'.gens)
    (fl : HandSPX.FlyingZ B (X.env :: X.outer) a (Zc cls d) h3) {hds : List ExceptHandler} {l : List VC} (hk : VCs X hds l) : wVC X.K Wo D l cls d σ H → wpAny (model X.prog X.w) X.A (handleBy (.ref a) X.env hds) (SP X pins D) X.xe { s' with heap := h3 } := by
  have ok := J.ok
  have J3 : Inv X pins σ H { s' with heap := h3 } := J.landed nb fl.1 up os ag
  obtain ⟨oe3, vs3, he3, hz3, hd3⟩ := fl.there
  have nfr := not_frame fl.2.2.1 he3 hd3
  have nL : a ≠ X.env.locals := fun z => nfr (List.mem_filterMap.mpr ⟨X.env, List.mem_cons_self, by rw [hf, z]⟩)
  have nF : a ∉ X.fs := fun hm => by
    obtain ⟨e, he, q⟩ := List.mem_filterMap.mp hm
    exact nfr (List.mem_filterMap.mpr ⟨e, List.mem_cons_of_mem _ he, q⟩)
  have S3 := J3.suite he3 hd3 na nL nF
  have LT : PySem.W.Looks (model X.prog X.w) h3 (typeOf (.ref a)) cls := fun A Q E s k q => wpAny_typeOf_ref (k _ _ he3) (by rw [hz3.1]; exact q)
  have test : ∀ {x : Str} {c : Value} {np : Pos} {Q : Value → Shared → Prop} {E : Value → Shared → Prop}, Names X x c → Q c { s' with heap := h3 } → wpAny (model X.prog X.w) (X.A.mark (some (.ref a))) (eval (.Name x np) X.env) Q E { s' with heap := h3 } := fun hc q => by
    obtain ⟨hg, hdbg, hm | ⟨hm, hv, hnn⟩⟩ := hc
    · exact ld_glob (X := X.suite a ((a, oe3) :: (X.pn ++ pins))) S3 hg hm q hdbg
    · exact ld_blt (X := X.suite a ((a, oe3) :: (X.pn ++ pins))) S3 hg hm hv q hnn hdbg
  have land : ∀ {h4' : Heap}, HandSPX.FlyingZ B (X.env :: X.outer) a (Zc cls d) h4' → h3.UpToSlots h4' → ∃ oe4, (∃ vs, oe4.data = .fields vs) ∧ Zc cls d oe4 ∧ Inv (X.suite a ((a, oe4) :: (X.pn ++ pins))) [] σ H { s' with heap := h4' } := fun {h4'} fl4 up4 => by
    obtain ⟨oe4, vs4, he4, hz4, hd4⟩ := fl4.there
    exact ⟨oe4, ⟨_, hd4⟩, hz4, Inv.suite (s := { s' with heap := h4' }) (J.landed (s' := { s' with heap := h4' }) nb fl4.1 (up.trans up4) os ag) he4 hd4 na nL nF⟩
  induction hk with
  | nil =>
    intro w
    refine wpAny_handleBy_nil ?_
    obtain ⟨k1, k2, k3, oe, vs, T, oT, ts', he, hz, hd, h1, hr⟩ := id fl
    unfold PySem.passOn
    refine wpAny_bind (wpAny_field he hd h1 ?_)
    rw [if_neg (show ¬ ((Value.ref T == Value.none) = true) from by simp)]
    have fin : wpAny (model X.prog X.w) X.A (setFlight (.ref a) X.env.frame) (fun _ s4 => wpAny (model X.prog X.w) X.A (throw (.ref a) : Sem Flow) (SP X pins D) X.xe s4) X.xe { s' with heap := h3 } := by
      rw [hf]
      refine HandSPX.setFlight_upZ fl fun h4 hh4 up4 => wpAny_throw (tk _ _ ⟨a, B, sI, pins, σ, H, cls, d, rfl, J, nb, up.trans up4, .inr (.inr (by rw [hs]; exact hh4)), na, os, ag, w⟩)
    first
      | exact wpAny_bind (wpAny_pure (wpAny_bind fin))
      | exact wpAny_bind fin
  | @bare x v b₀ su np pos' hds2 l2 hc hsl hu r ih =>
    rintro ⟨b, hb1, hyes, hno⟩
    have LM := PySem.W.exm_one (M := model X.prog X.w) J3.kIn LT hb1
    refine wpAny_handleBy_cons (codeAny_handlers_test (test hc (LM.here ?_))) (by intro q; cases q)
    cases b with
    | false => exact ih (hno rfl)
    | true =>
      refine codeAny_handlers_suite (HandSPX.lands_againZ fl fun h4 fl4 up4 => ?_)
      obtain ⟨oe4, hv4, hz4, S4⟩ := land fl4 up4
      have hy := hyes rfl a na
      rw [hsl] at hy
      refine wpAny_mono ((hu a oe4 cls d (X.pn ++ pins) hz4 hv4).run [] _ _ H _ S4 hy) (fun f s6 hsp => ?_) (fun _ _ z => False.elim z)
      cases f with
      | next => obtain ⟨σ6, H6, S6, q6⟩ := hsp; exact ⟨_, _, S6.unsuite ok, q6⟩
      | brk => obtain ⟨σ6, H6, S6, q6⟩ := hsp; exact ⟨_, _, S6.unsuite ok, q6⟩
      | cont => obtain ⟨σ6, H6, S6, q6⟩ := hsp; exact ⟨_, _, S6.unsuite ok, q6⟩
      | ret u => obtain ⟨v6, σ6, H6, S6, r6, q6⟩ := hsp; exact ⟨_, _, _, S6.unsuite ok, r6, q6⟩
  | @named x n i v b₀ su np pos' hds2 l2 hc hsl hi hln hu r ih =>
    rintro ⟨b, hb1, hyes, hno⟩
    have LM := PySem.W.exm_one (M := model X.prog X.w) J3.kIn LT hb1
    refine wpAny_handleBy_cons (codeAny_handlers_test (test hc (LM.here ?_))) (by intro q; cases q)
    cases b with
    | false => exact ih (hno rfl)
    | true =>
      refine codeAny_handlers_suite_as (HandSPX.lands_againZ fl fun h4 fl4 up4 => ?_)
      obtain ⟨oe4, hv4, hz4, S4⟩ := land fl4 up4
      have hy := hyes rfl a na
      rw [hsl] at hy
      refine store_ok (X := X.suite a ((a, oe4) :: (X.pn ++ pins))) (v := .ref a) S4 hN hi (.inl hln) rfl (fun s5 S5 => ?_) (.inr hln)
      refine wpAny_mono ((hu a oe4 cls d (X.pn ++ pins) hz4 hv4).run [] s5 _ H _ S5 hy) (fun f s6 hsp => ?_) (fun _ _ z => False.elim z)
      have last : ∀ {σ6 : L2.St} {H6 : Hp} {Q : Shared → Prop}, Inv (X.suite a ((a, oe4) :: (X.pn ++ pins))) [] σ6 H6 s6 → (∀ s7, Inv X pins (σ6.set i none) H6 s7 → Q s7) →
          wpAny (model X.prog X.w) X.A (do bindName X.env n .none; unbindBehindTheSuite X.env n pos') (fun _ s7 => Q s7) X.xe s6 := fun S6 hq => gone_ok (S6.unsuite ok) hN hi hln hq
      cases f with
      | next => obtain ⟨σ6, H6, S6, q6⟩ := hsp; exact last S6 fun s7 J7 => ⟨_, _, J7, q6⟩
      | brk => obtain ⟨σ6, H6, S6, q6⟩ := hsp; exact last S6 fun s7 J7 => ⟨_, _, J7, q6⟩
      | cont => obtain ⟨σ6, H6, S6, q6⟩ := hsp; exact last S6 fun s7 J7 => ⟨_, _, J7, q6⟩
      | ret u => obtain ⟨v6, σ6, H6, S6, r6, q6⟩ := hsp; exact last S6 fun s7 J7 => ⟨_, _, _, J7, r6, q6⟩
theorem ps_tries (hs : X.stack = X.env :: X.outer) (hf : X.env.frame = some X.env.locals) (hN : X.N.Nodup) (tk : Takes X Wo)
    (hb : ∀ (W : WX) (pn : List (Addr × Obj)) (xe : Value → Shared → Prop), Takes (X.tr pn xe) W → PassesOwn (model X.prog X.w) X.A X.env xe → PSs (X.tr pn xe) body (tb W))
    (hh : VCs X (h₀ :: hds) l) : PS X (.Try body (h₀ :: hds) [] [] pos) (fun D σ H => tb (wVC X.K Wo D l) D σ H) := by
  refine ⟨fun pins s σ H D I h => ?_⟩
  have ok := I.ok
  have hfr : X.A.frames = some (X.env :: X.outer) := by rw [ok.frames, hs]
  refine wpAny_Try_except ?_
  refine wpAny_mono ((hb (wVC X.K Wo D l) (X.pn ++ pins) (fun e s₁ => wpAny (model X.prog X.w) X.A (noteFrame e X.env) (fun _ s₂ => wpAny (model X.prog X.w) X.A (setFlight e none) (fun _ s₃ =>
    wpAny (model X.prog X.w) X.A (handleBy e X.env (h₀ :: hds)) (SP X pins D) X.xe s₃) X.xe s₂) X.xe s₁) (fun u s' xx => ?_) PassesOwn.looking).run [] s σ H D (I.toTry _) h) (fun f s1 hsp => ?_) (fun e s1 he => he)
  · obtain ⟨a, B, sI, pins', σ', H', cls, d, rfl, J', nb, up, sky, na, os, ag, w⟩ := xx
    have J : Inv X pins σ' H' sI := J'.ofTry ok
    have sky' : Sky B (X.env :: X.outer) a (Zc cls d) X.env.locals s'.heap := by rw [← hs]; exact sky
    show wpAny (model X.prog X.w) X.A (noteFrame (.ref a) X.env) _ _ _
    exact Sky.land Zc.steady hfr hf sky' fun h3 fl3 up3 => handled hs hf hN tk J nb (up.trans up3) na os ag fl3 hh w
  · cases f with
    | next => obtain ⟨σ', H', J', q⟩ := hsp; exact wpAny_execs_nil ⟨σ', H', J'.ofTry ok, q⟩
    | brk => obtain ⟨σ', H', J', q⟩ := hsp; exact ⟨σ', H', J'.ofTry ok, q⟩
    | cont => obtain ⟨σ', H', J', q⟩ := hsp; exact ⟨σ', H', J'.ofTry ok, q⟩
    | ret u => obtain ⟨v, σ', H', J', r, q⟩ := hsp; exact ⟨v, σ', H', J'.ofTry ok, r, q⟩
end
end Mi
end
section
set_option maxRecDepth 100000
set_option maxHeartbeats 2000000
set_option autoImplicit false
namespace Mi
open PySem PySem.Spec PyProof.Rows L2

/-- a clause: which classes it takes, its name's slot, its suite -/
structure CL where
  ma : Nat → Option Bool
  sl : Option Nat
  f : Addr → Option Addr → Nat → List D → MS
def offS (sl : Option Nat) (ζ : Sl) : Sl := match sl with
  | none => ζ
  | some i => ζ.set i none
def onS (sl : Option Nat) (d : D) (ζ : Sl) : Sl := match sl with
  | none => ζ
  | some i => ζ.set i (some d)
def sEnd (sl : Option Nat) : RS → RS
  | .nx ζ M => .nx (offS sl ζ) M
  | .bk ζ M => .bk (offS sl ζ) M
  | .ct ζ M => .ct (offS sl ζ) M
  | .rt d M => .rt d M
  | _ => .no
open Classical in
noncomputable def uni (f : Addr → Addr → RS) : RS := if h : ∃ r, ∀ a d, f a d = r then h.choose else .no
theorem uni_eq {f : Addr → Addr → RS} {r : RS} (h : ∀ a d, f a d = r) : uni f = r := by
  have hh : ∃ r, ∀ a d, f a d = r := ⟨r, h⟩
  unfold uni
  rw [dif_pos hh]
  exact (hh.choose_spec 0 0).symm.trans (h 0 0)
theorem uni_at {f : Addr → Addr → RS} (hn : uni f ≠ .no) (a d : Addr) : f a d = uni f := by
  unfold uni at hn ⊢
  split
  · rename_i hh
    exact hh.choose_spec a d
  · rename_i hh
    rw [dif_neg hh] at hn
    exact absurd rfl hn
def dOf (fs : List D) (d : Addr) : Option Addr := if fs.isEmpty = true then none else some d
def suR (nm : Nat → List Str) (h : CL) (c : Nat) (fs : List D) (ζ : Sl) (M : Hs) (a d : Addr) : RS := sEnd h.sl (h.f a (dOf fs d) c fs (onS h.sl (.exc a (dOf fs d) c (nm c) fs) ζ) M)
noncomputable def tryR (nm : Nat → List Str) : List CL → Nat → List D → Sl → Hs → RS
  | [], c, fs, ζ, M => .ex c fs ζ M
  | h :: r, c, fs, ζ, M => match h.ma c with
    | none => .no
    | some true => uni (suR nm h c fs ζ M)
    | some false => tryR nm r c fs ζ M
noncomputable def sTry (nm : Nat → List Str) (b : MS) (l : List CL) : MS := fun ζ M => match b ζ M with
  | .ex c fs ζ' M' => tryR nm l c fs ζ' M'
  | r => r
def suD (X : Cx) (Γ : Gm) (su : List Stmt) (f : Addr → Option Addr → Nat → List D → MS) : Prop := ∀ (a : Addr) (oe : Obj) (c : Nat) (d : Option Addr) (fs : List D) (pn : List (Addr × Obj)), Zc (.ref (Γ.cA c)) d oe → (∃ vs, oe.data = .fields vs) → ESs (X.suite a ((a, oe) :: pn)) Γ W0 su (f a d c fs)
inductive CLs (X : Cx) (Γ : Gm) : List ExceptHandler → List CL → Prop
  | nil : CLs X Γ [] []
  | bare {x : Str} {cv : Value} {v : CL} {b : Stmt} {su : List Stmt} {np pos : Pos} {hds : List ExceptHandler} {l : List CL} (hc : Names X x cv) (hm : ∀ c b, v.ma c = some b → PySem.W.exmOne X.K (.ref (Γ.cA c)) cv = some b) (hs : v.sl = none) (hu : suD X Γ (b :: su) v.f) (r : CLs X Γ hds l) :
      CLs X Γ (.ExceptHandler (some (.Name x np)) none (b :: su) pos :: hds) (v :: l)
  | named {x n : Str} {i : Nat} {cv : Value} {v : CL} {b : Stmt} {su : List Stmt} {np pos : Pos} {hds : List ExceptHandler} {l : List CL} (hc : Names X x cv) (hm : ∀ c b, v.ma c = some b → PySem.W.exmOne X.K (.ref (Γ.cA c)) cv = some b) (hs : v.sl = some i) (hi : X.N[i]? = some n)
      (hl : X.env.kindOf n = some .local) (hu : suD X Γ (b :: su) v.f) (r : CLs X Γ hds l) : CLs X Γ (.ExceptHandler (some (.Name x np)) (some n) (b :: su) pos :: hds) (v :: l)
def tsOf (X : Cx) (Γ : Gm) (v : CL) : Addr → Value → Option Addr → TS := fun a cls d E σ H => ∃ c fs, cls = .ref (Γ.cA c) ∧ tS X.prog X.w X.K Γ W0 (v.f a d c fs) E σ H
theorem suD_ok {X : Cx} {Γ : Gm} {su : List Stmt} {v : CL} (h : suD X Γ su v.f) : suOk X su (tsOf X Γ v) := by
  intro a oe cls d pn hz hf
  refine ⟨fun pins s σ H E I ⟨c, fs, e, t⟩ => ?_⟩
  subst e
  exact (h a oe c d fs pn hz hf).run pins s σ H E I t
/-- the clauses below -/
theorem CLs.under {X : Cx} {Γ : Gm} {hds : List ExceptHandler} {l : List CL} (h : CLs X Γ hds l) : ∃ vl, VCs X hds vl ∧ Paired (fun (v : VC) (u : CL) => v.sl = u.sl ∧ v.ts = tsOf X Γ u ∧ ∀ c b, u.ma c = some b → PySem.W.exmOne X.K (.ref (Γ.cA c)) v.c = some b) vl l := by
  induction h with
  | nil => exact ⟨[], .nil, .nil⟩
  | @bare x cv v b su np pos hds l hc hm hs hu r ih =>
    obtain ⟨vl, h1, h2⟩ := ih
    exact ⟨⟨cv, v.sl, tsOf X Γ v⟩ :: vl, .bare hc hs (suD_ok hu) h1, .cons ⟨rfl, rfl, hm⟩ h2⟩
  | @named x n i cv v b su np pos hds l hc hm hs hi hl hu r ih =>
    obtain ⟨vl, h1, h2⟩ := ih
    exact ⟨⟨cv, v.sl, tsOf X Γ v⟩ :: vl, .named hc hs hi hl (suD_ok hu) h1, .cons ⟨rfl, rfl, hm⟩ h2⟩
theorem RSl.off {K : PySem.W.Frag} {H : Hp} {μ : List Addr} {ζ : Sl} {σ : L2.St} (r : RSl K H μ ζ σ) (sl : Option Nat) : RSl K H μ (offS sl ζ) (ungo sl σ) := by
  cases sl with
  | none => exact r
  | some i => exact r.wiped [i]
theorem RSl.on {K : PySem.W.Frag} {H : Hp} {μ : List Addr} {ζ : Sl} {σ : L2.St} {d : D} {a : Addr} (r : RSl K H μ ζ σ) (rv : RV K H μ d (.ref a)) (sl : Option Nat) : RSl K H μ (onS sl d ζ) (onE sl a σ) := by
  cases sl with
  | none => exact r
  | some i => exact r.set rv i
section
variable {P : Program} {w : World} {K : PySem.W.Frag} {Γ : Gm} {W : WX} {μ : List Addr} {H : Hp}
theorem PstS.suited {sl : Option Nat} {r : RS} {E : Ends} (h : PstS P w K Γ W μ H (sEnd sl r) E) : PstS P w K Γ W0 μ H r (offE sl E) := by
  cases r with
  | nx ζ M => exact fun σ' H' μ' a b c => h _ _ _ a b (c.off sl)
  | bk ζ M => exact fun σ' H' μ' a b c => h _ _ _ a b (c.off sl)
  | ct ζ M => exact fun σ' H' μ' a b c => h _ _ _ a b (c.off sl)
  | rt d M => exact h
  | ex c fs ζ M => exact h.elim
  | no => exact h.elim
theorem RX.exc {c : Nat} {fs : List D} {cls : Value} {dd : Option Addr} (x : RX K Γ H μ c fs cls dd) (a : Addr) : (∃ d, dd = dOf fs d) ∧ cls = .ref (Γ.cA c) ∧ RV K H μ (.exc a dd c (Γ.cN c) fs) (.ref a) := by
  obtain ⟨h1, ⟨h2, h3⟩ | ⟨h2, d, vs, h3, h4, h5, h6⟩⟩ := x
  · subst h2 h3
    exact ⟨⟨0, rfl⟩, h1, .excN⟩
  · subst h3
    refine ⟨⟨d, ?_⟩, h1, .excD h4 h5 h6⟩
    unfold dOf
    rw [if_neg (by rw [List.isEmpty_iff]; exact h2)]
theorem caught {X : Cx} {Γ : Gm} {W : WX} {μ : List Addr} {H : Hp} {E : Ends} {vl : List VC} {l : List CL} (hp : Paired (fun (v : VC) (u : CL) => v.sl = u.sl ∧ v.ts = tsOf X Γ u ∧ ∀ c b, u.ma c = some b → PySem.W.exmOne X.K (.ref (Γ.cA c)) v.c = some b) vl l) {c : Nat} {fs : List D} {ζ : Sl} {M : Hs}
    (h : PstS X.prog X.w X.K Γ W μ H (tryR Γ.cN l c fs ζ M) E) {cls : Value} {dd : Option Addr} {σ : L2.St} (rh : RH X.prog X.w X.K Γ μ M H) (sl : RSl X.K H μ ζ σ) (rx : RX X.K Γ H μ c fs cls dd) : wVC X.K W E vl cls dd σ H := by
  induction hp with
  | nil => exact h _ _ _ _ _ (Nx.refl _ _) rh sl rx
  | @cons v u vl l hv t ih =>
    obtain ⟨e1, e2, hm⟩ := hv
    simp only [tryR] at h
    obtain ⟨⟨d, hd⟩, hc, rv⟩ := rx.exc 0
    cases hma : u.ma c with
    | none => rw [hma] at h; exact h.elim
    | some b =>
      rw [hma] at h
      refine ⟨b, by rw [hc]; exact hm c b hma, fun hb a hna => ?_, fun hb => ?_⟩
      · subst hb
        have h : PstS X.prog X.w X.K Γ W μ H (uni (suR Γ.cN u c fs ζ M)) E := h
        have hu : uni (suR Γ.cN u c fs ζ M) ≠ .no := fun z => by rw [z] at h; exact h
        rw [← uni_at hu a d] at h
        rw [e2, e1]
        refine ⟨c, fs, hc, _, M, μ, ⟨sl.on (rx.exc a).2.2 u.sl, rh⟩, ?_⟩
        unfold suR at h
        rw [← hd] at h
        exact h.suited
      · subst hb
        exact ih h
end
section
variable {X : Cx} {Γ : Gm} {W : WX} {body : List Stmt} {h₀ : ExceptHandler} {hds : List ExceptHandler} {l : List CL} {pos : Pos} {mb : MS}
theorem es_try (hs : X.stack = X.env :: X.outer) (hf : X.env.frame = some X.env.locals) (hN : X.N.Nodup) (tk : Takes X W)
    (hb : ∀ (W : WX) (pn : List (Addr × Obj)) (xe : Value → Shared → Prop), Takes (X.tr pn xe) W → PassesOwn (model X.prog X.w) X.A X.env xe → ESs (X.tr pn xe) Γ W body mb)
    (hh : CLs X Γ (h₀ :: hds) l) : ES X Γ W (.Try body (h₀ :: hds) [] [] pos) (sTry Γ.cN mb l) := by
  obtain ⟨vl, h1, h2⟩ := hh.under
  refine PS.imp (ps_tries hs hf hN tk (tb := fun W => tS X.prog X.w X.K Γ W mb) (fun W pn xe t p => hb W pn xe t p) h1) fun E σ H ⟨ζ, M, μ, rr, h⟩ => ⟨ζ, M, μ, rr, ?_⟩
  unfold sTry at h
  cases hr : mb ζ M with
  | nx ζ1 M1 => rw [hr] at h; exact h
  | rt d M1 => rw [hr] at h; exact h
  | bk ζ1 M1 => rw [hr] at h; exact h
  | ct ζ1 M1 => rw [hr] at h; exact h
  | no => rw [hr] at h; exact h
  | ex c fs ζ1 M1 =>
    rw [hr] at h
    exact fun cls dd σ' H' μ' nx rh sl rx => caught h2 (PstS.mono h nx) rh sl rx
end

/-- what a class must say for isinstance -/
structure XcC (K : PySem.W.Frag) (C : Addr) : Prop where
  cl : (PySem.W.clsIn K C).isSome = true
  ga : PySem.W.findIn K (.ref C) "__getattribute__" = some (some (.builtin "BaseException.__getattribute__"))
  gg : PySem.W.findIn K (.ref C) "__getattr__" = some none
  sb : PySem.W.subIn K (.ref C) (.type "BaseException") = some true
  hd : PySem.W.hasDictIn K C = true
  ca : PySem.W.findIn K (.ref C) "__class__" = some (some (.builtin "object.__class__"))
  cn : PySem.W.specialIn K (.builtin "object.__class__") "__get__" = some (some (.builtin "getset_descriptor.__get__"))
  ct : PySem.W.takesIn K (.builtin "object.__class__") = some true
  cm : PySem.W.mroIn K C (.type "object") = some true
def xIsE (a : Addr) (d : Option Addr) (c : Nat) (ma : Nat → Option Bool) (f : MX) : MX := fun ζ M => (f ζ M).bind fun y M1 => match y with
  | .exc a' d' c' _ _ => if a' = a ∧ c' = c ∧ d' = d then match ma c with
    | some b => .ok (.bl b) M1
    | none => .no else .no
  | _ => .no
def xXf (a : Addr) (d : Option Addr) (c i : Nat) (f : MX) : MX := fun ζ M => (f ζ M).bind fun y M1 => match y with
  | .exc a' d' c' _ fs => if a' = a ∧ c' = c ∧ d' = d then match d, fs[i]? with
    | some _, some z => .ok z M1
    | _, _ => .no else .no
  | _ => .no
def rXi (P : Program) (w : World) (K : PySem.W.Frag) (Γ : Gm) (a : Addr) (d : Option Addr) (C : Addr) (cv : Value) : List V → Hp → VK → Prop := fun xs H Q => XcC K C ∧ ∃ (cx : V) (b : Bool), xs = [.ref a, cx] ∧ (∀ u, RelV cx u → u = cv) ∧ PySem.W.kitOne K (.ref C) cv = some b ∧ (∀ dd, d = some dd → ∃ fs, H dd = some (.xd fs)) ∧ Q (.bl b) H
theorem call_xi {X : Cx} {Γ : Gm} {a C : Addr} {oe : Obj} {d : Option Addr} {cv : Value} {pn : List (Addr × Obj)} (hz : Zc (.ref C) d oe) (hf : ∃ vs, oe.data = .fields vs) : CallR (X.suite a ((a, oe) :: pn)) (.builtin "isinstance") (rXi X.prog X.w X.K Γ a d C cv) := by
  intro pins s σ H xs us Q I r h
  obtain ⟨T, cx, b, rfl, hcv, e, hd, q⟩ := h
  cases r with
  | cons rx rr =>
    cases rr with
    | cons rt rr =>
      cases rr
      cases rx
      have ec := hcv _ rt
      subst ec
      obtain ⟨hget, _⟩ := I.pin (a, oe) (List.mem_append.mpr (.inl List.mem_cons_self))
      obtain ⟨vs, hv⟩ := hf
      have J : ∃ od, PySem.W.InstAt s.heap a oe C od := by
        obtain ⟨oc, odi, oda, osl⟩ := oe
        obtain ⟨h1, h2⟩ := hz
        dsimp only at h1 h2 hv
        subst h1 h2 hv
        cases odi with
        | none => exact ⟨none, hget, rfl, rfl, trivial⟩
        | some dd =>
          obtain ⟨fs, hx⟩ := hd dd rfl
          have ho : ObjOk X.prog X.w H s.heap dd (.xd fs) := I.hok dd _ hx
          obtain ⟨mA, hns, _⟩ := ho
          obtain ⟨od, ho, _⟩ := lookIn_ns hns
          exact ⟨some od, hget, rfl, rfl, ho⟩
      obtain ⟨od, J⟩ := J
      exact PySem.W.kia_one (PySem.W.kitx_exc T.cl T.ga T.gg T.sb T.ca T.cn T.ct T.cm) I.kIn J e (fun z => nomatch z) fun tk => ⟨.bl b, H, I.kept (t' := tk) fun _ _ z => z, rfl, q⟩
section
variable {X : Cx} {Γ : Gm} {W : WX} {a : Addr} {oe : Obj} {c : Nat} {d : Option Addr} {pn : List (Addr × Obj)} {e : Expr} {fe : MX} {x f : Str} {p p2 pos : Pos} {cv : Value} {cx : V} {ma : Nat → Option Bool}
theorem exc_dict {K : PySem.W.Frag} {H : Hp} {μ : List Addr} {a' : Addr} {d' : Option Addr} {c' : Nat} {ns : List Str} {fs : List D} {v : V} (r : RV K H μ (.exc a' d' c' ns fs) v) : v = .ref a' ∧ ∀ dd, d' = some dd → ∃ vs, H dd = some (.xd (ns.zip vs)) ∧ fs.length = ns.length ∧ RVs K H μ fs vs := by
  cases r with
  | excN => exact ⟨rfl, fun dd h => nomatch h⟩
  | excD h l r => exact ⟨rfl, fun dd h' => by cases h'; exact ⟨_, h, l, r⟩⟩
theorem ex_isE (hz : Zc (.ref (Γ.cA c)) d oe) (hf : ∃ vs, oe.data = .fields vs) (hma : ∀ b, ma c = some b → XcC X.K (Γ.cA c) ∧ PySem.W.kitOne X.K (.ref (Γ.cA c)) cv = some b) (he : EX (X.suite a ((a, oe) :: pn)) Γ W e fe)
    (hC : PE (X.suite a ((a, oe) :: pn)) (.Name x p2) (tC cx)) (hcx : ∀ u, RelV cx u → u = cv) (hm : X.mg "isinstance" = none) (hg : Gl X "isinstance" := by rfl)
    (he1 : starEach [e, .Name x p2] X.env = (false, eval e X.env) :: starEach [.Name x p2] X.env := by rfl) : EX (X.suite a ((a, oe) :: pn)) Γ W (.Call (.Name "isinstance" p) [e, .Name x p2] [] pos) (xIsE a d c ma fe) :=
  PE.imp (pe_callB (call_xi (Γ := Γ) (cv := cv) hz hf) hg hm boot_isinstance (pa_cons he (pa_cons hC pa_nil) he1) (by decide) (by decide) he1) fun σ H Q ⟨ζ, M, μ, rr, h⟩ => ⟨ζ, M, μ, rr, Pst.then h fun v H1 y M1 μ1 nx rh rv h1 => by
    dsimp only at h1
    split at h1
    · rename_i a' d' c' ns fs
      split at h1
      · rename_i hh
        obtain ⟨rfl, rfl, rfl⟩ := hh
        split at h1
        · rename_i b hb
          obtain ⟨rfl, hd⟩ := exc_dict rv
          exact ⟨(hma b hb).1, cx, b, rfl, hcx, (hma b hb).2, fun dd h => let ⟨vs, h1, _⟩ := hd dd h; ⟨_, h1⟩, h1 _ _ _ (Nx.refl _ _) rh (.bl _)⟩
        · exact h1.elim
      · exact h1.elim
    · exact h1.elim⟩
end
end Mi
end
section
set_option maxRecDepth 100000
set_option maxHeartbeats 2000000
set_option autoImplicit false
namespace Mi
open PySem PySem.Spec PyProof.Rows L2

def slAt (c : Nat) (x : D) (M : Hs) : Option (Nat × List (Option D)) := match x with
  | .ref n => match M[n]? with
    | some (.slo c' fs) => if c' = c then some (n, fs) else none
    | _ => none
  | _ => none
theorem slAt_ok {c n : Nat} {x : D} {M : Hs} {fs : List (Option D)} (h : slAt c x M = some (n, fs)) : x = .ref n ∧ M[n]? = some (.slo c fs) := by
  unfold slAt at h
  split at h
  · split at h
    · split at h
      · rename_i e hc
        cases h
        subst hc
        exact ⟨rfl, e⟩
      · cases h
    · cases h
  · cases h
def putD (i : Nat) (d : D) (fs : List (Option D)) : List (Option D) := (fs ++ List.replicate (i + 1 - fs.length) none).set i (some d)
def xFld (c i : Nat) (f : MX) : MX := fun ζ M => (f ζ M).bind fun x M1 => match slAt c x M1 with
  | some (_, fs) => match fs[i]? with
    | some (some d) => .ok d M1
    | _ => .no
  | none => .no
def sFld (c i : Nat) (fo fv : MX) : MS := fun ζ M => RS.of ζ (fv ζ M) fun y M1 => RS.of ζ (fo ζ M1) fun x M2 => match slAt c x M2 with
  | some (n, fs) => .nx ζ (M2.set n (.slo c (putD i y fs)))
  | none => .no
structure SlF (K : PySem.W.Frag) (C : Addr) (f : Str) (i : Nat) : Prop where
  s : SlX.SCls K C
  t : ∃ p, SlX.Slot1 K C f p i
section
variable {P : Program} {w : World} {K : PySem.W.Frag} {Γ : Gm} {μ : List Addr} {H : Hp} {M : Hs}
theorem putD_get {i j : Nat} {d e : D} {fs : List (Option D)} : (putD i d fs)[j]? = some (some e) → j = i ∧ e = d ∨ j ≠ i ∧ fs[j]? = some (some e) := by
  intro h
  unfold putD at h
  by_cases hj : i = j
  · subst hj
    rw [List.getElem?_set_self (by simp only [List.length_append, List.length_replicate]; omega)] at h
    cases h
    exact .inl ⟨rfl, rfl⟩
  · rw [List.getElem?_set_ne hj] at h
    refine .inr ⟨Ne.symm hj, ?_⟩
    by_cases hl : j < fs.length
    · rw [List.getElem?_append_left hl] at h; exact h
    · rw [List.getElem?_append_right (by omega), List.getElem?_replicate] at h
      split at h <;> cases h
/-- what stands at an address of ours is no dict of an instance's own -/
theorem RO.notOwn {a : Addr} {o : MO} (h : RO P w K Γ H μ a o) : (∀ b : Addr, H a ≠ Option.some (HO.own b)) ∧ ∀ fs : List (Str × V), H a ≠ Option.some (HO.xd fs) := by
  cases o with
  | lst xs => obtain ⟨vs, h1, r⟩ := h; rw [h1]; exact ⟨fun _ z => (nomatch z), fun _ z => (nomatch z)⟩
  | ro xs => obtain ⟨vs, ⟨o, h1⟩, r⟩ := h; rw [h1]; exact ⟨fun _ z => (nomatch z), fun _ z => (nomatch z)⟩
  | dct kvs => obtain ⟨es, h1, r⟩ := h; rw [h1]; exact ⟨fun _ z => (by unfold dHO at z; cases z), fun _ z => (by unfold dHO at z; cases z)⟩
  | fdc kvs => obtain ⟨es, ⟨o, h1⟩, r⟩ := h; rw [h1]; exact ⟨fun _ z => (nomatch z), fun _ z => (nomatch z)⟩
  | dks kvs => obtain ⟨vs, h1, r, nd⟩ := h; rw [h1]; exact ⟨fun _ z => (nomatch z), fun _ z => (nomatch z)⟩
  | ins c fs => obtain ⟨dx, vs, r, h1, h2⟩ := h; rw [h1]; exact ⟨fun _ z => (nomatch z), fun _ z => (nomatch z)⟩
  | slo c fs =>
    obtain ⟨dx, vs, h1 | h1, h2⟩ := h
    · rw [h1.1]; exact ⟨fun _ z => (nomatch z), fun _ z => (nomatch z)⟩
    · rw [h1.1]; exact ⟨fun _ z => (by unfold SlX.SlO at z; cases z), fun _ z => (by unfold SlX.SlO at z; cases z)⟩
theorem slo_store {n c i : Nat} {fs : List (Option D)} {y : D} {v : V} {a dx : Addr} {vs : List (Option V)} (rh : RH P w K Γ μ M H) (hn : μ[n]? = some a) (hs : SlX.Slt H a (Γ.cA c) dx vs) (hd : dx ≠ a) (ho : H dx = some (.own a) ∨ H dx = some (.xd []))
    (hv : ∀ (i : Nat) (d : D), fs[i]? = some (some d) → ∃ v, vs[i]? = some (some v) ∧ RV K H μ d v) (rv : RV K H μ y v) :
    Nx μ H μ (SlX.slH H a (Γ.cA c) dx (SlX.putS i v vs)) ∧ RH P w K Γ μ (M.set n (.slo c (putD i y fs))) (SlX.slH H a (Γ.cA c) dx (SlX.putS i v vs)) := by
  have ha : ∃ u, H a = some u ∧ (∀ xs, u ≠ .tup xs) ∧ (∀ o x, u ≠ .frz o x) ∧ (∀ y, u ≠ .own y) ∧ ∀ y, u ≠ .xd y := by
    rcases hs with ⟨h1, _⟩ | ⟨h1, _⟩
    · exact ⟨_, h1, fun _ z => (nomatch z), fun _ _ z => (nomatch z), fun _ z => (nomatch z), fun _ z => (nomatch z)⟩
    · refine ⟨_, h1, fun _ z => ?_, fun _ _ z => ?_, fun _ z => ?_, fun _ z => ?_⟩ <;> (unfold SlX.SlO at z; cases z)
  obtain ⟨ua, ha, a1, a2, a3, a4⟩ := ha
  have ne : ∀ {b : Addr} {u : HO}, H b = some u → u ≠ ua → b ≠ a := fun e h z => by rw [z, ha] at e; exact h (Option.some.inj e).symm
  have keep : ∀ {b : Addr} {u : HO}, H b = some u → u ≠ ua → (∀ y, u ≠ .own y) → u ≠ .xd [] → SlX.slH H a (Γ.cA c) dx (SlX.putS i v vs) b = some u := fun {b u} e h1 h2 h3 => by
    rw [SlX.slH_ne (ne e h1) fun z => ?_]
    · exact e
    · rw [z] at e
      rcases ho with ho | ho
      · rw [ho] at e; exact h2 _ (Option.some.inj e).symm
      · rw [ho] at e; exact h3 (Option.some.inj e).symm
  have xdk : ∀ b, H b = some (.xd []) → SlX.slH H a (Γ.cA c) dx (SlX.putS i v vs) b = some (.xd []) := fun b e => by
    have hb : b ≠ a := ne e fun z => a4 _ z.symm
    by_cases hb2 : b = dx
    · subst hb2
      unfold SlX.slH
      rw [upd_ne hb, upd_same]
    · rw [SlX.slH_ne hb hb2]; exact e
  have nx : Nx μ H μ (SlX.slH H a (Γ.cA c) dx (SlX.putS i v vs)) := by
    refine ⟨fun _ _ e => e, fun b xs e => ?_, fun b o u e => keep e (fun z => a2 _ _ z.symm) (fun _ z => nomatch z) (fun z => nomatch z), fun b fs e => ?_⟩
    · rcases e with e | ⟨o, e⟩
      · exact .inl (keep e (fun z => a1 _ z.symm) (fun _ z => nomatch z) (fun z => nomatch z))
      · exact .inr ⟨o, keep e (fun z => a2 _ _ z.symm) (fun _ z => nomatch z) (fun z => nomatch z)⟩
    · by_cases hf : fs = []
      · subst hf; exact xdk b e
      · exact keep e (fun z => a4 _ z.symm) (fun _ z => nomatch z) (fun z => by cases z; exact hf rfl)
  refine ⟨nx, by simp [rh.len], rh.nd, fun m o' b h1 h2 => ?_⟩
  by_cases hmn : n = m
  · subst hmn
    rw [hn] at h2; cases h2
    by_cases hl : n < M.length
    · rw [List.getElem?_set_self hl] at h1; cases h1
      refine ⟨dx, SlX.putS i v vs, SlX.slH_slt hd, hd, .inr (SlX.slH_slt (H := H) hd |>.elim (fun z => absurd z.1 (by unfold SlX.slH; rw [upd_same]; intro z; unfold SlX.SlO at z; cases z)) fun z => z.2), fun j d hj => ?_⟩
      rcases putD_get hj with ⟨rfl, rfl⟩ | ⟨hne, hj⟩
      · exact ⟨v, SlX.putS_get _ _ _, rv.mono nx⟩
      · obtain ⟨v', q1, q2⟩ := hv j d hj
        exact ⟨v', (SlX.putS_ne hne).mpr q1, q2.mono nx⟩
    · rw [List.getElem?_eq_none (by simpa using hl)] at h1; cases h1
  · rw [List.getElem?_set_ne hmn] at h1
    have hba : b ≠ a := fun z => by
      subst z
      exact hmn ((List.getElem?_inj (List.getElem?_eq_some_iff.mp hn).1 rh.nd).mp (hn.trans h2.symm))
    have rb := rh.at_ m o' b h1 h2
    obtain ⟨nb1, nb2⟩ := RO.notOwn rb
    refine RO.keep rb nx (fun u e => ?_) (fun b' e => ?_) xdk
    · rw [SlX.slH_ne hba fun z => ?_]
      · exact e
      · rw [z] at nb1 nb2
        rcases ho with ho | ho
        · exact nb1 _ ho
        · exact nb2 _ ho
    · rw [SlX.slH_ne (ne e fun z => a3 _ z.symm) fun z => ?_]
      · exact e
      · rw [z] at e
        rcases ho with ho | ho
        · rw [ho] at e; cases e; exact hba rfl
        · rw [ho] at e; cases e
end
section
variable {X : Cx} {Γ : Gm} {W : WX} {e o v : Expr} {fe fo fv : MX} {f x : Str} {c i k n : Nat} {pos pos' p : Pos} {es : List Expr} {ga : MA}
theorem ex_fld (T : SlF X.K (Γ.cA c) f i) (he : EX X Γ W e fe) (hb : attributeBase e f X.env (eval e X.env) = eval e X.env := by rfl) : EX X Γ W (.Attribute e f pos) (xFld c i fe) :=
  PE.imp (SlX.pe_sl he hb) fun σ H Q ⟨ζ, M, μ, rr, h⟩ => ⟨ζ, M, μ, rr, Pst.then h fun v H1 d M1 μ1 nx rh rv h1 => by
    split at h1
    · rename_i n fs hs
      obtain ⟨rfl, hm⟩ := slAt_ok hs
      cases rv with
      | ref ea =>
        obtain ⟨dx, vs, h2, h3, h4, h5⟩ := rh.at_ _ _ _ hm ea
        split at h1
        · rename_i d hd
          obtain ⟨z, q1, q2⟩ := h5 i d hd
          obtain ⟨pp, T2⟩ := T.t
          exact ⟨_, _, dx, pp, vs, i, z, rfl, h2, T.s, T2, q1, h1 _ _ _ (Nx.refl _ _) rh q2⟩
        · exact h1.elim
    · exact h1.elim⟩
theorem es_fld (T : SlF X.K (Γ.cA c) f i) (ho : EX X Γ W o fo) (hv : EX X Γ W v fv) (hs : swapsWith v (some (.Attribute o f pos')) pos.line X.env = pure false := by rfl) : ES X Γ W (.Assign [.Attribute o f pos'] v pos) (sFld c i fo fv) :=
  PS.imp (SlX.ps_sl ho hv hs) fun E σ H ⟨ζ, M, μ, rr, h⟩ => ⟨ζ, M, μ, rr, PstS.then h rr.sl fun y H1 d M1 μ1 nx rh rv h1 => ⟨ζ, M1, μ1, ⟨rr.sl.mono nx, rh⟩, PstS.then h1 (rr.sl.mono nx) fun u H2 k M2 μ2 nx2 rh2 ru h2 => by
    split at h2
    · rename_i n fs hs
      obtain ⟨rfl, hm⟩ := slAt_ok hs
      cases ru with
      | ref ea =>
        obtain ⟨dx, vs, q1, q2, q3, q4⟩ := rh2.at_ _ _ _ hm ea
        obtain ⟨pp, T2⟩ := T.t
        obtain ⟨nx3, rh3⟩ := slo_store (i := i) (y := d) (v := y) rh2 ea q1 q2 q3 q4 (RV.mono nx2 rv)
        exact ⟨_, _, dx, pp, vs, i, rfl, q1, T.s, T2, h2 _ _ _ nx3 rh3 (((rr.sl.mono nx).mono nx2).mono nx3)⟩
    · exact h2.elim⟩⟩
theorem run_makeAt {CX : CXT} {f C : Addr} {fd : FuncData} {ps : List Str} {sp : Sp} {E : XK} {pins : List (Addr × Obj)} {σ : L2.St} {H : Hp} {s : Shared} {Q : VK} {us : List Value} {vs : List V} (Mc : Mk X.K C f) (F : FnOk X.prog X.w X.K X.mg X.base CX k f fd ps sp) (hr : Room (k + 1) X.A) (hb : Binds X.K fd ps [])
    (hx : PassesAt CX X σ E) (I : Inv X pins σ H s) (r : Vals vs us)
    (h : ∀ x dx, H x = none → H dx = none → dx ≠ x → sp (.ref x :: vs) (upd (upd H dx (.own x)) x (.ins C dx [])) (fun v H2 => v = .non ∧ Q (.ref x) H2) E) : wpAny (model X.prog X.w) X.A (call (.ref C) us) (EP X pins σ Q) X.xe s := by
  have hq := h (s.heap.objs.size + 1) s.heap.objs.size (I.hok.fresh (Nat.le_succ _)) (I.hok.fresh (Nat.le_refl _)) (Nat.ne_of_lt (Nat.lt_succ_self _))
  have J := Inv.made (C := C) I
  have r2 : Vals (V.ref (s.heap.objs.size + 1) :: vs) (Value.ref (s.heap.objs.size + 1) :: us) := .cons rfl r
  have hl : (Value.ref (s.heap.objs.size + 1) :: us ++ []).length = ps.length := by
    rw [List.append_nil, ← r2.length]
    exact F.len _ _ _ _ hq
  have bt := hb _ (Value.ref (s.heap.objs.size + 1) :: us) J.kIn hl
  rw [List.append_nil] at bt
  refine wpAny_call (make_map (f := f) I.kIn Mc.makes Mc.init (beq_iff_eq.mp Mc.fn) (codeAny_mono (F.run _ X.stack _ _ ⟨Value.ref (s.heap.objs.size + 1) :: us, []⟩ (Value.ref (s.heap.objs.size + 1) :: us) _ _ E (hr.make C us [])
    (J.env0.make C us []) bt r2 hq) fun r s' z => ?_))
  cases r with
  | error e => exact hx pins _ _ e s' J z
  | ok fl =>
    cases fl with
    | ret u =>
      obtain ⟨v, H', I3, rv, ev, q3⟩ := J.after z
      subst ev
      exact ⟨rv, ⟨V.ref (s.heap.objs.size + 1), H', I3, rfl, q3⟩⟩
    | next => exact z.elim
    | brk => exact z.elim
    | cont => exact z.elim
/-- the class c is made by __init__ that does what F does -/
structure Mkd (P : Program) (w : World) (K : PySem.W.Frag) (mg : Str → Option Value) (base : Heap) (Γ : Gm) (k c : Nat) (x : Str) (n : Nat) (F : MF) : Prop where
  g : mg x = some (.ref (Γ.cA c))
  i : ∃ f fd ps, Mk K (Γ.cA c) f ∧ FnOk P w K mg base (L2.CX P w) k f fd ps (spF P w K Γ n F) ∧ Binds K fd ps []
def xMake (o : MO) (n : Nat) (F : MF) (ga : MA) : MX := fun ζ M => (ga ζ M).bind fun ds M1 => if ds.length + 1 = n then (F (.ref M1.length :: ds) (M1 ++ [o])).bind fun v M2 => match v with
  | .non => .ok (.ref M1.length) M2
  | _ => .no else .no
theorem made_slo {P : Program} {w : World} {K : PySem.W.Frag} {Γ : Gm} {μ : List Addr} {M : Hs} {H : Hp} {x dx : Addr} (rh : RH P w K Γ μ M H) (h1 : H x = none) (h2 : H dx = none) (h3 : dx ≠ x) :
    Nx μ H (μ ++ [x]) (upd (upd H dx (.own x)) x (.ins (Γ.cA c) dx [])) ∧ RH P w K Γ (μ ++ [x]) (M ++ [.slo c []]) (upd (upd H dx (.own x)) x (.ins (Γ.cA c) dx [])) := by
  have h4 : upd H dx (.own x) x = none := by rw [upd_ne (Ne.symm h3)]; exact h1
  refine ⟨(Nx.fresh0 h2).trans (Nx.fresh h4 [x]), (rh.fresh h2).alloc h4 ⟨dx, [], .inl ⟨upd_same, rfl⟩, h3, .inl (by rw [upd_ne h3, upd_same]), fun i d h => by simp at h⟩⟩
theorem ex_make {F : MF} (T : Mkd X.prog X.w X.K X.mg X.base Γ k c x n F) (hr : Room (k + 1) X.A) (tk : Takes X W) (ha : EA X Γ W (e :: es) ga) (hg : Gl X x := by rfl) (hdb : (x == ("__debug__" : Str)) = false := by decide)
    (he : starEach (e :: es) X.env = (false, eval e X.env) :: starEach es X.env := by rfl) (hpl : (backTo pos (starEach es X.env)).any (·.1) = false := by rfl) : EX X Γ W (.Call (.Name x p) (e :: es) [] pos) (xMake (.slo c []) n F ga) := by
  obtain ⟨f, fd, ps, Mc, F1, hb⟩ := T.i
  refine ⟨fun pins s σ H Q I ⟨ζ, M, μ, rr, h⟩ => ?_⟩
  refine wpAny_Call_Name_kw (ld_glob I hg T.g ?_ hdb)
  have h' : tA X.prog X.w X.K Γ W ga σ H fun vs H1 => ∀ x dx, H1 x = none → H1 dx = none → dx ≠ x → spF X.prog X.w X.K Γ n F (.ref x :: vs) (upd (upd H1 dx (.own x)) x (.ins (Γ.cA c) dx [])) (fun v H2 => v = .non ∧ Q (.ref x) H2) (WE W σ) :=
    ⟨ζ, M, μ, rr, Pst.then h fun vs H1 ds M1 μ1 nx rh rv h1 => fun x dx h2 h3 h4 => by
      replace rv : RVs X.K H1 μ1 ds vs := rv
      obtain ⟨nx2, rh2⟩ := made_slo (c := c) rh h2 h3 h4
      have hx : (μ1 ++ [x])[M1.length]? = some x := rh.last
      split at h1
      · rename_i hl
        refine ⟨_, _, _, rh2, .cons (.ref hx) (rv.mono nx2), hl, ?_⟩
        have h5 := Pst.mono h1 nx2
        cases hF : F (.ref M1.length :: ds) (M1 ++ [.slo c []]) with
        | ok d M' =>
          rw [hF] at h5
          intro v H' μ' nx3 rh3 rv3
          have h6 := Pst.mono h5 nx3
          cases d with
          | non => cases rv3; exact ⟨rfl, h6 _ _ _ (Nx.refl _ _) rh3 (.ref (nx3.pre _ _ hx))⟩
          | _ => exact h6.elim
        | ex c' fs M' => rw [hF] at h5; exact h5
        | no => rw [hF] at h5; exact h5
      · exact h1.elim⟩
  refine PySem.W.callWith_K (h₀ := X.base) I.ok.mod.kin Mc.kp (thn (ha.run pos pins s σ H _ I h') fun us s1 ⟨vs, H1, I1, r, q⟩ => ⟨I1.kIn, ?_⟩) he hpl
  exact run_makeAt Mc F1 hr hb (passAt tk σ) I1 r q
end
end Mi
end
section
set_option maxRecDepth 100000
set_option maxHeartbeats 2000000
set_option autoImplicit false
namespace SrtO
open PySem PyProof.Rows
theorem collect_listK {prog : Program} {w : World} {A : Around} {E : Value → Shared → Prop} {s : Shared} {l : Addr} {vs : List Value} {Q : List Value → Shared → Prop} (hl : s.heap.IsList l vs.toArray) (hz : vs.length ≤ sizeLine)
    (h : ∀ (h' : Heap) (tk : Nat), (∀ b o, s.heap.get? b = some o → h'.get? b = some o) → Q vs { s with heap := h', toks := tk }) : wpAny (model prog w) A (collect (.ref l)) Q E s := by
  refine collect_list hl (h _ s.toks fun b o q => ?_) hz
  have hlt : b < s.heap.objs.size := Heap.lt_size q
  rw [Heap.get?_update_ne _ _ _ _ (Nat.ne_of_lt hlt)]
  exact Heap.get?_push_of_some _ q
end SrtO
namespace Mi
open PySem PySem.Spec PyProof.Rows L2

section
variable {α β : Type}
def insB (lt : α → α → Bool) (x : α) : List α → List α
  | [] => [x]
  | y :: r => if lt y x = true then y :: insB lt x r else x :: y :: r
def srtB (lt : α → α → Bool) : List α → List α
  | [] => []
  | x :: r => insB lt x (srtB lt r)
theorem insB_perm (lt : α → α → Bool) (x : α) : ∀ l : List α, (insB lt x l).Perm (x :: l)
  | [] => .refl _
  | y :: r => by
    unfold insB
    split
    · exact ((insB_perm lt x r).cons y).trans (.swap x y r)
    · exact .refl _
theorem srtB_perm (lt : α → α → Bool) : ∀ l : List α, (srtB lt l).Perm l
  | [] => .refl _
  | x :: r => (insB_perm lt x _).trans ((srtB_perm lt r).cons x)
theorem insB_srtd {lt : α → α → Bool} (O : SrtO.Swo lt) (x : α) : ∀ {l : List α}, SrtO.Srtd lt l → SrtO.Srtd lt (insB lt x l)
  | [], _ => SrtO.srtd_one x
  | y :: r, h => by
    obtain ⟨h1, h2⟩ := List.pairwise_cons.mp h
    unfold insB
    split
    · rename_i hl
      refine List.pairwise_cons.mpr ⟨fun z hz => ?_, insB_srtd O x h2⟩
      rcases List.mem_cons.mp ((insB_perm lt x r).mem_iff.mp hz) with e | hz
      · rw [e]; exact O.asym _ _ hl
      · exact h1 z hz
    · rename_i hl
      have hl : lt y x = false := by cases e : lt y x with
        | true => exact absurd e hl
        | false => rfl
      refine List.pairwise_cons.mpr ⟨fun z hz => ?_, h⟩
      rcases List.mem_cons.mp hz with e | hz
      · rw [e]; exact hl
      · exact O.tr x y z hl (h1 z hz)
theorem srtB_srtd {lt : α → α → Bool} (O : SrtO.Swo lt) : ∀ l : List α, SrtO.Srtd lt (srtB lt l)
  | [] => .nil
  | x :: r => insB_srtd O x (srtB_srtd O r)
theorem stb_perm {lt : α → α → Bool} (hE : ∀ x y, SrtO.eqv lt x y = true → y = x) {l m : List α} (p : l.Perm m) : SrtO.Stb lt l m := ⟨p, fun x => by
  have h1 : ∀ k : List α, k.filter (SrtO.eqv lt x) = List.replicate (k.filter (SrtO.eqv lt x)).length x := fun k => List.eq_replicate_iff.mpr ⟨rfl, fun b hb => hE x b (List.mem_filter.mp hb).2⟩
  rw [h1 l, h1 m, (p.filter _).length_eq]⟩
/-- what the sort leaves, seen by its keys -/
theorem srt_keys {lt : β → β → Bool} (O : SrtO.Swo lt) (hE : ∀ x y, SrtO.eqv lt x y = true → y = x) {k : α → β} {out vs : List α} (h1 : SrtO.Srtd (fun x y => lt (k x) (k y)) out) (h2 : out.Perm vs) : out.map k = srtB lt (vs.map k) :=
  SrtO.stb_uniq O (SrtO.srtd_map h1) (srtB_srtd O _) (stb_perm hE ((h2.map k).trans (srtB_perm lt _).symm))
end
def ltI (x y : Int) : Bool := decide (x < y)
theorem swo_I : SrtO.Swo ltI := ⟨fun x y h => by unfold ltI at *; have := of_decide_eq_true h; exact decide_eq_false (by omega), fun x y z h1 h2 => by
  unfold ltI at *
  have := of_decide_eq_false h1
  have := of_decide_eq_false h2
  exact decide_eq_false (by omega)⟩
theorem eq_I (x y : Int) (h : SrtO.eqv ltI x y = true) : y = x := by
  obtain ⟨h1, h2⟩ := SrtO.eqv_iff.mp h
  unfold ltI at h1 h2
  have := of_decide_eq_false h1
  have := of_decide_eq_false h2
  omega
theorem swo_P : SrtO.Swo SrtO.lexB := by
  refine ⟨fun x y h => ?_, fun x y z h1 h2 => ?_⟩
  · have a := SrtO.lexB_iff.mp h
    refine SrtO.lexB_no.mpr ?_
    omega
  · have a := SrtO.lexB_no.mp h1
    have b := SrtO.lexB_no.mp h2
    refine SrtO.lexB_no.mpr ?_
    omega
theorem eq_P (x y : Int × Int) (h : SrtO.eqv SrtO.lexB x y = true) : y = x := by
  obtain ⟨h1, h2⟩ := SrtO.eqv_iff.mp h
  have a := SrtO.lexB_no.mp h1
  have b := SrtO.lexB_no.mp h2
  obtain ⟨x1, x2⟩ := x
  obtain ⟨y1, y2⟩ := y
  dsimp only at a b
  rw [Prod.mk.injEq]
  omega

def itemsA (M : Hs) (d : D) : Option (List D) := match hSeq M d with
  | some xs => some xs
  | none => match d with
    | .ref n => match hDct M n with
      | some kvs => some (kvs.map (·.1))
      | none => none
    | _ => none
section
variable {X : Cx} {Γ : Gm} {pins : List (Addr × Obj)} {σ : L2.St} {H : Hp} {s : Shared} {μ : List Addr} {M : Hs}
/-- the values us show the data ds at the heap -/
def Shows (K : PySem.W.Frag) (H : Hp) (μ : List Addr) (ds : List D) (us : List Value) : Prop := ∃ vs, RVs K H μ ds vs ∧ Vals vs us
theorem keys_rv {K : PySem.W.Frag} : ∀ {kvs : List (D × D)} {es : List (NestedKey × Addr × V)}, Paired (REn K H μ) kvs es → RVs K H μ (kvs.map (·.1)) (es.map fun e => V.ref e.2.1)
  | _, _, .nil => .nil
  | _, _, .cons q t => .cons q.2.2.1 (keys_rv t)
theorem vals_refs : ∀ as : List Addr, Vals (as.map V.ref) (as.map Value.ref)
  | [] => .nil
  | _ :: as => .cons rfl (vals_refs as)
theorem keys_adr {es : List (NestedKey × Addr × V)} {xs : List (NestedKey × Addr × Value)} (p : Paired (fun (p : NestedKey × Addr × V) (q : NestedKey × Addr × Value) => p.1 = q.1 ∧ p.2.1 = q.2.1 ∧ RelV p.2.2 q.2.2) es xs) : es.map (fun e => e.2.1) = xs.map (fun e => e.2.1) := by
  induction p with
  | nil => rfl
  | cons h t ih => rw [List.map_cons, List.map_cons, ih, h.2.1]
theorem dict_keys (I : Inv X pins σ H s) {kvs : List (D × D)} {es : List (NestedKey × Addr × V)} {a : Addr} (r : Paired (REn X.K H μ) kvs es) (g : Rd H a (dHO X.prog X.w a es)) : ∃ ds ep, s.heap.DictRaw a ds ep ∧ (a == sysModules) = false ∧ ds.size ≤ sizeLine ∧
    ∀ acc : Array Value, ItemsOf (fun i v => ∃ hi : i < ds.size, v = ds[i].key) acc ds.size → Shows X.K H μ (kvs.map (·.1)) acc.toList := by
  obtain ⟨⟨xs, p, o, ds, ep, ho, hx, hd, he, hn, hs, hl⟩, _⟩ := g.ok I.hok
  have l1 : ds.size = xs.length := by rw [← Array.length_toList, he, List.length_map]
  refine ⟨ds, ep, ⟨o, ho, hx, hd⟩, hs, by omega, fun acc ⟨h1, h2⟩ => ⟨_, keys_rv r, ?_⟩⟩
  have e : acc.toList = (es.map fun e => e.2.1).map Value.ref := by
    rw [keys_adr p]
    apply List.ext_getElem
    · rw [Array.length_toList, List.length_map, List.length_map, h1, l1]
    · intro i hi1 hi2
      have ha : acc[i]? = some acc.toList[i] := by rw [← Array.getElem?_toList, List.getElem?_eq_getElem hi1]
      obtain ⟨hi, e⟩ := h2 i _ ha
      rw [e]
      have e2 : ds.toList[i]? = some ds[i] := by rw [Array.getElem?_toList, Array.getElem?_eq_getElem hi]
      rw [he, List.getElem?_map] at e2
      have hx : i < xs.length := by omega
      rw [List.getElem?_eq_getElem hx] at e2
      have e3 := Option.some.inj e2
      rw [← e3]
      simp [entryOfKey]
  rw [e]
  have := vals_refs (es.map fun e => e.2.1)
  rw [List.map_map] at this
  exact this
/-- a list or a dict is collected -/
theorem collect_A {A : Around} {R : List Value → Shared → Prop} {E : Value → Shared → Prop} (hh : A.handled = none) (I : Inv X pins σ H s) (rh : RH X.prog X.w X.K Γ μ M H) {n : Nat} {a : Addr} {ds : List D} (h : itemsA M (.ref n) = some ds) (ea : μ[n]? = some a)
    (hq : ∀ (h' : Heap) (tk : Nat) (acc : List Value), (∀ b o, s.heap.get? b = some o → h'.get? b = some o) → Shows X.K H μ ds acc → acc.length ≤ sizeLine → R acc { s with heap := h', toks := tk }) : wpAny (model X.prog X.w) A (collect (.ref a)) R E s := by
  unfold itemsA at h
  cases hs : hSeq M (.ref n) with
  | some xs =>
    rw [hs] at h
    cases h
    obtain ⟨b, vs, e, hs2, r⟩ := hRef_ok rh hs (.ref ea)
    cases e
    obtain ⟨its, rv, hl, hz⟩ := I.list hs2
    have hz' : its.length ≤ sizeLine := by rw [← Paired.length rv]; exact hz
    refine SrtO.collect_listK hl.isList hz' fun h' tk k => ?_
    exact hq h' tk its k ⟨vs, r, rv⟩ hz'
  | none =>
    rw [hs] at h
    dsimp only at h
    cases hd : hDct M n with
    | none => rw [hd] at h; cases h
    | some kvs =>
      rw [hd] at h
      cases h
      obtain ⟨es, g, r⟩ := ndct rh hd ea
      obtain ⟨xs, ep, h1, h2, h3, h4⟩ := dict_keys I r (.inl g)
      exact PySem.W.kdu_collect (KdlSrc.rawDict h2) hh h1 h3 fun h' tk acc k ia => hq h' tk acc.toList k (h4 acc ia) (by rw [Array.length_toList, ia.1]; exact h3)
theorem collect_T {A : Around} {R : List Value → Shared → Prop} {E : Value → Shared → Prop} (I : Inv X pins σ H s) {a : Addr} {ds : List D} {vs : List V} (g : SqT X.K H a vs) (rv : RVs X.K H μ ds vs)
    (hq : ∀ (h' : Heap) (tk : Nat) (acc : List Value), (∀ b o, s.heap.get? b = some o → h'.get? b = some o) → Shows X.K H μ ds acc → acc.length ≤ sizeLine → R acc { s with heap := h', toks := tk }) : wpAny (model X.prog X.w) A (collect (.ref a)) R E s := by
  obtain ⟨its, r, ⟨o, ho, hc, n, hd⟩, hz⟩ := I.tuple g
  have hz' : its.length ≤ sizeLine := by rw [← Paired.length r]; exact hz
  refine wpAny_collect_seq (T := "tuple") (n := n) a (.inr rfl) ho hc hd (fun h' kp => ?_) (by simpa using hz')
  exact hq h' s.toks _ kp ⟨vs, rv, by simpa using r⟩ (by simpa using hz')
theorem sorted_go {κ : Type} {lt : κ → κ → Bool} (O : SrtO.Swo lt) (hE : ∀ x y, SrtO.eqv lt x y = true → y = x) (f : κ → D) {E : Value → Shared → Prop} {Q : VK} (hc : X.calm = true) (I : Inv X pins σ H s) (rh : RH X.prog X.w X.K Γ μ M H) {a : Addr} {ks : List κ}
    (hcol : ∀ {R : List Value → Shared → Prop} {E : Value → Shared → Prop}, (∀ (h' : Heap) (tk : Nat) (acc : List Value), (∀ b o, s.heap.get? b = some o → h'.get? b = some o) → Shows X.K H μ (ks.map f) acc → acc.length ≤ sizeLine → R acc { s with heap := h', toks := tk }) → wpAny (model X.prog X.w) X.A.in1 (collect (.ref a)) R E s) (hS : ∀ (h' : Heap) (tk : Nat) (us : List Value), Inv X pins σ H { s with heap := h', toks := tk } → Shows X.K H μ (ks.map f) us → ∃ k : Value → κ, us.map k = ks ∧
      (2 ≤ us.length → ∀ (h₁ : Heap) (l : Addr), h₁.get? l = some (PyProof.Rows.seqObj "list" us.toArray 0) → (∀ b o, h'.get? b = some o → b ≠ l ∧ h₁.get? b = some o) → SrtO.SortableO X.prog X.w X.A.in1.in1 { s with heap := h₁, toks := tk } l us fun v u => lt (k v) (k u)))
    (hq : ∀ p, H p = none → ∀ vs, RVs X.K H μ ((srtB lt ks).map f) vs → Q (.ref p) (upd H p (.lst vs))) : wpAny (model X.prog X.w) X.A (call (.builtin "sorted") [.ref a]) (EP X pins σ Q) E s := by
  refine Calls.call_function_entry kind_sorted plain_sorted entry_sorted (args_sorted1 _) ?_
  unfold Builtin.«sorted»
  refine wpAny_bind (m := checkCount "sorted" 1 1 _) (wpAny_pure ?_)
  refine wpAny_bind (hcol fun h' tk us kp sh hz => ?_)
  have I1 : Inv X pins σ H { s with heap := h', toks := tk } := I.kept kp
  obtain ⟨k, ek, hs⟩ := hS h' tk us I1 sh
  refine wpAny_bind (wpAny_newList ?_ hz)
  have hoL : (h'.push (PyProof.Rows.seqObj "list" us.toArray 0)).get? h'.objs.size = some (PyProof.Rows.seqObj "list" us.toArray 0) := Heap.get?_push_size _ rfl
  show wpAny _ _ _ _ _ { s with heap := h'.push (PyProof.Rows.seqObj "list" us.toArray 0), toks := tk }
  have O2 : SrtO.Swo fun v u => lt (k v) (k u) := ⟨fun x y => O.asym (k x) (k y), fun x y z => O.tr (k x) (k y) (k z)⟩
  refine wpAny_bind (wpAny_holding (wpAny_call_entry slot_list_sort ⟨_, hoL, rfl⟩ entry_list_sort (SrtO.list_sort_ord (s := { s with heap := h'.push (PyProof.Rows.seqObj "list" us.toArray 0), toks := tk }) O2 hoL hz
    (fun h2 => hs h2 _ _ hoL fun b o q => ⟨Nat.ne_of_lt (Heap.lt_size q), Heap.get?_push_of_some _ q⟩) fun out h1 h2 => ⟨_, rfl, ?_⟩) (args_list_sort _)))
  have e1 : out.map k = srtB lt ks := by rw [srt_keys O hE h1 h2.perm, ek]
  obtain ⟨vs, rv, rs⟩ := sh
  have each : ∀ u ∈ us, ∃ v, RelV v u ∧ RV X.K H μ (f (k u)) v := by
    have go : ∀ {us : List Value} {ks : List κ} {vs : List V}, us.map k = ks → RVs X.K H μ (ks.map f) vs → Vals vs us → ∀ u ∈ us, ∃ v, RelV v u ∧ RV X.K H μ (f (k u)) v := by
      intro us
      induction us with
      | nil => intro _ _ _ _ _ u hu; cases hu
      | cons u0 us ih =>
        intro ks vs e r t u hu
        subst e
        cases t with
        | cons t1 t2 =>
          cases r with
          | cons r1 r2 =>
            rcases List.mem_cons.mp hu with e | hu
            · subst e; exact ⟨_, t1, r1⟩
            · exact ih rfl r2 t2 u hu
    exact go ek rv rs
  have outs : ∃ ws, RVs X.K H μ ((srtB lt ks).map f) ws ∧ Vals ws out := by
    rw [← e1, List.map_map]
    have go : ∀ {out : List Value}, (∀ u ∈ out, u ∈ us) → ∃ ws, RVs X.K H μ (out.map (f ∘ k)) ws ∧ Vals ws out := by
      intro out
      induction out with
      | nil => intro _; exact ⟨[], .nil, .nil⟩
      | cons u out ih =>
        intro hm
        obtain ⟨ws, r1, r2⟩ := ih fun u hu => hm u (List.mem_cons_of_mem _ hu)
        obtain ⟨v, t1, t2⟩ := each u (hm u List.mem_cons_self)
        exact ⟨v :: ws, .cons t2 r1, .cons t1 r2⟩
    exact go fun u hu => h2.perm.mem_iff.mp hu
  obtain ⟨ws, w1, w2⟩ := outs
  obtain ⟨e', he'⟩ := PyProof.Rows.sortedHeap_at (vs := us) (out := out.toArray) hoL
  refine wpAny_pure ⟨_, rfl, .ref h'.objs.size, upd H h'.objs.size (.lst ws), I1.laid (t' := tk) (fun b u e => ?_) (Nat.le_refl _)
    (show ObjOk X.prog X.w _ _ _ (.lst ws) from ⟨by rw [Paired.length w2, h2.len]; exact hz, out, e', w2, he'⟩), rfl, hq _ (I1.hok.fresh (Nat.le_refl _)) ws w1⟩
  have hb : b < h'.objs.size := Heap.lt_size e
  rw [PyProof.Rows.sortedHeap_old (Nat.ne_of_lt hb) (by rw [size_push']; exact Nat.lt_succ_of_lt hb)]
  exact Heap.get?_push_of_some _ e
def prD (p : Int × Int) : D := .tup [.int p.1, .int p.2]
theorem shows_ints {K : PySem.W.Frag} {ns : List Int} {us : List Value} (h : Shows K H μ (ns.map D.int) us) : IntsAre us ns := by
  obtain ⟨vs, r, t⟩ := h
  induction ns generalizing us vs with
  | nil => cases r; cases t; exact .nil
  | cons n ns ih =>
    cases r with
    | cons r1 r2 =>
      cases r1
      cases t with
      | cons t1 t2 =>
        obtain ⟨t, rfl⟩ := t1
        exact .cons _ _ (ih _ r2 t2)
theorem shows_pairs (I : Inv X pins σ H s) {ps : List (Int × Int)} {us : List Value} (h : Shows X.K H μ (ps.map prD) us) : Paired (fun u (p : Int × Int) => Srt.IsPair s.heap u p.1 p.2) us ps := by
  obtain ⟨vs, r, t⟩ := h
  induction ps generalizing us vs with
  | nil => cases r; cases t; exact .nil
  | cons p ps ih =>
    cases r with
    | cons r1 r2 =>
      cases t with
      | cons t1 t2 =>
        refine .cons ?_ (ih _ r2 t2)
        cases r1 with
        | tup g rs =>
          cases t1
          obtain ⟨its, rv, ⟨o, ho, hc, n, hd⟩, _⟩ := I.tuple g
          obtain ⟨v1, v2, rfl, q1, q2⟩ := two_rel rs
          cases q1; cases q2
          obtain ⟨u1, u2, rfl, z1, z2⟩ := Vals.two rv
          obtain ⟨t1, rfl⟩ := z1
          obtain ⟨t2, rfl⟩ := z2
          exact ⟨_, o, t1, t2, n, rfl, ho, hc, hd⟩
theorem pairs_key : ∀ {us : List Value} {ps : List (Int × Int)} {h : Heap}, Paired (fun u (p : Int × Int) => Srt.IsPair h u p.1 p.2) us ps → ∃ k : Value → Int × Int, us.map k = ps ∧ ∀ u ∈ us, Srt.IsPair h u (k u).1 (k u).2 := by
  intro us ps h r
  classical
  have one : ∀ {u : Value} {p q : Int × Int}, Srt.IsPair h u p.1 p.2 → Srt.IsPair h u q.1 q.2 → p = q := by
    rintro u p q ⟨a, o, t, v, n, e, ho, hc, hd⟩ ⟨a', o', t', v', n', e', ho', hc', hd'⟩
    rw [e] at e'
    cases e'
    rw [ho] at ho'
    cases ho'
    rw [hd] at hd'
    simp at hd'
    exact Prod.ext hd'.1.1.1 hd'.1.2.1
  refine ⟨fun u => if x : ∃ p : Int × Int, Srt.IsPair h u p.1 p.2 then x.choose else (0, 0), ?_, ?_⟩
  · induction r with
    | nil => rfl
    | @cons u p us ps h1 t ih =>
      have x : ∃ p : Int × Int, Srt.IsPair h u p.1 p.2 := ⟨p, h1⟩
      rw [List.map_cons, ih, dif_pos x, one x.choose_spec h1]
  · intro u hu
    have x : ∃ p : Int × Int, Srt.IsPair h u p.1 p.2 := by
      induction r with
      | nil => cases hu
      | @cons u' p us ps h1 t ih =>
        rcases List.mem_cons.mp hu with e | hu
        · subst e; exact ⟨p, h1⟩
        · exact ih hu
    dsimp only
    rw [dif_pos x]
    exact x.choose_spec
end
def pairsD : List D → Option (List (Int × Int))
  | [] => some []
  | .tup [.int i, .int j] :: r => match pairsD r with
    | some ps => some ((i, j) :: ps)
    | none => none
  | _ => none
theorem pairsD_ok : ∀ {xs : List D} {ps : List (Int × Int)}, pairsD xs = some ps → xs = ps.map prD
  | [], ps, h => by cases h; rfl
  | x :: xs, ps, h => by
    unfold pairsD at h
    split at h
    · rename_i e; cases e
    · rename_i i j r e
      cases e
      split at h
      · rename_i qs hq
        cases h
        rw [pairsD_ok hq]
        rfl
      · cases h
    · cases h
theorem intsD_ok : ∀ {xs : List D} {ps : List Int}, intsOf xs = some ps → xs = ps.map D.int
  | [], ps, h => by cases h; rfl
  | x :: xs, ps, h => by
    cases x with
    | int i =>
      simp only [intsOf] at h
      split at h
      · rename_i qs hq
        cases h
        rw [intsD_ok hq]
        rfl
      · cases h
    | _ => cases h
def gSorted : GL := fun ds M => match ds with
  | [.ref n] => match itemsA M (.ref n) with
    | some xs => match intsOf xs with
      | some is => some (.ref M.length, M ++ [.lst ((srtB ltI is).map D.int)])
      | none => match pairsD xs with
        | some ps => some (.ref M.length, M ++ [.lst ((srtB SrtO.lexB ps).map prD)])
        | none => none
    | none => none
  | [.tup xs] => match intsOf xs with
    | some is => some (.ref M.length, M ++ [.lst ((srtB ltI is).map D.int)])
    | none => match pairsD xs with
      | some ps => some (.ref M.length, M ++ [.lst ((srtB SrtO.lexB ps).map prD)])
      | none => none
  | _ => none
def gListA : GL := fun ds M => match ds with
  | [.ref n] => match hDct M n with
    | some kvs => some (.ref M.length, M ++ [.lst (kvs.map (·.1))])
    | none => gList ds M
  | _ => gList ds M
section
variable {X : Cx} {Γ : Gm}
theorem b_sorted (hc : X.calm = true) : CB X Γ (.builtin "sorted") gSorted := by
  intro pins s σ H xs us Q I r ⟨ds, M, μ, rh, rv, hq⟩
  unfold gSorted at hq
  split at hq
  · obtain ⟨v, rfl, r1⟩ := one_rel rv
    obtain ⟨a, rfl, ea⟩ := ref_rel r1
    obtain ⟨u, rfl, ru⟩ := Vals.one r
    cases ru
    split at hq
    · rename_i xs hx
      split at hq
      · rename_i is hi
        have e := intsD_ok hi
        subst e
        refine sorted_go swo_I eq_I D.int hc I rh (fun hq => collect_A (A := X.A.in1) (I.ok.hd hc) I rh hx ea hq) (fun h' tk us I1 sh => ?_) fun p hp vs rv => Pk.new rh hq hp ⟨_, upd_same, rv.mono (Nx.fresh hp _)⟩
        have hI := shows_ints sh
        refine ⟨SrtO.iv, SrtO.iv_ints hI, fun h2 h₁ l hl kp => ?_⟩
        exact SrtO.ints_sortable (s := { s with heap := h₁, toks := tk }) hI h2
      · split at hq
        · rename_i ps hp
          have e := pairsD_ok hp
          subst e
          refine sorted_go swo_P eq_P prD hc I rh (fun hq => collect_A (A := X.A.in1) (I.ok.hd hc) I rh hx ea hq) (fun h' tk us I1 sh => ?_) fun p hp vs rv => Pk.new rh hq hp ⟨_, upd_same, rv.mono (Nx.fresh hp _)⟩
          obtain ⟨k, e1, e2⟩ := pairs_key (shows_pairs I1 sh)
          refine ⟨k, e1, fun h2 h₁ l hl kp => SrtO.pairs_sortableO (s := { s with heap := h₁, toks := tk }) (by omega) (fun v hv => (e2 v hv).keeps fun b o e _ => (kp b o e).2) fun o e => ?_⟩
          have e' : some o = some (PyProof.Rows.seqObj "list" us.toArray 0) := e.symm.trans hl
          cases e'
          intro c
          exact absurd (Value.type.inj c) (by decide)
        · exact hq.elim
    · exact hq.elim
  · obtain ⟨v, rfl, r1⟩ := one_rel rv
    cases r1 with
    | tup g rs =>
      obtain ⟨u, rfl, ru⟩ := Vals.one r
      cases ru
      split at hq
      · rename_i is hi
        have e := intsD_ok hi
        subst e
        refine sorted_go swo_I eq_I D.int hc I rh (fun hq => collect_T I g rs hq) (fun h' tk us I1 sh => ?_) fun p hp vs rv => Pk.new rh hq hp ⟨_, upd_same, rv.mono (Nx.fresh hp _)⟩
        have hI := shows_ints sh
        refine ⟨SrtO.iv, SrtO.iv_ints hI, fun h2 h₁ l hl kp => ?_⟩
        exact SrtO.ints_sortable (s := { s with heap := h₁, toks := tk }) hI h2
      · split at hq
        · rename_i ps hp
          have e := pairsD_ok hp
          subst e
          refine sorted_go swo_P eq_P prD hc I rh (fun hq => collect_T I g rs hq) (fun h' tk us I1 sh => ?_) fun p hp vs rv => Pk.new rh hq hp ⟨_, upd_same, rv.mono (Nx.fresh hp _)⟩
          obtain ⟨k, e1, e2⟩ := pairs_key (shows_pairs I1 sh)
          refine ⟨k, e1, fun h2 h₁ l hl kp => SrtO.pairs_sortableO (s := { s with heap := h₁, toks := tk }) (by omega) (fun v hv => (e2 v hv).keeps fun b o e _ => (kp b o e).2) fun o e => ?_⟩
          have e' : some o = some (PyProof.Rows.seqObj "list" us.toArray 0) := e.symm.trans hl
          cases e'
          intro c
          exact absurd (Value.type.inj c) (by decide)
        · exact hq.elim
  · exact hq.elim
theorem b_listA (hc : X.calm = true) : CB X Γ (.type "list") gListA := by
  intro pins s σ H xs us Q I r ⟨ds, M, μ, rh, rv, hq⟩
  unfold gListA at hq
  split at hq
  · split at hq
    · rename_i n kvs hd
      obtain ⟨v, rfl, r1⟩ := one_rel rv
      obtain ⟨a, rfl, ea⟩ := ref_rel r1
      obtain ⟨u, rfl, ru⟩ := Vals.one r
      cases ru
      obtain ⟨es, g, rr⟩ := ndct rh hd ea
      obtain ⟨xs, ep, h1, h2, h3, h4⟩ := dict_keys I rr (.inl g)
      refine PySem.W.kdl_call (KdlSrc.rawDict h2) (I.ok.hd hc) h1 h3 fun h' tk acc c' hk hD hacc => ?_
      obtain ⟨ws, w1, w2⟩ := h4 acc hacc
      refine ⟨.ref s.heap.objs.size, upd H s.heap.objs.size (.lst ws), I.laid (t' := tk) hk (Nat.le_refl _) (show ObjOk X.prog X.w _ _ _ (.lst ws) from ⟨by rw [Paired.length w2, Array.length_toList, hacc.1]; exact h3, acc.toList, c', w2, by rw [Array.toArray_toList]; exact hD⟩), rfl, ?_⟩
      have hp := I.hok.fresh (Nat.le_refl s.heap.objs.size)
      exact Pk.new rh hq hp ⟨_, upd_same, w1.mono (Nx.fresh hp _)⟩
    · exact b_list pins s σ H xs us Q I r ⟨_, M, μ, rh, rv, hq⟩
  · exact b_list pins s σ H xs us Q I r ⟨_, M, μ, rh, rv, hq⟩
end
end Mi
end
section
set_option maxRecDepth 100000
set_option maxHeartbeats 2000000
set_option autoImplicit false
namespace Mi
open PySem PySem.Spec PyProof.Rows L2

mutual
def cstB (K : PySem.W.Frag) : D → Value → Bool
  | .non, .none => true
  | .bl b, .bool c => b == c
  | .int i, .int j _ => decide (i = j)
  | .str x, .str y _ => decide (x = y)
  | .tup ds, .ref a => match K.lookup a with
    | some ⟨.type c, _, .seq its _, _⟩ => decide (c = "tuple") && (decide (its.size ≤ sizeLine) && cstsB K ds its.toList)
    | _ => false
  | _, _ => false
def cstsB (K : PySem.W.Frag) : List D → List Value → Bool
  | [], [] => true
  | d :: ds, u :: us => cstB K d u && cstsB K ds us
  | _, _ => false
end
mutual
theorem cstB_ok {K : PySem.W.Frag} : ∀ (d : D) (u : Value), cstB K d u = true → ∃ v, RelV v u ∧ ∀ H μ, RV K H μ d v
  | .non, u, h => by
    cases u with
    | none => exact ⟨.non, rfl, fun _ _ => .non⟩
    | _ => simp [cstB] at h
  | .bl b, u, h => by
    cases u with
    | bool c =>
      simp only [cstB, beq_iff_eq] at h
      exact ⟨.bl b, by subst h; rfl, fun _ _ => .bl b⟩
    | _ => simp [cstB] at h
  | .int i, u, h => by
    cases u with
    | int j t =>
      simp only [cstB, decide_eq_true_eq] at h
      exact ⟨.int i, by subst h; exact ⟨t, rfl⟩, fun _ _ => .int i⟩
    | _ => simp [cstB] at h
  | .str x, u, h => by
    cases u with
    | str y t =>
      simp only [cstB, decide_eq_true_eq] at h
      exact ⟨.str x, by subst h; exact ⟨t, rfl⟩, fun _ _ => .str x⟩
    | _ => simp [cstB] at h
  | .tup ds, u, h => by
    cases u with
    | ref a =>
      simp only [cstB] at h
      split at h
      · rename_i c dd its n sl q
        rw [Bool.and_eq_true, Bool.and_eq_true, decide_eq_true_eq, decide_eq_true_eq] at h
        obtain ⟨vs, h1, h2⟩ := cstsB_ok ds its.toList h.2.2
        exact ⟨.ref a, rfl, fun H μ => .tup (.inr ⟨_, its, n, q, congrArg Value.type h.1, rfl, h.2.1, h1⟩) (h2 H μ)⟩
      · cases h
    | _ => simp [cstB] at h
  | .ref n, u, h => by cases u <;> simp [cstB] at h
  | .klst _, u, h => by cases u <;> simp [cstB] at h
  | .exc .., u, h => by cases u <;> simp [cstB] at h
theorem cstsB_ok {K : PySem.W.Frag} : ∀ (ds : List D) (us : List Value), cstsB K ds us = true → ∃ vs, Vals vs us ∧ ∀ H μ, RVs K H μ ds vs
  | [], [], _ => ⟨[], .nil, fun _ _ => .nil⟩
  | [], _ :: _, h => by simp [cstsB] at h
  | _ :: _, [], h => by simp [cstsB] at h
  | d :: ds, u :: us, h => by
    simp only [cstsB, Bool.and_eq_true] at h
    obtain ⟨v, h1, h2⟩ := cstB_ok d u h.1
    obtain ⟨vs, h3, h4⟩ := cstsB_ok ds us h.2
    exact ⟨v :: vs, .cons h1 h3, fun H μ => .cons (h2 H μ) (h4 H μ)⟩
end

def oexB (K : PySem.W.Frag) (C : Addr) : Bool := match K.lookup C with
  | some ⟨.type "type", _, .cls cd, sl⟩ => (match cd.mro, sl.toList with
    | .ref C' :: bm, [_, _, _, _, some (.builtin n), _] => C' == C && n == "ValueError.__new__" && !cd.hasDel && cd.hasDict && HandSPX.refsVE bm
    | _, _ => false)
  | _ => false
inductive Fx where
  | he (f : He.Fa)
  | cst (x : Str) (d : D)
  | oex (x : Str) (fs : List Str)
  | kit (x y : Str) (b : Bool)
  | kitT (x : Str) (T : String) (b : Bool)
  | exmT (x : Str) (T : String) (b : Bool)
  | xcc (x : Str)
  | slc (x : Str)
  | slt (x f : Str) (i : Nat)
  | isi (x : Str)
  | kitB (x T : String) (y : Str) (b : Bool)
  | ntf (x : Str) (T : String)
  | prp (x f : Str)
  | xfd (x f : Str)
def slotP (K : PySem.W.Frag) (C : Addr) (f : Str) : Addr := He.ma K C f
def Fx.ok (K : PySem.W.Frag) : Fx → Bool
  | .he f => f.ok K
  | .cst x d => (match PySem.W.nsIn K mainGlobals x with
    | some (some u) => cstB K d u
    | _ => false)
  | .oex x fs => oexB K (He.ga K x) && (He.eqO (PySem.W.findIn K (.ref (He.ga K x)) "__setattr__") (some (some (.builtin "object.__setattr__"))) && (decide (PySem.W.subIn K (.ref (He.ga K x)) (.type "BaseException") = some true) && (decide (PySem.W.typeIn K (.ref (He.ga K x)) = some (.type "type")) &&
    (PySem.W.keepIn K (.ref (He.ga K x)) && (He.eqO (PySem.W.findIn K (.ref (He.ga K x)) "__init__") (some (some (.ref (He.ma K (He.ga K x) "__init__")))) && (decide (PySem.W.typeIn K (.ref (He.ma K (He.ga K x) "__init__")) = some (.type "function")) &&
    fs.all fun f => He.eqO (PySem.W.findIn K (.ref (He.ga K x)) f) (some none)))))))
  | .kit x y b => decide (PySem.W.kitOne K (.ref (He.ga K x)) (.ref (He.ga K y)) = some b)
  | .kitT x T b => decide (PySem.W.kitOne K (.ref (He.ga K x)) (.type T) = some b)
  | .exmT x T b => decide (PySem.W.exmOne K (.ref (He.ga K x)) (.type T) = some b)
  | .xcc x => (PySem.W.clsIn K (He.ga K x)).isSome && (He.eqO (PySem.W.findIn K (.ref (He.ga K x)) "__getattribute__") (some (some (.builtin "BaseException.__getattribute__"))) && (He.eqO (PySem.W.findIn K (.ref (He.ga K x)) "__getattr__") (some none) &&
    (decide (PySem.W.subIn K (.ref (He.ga K x)) (.type "BaseException") = some true) && (PySem.W.hasDictIn K (He.ga K x) && (He.eqO (PySem.W.findIn K (.ref (He.ga K x)) "__class__") (some (some (.builtin "object.__class__"))) &&
    (He.eqO (PySem.W.specialIn K (.builtin "object.__class__") "__get__") (some (some (.builtin "getset_descriptor.__get__"))) && (decide (PySem.W.takesIn K (.builtin "object.__class__") = some true) && decide (PySem.W.mroIn K (He.ga K x) (.type "object") = some true))))))))
  | .slc x => PySem.W.plainGet K (He.ga K x) Str.empty && (PySem.W.isClsIn K (He.ga K x) && (PySem.W.plainOver K (He.ga K x) && He.eqO (PySem.W.findIn K (.ref (He.ga K x)) "__setattr__") (some (some (.builtin "object.__setattr__")))))
  | .slt x f i => He.eqO (PySem.W.findIn K (.ref (He.ga K x)) f) (some (some (.ref (slotP K (He.ga K x) f)))) && (He.eqO (PySem.W.specialIn K (.ref (slotP K (He.ga K x) f)) "__get__") (some (some (.builtin "member_descriptor.__get__"))) &&
    (decide (PySem.W.takesIn K (.ref (slotP K (He.ga K x) f)) = some true) && (decide (PySem.W.typeIn K (.ref (slotP K (He.ga K x) f)) = some (.type "member_descriptor")) && (decide (PySem.W.slotIn K (slotP K (He.ga K x) f) (He.ga K x) = some i) && decide (i < 1000)))))
  | .isi x => He.eqO (PySem.W.findIn K (.ref (He.ga K x)) "__class__") (some (some (.builtin "object.__class__"))) && (He.eqO (PySem.W.specialIn K (.builtin "object.__class__") "__get__") (some (some (.builtin "getset_descriptor.__get__"))) &&
    (decide (PySem.W.takesIn K (.builtin "object.__class__") = some true) && decide (PySem.W.mroIn K (He.ga K x) (.type "object") = some true)))
  | .kitB _ T y b => decide (PySem.W.kitOne K (.type T) (.ref (He.ga K y)) = some b)
  | .ntf x T => PySem.W.notFirst K (He.ga K x) (.type T)
  | .prp x f => He.eqO (PySem.W.findIn K (.ref (He.ga K x)) f) (some (some (.ref (He.ma K (He.ga K x) f)))) && (He.eqO (PySem.W.specialIn K (.ref (He.ma K (He.ga K x) f)) "__get__") (some (some (.builtin "property.__get__"))) &&
    (decide (PySem.W.takesIn K (.ref (He.ma K (He.ga K x) f)) = some true) && (match PySem.W.recIn K (He.ma K (He.ga K x) f) "property" with
      | some (.ref _ :: _) => true
      | _ => false)))
  | .xfd x f => He.eqO (PySem.W.findIn K (.ref (He.ga K x)) "__getattribute__") (some (some (.builtin "BaseException.__getattribute__"))) && (He.eqO (PySem.W.findIn K (.ref (He.ga K x)) "__getattr__") (some none) &&
    (decide (PySem.W.subIn K (.ref (He.ga K x)) (.type "BaseException") = some true) && (PySem.W.hasDictIn K (He.ga K x) && He.eqO (PySem.W.findIn K (.ref (He.ga K x)) f) (some none))))
section
variable {K : PySem.W.Frag} {h : Heap} {mg : Str → Option Value}
theorem fx_cst (X : K.In h) (G : h.Ns mainGlobals mg) {x : Str} {d : D} (c : (Fx.cst x d).ok K = true) : CstOk K mg x d := by
  have c2 : (match PySem.W.nsIn K mainGlobals x with
    | some (some u) => cstB K d u
    | _ => false) = true := c
  split at c2
  · rename_i u q
    obtain ⟨v, h1, h2⟩ := cstB_ok d u c2
    exact ⟨u, v, PySem.W.mg_of X G q, h1, h2⟩
  · cases c2
theorem oexB_ok {C : Addr} (q : oexB K C = true) : ∃ nm qn N bs bm sn sub ab col dd k0 k1 k2 k3 k5, K.lookup C = some (excClassObj nm qn C N bs bm true sn sub ab col dd k0 k1 k2 k3 k5 "ValueError.__new__") ∧ PySem.HandSPX.refsVE bm = true := by
  unfold oexB at q
  split at q
  · rename_i dd cd sl ho
    split at q
    · rename_i C' bm k0 k1 k2 k3 n k5 hm hs
      simp only [Bool.and_eq_true, beq_iff_eq, Bool.not_eq_true'] at q
      obtain ⟨⟨⟨⟨rfl, rfl⟩, hdel⟩, hd⟩, hr⟩ := q
      obtain ⟨nm, bs, mro, ns, qn, hdi, sn, sub, ab, col, del⟩ := cd
      dsimp only at hm hdel hd
      subst hm hdel hd
      have hsl : sl = #[k0, k1, k2, k3, some (.builtin "ValueError.__new__"), k5] := by
        obtain ⟨l⟩ := sl
        simp only at hs
        rw [hs]
      subst hsl
      exact ⟨nm, qn, ns, bs, bm, sn, sub, ab, col, dd, k0, k1, k2, k3, k5, ho, hr⟩
    · cases q
  · cases q
theorem fx_oex {x : Str} {fs : List Str} (c : (Fx.oex x fs).ok K = true) : OexC K (He.ga K x) ∧ PySem.W.findIn K (.ref (He.ga K x)) "__init__" = some (some (.ref (He.ma K (He.ga K x) "__init__"))) ∧ PySem.W.typeIn K (.ref (He.ma K (He.ga K x) "__init__")) = some (.type "function") ∧
    ∀ f ∈ fs, PySem.W.findIn K (.ref (He.ga K x)) f = some none := by
  obtain ⟨c1, c⟩ := He.ba c
  obtain ⟨c2, c⟩ := He.ba c
  obtain ⟨c3, c⟩ := He.ba c
  obtain ⟨c4, c⟩ := He.ba c
  obtain ⟨c5, c⟩ := He.ba c
  obtain ⟨c6, c⟩ := He.ba c
  obtain ⟨c7, c8⟩ := He.ba c
  exact ⟨⟨oexB_ok c1, He.eqO_ok c2, of_decide_eq_true c3, of_decide_eq_true c4, c5⟩, He.eqO_ok c6, of_decide_eq_true c7, fun f hf => He.eqO_ok (List.all_eq_true.mp c8 f hf)⟩
theorem fx_exc (X : K.In h) (G : h.Ns mainGlobals mg) {x : Str} (g : (Fx.he (.glo x)).ok K = true) (c : (Fx.he (.exc x)).ok K = true) : Rz0 K mg (He.ga K x) x := by
  obtain ⟨c1, c2, c3, c4⟩ := He.exc_ok c
  exact ⟨c1, He.glo_ok X G g, c2, c3, c4⟩
theorem fx_xcc {x : Str} (c : (Fx.xcc x).ok K = true) : XcC K (He.ga K x) := by
  obtain ⟨c1, c⟩ := He.ba c
  obtain ⟨c2, c⟩ := He.ba c
  obtain ⟨c3, c⟩ := He.ba c
  obtain ⟨c4, c⟩ := He.ba c
  obtain ⟨c5, c⟩ := He.ba c
  obtain ⟨c6, c⟩ := He.ba c
  obtain ⟨c7, c⟩ := He.ba c
  obtain ⟨c8, c9⟩ := He.ba c
  exact ⟨c1, He.eqO_ok c2, He.eqO_ok c3, of_decide_eq_true c4, c5, He.eqO_ok c6, He.eqO_ok c7, of_decide_eq_true c8, of_decide_eq_true c9⟩
theorem fx_scl {x : Str} (c : (Fx.slc x).ok K = true) : SlX.SCls K (He.ga K x) := by
  obtain ⟨c1, c⟩ := He.ba c
  obtain ⟨c2, c⟩ := He.ba c
  obtain ⟨c3, c4⟩ := He.ba c
  exact ⟨c1, c2, c3, He.eqO_ok c4⟩
theorem fx_slt {x f : Str} {i : Nat} (c : (Fx.slc x).ok K = true) (d : (Fx.slt x f i).ok K = true) : SlF K (He.ga K x) f i := by
  obtain ⟨c1, c⟩ := He.ba c
  obtain ⟨c2, c⟩ := He.ba c
  obtain ⟨c3, c4⟩ := He.ba c
  obtain ⟨d1, d⟩ := He.ba d
  obtain ⟨d2, d⟩ := He.ba d
  obtain ⟨d3, d⟩ := He.ba d
  obtain ⟨d4, d⟩ := He.ba d
  obtain ⟨d5, d6⟩ := He.ba d
  exact ⟨⟨c1, c2, c3, He.eqO_ok c4⟩, ⟨_, He.eqO_ok d1, He.eqO_ok d2, of_decide_eq_true d3, of_decide_eq_true d4, of_decide_eq_true d5, of_decide_eq_true d6⟩⟩
/-- where a property's getter stands -/
def prA (K : PySem.W.Frag) (x f : Str) : Addr := match PySem.W.recIn K (He.ma K (He.ga K x) f) "property" with
  | some (.ref g :: _) => g
  | _ => 0
theorem fx_isi {x : Str} (c : (Fx.isi x).ok K = true) : SlX.SIsi K (He.ga K x) := by
  obtain ⟨c1, c⟩ := He.ba c
  obtain ⟨c2, c⟩ := He.ba c
  obtain ⟨c3, c4⟩ := He.ba c
  exact ⟨He.eqO_ok c1, He.eqO_ok c2, of_decide_eq_true c3, of_decide_eq_true c4⟩
theorem fx_kitB {x T : String} {y : Str} {b : Bool} (c : (Fx.kitB x T y b).ok K = true) : PySem.W.kitOne K (.type T) (.ref (He.ga K y)) = some b := of_decide_eq_true c
theorem fx_ntf {x : Str} {T : String} (c : (Fx.ntf x T).ok K = true) : PySem.W.notFirst K (He.ga K x) (.type T) = true := c
theorem fx_prp {x f : Str} (c : (Fx.prp x f).ok K = true) : PropOf K (He.ga K x) f (He.ma K (He.ga K x) f) (prA K x f) := by
  obtain ⟨c1, c⟩ := He.ba c
  obtain ⟨c2, c⟩ := He.ba c
  obtain ⟨c3, c4⟩ := He.ba c
  refine ⟨He.eqO_ok c1, He.eqO_ok c2, of_decide_eq_true c3, ?_⟩
  unfold prA
  split at c4
  · rename_i g r e
    rw [e]
    exact ⟨r, rfl⟩
  · cases c4
theorem fx_xfd {x f : Str} (c : (Fx.xfd x f).ok K = true) : XfC K (He.ga K x) ∧ PySem.W.findIn K (.ref (He.ga K x)) f = some none := by
  obtain ⟨c1, c⟩ := He.ba c
  obtain ⟨c2, c⟩ := He.ba c
  obtain ⟨c3, c⟩ := He.ba c
  obtain ⟨c4, c5⟩ := He.ba c
  exact ⟨⟨He.eqO_ok c1, He.eqO_ok c2, of_decide_eq_true c3, c4⟩, He.eqO_ok c5⟩
theorem fx_free (X : K.In h) (G : h.Ns mainGlobals mg) {x : Str} (c : (Fx.he (.free x)).ok K = true) : mg x = none := He.free_ok X G c
theorem fx_glo (X : K.In h) (G : h.Ns mainGlobals mg) {x : Str} (c : (Fx.he (.glo x)).ok K = true) : mg x = some (.ref (He.ga K x)) := He.glo_ok X G c
end
structure DefP extends He.DefD where
  prop : Bool
def DefP.adr (K : PySem.W.Frag) (d : DefP) : Addr := match d.prop with
  | true => prA K d.at_.1 (d.at_.2.getD "")
  | false => He.fAd K d.at_
def fnAt (K : PySem.W.Frag) (a : Addr) : He.FnW := match K.lookup a with
  | some ⟨_, _, .func z, _⟩ => some (z.name, z.qualname, z.params, z.body, z.scope, z.globals, z.closure, z.builtins)
  | _ => none
def okAt (K : PySem.W.Frag) (d : He.DefD) (a : Addr) : Bool := PySem.W.keepIn K (.ref a) && (match K.lookup a with
  | some ⟨_, _, .func z, _⟩ => PySem.W.codeIn K z.code d.qual && (He.dflB K z.defaults (d.dvs K) && He.kwdB K z.kwdefaults (d.kws K))
  | _ => false)
theorem funAt {K : PySem.W.Frag} {d : He.DefD} {a : Addr} (e : fnAt K a = d.val) (c : okAt K d a = true) : ∃ fd, FunD K d.name d.qual d.params d.body d.scope (d.dvs K) (d.kws K) a fd := by
  obtain ⟨kp, c2⟩ := He.ba c
  unfold fnAt at e
  rcases q : K.lookup a with _ | ⟨oc, od, dt, osl⟩
  · rw [q] at c2; cases c2
  rw [q] at c2 e
  cases dt with
  | func z =>
    rcases z with ⟨n1, n2, n3, n4, n5, n6, n7, n8, n9, n10, n11, n12, n13, n14, n15⟩
    have e2 : (some (n1, n2, n3, n4, n5, n6, n7, n15) : He.FnW) = some (d.name, d.qual, d.params, .stmts d.body, d.scope, mainGlobals, [], builtinsNs) := e
    simp only [Option.some.injEq, Prod.mk.injEq] at e2
    rcases e2 with ⟨rfl, rfl, rfl, rfl, rfl, rfl, rfl, rfl⟩
    obtain ⟨k1, k2⟩ := He.ba (show (PySem.W.codeIn K n13 d.qual && (He.dflB K n8 (d.dvs K) && He.kwdB K n9 (d.kws K))) = true from c2)
    obtain ⟨k3, k4⟩ := He.ba k2
    exact ⟨_, ⟨oc, od, n8, n9, n10, n11, n12, n13, n14, osl, rfl, q, k1, He.dflB_ok k3, He.kwdB_ok k4⟩, kp⟩
  | _ => cases c2
def obsM (fa : List Fx) (fn : List DefP) (K : PySem.W.Frag) : He.AlD := ((fa.all fun f => f.ok K) && fn.all fun d => okAt K d.toDefD (d.adr K), fn.map fun d => fnAt K (d.adr K))
def valM (fn : List DefP) : He.AlD := (true, fn.map fun d => d.toDefD.val)
def SaysM (fa : List Fx) (fn : List DefP) (K : PySem.W.Frag) : Prop := obsM fa fn K = valM fn
def obsMG (n : Nat) (fa : List Fx) (fn : List DefP) (g : Addr → Option Obj) : He.AlD := obsM fa fn (He.frG g (He.asD g n))
def hookM (n : Nat) (fa : List Fx) (fn : List DefP) : PySem.W.Hook where
  α := He.AlD
  obs := fun s => obsMG n fa fn s.heap.get?
  val := fun _ => valM fn
  says := fun _ h => ∃ K : PySem.W.Frag, K.In h ∧ SaysM fa fn K
  of := fun _ _ e => ⟨_, He.frG_in, e⟩
  keeps := fun _ _ _ ⟨K, hK, c⟩ k => ⟨K, PySem.W.Frag.In.keeps hK k, c⟩
theorem obsMG_eq {n : Nat} {fa : List Fx} {fn : List DefP} {g : Addr → Option Obj} {s : Shared} (h : ∀ a, g a = s.heap.get? a) : obsMG n fa fn g = (hookM n fa fn).obs s := by
  have e : g = s.heap.get? := funext h
  rw [e] <;> rfl
section
variable {fa : List Fx} {fn : List DefP} {K : PySem.W.Frag}
theorem SaysM.fact (c : SaysM fa fn K) (i : Nat) {f : Fx} (h : fa[i]? = some f := by rfl) : f.ok K = true := by
  have c1 := (He.ba (show ((fa.all fun f => f.ok K) && fn.all fun d => okAt K d.toDefD (d.adr K)) = true from congrArg (fun z : He.AlD => z.1) c)).1
  exact List.all_eq_true.mp c1 f (List.mem_of_getElem? h)
theorem SaysM.def_ (c : SaysM fa fn K) (i : Nat) {d : DefP} (h : fn[i]? = some d := by rfl) : ∃ fd, FunD K d.toDefD.name d.toDefD.qual d.toDefD.params d.toDefD.body d.toDefD.scope (d.toDefD.dvs K) (d.toDefD.kws K) (d.adr K) fd := by
  have c2 := (He.ba (show ((fa.all fun f => f.ok K) && fn.all fun d => okAt K d.toDefD (d.adr K)) = true from congrArg (fun z : He.AlD => z.1) c)).2
  have e : fn.map (fun d => fnAt K (d.adr K)) = fn.map fun d => d.toDefD.val := congrArg (fun z : He.AlD => z.2) c
  have e2 : (fn.map fun d => fnAt K (d.adr K))[i]? = (fn.map fun d => d.toDefD.val)[i]? := by rw [e]
  rw [List.getElem?_map, List.getElem?_map, h] at e2
  exact funAt (Option.some.inj e2) (List.all_eq_true.mp c2 d (List.mem_of_getElem? h))
end
section
variable {P : Program} {w : World} {K : PySem.W.Frag} {mg : Str → Option Value} {base : Heap} {N : List Str} {qual : Str} {scope : Scope} {i : Addr} {cdv : Value} {A : Around} {outer : List Env} {s : Shared} {H : Hp} {E : XK}
theorem takes_cx : Takes (cxOf (L2.CX P w) P w K mg base N qual scope i cdv A outer s H E) (fun cls d _ H => E cls d H) := takes_of rfl rfl rfl rfl
theorem passes_cx : PassesOwn (model P w) (cxOf (L2.CX P w) P w K mg base N qual scope i cdv A outer s H E).A (cxOf (L2.CX P w) P w K mg base N qual scope i cdv A outer s H E).env (cxOf (L2.CX P w) P w K mg base N qual scope i cdv A outer s H E).xe := passes_of rfl
end
theorem takes_W0 {X : Cx} : Takes X W0 := takes_none5
theorem cx_never {P : Program} {w : World} (H : Hp) (s : Shared) (e : Value) (s' : Shared) : L2.CX P w [] H s (fun _ _ _ => False) e s' → False := fun ⟨_, _, _, _, _, _, _, _, _, _, _, _, z⟩ => z
/-- the end of a law whose defs may raise: the promise at each world -/
theorem walk_at {l : PySem.W.OpenLaw} {n k : Nat} {q : Program} {loose : List Str} {XP : (Str → Option Value) → Heap → Prop} {YP : World → Heap → Prop} {d : DefRec} {x : Str} (hn : l.most = some n) (hn2 : n ≤ sizeLine) (hdf : d.params.defaults = []) (hr : Room k callerA)
    (T : ∀ (w : World) (mg : Str → Option Value) (fa : Addr) (h : Heap), YP w h → h.Ns mainGlobals mg → mg d.name = some (.ref fa) → ∃ (K : PySem.W.Frag) (fd : FuncData) (sp : Sp), K.In h ∧ (∀ (s : Shared) (u : Value), BindsTo s fd ⟨[u], []⟩ [(x, u)]) ∧
      (∀ (H : Hp) (a : Addr) (ns : List Int), ns.length ≤ n → Only H → SqL K H a (ns.map V.int) → sp [.ref a] H (fun v _ => v = .bl true) fun _ _ _ => False) ∧ ∀ base : Heap, FnOk l.prog w K mg base (L2.CX l.prog w) k fa fd [x] sp) :
    PySem.W.WalkO q loose XP YP l.row.toRowW d [] (fun f vs => PySem.call f vs) := by
  refine Att.attach_call hn hdf fun w s₀ s₁ mg mb fa o pm cd doc a vs ns G Y ho hd hcd hmg hobj hints hlen hg => ?_
  obtain ⟨K, fd, sp, h1, h2, h3, h4⟩ := T w mg fa _ Y G.T.g hmg
  refine law_call h1 G.T.g G.T.b G.T.builtins G.T.nolimit hg hobj hints (Nat.le_trans hlen hn2) hr (fun base _ _ => h4 base) h2 (fun H hO hS => h3 H a ns hlen hO hS) fun H e s' => cx_never H s₁ e s'
end Mi
end
section
set_option maxRecDepth 100000
set_option maxHeartbeats 2000000
set_option autoImplicit false
namespace Mi
open PySem

def wX {α : Type} (r : R α) (Q : α → Hs → Prop) : Prop := match r with
  | .ok a M => Q a M
  | _ => False
def wO {α : Type} (r : Option (α × Hs)) (Q : α → Hs → Prop) : Prop := match r with
  | some (a, M) => Q a M
  | none => False
def wS (r : RS) (N : Sl → Hs → Prop) (T : D → Hs → Prop) : Prop := match r with
  | .nx ζ M => N ζ M
  | .rt d M => T d M
  | _ => False
section
variable {α β : Type} {Q Q' : α → Hs → Prop} {ζ : Sl} {M : Hs} {N N' : Sl → Hs → Prop} {T T' : D → Hs → Prop}
theorem wX_ok {a : α} : wX (.ok a M) Q = Q a M := rfl
theorem wX_no : wX (.no : R α) Q = False := rfl
theorem wX_mono {r : R α} (h : wX r Q) (i : ∀ a M, Q a M → Q' a M) : wX r Q' := by
  cases r with
  | ok a M => exact i a M h
  | _ => exact h
theorem wS_mono {r : RS} (h : wS r N T) (i : ∀ a M, N a M → N' a M) (j : ∀ a M, T a M → T' a M) : wS r N' T' := by
  cases r with
  | nx a M => exact i a M h
  | rt a M => exact j a M h
  | _ => exact h
theorem wX_get {r : R α} (h : wX r Q) : ∃ a M, r = .ok a M ∧ Q a M := by
  cases r with
  | ok a M => exact ⟨a, M, rfl, h⟩
  | _ => exact h.elim
theorem wX_eq {r : R α} {a : α} (h : r = .ok a M) (q : Q a M) : wX r Q := by rw [h]; exact q
theorem wX_bind {r : R α} {k : α → Hs → R β} {Q : β → Hs → Prop} : wX (r.bind k) Q = wX r fun a M => wX (k a M) Q := by cases r <;> rfl
theorem wX_of {r : Option (α × Hs)} : wX (R.of r) Q = wO r Q := by
  cases r with
  | none => rfl
  | some p => rfl
theorem wO_some {a : α} : wO (some (a, M)) Q = Q a M := rfl
theorem wO_none : wO (none : Option (α × Hs)) Q = False := rfl
theorem wS_nx : wS (.nx ζ M) N T = N ζ M := rfl
theorem wS_rt {d : D} : wS (.rt d M) N T = T d M := rfl
theorem wS_of {r : R α} {k : α → Hs → RS} : wS (RS.of ζ r k) N T = wX r fun a M => wS (k a M) N T := by cases r <;> rfl
variable {a b : MS} {f g fo fi fv : MX} {t : MT} {i : Nat} {ga : MA}
theorem wS_seq : wS (sSeq a b ζ M) N T = wS (a ζ M) (fun ζ M => wS (b ζ M) N T) T := by
  unfold sSeq
  cases a ζ M <;> rfl
theorem wS_set : wS (sSet i f ζ M) N T = wX (f ζ M) fun d M => N (ζ.set i (some d)) M := wS_of
theorem wS_ret : wS (sRet f ζ M) N T = wX (f ζ M) T := wS_of
theorem wS_expr : wS (sExpr f ζ M) N T = wX (f ζ M) fun _ M => N ζ M := wS_of
theorem wS_pass : wS (sPass ζ M) N T = N ζ M := rfl
theorem wS_if : wS (sIf t a b ζ M) N T = wX (t ζ M) fun c M => if c = true then wS (a ζ M) N T else wS (b ζ M) N T := by
  unfold sIf
  rw [wS_of]
  congr
  funext c M
  split <;> rfl
theorem wS_put {p : D → D → D → Hs → Option Hs} : wS (sPut p fo fi fv ζ M) N T = wX (fv ζ M) fun v M => wX (fo ζ M) fun o M => wX (fi ζ M) fun i M => match p o i v M with
  | some M => N ζ M
  | none => False := by
  unfold sPut
  rw [wS_of]
  congr
  funext v M1
  rw [wS_of]
  congr
  funext o M2
  rw [wS_of]
  congr
  funext i M3
  cases p o i v M3 <;> rfl
variable {Qd : D → Hs → Prop}
theorem wX_var : wX (xVar i ζ M) Qd = match ζ[i]? with
  | some (some d) => Qd d M
  | _ => False := by
  unfold xVar
  cases ζ[i]? with
  | none => rfl
  | some o => cases o <;> rfl
theorem wX_c {d : D} : wX (xC d ζ M) Qd = Qd d M := rfl
theorem wX_2 {p : D → D → Hs → Option (D × Hs)} : wX (x2 p f g ζ M) Qd = wX (f ζ M) fun x M => wX (g ζ M) fun y M => wO (p x y M) Qd := by
  unfold x2
  simp only [wX_bind, wX_of]
theorem wX_3 {p p' : D → D → Hs → Option (D × Hs)} : wX (x3 p p' f g fo ζ M) Qd = wX (f ζ M) fun x M => wX (g ζ M) fun y M => wO (p x y M) fun z M => match z with
  | .bl true => wX (fo ζ M) fun u M => wO (p' y u M) Qd
  | .bl false => Qd (.bl false) M
  | _ => False := by
  unfold x3
  simp only [wX_bind, wX_of]
  congr
  funext x M1
  congr
  funext y M2
  congr
  funext z M3
  split
  · rw [wX_bind]
    simp only [wX_of]
  · rfl
  · rename_i h1 h2
    first
      | rfl
      | (split
         · exact absurd rfl h1
         · exact absurd rfl h2
         · rfl)
theorem wX_anil {Q : List D → Hs → Prop} : wX (aNil ζ M) Q = Q [] M := rfl
theorem wX_acons {Q : List D → Hs → Prop} : wX (aCons f ga ζ M) Q = wX (f ζ M) fun x M => wX (ga ζ M) fun xs M => Q (x :: xs) M := by
  unfold aCons
  simp only [wX_bind, wX_ok]
theorem wX_tup : wX (xTup ga ζ M) Qd = wX (ga ζ M) fun ds M => if ds.length ≤ sizeLine then Qd (.tup ds) M else False := by
  unfold xTup
  simp only [wX_bind]
  congr
  funext ds M
  split <;> rfl
theorem wX_lst : wX (xLst ga ζ M) Qd = wX (ga ζ M) fun ds M => if ds.length ≤ sizeLine then Qd (.ref M.length) (M ++ [.lst ds]) else False := by
  unfold xLst newL
  simp only [wX_bind, wX_of]
  congr
  funext ds M
  split <;> rfl
theorem wX_dict : wX (xDict ζ M) Qd = Qd (.ref M.length) (M ++ [.dct []]) := rfl
theorem wX_b {p : GL} : wX (xB p ga ζ M) Qd = wX (ga ζ M) fun ds M => wO (p ds M) Qd := by
  unfold xB
  simp only [wX_bind, wX_of]
theorem wX_meth {ok : D → Hs → Bool} {p : GM} : wX (xMeth ok p f ga ζ M) Qd = wX (f ζ M) fun x M => if ok x M = true then wX (ga ζ M) fun ds M => wO (p x ds M) Qd else False := by
  unfold xMeth
  rw [wX_bind]
  congr
  funext x M
  split
  · simp only [wX_bind, wX_of]
  · rfl
theorem wX_call {n : Nat} {F : MF} : wX (xCall n F ga ζ M) Qd = wX (ga ζ M) fun ds M => if ds.length = n then wX (F ds M) Qd else False := by
  unfold xCall
  rw [wX_bind]
  congr
  funext ds M
  split <;> rfl
theorem wX_fn {np nl : Nat} {ds : List D} : wX (fnS np nl a ds M) Qd = wS (a (ds.map some ++ List.replicate (nl - np) none) M) (fun _ M => Qd .non M) Qd := by
  unfold fnS
  cases a (ds.map some ++ List.replicate (nl - np) none) M <;> rfl
theorem wX_if : wX (xIf t f g ζ M) Qd = wX (t ζ M) fun c M => if c = true then wX (f ζ M) Qd else wX (g ζ M) Qd := by
  unfold xIf
  rw [wX_bind]
  congr
  funext c M
  split <;> rfl
theorem wX_t1 {Q : Bool → Hs → Prop} : wX (tB1 f ζ M) Q = wX (f ζ M) fun x M => match x with
  | .bl k => Q k M
  | _ => False := by
  unfold tB1
  rw [wX_bind]
  congr
  funext x M
  cases x <;> rfl
variable {t2 : MT} {Qb : Bool → Hs → Prop}
theorem wX_and2 : wX (tAnd2 t t2 ζ M) Qb = wX (t ζ M) fun c M => if c = true then wX (t2 ζ M) Qb else Qb false M := by
  unfold tAnd2
  rw [wX_bind]
  congr
  funext c M
  split <;> rfl
theorem wX_or2 : wX (tOr2 t t2 ζ M) Qb = wX (t ζ M) fun c M => if c = true then Qb true M else wX (t2 ζ M) Qb := by
  unfold tOr2
  rw [wX_bind]
  congr
  funext c M
  split <;> rfl
theorem wX_not1 : wX (tNot1 t ζ M) Qb = wX (t ζ M) fun c M => Qb (!c) M := by
  unfold tNot1
  rw [wX_bind]
  rfl
theorem wX_true : wX (tTrue ζ M) Qb = Qb true M := rfl
theorem wX_neg : wX (xNeg f ζ M) Qd = wX (f ζ M) fun x M => match x with
  | .int i => Qd (.int (-i)) M
  | _ => False := by
  unfold xNeg
  rw [wX_bind]
  congr
  funext x M
  cases x <;> rfl
theorem wX_oN {Q : Option Int → Hs → Prop} : wX (oNone ζ M) Q = Q none M := rfl
theorem wX_oS {Q : Option Int → Hs → Prop} : wX (oSome f ζ M) Q = wX (f ζ M) fun x M => match x with
  | .int i => Q (some i) M
  | _ => False := by
  unfold oSome
  rw [wX_bind]
  congr
  funext x M
  cases x <;> rfl
theorem wX_not : wX (xNot f ζ M) Qd = wX (f ζ M) fun x M => match x with
  | .bl k => Qd (.bl (!k)) M
  | _ => False := by
  unfold xNot
  rw [wX_bind]
  congr
  funext x M
  cases x <;> rfl
theorem wX_and : wX (xAnd f g ζ M) Qd = wX (f ζ M) fun x M => match x with
  | .bl true => wX (g ζ M) Qd
  | .bl false => Qd (.bl false) M
  | _ => False := by
  unfold xAnd
  rw [wX_bind]
  congr
  funext x M
  split <;> first | rfl | (rename_i h1 h2; split <;> first | exact absurd rfl h1 | exact absurd rfl h2 | rfl)
theorem wX_or : wX (xOr f g ζ M) Qd = wX (f ζ M) fun x M => match x with
  | .bl true => Qd (.bl true) M
  | .bl false => wX (g ζ M) Qd
  | _ => False := by
  unfold xOr
  rw [wX_bind]
  congr
  funext x M
  split <;> first | rfl | (rename_i h1 h2; split <;> first | exact absurd rfl h1 | exact absurd rfl h2 | rfl)
theorem wX_is {T : String} : wX (xIs T f ζ M) Qd = wX (f ζ M) fun x M => match kindOf x M with
  | some k => Qd (.bl (isKind k T)) M
  | none => False := by
  unfold xIs
  rw [wX_bind]
  congr
  funext x M
  cases kindOf x M <;> rfl
theorem wX_cut {l h : MO'} : wX (xCut f l h ζ M) Qd = wX (f ζ M) fun x M => wX (l ζ M) fun i M => wX (h ζ M) fun j M => wO (gCut x i j M) Qd := by
  unfold xCut
  simp only [wX_bind, wX_of]
theorem wX_fld {c k : Nat} : wX (xFld c k f ζ M) Qd = wX (f ζ M) fun x M => match slAt c x M with
  | some (_, fs) => match fs[k]? with
    | some (some d) => Qd d M
    | _ => False
  | none => False := by
  unfold xFld
  rw [wX_bind]
  congr
  funext x M
  cases slAt c x M with
  | none => rfl
  | some q =>
    obtain ⟨n, fs⟩ := q
    dsimp only
    cases fs[k]? with
    | none => rfl
    | some o => cases o <;> rfl
theorem wS_for {s : MY} {p : Pt} : wS (sFor s p a ζ M) N T = wX (s ζ M) fun yd M => wS (forN yd.y p a yd.fuel 0 ζ M) N T := wS_of
theorem wS_forN {y : Nat → Hs → Option (Option D)} {p : Pt} (I : Nat → Sl → Hs → Prop) (e : Nat) (go : ∀ i ζ M, i < e → I i ζ M → ∃ d l, y i M = some (some d) ∧ bindP p d = some l ∧ wS (a (setAll ζ l) M) (I (i + 1)) T) (fin : ∀ ζ M, I e ζ M → y e M = some none ∧ N ζ M) :
    ∀ (m i : Nat) (ζ : Sl) (M : Hs), e - i < m → i ≤ e → I i ζ M → wS (forN y p a m i ζ M) N T
  | 0, _, _, _, h, _, _ => by omega
  | m + 1, i, ζ, M, h, hi, q => by
    unfold forN
    by_cases hie : i = e
    · subst hie
      obtain ⟨h1, h2⟩ := fin ζ M q
      rw [h1]
      exact h2
    · obtain ⟨d, l, h1, h2, h3⟩ := go i ζ M (by omega) q
      rw [h1]
      dsimp only
      rw [h2]
      dsimp only
      cases hr : a (setAll ζ l) M with
      | nx ζ1 M1 => rw [hr] at h3; exact wS_forN I e go fin m (i + 1) ζ1 M1 (by omega) (by omega) h3
      | rt d M1 => rw [hr] at h3; exact h3
      | bk ζ1 M1 => rw [hr] at h3; exact h3.elim
      | ct ζ1 M1 => rw [hr] at h3; exact h3.elim
      | ex c fs ζ1 M1 => rw [hr] at h3; exact h3.elim
      | no => rw [hr] at h3; exact h3.elim
theorem wS_whileN (I : Nat → Sl → Hs → Prop) (go : ∀ n ζ M, I n ζ M → wX (t ζ M) fun c M => if c = true then wS (a ζ M) (fun ζ M => ∃ m, m < n ∧ I m ζ M) T else N ζ M) : ∀ (m n : Nat) (ζ : Sl) (M : Hs), n < m → I n ζ M → wS (whileN t a m ζ M) N T
  | 0, _, _, _, h, _ => by omega
  | m + 1, n, ζ, M, h, q => by
    have g := go n ζ M q
    unfold whileN
    rw [wS_of]
    refine wX_mono g fun c M1 h1 => ?_
    cases c with
    | false => exact h1
    | true =>
      rw [if_pos rfl] at h1 ⊢
      cases hr : a ζ M1 with
      | nx ζ1 M2 =>
        rw [hr] at h1
        obtain ⟨k, hk, hi⟩ := h1
        exact wS_whileN I go m k ζ1 M2 (by omega) hi
      | rt d M2 => rw [hr] at h1; exact h1
      | bk ζ1 M2 => rw [hr] at h1; exact h1.elim
      | ct ζ1 M2 => rw [hr] at h1; exact h1.elim
      | ex c fs ζ1 M2 => rw [hr] at h1; exact h1.elim
      | no => rw [hr] at h1; exact h1.elim
theorem wS_while (I : Nat → Sl → Hs → Prop) (n : Nat) (h : n < 10 ^ 30) (q : I n ζ M) (go : ∀ n ζ M, I n ζ M → wX (t ζ M) fun c M => if c = true then wS (a ζ M) (fun ζ M => ∃ m, m < n ∧ I m ζ M) T else N ζ M) : wS (sWhile t a ζ M) N T :=
  wS_whileN I go far n ζ M h q
/-- a comprehension's loop -/
theorem wX_lcN {y : Nat → Hs → Option (Option D)} {p : Pt} {k : Sl → Hs → R Unit} {Q : Hs → Prop} (I : Nat → Hs → Prop) (e : Nat) (go : ∀ i M, i < e → I i M → ∃ d l, y i M = some (some d) ∧ bindP p d = some l ∧ wX (k (setAll ζ l) M) fun _ M => I (i + 1) M)
    (fin : ∀ M, I e M → y e M = some none ∧ Q M) : ∀ (m i : Nat) (M : Hs), e - i < m → i ≤ e → I i M → wX (lcN y p k ζ m i M) fun _ M => Q M
  | 0, _, _, h, _, _ => by omega
  | m + 1, i, M, h, hi, q => by
    unfold lcN
    by_cases hie : i = e
    · subst hie
      obtain ⟨h1, h2⟩ := fin M q
      rw [h1]
      exact h2
    · obtain ⟨d, l, h1, h2, h3⟩ := go i M (by omega) q
      rw [h1]
      dsimp only
      rw [h2]
      dsimp only
      cases hr : k (setAll ζ l) M with
      | ok u M1 => rw [hr] at h3; exact wX_lcN I e go fin m (i + 1) M1 (by omega) (by omega) h3
      | ex c fs M1 => rw [hr] at h3; exact h3.elim
      | no => rw [hr] at h3; exact h3.elim
theorem wX_lc {s : MY} {vs : List Nat} {p : Pt} : wX (xLc s vs p t f ζ M) Qd = wX (s ζ M) fun yd M1 => wX (lcN yd.y p (lcB t f M1.length) (wipeD ζ vs) yd.fuel 0 (M1 ++ [.lst []])) fun _ M2 => Qd (.ref M1.length) M2 := by
  unfold xLc
  simp only [wX_bind, wX_ok]
/-- a comprehension over known items whose test and item only allocate: p i is put in where c i -/
theorem wX_lcB {n : Nat} {c : Bool} {v : D} {acc : List D} {Q : Unit → Hs → Prop} (ht : wX (t ζ M) fun b M1 => b = c ∧ (if c = true then wX (f ζ M1) fun z M2 => z = v ∧ hLst M2 n = some acc ∧ acc.length < sizeLine ∧ Q () (M2.set n (.lst (acc ++ [v]))) else Q () M1)) : wX (lcB t f n ζ M) Q := by
  unfold lcB
  obtain ⟨b, M1, h1, rfl, h2⟩ := wX_get ht
  rw [h1]
  cases b with
  | false => exact h2
  | true =>
    rw [if_pos rfl] at h2
    obtain ⟨z, M2, h3, rfl, h4, h5, h6⟩ := wX_get h2
    dsimp only
    rw [h3]
    dsimp only
    unfold lput
    rw [h4]
    dsimp only
    rw [if_pos h5]
    exact h6
end
end Mi
end
section
set_option maxRecDepth 100000
set_option maxHeartbeats 2000000
set_option autoImplicit false
namespace Mi
open PySem
def optD : Option Int → D
  | some i => .int i
  | none => .non
/-- where a key leads -/
def ledP (p s t o : Int) : Option Int :=
  let f := p + s
  let f := if 0 < o ∧ f < 0 then f + o else if 0 < o ∧ t < f then f - o else f
  if 0 ≤ f ∧ f ≤ t then some f else none
theorem g_add {i j : Int} {M : Hs} : gAdd (.int i) (.int j) M = some (.int (i + j), M) := rfl
theorem g_sub {i j : Int} {M : Hs} : gSub (.int i) (.int j) M = some (.int (i - j), M) := rfl
theorem g_lt {i j : Int} {M : Hs} : gLt (.int i) (.int j) M = some (.bl (decide (i < j)), M) := rfl
theorem g_le {i j : Int} {M : Hs} : gLe (.int i) (.int j) M = some (.bl (decide (i ≤ j)), M) := rfl
theorem g_gt {i j : Int} {M : Hs} : gGt (.int i) (.int j) M = some (.bl (decide (j < i)), M) := rfl
theorem g_ge {i j : Int} {M : Hs} : gGe (.int i) (.int j) M = some (.bl (decide (j ≤ i)), M) := rfl
theorem g_mod {i j : Int} {M : Hs} (h : 0 < j) : gMod (.int i) (.int j) M = some (.int (i % j), M) := by unfold gMod gI; simp [h]
theorem g_div {i j : Int} {M : Hs} (h : 0 < j) (h2 : j < 1073741824) : gDiv (.int i) (.int j) M = some (.int (i / j), M) := by unfold gDiv gI; simp [h, h2]
theorem g_mul {i j : Int} {M : Hs} (h : inW j = true) : gMul (.int i) (.int j) M = some (.int (i * j), M) := by unfold gMul gI; simp [h]
theorem g_int {i : Int} {M : Hs} : gInt [.int i] M = some (.int i, M) := rfl
theorem g_intb {b : Bool} {M : Hs} : gInt [.bl b] M = some (.int (if b then 1 else 0), M) := rfl
theorem g_max {i j : Int} {M : Hs} : gMax2 [.int i, .int j] M = some (.int (if j > i then j else i), M) := rfl
theorem atI_nat {xs : List D} {i : Nat} {k : Int} {d : D} (hd : xs[i]? = some d) (hk : k = (i : Int)) : L2.atI xs k = some d := by
  have hl := (List.getElem?_eq_some_iff.mp hd).1
  subst hk
  unfold L2.atI L2.ixN
  rw [if_pos (by omega), if_pos (by omega)]
  simpa using hd
theorem g_ixL {M : Hs} {n : Nat} {xs : List D} {i : Nat} {k : Int} {d : D} (h : M[n]? = some (.lst xs)) (hd : xs[i]? = some d) (hk : k = (i : Int) := by rfl) : gIxA (.ref n) (.int k) M = some (d, M) := by
  have e : gIxA (.ref n) (.int k) M = gIx (.ref n) (.int k) M := by simp [gIxA, hDct, h]
  rw [e]
  unfold gIx
  have e2 : hSeq M (.ref n) = some xs := by simp [hSeq, h]
  rw [e2]
  dsimp only
  rw [atI_nat hd hk]
theorem g_ixT {M : Hs} {xs : List D} {i : Nat} {k : Int} {d : D} (hd : xs[i]? = some d) (hk : k = (i : Int) := by rfl) : gIxA (.tup xs) (.int k) M = some (d, M) := by
  show gIx (.tup xs) (.int k) M = _
  unfold gIx
  have e2 : hSeq M (.tup xs) = some xs := rfl
  rw [e2]
  dsimp only
  rw [atI_nat hd hk]
end Mi
end
section
set_option maxRecDepth 100000
set_option maxHeartbeats 2000000
set_option autoImplicit false
namespace Mi
open PySem

abbrev Sp2 := Int × Int
abbrev Tr3 := Int × Int × Int
def trD (t : Tr3) : D := .tup [.int t.1, .int t.2.1, .int t.2.2]
def setD (xs : List Sp2) : List (D × D) := xs.map fun p => (prD p, .bl true)
def kyP (p : Sp2) : NestedKey := .tup [.num p.1, .num p.2]
def addS (xs : List Sp2) (p : Sp2) : List Sp2 := if p ∈ xs then xs else xs ++ [p]
theorem nkey_prD (p : Sp2) : nkey (prD p) = some (kyP p) := by simp [prD, nkey, nkeys, kyP]
theorem kyP_inj {p q : Sp2} (h : kyP p = kyP q) : p = q := by
  unfold kyP at h
  simp at h
  exact Prod.ext h.1 h.2
theorem keyOf_prD (p : Sp2) : keyOf (prD p) = some (kyP p) := by
  have h1 : isTupD (prD p) = true := rfl
  have h2 : (kyP p).depth ≤ 8 := by simp [kyP, NestedKey.depth, NestedKey.depthAll]
  unfold keyOf
  rw [if_pos h1, nkey_prD]
  dsimp only
  rw [if_pos h2]
theorem dGet_setD (xs : List Sp2) (p : Sp2) : (dGet (setD xs) (kyP p)).isSome = decide (p ∈ xs) := by
  unfold dGet setD
  induction xs with
  | nil => rfl
  | cons x xs ih =>
    rw [List.map_cons, List.find?_cons]
    by_cases h : x = p
    · subst h
      simp [nkey_prD]
    · have h2 : decide (nkey (prD x) = some (kyP p)) = false := decide_eq_false (by rw [nkey_prD]; exact fun e => h (kyP_inj (Option.some.inj e)))
      simp only [h2]
      rw [ih]
      have h3 : p ≠ x := Ne.symm h
      simp [h3]
theorem dPut_setD (xs : List Sp2) (p : Sp2) : dPut (setD xs) (kyP p) (prD p) (.bl true) = setD (addS xs p) := by
  unfold dPut addS
  rw [dGet_setD]
  by_cases h : p ∈ xs
  · rw [if_pos (by simpa using h), if_pos h]
    unfold setD
    rw [List.map_map]
    apply List.map_congr_left
    intro q _
    simp only [Function.comp]
    split <;> rfl
  · rw [if_neg (by simpa using h), if_neg h]
    simp [setD]
theorem g_inS {k : Bool → Bool} {n : Nat} {p : Sp2} {xs : List Sp2} {M : Hs} (h : M[n]? = some (.dct (setD xs))) : gInA k (prD p) (.ref n) M = some (.bl (k (decide (p ∈ xs))), M) := by
  have e : hDct M n = some (setD xs) := by unfold hDct; rw [h]
  unfold gInA
  dsimp only
  rw [e]
  dsimp only
  rw [keyOf_prD]
  dsimp only
  rw [dGet_setD]
theorem g_putS {n : Nat} {p : Sp2} {xs : List Sp2} {M : Hs} (h : M[n]? = some (.dct (setD xs))) (hl : xs.length < sizeLine) : gPutA (.ref n) (prD p) (.bl true) M = some (M.set n (.dct (setD (addS xs p)))) := by
  have e : hDct M n = some (setD xs) := by unfold hDct; rw [h]
  unfold gPutA
  dsimp only
  rw [e]
  dsimp only
  rw [keyOf_prD]
  dsimp only
  rw [if_pos (by unfold setD; rw [List.length_map]; exact hl), dPut_setD]
theorem mem_addS {xs : List Sp2} {p q : Sp2} : q ∈ addS xs p ↔ q ∈ xs ∨ q = p := by
  unfold addS
  split
  · rename_i h
    constructor
    · exact .inl
    · rintro (h1 | rfl)
      · exact h1
      · exact h
  · simp
theorem nodup_addS {xs : List Sp2} {p : Sp2} (h : xs.Nodup) : (addS xs p).Nodup := by
  unfold addS
  split
  · exact h
  · rename_i hp
    rw [List.nodup_append]
    exact ⟨h, by simp, fun a ha b hb e => by simp at hb; subst hb; subst e; exact hp ha⟩
def Fr (S : Nat → Prop) (M M' : Hs) : Prop := M.length ≤ M'.length ∧ ∀ n, n < M.length → ¬ S n → M'[n]? = M[n]?
def No : Nat → Prop := fun _ => False
theorem Fr.refl (S : Nat → Prop) (M : Hs) : Fr S M M := ⟨Nat.le_refl _, fun _ _ _ => rfl⟩
theorem Fr.trans {S : Nat → Prop} {M M1 M2 : Hs} (a : Fr S M M1) (b : Fr S M1 M2) : Fr S M M2 := ⟨Nat.le_trans a.1 b.1, fun n h s => (b.2 n (Nat.lt_of_lt_of_le h a.1) s).trans (a.2 n h s)⟩
theorem Fr.imp {S T : Nat → Prop} {M M' : Hs} (a : Fr S M M') (h : ∀ n, n < M.length → S n → T n) : Fr T M M' := ⟨a.1, fun n hl t => a.2 n hl fun s => t (h n hl s)⟩
theorem Fr.push {S : Nat → Prop} (M : Hs) (o : List MO) : Fr S M (M ++ o) := ⟨by simp, fun n h _ => List.getElem?_append_left h⟩
theorem Fr.set {S : Nat → Prop} {M : Hs} {n : Nat} {o : MO} (h : S n) : Fr S M (M.set n o) := ⟨by simp, fun m _ s => List.getElem?_set_ne fun e => s (by rw [← e]; exact h)⟩
theorem Fr.setHi {S : Nat → Prop} {M M' : Hs} {n : Nat} {o : MO} (a : Fr S M M') (h : M.length ≤ n) : Fr S M (M'.set n o) := ⟨by simpa using a.1, fun m hl s => by rw [List.getElem?_set_ne (by omega)]; exact a.2 m hl s⟩
theorem Fr.pushHi {S : Nat → Prop} {M M' : Hs} {o : List MO} (a : Fr S M M') : Fr S M (M' ++ o) := a.trans (Fr.push M' o)
theorem Fr.get {S : Nat → Prop} {M M' : Hs} (a : Fr S M M') {n : Nat} {o : MO} (h : M[n]? = some o) (s : ¬ S n) : M'[n]? = some o := (a.2 n (List.getElem?_eq_some_iff.mp h).1 s).trans h
theorem lt_of_get {M : Hs} {n : Nat} {o : MO} (h : M[n]? = some o) : n < M.length := (List.getElem?_eq_some_iff.mp h).1
theorem get_push {M : Hs} {o : MO} : (M ++ [o])[M.length]? = some o := by simp
theorem set_get {M : Hs} {n : Nat} {o u : MO} (h : M[n]? = some u) : (M.set n o)[n]? = some o := List.getElem?_set_self (lt_of_get h)
theorem srt_ext {xs ys : List Sp2} (h1 : xs.Nodup) (h2 : ys.Nodup) (h : ∀ p, p ∈ xs ↔ p ∈ ys) : srtB SrtO.lexB xs = srtB SrtO.lexB ys := by
  have p : xs.Perm ys := (List.perm_ext_iff_of_nodup h1 h2).mpr h
  exact SrtO.stb_uniq swo_P (srtB_srtd swo_P _) (srtB_srtd swo_P _) (stb_perm eq_P ((srtB_perm _ xs).trans (p.trans (srtB_perm _ ys).symm)))
theorem srt_mem {xs : List Sp2} {p : Sp2} : p ∈ srtB SrtO.lexB xs ↔ p ∈ xs := (srtB_perm _ xs).mem_iff
theorem pd_prD (M : Hs) (n : Nat) (p : Sp2) : toPD M (n + 2) (prD p) = some (.tuple [.int p.1, .int p.2]) := by simp [prD, toPD, mapO]
def pdP (p : Sp2) : PyData := .tuple [.int p.1, .int p.2]
theorem pd_prDs (M : Hs) (n : Nat) : ∀ xs : List Sp2, mapO (toPD M (n + 2)) (xs.map prD) = some (xs.map pdP)
  | [] => rfl
  | x :: xs => by
    rw [List.map_cons, List.map_cons]
    unfold mapO
    rw [pd_prD, pd_prDs M n xs]
    rfl
theorem pd_ref (M : Hs) (n m : Nat) (xs : List D) (h : M[m]? = some (.lst xs)) : toPD M (n + 1) (.ref m) = (match mapO (toPD M n) xs with
    | some ps => some (.list ps)
    | none => none) := by
  have e : toPD M (n + 1) (.ref m) = (match M[m]? with
    | some (.lst xs) => (match mapO (toPD M n) xs with
      | some ps => some (.list ps)
      | none => none)
    | some (.ro xs) => (match mapO (toPD M n) xs with
      | some ps => some (.list ps)
      | none => none)
    | _ => none) := rfl
  rw [e, h]
theorem pd_lstP {M : Hs} {n : Nat} {xs : List Sp2} (h : M[n]? = some (.lst (xs.map prD))) : toPD M deep (.ref n) = some (.list (xs.map pdP)) := by
  have e : deep = 11 + 1 := rfl
  rw [e, pd_ref M 11 n _ h, pd_prDs M 9 xs]
theorem shaped_ps (xs : List Sp2) : SeqAt.shaped (.list (xs.map pdP)) = true := by
  have h1 : PyData.canLayAll0 (xs.map pdP) = true := by
    induction xs with
    | nil => rfl
    | cons x xs ih => simp [PyData.canLayAll0, PyData.canLay0, pdP, ih]
  have h2 : PyData.depthAll (xs.map pdP) ≤ 3 := by
    induction xs with
    | nil => simp [PyData.depthAll]
    | cons x xs ih =>
      have h1' : PyData.canLayAll0 (xs.map pdP) = true := by
        simp [PyData.canLayAll0, PyData.canLay0, pdP] at h1
        exact h1
      have := ih h1'
      simp [PyData.depthAll, PyData.depth, pdP]
      omega
  unfold SeqAt.shaped
  simp [PyData.canLay0, PyData.depth, h1]
  omega
theorem eqv_ps : ∀ (xs ys : List Sp2), PyData.eqv (.list (xs.map pdP)) (.list (ys.map pdP)) = decide (xs = ys) := by
  have key : ∀ (xs ys : List Sp2), PyData.eqvAll (xs.map pdP) (ys.map pdP) = decide (xs = ys) := by
    intro xs
    induction xs with
    | nil => intro ys; cases ys <;> simp [PyData.eqvAll]
    | cons x xs ih =>
      intro ys
      cases ys with
      | nil => simp [PyData.eqvAll]
      | cons y ys =>
        obtain ⟨x1, x2⟩ := x
        obtain ⟨y1, y2⟩ := y
        simp [PyData.eqvAll, PyData.eqv, pdP, ih]
        by_cases h1 : x1 = y1 <;> by_cases h2 : x2 = y2 <;> by_cases h3 : xs = ys <;> simp [h1, h2, h3]
  intro xs ys
  simp only [PyData.eqv]
  exact key xs ys
theorem g_neP {m n : Nat} {xs ys : List Sp2} {M : Hs} (h1 : M[m]? = some (.lst (xs.map prD))) (h2 : M[n]? = some (.lst (ys.map prD))) : gNe (.ref m) (.ref n) M = some (.bl (!decide (xs = ys)), M) := by
  unfold gNe gEqB
  rw [pd_lstP h1, pd_lstP h2]
  dsimp only
  rw [shaped_ps, shaped_ps, eqv_ps]
  rfl
theorem pairsD_map : ∀ xs : List Sp2, pairsD (xs.map prD) = some xs
  | [] => rfl
  | (a, b) :: xs => by
    rw [List.map_cons]
    show (match pairsD (xs.map prD) with | some ps => some ((a, b) :: ps) | none => none) = _
    rw [pairsD_map xs]
theorem intsOf_prD {xs : List Sp2} (h : xs ≠ []) : intsOf (xs.map prD) = none := by
  cases xs with
  | nil => exact absurd rfl h
  | cons x xs => rfl
theorem g_sortedP {n : Nat} {xs : List Sp2} {M : Hs} (h : itemsA M (.ref n) = some (xs.map prD)) : gSorted [.ref n] M = some (.ref M.length, M ++ [.lst ((srtB SrtO.lexB xs).map prD)]) := by
  unfold gSorted
  dsimp only
  rw [h]
  dsimp only
  cases xs with
  | nil => rfl
  | cons x xs =>
    rw [intsOf_prD (by simp)]
    dsimp only
    rw [pairsD_map]
theorem items_lst {n : Nat} {xs : List D} {M : Hs} (h : M[n]? = some (.lst xs)) : itemsA M (.ref n) = some xs := by
  have e : hSeq M (.ref n) = some xs := by simp [hSeq, h]
  unfold itemsA
  rw [e]
theorem items_set {n : Nat} {xs : List Sp2} {M : Hs} (h : M[n]? = some (.dct (setD xs))) : itemsA M (.ref n) = some (xs.map prD) := by
  have e : hSeq M (.ref n) = none := by simp [hSeq, h]
  have e2 : hDct M n = some (setD xs) := by unfold hDct; rw [h]
  unfold itemsA
  rw [e]
  dsimp only
  rw [e2]
  simp [setD]
end Mi
end
section
set_option maxRecDepth 100000
set_option maxHeartbeats 4000000
set_option autoImplicit false
namespace Mi
open PySem PySem.Spec PyProof.Rows L2

theorem len_in {α : Type} : ∀ {l m : List α}, l.Nodup → (∀ x ∈ l, x ∈ m) → l.length ≤ m.length
  | [], _, _, _ => Nat.zero_le _
  | x :: l, m, hn, hs => by
    obtain ⟨h1, h2⟩ := List.nodup_cons.mp hn
    obtain ⟨m1, m2, rfl⟩ := List.append_of_mem (hs x List.mem_cons_self)
    have := len_in (l := l) (m := m1 ++ m2) h2 fun y hy => by
      rcases List.mem_append.mp (hs y (List.mem_cons_of_mem _ hy)) with h | h
      · exact List.mem_append_left _ h
      · rcases List.mem_cons.mp h with e | h
        · subst e; exact absurd hy h1
        · exact List.mem_append_right _ h
    simp only [List.length_append, List.length_cons] at this ⊢
    omega
abbrev AL := List (Addr × List Int)
section
variable {P : Program} {w : World} {A : Around} {E : Value → Shared → Prop}
/-- the loop of set.update over things of few keys: what is wanted at its end -/
structure Fil (P : Program) (w : World) (G : Array GenState → Array GenState → Prop) (wr : List Addr) (a : Addr) (ks : AL) (hp : Heap) (t0 t : Shared) : Prop where
  mv : Moved (a :: wr) G t0 t
  st : ∃ L es ep tb, SetTR P w t.heap a L es ep tb ∧ Got ks ks.length L
  kp : ∀ b o, hp.get? b = some o → t.heap.get? b = some o
theorem fill_go {I : Addr} {fp wr : List Addr} {G : Array GenState → Array GenState → Prop} {Pv : Nat → Value → Prop} {St : Nat → Shared → Prop} {R : Result → Shared → Prop} {ks : AL} {U : List (List Int)}
    (W : WalksS P w A.in1 I fp wr G ks.length Pv St) {a : Addr} (ha : a ∉ fp) (hU : U.length < 63) (hin : ∀ p ∈ ks, p.2 ∈ U) (hv : ∀ i v, Pv i v → ∃ p, ks[i]? = some p ∧ v = .ref p.1)
    {hp : Heap} (hk : ∀ p ∈ ks, IsT P w hp p.2 p.1) (ha0 : hp.get? a = none) (hw0 : ∀ b ∈ wr, hp.get? b = none) (hu : A.in1.units < cLine) :
    ∀ (m i : Nat) (t : Shared), i + m = ks.length → St i t → (∀ b o, hp.get? b = some o → t.heap.get? b = some o) → (∃ L es ep tb, SetTR P w t.heap a L es ep tb ∧ Got ks i L) →
      (∀ t', Fil P w G wr a ks hp t t' → R (.ok (.ret .none)) t') → codeAny (model P w) A (.builtin "set.update.loop" ⟨[.ref a, .ref I], []⟩) R t
  | m, i, t, him, hst, hkp, ⟨L, es, ep, tb, hS, g⟩, hR => by
    have up : ∀ b ∈ wr, b ∈ a :: wr := fun b hb => List.mem_cons_of_mem _ hb
    have kept : ∀ {t' : Shared}, Moved wr G t t' → ∀ b o, hp.get? b = some o → t'.heap.get? b = some o := fun mv b o e => mv.heap b o (fun hb => nomatch (hw0 b hb).symm.trans e) (hkp b o e)
    have haw : a ∉ wr := fun z => ha (W.sub _ z)
    have inK : ∀ p ∈ L, p ∈ ks := fun p h => List.mem_of_mem_take (g.sub p h)
    have old : ∀ {t' : Shared}, Moved wr G t t' → SetTR P w t'.heap a L es ep tb := fun mv => hS.keep (fun o e => mv.heap a o haw e) fun p h => isT_keep (hk p (inK p h)) (kept mv)
    refine codeAny_builtin F.entry_set_update_loop ?_
    rw [Around.under_plainId F.plain_set_update_loop _]
    show wpAny _ A.in1 (pyNext (.ref I) >>= _) _ _ t
    match m, him with
    | 0, him =>
      have e : i = ks.length := him
      subst e
      refine wpAny_bind (W.done t _ _ hst fun t' mv => ?_)
      show wpAny _ A.in1 (ret Value.none) _ _ t'
      exact wpAny_pure (hR t' ⟨mv.mono up, ⟨L, es, ep, tb, old mv, g⟩, kept mv⟩)
    | m + 1, him =>
      refine wpAny_bind (W.item i t _ _ (by omega) hst fun v t' hPv hst' mv => ?_)
      obtain ⟨p, hp', rfl⟩ := hv i v hPv
      have hpk := List.mem_of_getElem? hp'
      have isx : IsT P w t'.heap p.2 p.1 := isT_keep (hk p hpk) (kept mv)
      have S1 : SetTR P w t'.heap a L es ep tb := old mv
      have few : L.length < 63 := by
        have h1 := len_in hS.nd (m := U) fun k hk' => by
          obtain ⟨q, hq, rfl⟩ := List.mem_map.mp hk'
          exact hin q (inK q hq)
        rw [List.length_map] at h1
        omega
      show wpAny _ A.in1 (holding [Value.ref p.1] (setAdd a (.ref p.1)) >>= _) _ _ t'
      refine wpAny_bind (wpAny_holding ?_)
      unfold setAdd
      refine wpAny_holding (wpAny_bind (wpAny_pyHash_tuple hu isx ?_))
      refine add_at (s := { t' with toks := t'.toks + (p.2.length + 1) }) S1 isx hu (by omega) fun b h2 L2 es2 ep2 tb2 same S2 c1 c2 => ?_
      have g2 : Got ks (i + 1) L2 := by
        by_cases c : p.2 ∈ L.map (·.2)
        · rw [c1 c]; exact g.same hp' c
        · exact g.more hp' (c2 c)
      have kp2 : ∀ b o, hp.get? b = some o → h2.get? b = some o := fun b o e => (same.2 b (fun z => nomatch (z ▸ ha0).symm.trans e)).trans (kept mv b o e)
      refine wpAny_pure ⟨plainId_quiet F.plain_set_update_loop _, ?_⟩
      refine fill_go W ha hU hin hv hk ha0 hw0 hu m (i + 1) _ (by omega) (W.frame _ t' h2 _ hst' (Nat.le_add_right _ _) fun b hb o e => ?_) kp2 ⟨L2, es2, ep2, tb2, S2, g2⟩ fun t3 f3 => hR t3 ⟨?_, f3.st, f3.kp⟩
      · exact (same.2 b fun z => ha (z ▸ hb)).trans e
      · exact Moved.trans W.gtrans ((mv.mono up).then_heap (Nat.le_add_right _ _) fun b o hb e => (same.2 b fun z => hb (z ▸ List.mem_cons_self)).trans e) f3.mv
/-- set(xs) of a list of things of few keys -/
abbrev newSet (w : World) : Obj := { cls := .type "set", dict := none, data := .set #[] 0 (.fresh 0 0 (!w.params.followText "set-order")) }
abbrev itSet (w : World) (t : Shared) (l : Addr) : Shared := { t with heap := (t.heap.push (newSet w)).push { cls := .type "list_iterator", data := .fields #[.ref l, .int 0 0] } }
theorem hi_none {hp : Heap} {b : Addr} (h : hp.objs.size ≤ b) : hp.get? b = none := by
  cases q : hp.get? b with
  | none => rfl
  | some o => exact absurd (Heap.lt_size q) (Nat.not_lt.mpr h)
theorem set_walk {t : Shared} {l : Addr} {its : Array Value} {R : Result → Shared → Prop} {a : Addr} (e : a = t.heap.objs.size) (hh : A.handled = none) (hl : t.heap.IsList l its)
    (k : ∀ (G : Array GenState → Array GenState → Prop) (it : Addr) (Pv : Nat → Value → Prop) (St : Nat → Shared → Prop), it = (t.heap.push (newSet w)).objs.size → (∀ g g', G g g' → g = g') → WalksS P w A.in1 it [it, l] [it] G its.size Pv St → (∀ i v, Pv i v → its[i]? = some v) → a ∉ [it, l] → St 0 (itSet w t l) → (itSet w t l).heap.get? a = some (newSet w) →
      codeAny (model P w) A (.builtin "set.update.loop" ⟨[.ref a, .ref it], []⟩) R (itSet w t l)) : codeAny (model P w) A (.builtin "set.update.loop" ⟨[.ref a, .ref (t.heap.push (newSet w)).objs.size], []⟩) R (itSet w t l) := by
  subst e
  have hS : (t.heap.push (newSet w)).get? t.heap.objs.size = some (newSet w) := Heap.get?_push_size _ rfl
  have hz : (t.heap.push (newSet w)).objs.size = t.heap.objs.size + 1 := Heap.size_push ..
  obtain ⟨o, hol, hcl, nl, hdl⟩ := hl
  have hlt : l < t.heap.objs.size := Heap.lt_size hol
  have il : (t.heap.push (newSet w)).IsList l its := ⟨_, Heap.get?_push_of_some _ hol, hcl, nl, hdl⟩
  have hh3 : A.in1.handled = none := by simp [hh]
  have ne1 : l ≠ (t.heap.push (newSet w)).objs.size := by rw [hz]; exact Nat.ne_of_lt (Nat.lt_succ_of_lt hlt)
  have ne2 : t.heap.objs.size ∉ [(t.heap.push (newSet w)).objs.size, l] := by
    rw [hz]
    intro z
    rcases List.mem_cons.mp z with z | z
    · exact Nat.ne_of_lt (Nat.lt_succ_self _) z
    · exact Nat.ne_of_gt hlt (List.mem_singleton.mp z)
  exact k _ _ _ _ rfl (fun g g' h => h.symm) ((Walks.list hh3 _ l ne1 its).toS (prog := P) (w := w)) (fun i v hv => hv) ne2 ⟨⟨_, Heap.get?_push_size _ rfl, rfl, rfl⟩, il.push _⟩ (Heap.get?_push_of_some _ hS)
theorem set_fill {t : Shared} {l : Addr} {its : Array Value} {Mk : Heap → Prop} {Q : Value → Shared → Prop} (hl : t.heap.IsList l its)
    (go : ∀ R : Result → Shared → Prop, (∀ h2 k2, Mk h2 → R (.ok (.ret .none)) { t with heap := h2, toks := k2 }) → codeAny (model P w) A.in1 (.builtin "set.update.loop" ⟨[.ref t.heap.objs.size, .ref (t.heap.push (newSet w)).objs.size], []⟩) R (itSet w t l))
    (q : ∀ h2 k2, Mk h2 → Q .none { t with heap := h2, toks := k2 }) : wpAny (model P w) A.in1 (Builtin.«set.__init__» ⟨[.ref t.heap.objs.size, .ref l], []⟩)
      (fun fin s' => match fin with | .done f => wants Q E (.ok f) s' | .again c' => c'.quiet = true ∧ codeAny (model P w) A c' (wants Q E) s') (fun z s' => wants Q E (.error z) s') { t with heap := t.heap.push (newSet w) } := by
  obtain ⟨⟨oc, od, odt, osl⟩, hol, hcl, nl, hdl⟩ := hl
  simp only at hcl hdl
  subst hcl hdl
  have hol2 : (t.heap.push (newSet w)).get? l = some ⟨.type "list", od, .seq its nl, osl⟩ := Heap.get?_push_of_some _ hol
  have f1 := F.sub_list_set
  have f2 := F.sub_list_frozenset
  have f3 : (Value.type "list" == Value.type "dict") = false := by decide
  have il : (t.heap.push (newSet w)).IsList l its := ⟨_, hol2, rfl, nl, rfl⟩
  unfold Builtin.«set.__init__» noKeywords Builtin.Frozenset.updateFrom
  generalize hit : pyIter = it
  wp_walk
  subst hit
  refine wpAny_pyIter_list il (wpAny_bind (wpAny_runValue ?_))
  exact go _ fun h2 k2 m => wpAny_pure (wpAny_pure (q h2 k2 m))
theorem set_call {t : Shared} {l : Addr} {its : Array Value} {Mk : Heap → Prop} {Q : Value → Shared → Prop} (hl : t.heap.IsList l its)
    (go : ∀ R : Result → Shared → Prop, (∀ h2 k2, Mk h2 → R (.ok (.ret .none)) { t with heap := h2, toks := k2 }) → codeAny (model P w) A.in1.in1 (.builtin "set.update.loop" ⟨[.ref t.heap.objs.size, .ref (t.heap.push (newSet w)).objs.size], []⟩) R (itSet w t l))
    (q : ∀ (hp : Heap) (tk : Nat), Mk hp → Q (.ref t.heap.objs.size) { t with heap := hp, toks := tk }) : wpAny (model P w) A (call (.type "set") [.ref l]) Q E t := by
  obtain ⟨c, tl, m1⟩ := F.called_set.mro
  have m2 := F.called_set.made
  have m3 := F.called_set.sub
  have m4 := F.called_set.notType
  have m5 := F.called_set.canCreate
  have m6 := F.typeCall_set_1 (.ref l)
  refine wpAny_call (codeAny_of_tree ?_)
  show wpAny _ _ (callAny (.type "set") _) _ _ _
  refine wpAny_pure ⟨Code.quiet_builtin _ (by decide +kernel), codeAny_builtin F.entry_type_call ?_⟩
  rw [Around.under_plain (weight_type_call_type "set" [.ref l] []) rfl]
  repeat (any_goals (first | assumption | wp_step))
  refine codeAny_mono (code_set_led1 (.ref l) (E := E) (Q₁ := fun o t1 => o = .ref t.heap.objs.size ∧ t1 = { t with heap := t.heap.push (newSet w) }) ⟨rfl, rfl⟩) fun r1 t1 hr => ?_
  match r1, hr with
  | .error _, hr => exact hr
  | .ok (.ret o), hr =>
    obtain ⟨rfl, rfl⟩ := hr
    have hT : Shared.TypeIs { t with heap := t.heap.push (newSet w) } (.ref t.heap.objs.size) "set" := ⟨_, Heap.get?_push_size _ rfl, rfl⟩
    have m7 := F.called_set.init.lookup
    have m8 := F.called_set.init.bind (.ref t.heap.objs.size)
    repeat (any_goals (first | assumption | wp_step))
    refine codeAny_mono (codeAny_call_builtin (R := wants (fun r t2 => r = .none ∧ ∃ hp tk, t2 = { t with heap := hp, toks := tk } ∧ Mk hp) E) F.called_set.init.plain F.entry_set_init (check_set_init_1 hT ?_)) fun r2 t2 hr2 => ?_
    · exact set_fill hl go fun h2 k2 m => ⟨rfl, h2, k2, rfl, m⟩
    · match r2, hr2 with
      | .error _, hr2 => exact hr2
      | .ok (.ret r), hr2 =>
        obtain ⟨rfl, hp, tk, rfl, m⟩ := hr2
        repeat (any_goals (first | assumption | wp_step))
        exact q hp tk m
end
def unq {α : Type} [DecidableEq α] : List α → List α
  | [] => []
  | x :: xs => if x ∈ unq xs then unq xs else x :: unq xs
theorem mem_unq {α : Type} [DecidableEq α] {x : α} : ∀ {xs : List α}, x ∈ unq xs ↔ x ∈ xs
  | [] => Iff.rfl
  | y :: ys => by
    have ih := mem_unq (x := x) (xs := ys)
    unfold unq
    split
    · rename_i h
      rw [ih, List.mem_cons]
      constructor
      · exact .inr
      · rintro (rfl | h2)
        · exact mem_unq.mp h
        · exact h2
    · rw [List.mem_cons, List.mem_cons, ih]
theorem nd_unq {α : Type} [DecidableEq α] : ∀ xs : List α, (unq xs).Nodup
  | [] => List.nodup_nil
  | x :: xs => by
    unfold unq
    split
    · exact nd_unq xs
    · rename_i h
      exact List.nodup_cons.mpr ⟨h, nd_unq xs⟩
abbrev T3 := Int × Int × Int
def tr3 (t : T3) : D := .tup [.int t.1, .int t.2.1, .int t.2.2]
def lt3 (x y : T3) : Bool := decide (x.1 < y.1 ∨ x.1 = y.1 ∧ (x.2.1 < y.2.1 ∨ x.2.1 = y.2.1 ∧ x.2.2 < y.2.2))
theorem swo_3 : SrtO.Swo lt3 := by
  refine ⟨fun x y h => ?_, fun x y z h1 h2 => ?_⟩
  · unfold lt3 at *
    have a := of_decide_eq_true h
    exact decide_eq_false (by omega)
  · unfold lt3 at *
    have a := of_decide_eq_false h1
    have b := of_decide_eq_false h2
    exact decide_eq_false (by omega)
theorem eq_3 (x y : T3) (h : SrtO.eqv lt3 x y = true) : y = x := by
  obtain ⟨h1, h2⟩ := SrtO.eqv_iff.mp h
  unfold lt3 at h1 h2
  have a := of_decide_eq_false h1
  have b := of_decide_eq_false h2
  obtain ⟨x1, x2, x3⟩ := x
  obtain ⟨y1, y2, y3⟩ := y
  dsimp only at a b
  simp only [Prod.mk.injEq]
  omega
def t3s : List D → Option (List T3)
  | [] => some []
  | .tup [.int i, .int j, .int k] :: r => match t3s r with
    | some ps => some ((i, j, k) :: ps)
    | none => none
  | _ => none
theorem t3s_ok : ∀ {xs : List D} {ps : List T3}, t3s xs = some ps → xs = ps.map tr3
  | [], ps, h => by cases h; rfl
  | x :: xs, ps, h => by
    unfold t3s at h
    split at h
    · rename_i e; cases e
    · rename_i i j k r e
      cases e
      split at h
      · rename_i qs hq
        cases h
        rw [t3s_ok hq]
        rfl
      · cases h
    · cases h
def smallT (t : T3) : Bool := decide (0 ≤ t.1 ∧ t.1 < 64 ∧ 0 ≤ t.2.1 ∧ t.2.1 < 64 ∧ 0 ≤ t.2.2 ∧ t.2.2 < 64)
/-- sorted(set(xs)): ints, or triples of small ints -/
def gSortSet : GL := fun ds M => match ds with
  | [.ref n] => match hSeq M (.ref n) with
    | some xs => match intsOf xs with
      | some is => if is.length < 63 then some (.ref M.length, M ++ [.lst ((srtB ltI (unq is)).map D.int)]) else none
      | none => match t3s xs with
        | some ts => if (ts.all smallT && decide ((unq ts).length < 63)) = true then some (.ref M.length, M ++ [.lst ((srtB lt3 (unq ts)).map tr3)]) else none
        | none => none
    | none => none
  | _ => none
section
variable {X : Cx}
def rSetU (K : PySem.W.Frag) (P : Program) (w : World) : List V → Hp → VK → Prop := fun xs H Q => ∃ (l : Addr) (ks : AL) (U : List (List Int)), xs = [V.ref l] ∧ SqL K H l (ks.map fun p => V.ref p.1) ∧ (∀ p ∈ ks, SqT K H p.1 (p.2.map V.int)) ∧ U.length < 63 ∧ (∀ p ∈ ks, p.2 ∈ U) ∧
  ∀ a L, H a = none → (∀ p ∈ L, p ∈ ks) → (∀ p ∈ ks, p.2 ∈ L.map (·.2)) → Q (.ref a) (upd H a (SetTO P w a L))
theorem cr_setU (hc : X.calm = true) (hu : X.A.units + 64 < cLine) : CallR X (.type "set") (rSetU X.K X.prog X.w) := by
  intro pins s σ H xs us Q I r h
  obtain ⟨l, ks, U, rfl, hl, hk, hU, hin, q⟩ := h
  rw [Vals.ref1 r]
  obtain ⟨its, rv, pl, hz⟩ := I.list hl
  have isT : ∀ p ∈ ks, IsT X.prog X.w s.heap p.2 p.1 := fun p hp => I.isT (hk p hp)
  have et : its.toArray.toList = ks.map fun p => Value.ref p.1 := by simpa using refs_of_vals rv
  have hsz : its.toArray.size = ks.length := by rw [← Array.length_toList, et, List.length_map]
  refine set_call (Mk := fun hp => (∃ L es ep tb, SetTR X.prog X.w hp s.heap.objs.size L es ep tb ∧ Got ks ks.length L) ∧ ∀ b o, s.heap.get? b = some o → hp.get? b = some o) pl.isList (fun R hR => ?_) fun hp tk m => ?_
  · refine set_walk rfl (by simp [I.ok.hd hc]) pl.isList fun G it Pv St eit eG W0 hv hne st0 hget => ?_
    rw [hsz] at W0
    refine fill_go W0 hne hU hin (fun i v hP => ?_) isT (hi_none (Nat.le_refl _)) (fun b hb => hi_none ?_) (show X.A.units + 3 < cLine by omega) ks.length 0 _ (Nat.zero_add _) st0 (fun b o z => Heap.get?_push_of_some _ (Heap.get?_push_of_some _ z)) ⟨[], #[], 0, _, setTR_fresh hget, Got.zero ks⟩ fun t' f => ?_
    · have h1 : its.toArray.toList[i]? = some v := by rw [Array.getElem?_toList]; exact hv i v hP
      rw [et, List.getElem?_map] at h1
      cases h2 : ks[i]? with
      | none => rw [h2] at h1; cases h1
      | some p => rw [h2] at h1; exact ⟨p, rfl, (Option.some.inj h1).symm⟩
    · rw [List.mem_singleton.mp hb, eit, Heap.size_push]
      exact Nat.le_succ _
    · obtain ⟨h2, g2, d2, k2, o2⟩ := t'
      have e1 : g2 = s.gens := (eG _ _ f.mv.gens).symm
      have e2 : d2 = s.drawn := f.mv.drawn
      have e3 : o2 = s.os := f.mv.os
      subst e1 e2 e3
      exact hR h2 k2 ⟨f.st, f.kp⟩
  · obtain ⟨⟨L, es, ep, tb, h1, g⟩, h2⟩ := m
    exact ⟨.ref s.heap.objs.size, upd H s.heap.objs.size (SetTO X.prog X.w s.heap.objs.size L), I.laid (t' := tk) h2 (Nat.le_refl _) (setTO_new h1.t0), rfl, q _ L (I.hok.fresh (Nat.le_refl _)) (fun p hp => List.mem_of_mem_take (g.sub p hp)) fun p hp => g.all p (by rw [List.take_length]; exact hp)⟩
def rSetI (K : PySem.W.Frag) (w : World) : List V → Hp → VK → Prop := fun xs H Q => ∃ (l : Addr) (ns : List Int), xs = [V.ref l] ∧ SqL K H l (ns.map V.int) ∧ ns.length < 63 ∧ ∀ a c, H a = none → c ≤ ns.length → Q (.ref a) (upd H a (SetO w a (fun j => decide (j ∈ ns)) c))
theorem cr_setI (hc : X.calm = true) : CallR X (.type "set") (rSetI X.K X.w) := by
  intro pins s σ H xs us Q I r h
  obtain ⟨l, ns, rfl, hl, hn, q⟩ := h
  rw [Vals.ref1 r]
  obtain ⟨its, rv, pl, hz⟩ := I.list hl
  have hi : IntsAre its.toArray.toList ns := by simpa using ints_of_vals rv
  have hsz : its.toArray.size = ns.length := by rw [← Array.length_toList]; exact hi.length
  refine set_call (Mk := fun hp => (∃ c, c ≤ ns.length ∧ SetR X.w hp s.heap.objs.size (fun j => decide (j ∈ ns)) c) ∧ ∀ b o, s.heap.get? b = some o → hp.get? b = some o) pl.isList (fun R hR => ?_) fun hp tk m => ?_
  · refine set_walk rfl (by simp [I.ok.hd hc]) pl.isList fun G it Pv St eit eG W0 hv hne st0 hget => ?_
    rw [hsz] at W0
    refine set_update_ints W0 s.heap.objs.size hne ns rfl (by unfold scanBound; omega) (fun i v hP => ?_) ns.length 0 _ (by omega) (Nat.zero_le _) st0 ⟨0, Nat.le_refl _, setR_new_at hget⟩ fun t' c f hcn S' => ?_
    · have h1 : its.toArray.toList[i]? = some v := by rw [Array.getElem?_toList]; exact hv i v hP
      have hlt : i < ns.length := by have := (List.getElem?_eq_some_iff.mp h1).1; rw [hi.length] at this; exact this
      obtain ⟨t, ht⟩ := hi.get i _ (List.getElem?_eq_getElem hlt)
      rw [h1] at ht
      exact ⟨_, t, List.getElem?_eq_getElem hlt, Option.some.inj ht⟩
    · obtain ⟨h2, g2, d2, k2, o2⟩ := t'
      have e1 : g2 = s.gens := (eG _ _ f.gens).symm
      have e2 : d2 = s.drawn := f.drawn
      have e3 : o2 = s.os := f.os
      subst e1 e2 e3
      refine hR h2 k2 ⟨⟨c, hcn, S'⟩, fun b o z => f.heap b o (fun hb => ?_) (Heap.get?_push_of_some _ (Heap.get?_push_of_some _ z))⟩
      have hlt := Heap.lt_size z
      rcases List.mem_cons.mp hb with hb | hb
      · exact Nat.ne_of_lt hlt hb
      · rw [List.mem_singleton.mp hb, eit, Heap.size_push] at hlt
        exact Nat.lt_irrefl _ (Nat.lt_trans (Nat.lt_succ_self _) hlt)
  · obtain ⟨⟨c, hcn, h1⟩, h2⟩ := m
    exact ⟨.ref s.heap.objs.size, upd H s.heap.objs.size (SetO X.w s.heap.objs.size (fun j => decide (j ∈ ns)) c), I.laid (t' := tk) h2 (Nat.le_refl _) (setO_new h1), rfl, q _ c (I.hok.fresh (Nat.le_refl _)) hcn⟩
end
def t3L (t : T3) : List Int := [t.1, t.2.1, t.2.2]
theorem t3L_inj {a b : T3} (h : t3L a = t3L b) : a = b := by
  obtain ⟨a1, a2, a3⟩ := a
  obtain ⟨b1, b2, b3⟩ := b
  simp only [t3L, List.cons.injEq, and_true] at h
  simp only [Prod.mk.injEq]
  exact h
theorem rv_t3 {K : PySem.W.Frag} {H : Hp} {μ : List Addr} {t : T3} {v : V} (r : RV K H μ (tr3 t) v) : ∃ a, v = .ref a ∧ SqT K H a ((t3L t).map V.int) := by
  cases r with
  | tup g rs =>
    cases rs with
    | cons r1 rs => cases rs with
      | cons r2 rs => cases rs with
        | cons r3 rs => cases rs; cases r1; cases r2; cases r3; exact ⟨_, rfl, g⟩
theorem rv_of_t3 {K : PySem.W.Frag} {H : Hp} {μ : List Addr} {t : T3} {a : Addr} (g : SqT K H a ((t3L t).map V.int)) : RV K H μ (tr3 t) (.ref a) := .tup g (.cons (.int _) (.cons (.int _) (.cons (.int _) .nil)))
theorem rvs_t3 {K : PySem.W.Frag} {H : Hp} {μ : List Addr} : ∀ {ts : List T3} {vs : List V}, RVs K H μ (ts.map tr3) vs → ∃ ks : AL, vs = ks.map (fun p => V.ref p.1) ∧ ks.map (·.2) = ts.map t3L ∧ ∀ p ∈ ks, SqT K H p.1 (p.2.map V.int)
  | [], _, .nil => ⟨[], rfl, rfl, fun p h => by cases h⟩
  | t :: ts, _, .cons r rs => by
    obtain ⟨a, rfl, g⟩ := rv_t3 r
    obtain ⟨ks, rfl, h2, h3⟩ := rvs_t3 rs
    exact ⟨(a, t3L t) :: ks, rfl, by rw [List.map_cons, h2]; rfl, fun p hp => by
      rcases List.mem_cons.mp hp with rfl | hp
      · exact g
      · exact h3 p hp⟩
theorem code3 (t : T3) : TS.code 64 (t3L t) = t.1 * 4096 + t.2.1 * 64 + t.2.2 := by
  show t.1 * 64 ^ 2 + (t.2.1 * 64 ^ 1 + (t.2.2 * 64 ^ 0 + 0)) = _
  have e2 : (64 : Int) ^ 2 = 4096 := by decide
  have e1 : (64 : Int) ^ 1 = 64 := by decide
  have e0 : (64 : Int) ^ 0 = 1 := by decide
  rw [e2, e1, e0]
  omega
theorem sorted_t3 {L : List (List Int)} {ts : List T3} (hs : ∀ t ∈ ts, smallT t = true) (nd : L.Nodup) (hm : ∀ k, k ∈ L ↔ k ∈ ts.map t3L) (pw : L.Pairwise fun a b => TS.code 64 a ≤ TS.code 64 b) : L = (srtB lt3 (unq ts)).map t3L := by
  have ex : ∃ us : List T3, L = us.map t3L := by
    clear nd pw
    have : ∀ k ∈ L, ∃ t, k = t3L t := fun k hk => by
      obtain ⟨t, _, e⟩ := List.mem_map.mp ((hm k).mp hk)
      exact ⟨t, e.symm⟩
    clear hm
    induction L with
    | nil => exact ⟨[], rfl⟩
    | cons k L ih =>
      obtain ⟨us, e⟩ := ih fun k hk => this k (List.mem_cons_of_mem _ hk)
      obtain ⟨t, e2⟩ := this k List.mem_cons_self
      exact ⟨t :: us, by rw [e, e2]; rfl⟩
  obtain ⟨us, rfl⟩ := ex
  have hmem : ∀ t, t ∈ us ↔ t ∈ ts := fun t => by
    have h := hm (t3L t)
    constructor
    · intro ht
      obtain ⟨u, hu, e⟩ := List.mem_map.mp (h.mp (List.mem_map.mpr ⟨t, ht, rfl⟩))
      rw [← t3L_inj e]; exact hu
    · intro ht
      obtain ⟨u, hu, e⟩ := List.mem_map.mp (h.mpr (List.mem_map.mpr ⟨t, ht, rfl⟩))
      rw [← t3L_inj e]; exact hu
  have ndu : us.Nodup := by
    refine (List.pairwise_map.mp nd).imp ?_
    intro a b h e
    exact h (by rw [e])
  congr 1
  refine SrtO.stb_uniq swo_3 ?_ (srtB_srtd swo_3 _) (stb_perm eq_3 (((List.perm_ext_iff_of_nodup ndu (nd_unq ts)).mpr fun t => by rw [hmem, mem_unq]).trans (srtB_perm lt3 _).symm))
  refine List.Pairwise.imp_of_mem (fun {a b} ha hb h => ?_) (List.pairwise_map.mp pw)
  have h1 := of_decide_eq_true (hs a ((hmem a).mp ha))
  have h2 := of_decide_eq_true (hs b ((hmem b).mp hb))
  rw [code3, code3] at h
  exact decide_eq_false (by omega)
theorem sorted_ints {L ns : List Int} (pw : L.Pairwise (· < ·)) (hm : ∀ k, k ∈ L ↔ k ∈ ns) : L = srtB ltI (unq ns) := by
  have nd : L.Nodup := pw.imp fun h e => by omega
  refine SrtO.stb_uniq swo_I ?_ (srtB_srtd swo_I _) (stb_perm eq_I (((List.perm_ext_iff_of_nodup nd (nd_unq ns)).mpr fun t => by rw [hm, mem_unq]).trans (srtB_perm ltI _).symm))
  exact pw.imp fun h => decide_eq_false (by omega)
section
variable {X : Cx} {Γ : Gm} {W : WX} {e : Expr} {fe : MX} {p p2 pos pos2 : Pos}
theorem ex_sset (hc : X.calm = true) (hu : X.A.units + 64 < cLine) (he : EX X Γ W e fe) (hm : X.mg "sorted" = none) (hm2 : X.mg "set" = none) (hg : Gl X "sorted" := by rfl) (hg2 : Gl X "set" := by rfl)
    (h1 : starEach [Expr.Call (.Name "set" p2) [e] [] pos2] X.env = (false, eval (.Call (.Name "set" p2) [e] [] pos2) X.env) :: starEach [] X.env := by rfl) (h2 : starEach [e] X.env = (false, eval e X.env) :: starEach [] X.env := by rfl) :
    EX X Γ W (.Call (.Name "sorted" p) [.Call (.Name "set" p2) [e] [] pos2] [] pos) (xB gSortSet (aCons fe aNil)) := by
  have key : ∀ (r1 : List V → Hp → VK → Prop) (r2 : List V → Hp → VK → Prop), CallR X (.type "set") r1 → CallR X (.builtin "sorted") r2 → PE X (.Call (.Name "sorted" p) [.Call (.Name "set" p2) [e] [] pos2] [] pos) fun σ H Q => tX X.prog X.w X.K Γ W fe σ H fun v H1 => r1 [v] H1 fun y H2 => r2 [y] H2 Q :=
    fun r1 r2 c1 c2 => pe_callB c2 hg hm rfl (pa_cons (pe_callTy c1 hg2 hm2 rfl (pa_cons he pa_nil h2) (by decide) (by decide) h2) pa_nil h1) (by decide) (by decide) h1
  have all := key (fun vs H Q => rSetU X.K X.prog X.w vs H Q ∨ rSetI X.K X.w vs H Q) (fun vs H Q => rSortedT X.K X.prog X.w vs H Q ∨ rSortedSet X.w vs H Q) (fun pins s σ H xs us Q I r h => h.elim (cr_setU hc hu pins s σ H xs us Q I r) (cr_setI hc pins s σ H xs us Q I r)) (fun pins s σ H xs us Q I r h => h.elim (cr_sortedT hc pins s σ H xs us Q I r) (cr_sortedSet hc pins s σ H xs us Q I r))
  refine PE.imp all fun σ H Q ⟨ζ, M, μ, rr, h⟩ => ⟨ζ, M, μ, rr, ?_⟩
  unfold xB aCons aNil at h
  refine Pst.then (k := fun d M1 => R.of (gSortSet [d] M1)) (by
    cases hf : fe ζ M with
    | ok d M1 => rw [hf] at h; exact h
    | ex c fs M1 => rw [hf] at h; exact h
    | no => rw [hf] at h; exact h) fun v H1 d M1 μ1 nx rh rv h1 => ?_
  replace h1 := h1.of
  unfold gSortSet at h1
  split at h1
  · rename_i n e1
    cases e1
    split at h1
    · rename_i xs hx
      obtain ⟨l, vs, rfl, hs, r⟩ := hRef_ok rh hx rv
      split at h1
      · rename_i is hi
        split at h1
        · rename_i hl
          have ev := intsOf_ok hi r
          subst ev
          refine .inr ⟨l, is, rfl, hs, hl, fun a c ha hcn => .inr ⟨a, _, c, rfl, upd_same, by omega, fun ns q pw hk hlen hq => ?_⟩⟩
          have en := sorted_ints (ns := is) pw fun k => by rw [hk]; simp
          subst en
          have nx1 := Nx.fresh0 (μ := μ1) (u := SetO X.w a (fun j => decide (j ∈ is)) c) ha
          have rh2 := rh.fresh (u := SetO X.w a (fun j => decide (j ∈ is)) c) ha
          exact h1 _ _ _ (nx1.trans (Nx.fresh hq [q])) (rh2.alloc hq ⟨_, upd_same, RVs.ints _⟩) (.ref rh2.last)
        · exact h1.elim
      · split at h1
        · rename_i ts ht
          split at h1
          · rename_i hsm
            rw [Bool.and_eq_true, List.all_eq_true, decide_eq_true_eq] at hsm
            have ex := t3s_ok ht
            subst ex
            obtain ⟨ks, rfl, hk2, hk3⟩ := rvs_t3 r
            have hin : ∀ p ∈ ks, p.2 ∈ (unq ts).map t3L := fun p hp => by
              have : p.2 ∈ ks.map (·.2) := List.mem_map.mpr ⟨p, hp, rfl⟩
              rw [hk2] at this
              obtain ⟨t, h1, h2⟩ := List.mem_map.mp this
              exact List.mem_map.mpr ⟨t, mem_unq.mpr h1, h2⟩
            refine .inl ⟨l, ks, (unq ts).map t3L, rfl, hs, hk3, by rw [List.length_map]; exact hsm.2, hin, fun a L ha hL1 hL2 => .inl ?_⟩
            have nx1 := Nx.fresh0 (μ := μ1) (u := SetTO X.prog X.w a L) ha
            refine ⟨a, L, 3, 64, rfl, upd_same, fun p hp => nx1.sqT (hk3 p (hL1 p hp)), by decide, fun p hp => ?_, fun L' q pm nd hlt pw hq => ?_⟩
            · obtain ⟨t, h1, h2⟩ := List.mem_map.mp (hin p (hL1 p hp))
              have hst := of_decide_eq_true (hsm.1 t (mem_unq.mp h1))
              rw [← h2]
              refine ⟨rfl, ?_⟩
              intro i hi
              simp only [t3L, List.mem_cons, List.not_mem_nil, or_false] at hi
              rcases hi with rfl | rfl | rfl <;> omega
            · have hmem : ∀ k, k ∈ L'.map (·.2) ↔ k ∈ ts.map t3L := fun k => by
                rw [(pm.map (·.2)).mem_iff, ← hk2]
                constructor
                · intro hk
                  obtain ⟨p, hp, rfl⟩ := List.mem_map.mp hk
                  exact List.mem_map.mpr ⟨p, hL1 p hp, rfl⟩
                · intro hk
                  obtain ⟨p, hp, rfl⟩ := List.mem_map.mp hk
                  exact hL2 p hp
              have eL := sorted_t3 hsm.1 nd hmem (List.pairwise_map.mpr pw)
              have rl : RVs X.K (upd H1 a (SetTO X.prog X.w a L)) μ1 ((srtB lt3 (unq ts)).map tr3) (L'.map fun q => V.ref q.1) := by
                have go : ∀ {us : List T3} {L' : AL}, L'.map (·.2) = us.map t3L → (∀ p ∈ L', p ∈ ks) → RVs X.K (upd H1 a (SetTO X.prog X.w a L)) μ1 (us.map tr3) (L'.map fun q => V.ref q.1) := by
                  intro us
                  induction us with
                  | nil =>
                    intro L' e _
                    cases L' with
                    | nil => exact .nil
                    | cons p L' => simp at e
                  | cons u us ih =>
                    intro L' e hp
                    cases L' with
                    | nil => simp at e
                    | cons p L' =>
                      rw [List.map_cons, List.map_cons, List.cons.injEq] at e
                      refine .cons (rv_of_t3 ?_) (ih e.2 fun p hp' => hp p (List.mem_cons_of_mem _ hp'))
                      rw [← e.1]
                      exact nx1.sqT (hk3 p (hp p List.mem_cons_self))
                exact go eL fun p hp => hL1 p (pm.mem_iff.mp hp)
              have rh2 := rh.fresh (u := SetTO X.prog X.w a L) ha
              exact h1 _ _ _ (nx1.trans (Nx.fresh hq [q])) (rh2.alloc hq ⟨_, upd_same, rl.mono (Nx.fresh hq [q])⟩) (.ref rh2.last)
          · exact h1.elim
        · exact h1.elim
    · exact h1.elim
  · exact h1.elim
end
end Mi
end
section
set_option maxRecDepth 100000
set_option maxHeartbeats 4000000
set_option autoImplicit false
namespace Mi
open PySem PySem.Spec PyProof.Rows L2

section
variable {X : Cx} {Γ : Gm} {W : WX}
variable {elt tg iter tg1 iter1 : Expr} {ifs ifs1 : List Expr} {scope : Scope} {own : List (Str × Nat)} {pos : Pos} {s s1 : MY} {p p1 : Pt} {t t1 : MT} {f : MX} {vs1 : List Nat}
/-- an item and its test, told by what the block's end wants -/
theorem lcB_of {n : Nat} {D' : Addr} {σ σ0 : L2.St} {ζ : Sl} {M : Hs} {μ : List Addr} {H : Hp} {N : Hp → Prop} {C : R Unit → R D} {Q : VK} (rr : RR X.prog X.w X.K Γ μ H ζ M σ) (hn : μ[n]? = some D')
    (hC : ∀ r, C r = match r with | .ok _ M' => C (.ok () M') | _ => .no) (hN : ∀ M' μ' H', Nx μ H μ' H' → RH X.prog X.w X.K Γ μ' M' H' → Pst X.prog X.w X.K Γ (relV X.K) W σ0 μ' H' (C (.ok () M')) Q → N H')
    (h : Pst X.prog X.w X.K Γ (relV X.K) W σ0 μ H (C (lcB t f n ζ M)) Q) :
    tT X.prog X.w X.K Γ W0 t σ H fun b H6 => if b = true then tX X.prog X.w X.K Γ W0 f σ H6 fun y H7 => ∃ acc, H7 D' = some (.lst acc) ∧ acc.length < sizeLine ∧ N (upd H7 D' (.lst (acc ++ [y]))) else N H6 := by
  refine ⟨ζ, M, μ, rr, ?_⟩
  unfold lcB at h
  cases ht : t ζ M with
  | ex c fs M4 => rw [ht, hC] at h; exact h.elim
  | no => rw [ht, hC] at h; exact h.elim
  | ok b M4 =>
    rw [ht] at h
    intro b' H4 μ4 nx4 rh4 rb
    have rb : b = b' := rb
    subst rb
    have h4 := Pst.mono h nx4
    cases b with
    | false =>
      rw [if_neg Bool.false_ne_true]
      exact hN M4 μ4 H4 nx4 rh4 h4
    | true =>
      rw [if_pos rfl]
      refine ⟨ζ, M4, μ4, ⟨rr.sl.mono nx4, rh4⟩, ?_⟩
      simp only at h4
      cases hf : f ζ M4 with
      | ex c fs M5 => rw [hf, hC] at h4; exact h4.elim
      | no => rw [hf, hC] at h4; exact h4.elim
      | ok v M5 =>
        rw [hf] at h4
        intro z H5 μ5 nx5 rh5 rz
        have h5 := Pst.mono h4 nx5
        simp only at h5
        cases hput : lput n v M5 with
        | ex c fs M6 => rw [hput, hC] at h5; exact h5.elim
        | no => rw [hput, hC] at h5; exact h5.elim
        | ok u M6 =>
          rw [hput] at h5
          have hn5 := nx5.pre _ _ (nx4.pre _ _ hn)
          obtain ⟨acc, ha, hz, rh6, nx6⟩ := lput_ok rh5 hn5 rz hput
          exact ⟨acc, ha, hz, hN M6 μ5 _ ((nx4.trans nx5).trans nx6) rh6 (Pst.mono h5 nx6)⟩
theorem tLc2_of {vs : List Nat} {σ : L2.St} {H : Hp} {Q : VK} (hp : ∀ i ∈ p.slots, i ∈ vs) (hp1 : ∀ i ∈ p1.slots, i ∈ vs1) (hv : ∀ i ∈ vs1, i ∈ vs) (h : tX X.prog X.w X.K Γ W (xLc2 s vs p t s1 p1 vs1 t1 f) σ H Q) :
    tLc2 (iY X.prog X.w X.K Γ W s) (gP X.prog X.w X.K Γ p) (tT X.prog X.w X.K Γ W0 t) (iY X.prog X.w X.K Γ W0 s1) (gP X.prog X.w X.K Γ p1) (tT X.prog X.w X.K Γ W0 t1) (tX X.prog X.w X.K Γ W0 f) vs vs1 σ H Q := by
  obtain ⟨ζ, M, μ, rr, h⟩ := h
  refine ⟨ζ, M, μ, rr, Pst.then h fun J H1 yd M1 μ1 nx rh rv h1 => fun D' hD => ?_⟩
  have nx0 : Nx μ1 H1 (μ1 ++ [D']) (upd H1 D' (.lst [])) := Nx.fresh hD [D']
  have rh0 : RH X.prog X.w X.K Γ (μ1 ++ [D']) (M1 ++ [.lst []]) (upd H1 D' (.lst [])) := rh.alloc hD ⟨[], upd_same, .nil⟩
  refine ⟨fun i m H => ∃ M μ, Nx μ1 H1 μ H ∧ RH X.prog X.w X.K Γ μ M H ∧ μ[M1.length]? = some D' ∧
    Pst X.prog X.w X.K Γ (relV X.K) W σ μ H ((lcN yd.y p (lcB2 t s1 p1 vs1 t1 f M1.length) (wipeD ζ vs) m i M).bind fun _ M2 => .ok (.ref M1.length) M2) Q,
    ⟨yd.fuel, _, _, nx0, rh0, rh.last, Pst.mono h1 nx0⟩, ?_⟩
  rintro i m H2 ⟨M2, μ2, nx2, rh2, hn, h2⟩
  cases m with
  | zero => exact h2.elim
  | succ m =>
    obtain ⟨st, go⟩ := rv i H2 μ2 M2 nx2 rh2
    simp only [lcN] at h2
    split at h2
    · exact h2.elim
    · rename_i hy
      exact .inl ⟨st hy, h2 _ _ _ (Nx.refl _ _) rh2 (.ref hn)⟩
    · rename_i d hy
      obtain ⟨g1, g2⟩ := go d hy
      refine .inr ⟨g1, fun H' => ∃ M μ, Nx μ1 H1 μ H' ∧ RH X.prog X.w X.K Γ μ M H' ∧ μ[M1.length]? = some D' ∧
        Pst X.prog X.w X.K Γ (relV X.K) W σ μ H' ((lcN yd.y p (lcB2 t s1 p1 vs1 t1 f M1.length) (wipeD ζ vs) m (i + 1) M).bind fun _ M2 => .ok (.ref M1.length) M2) Q, fun H' q => ⟨m, Nat.lt_succ_self _, q⟩, fun x H3 hx => ?_⟩
      obtain ⟨μ3, nx3, rh3, rv3⟩ := g2 x H3 hx
      refine ⟨d, M2, μ3, rh3, rv3, ?_⟩
      split at h2
      · exact h2.elim
      · rename_i l hl
        rw [hl]
        intro l' br
        have hs : ∀ q ∈ l', q.1 ∈ vs := br_slots br fun q hq => hp _ (bindP_slots p hl q hq)
        refine ⟨(wipe_setAll hs).trans (wipe_wipe fun _ h => h), ?_⟩
        have sl3 : RSl X.K H3 μ3 (setAll (wipeD ζ vs) l) (setAll (wipe σ vs) l') := RSl.setAll br (((rr.sl.mono nx).mono (nx2.trans nx3)).wiped vs)
        have n3 := nx2.trans nx3
        have hn3 := nx3.pre _ _ hn
        have h3 := Pst.mono h2 nx3
        generalize setAll (wipeD ζ vs) l = ζ2 at sl3 h3 ⊢
        generalize setAll (wipe σ vs) l' = σ2 at sl3 ⊢
        refine ⟨ζ2, M2, μ3, ⟨sl3, rh3⟩, ?_⟩
        unfold lcB2 at h3
        cases ht : t ζ2 M2 with
        | ex c fs M4 => rw [ht] at h3; exact h3.elim
        | no => rw [ht] at h3; exact h3.elim
        | ok b M4 =>
          rw [ht] at h3
          intro b' H4 μ4 nx4 rh4 rb
          have rb : b = b' := rb
          subst rb
          have h4 := Pst.mono h3 nx4
          cases b with
          | false =>
            rw [if_neg Bool.false_ne_true]
            exact ⟨M4, μ4, n3.trans nx4, rh4, nx4.pre _ _ hn3, h4⟩
          | true =>
            rw [if_pos rfl]
            refine ⟨ζ2, M4, μ4, ⟨sl3.mono nx4, rh4⟩, ?_⟩
            simp only at h4
            cases hsrc : s1 ζ2 M4 with
            | ex c fs M5 => rw [hsrc] at h4; exact h4.elim
            | no => rw [hsrc] at h4; exact h4.elim
            | ok yd1 M5 =>
              rw [hsrc] at h4
              intro J1 H5 μ5 nx5 rh5 rv5
              have h5 := Pst.mono h4 nx5
              simp only at h5
              have n5 := (n3.trans nx4).trans nx5
              have hn5 := nx5.pre _ _ (nx4.pre _ _ hn3)
              refine ⟨fun j k H => ∃ M μ, Nx μ5 H5 μ H ∧ RH X.prog X.w X.K Γ μ M H ∧ μ[M1.length]? = some D' ∧
                Pst X.prog X.w X.K Γ (relV X.K) W σ μ H ((match lcN yd1.y p1 (lcB t1 f M1.length) (wipeD ζ2 vs1) k j M with
                  | .ok _ M' => lcN yd.y p (lcB2 t s1 p1 vs1 t1 f M1.length) (wipeD ζ vs) m (i + 1) M'
                  | _ => .no).bind fun _ M2 => .ok (.ref M1.length) M2) Q, ⟨yd1.fuel, M5, μ5, Nx.refl _ _, rh5, hn5, h5⟩, ?_⟩
              rintro j k H6 ⟨M6, μ6, nx6, rh6, hn6, h6⟩
              cases k with
              | zero => exact h6.elim
              | succ k =>
                obtain ⟨st1, go1⟩ := rv5 j H6 μ6 M6 nx6 rh6
                simp only [lcN] at h6
                cases hy1 : yd1.y j M6 with
                | none => rw [hy1] at h6; exact h6.elim
                | some od =>
                  cases od with
                  | none =>
                    rw [hy1] at h6
                    exact .inl ⟨st1 hy1, M6, μ6, n5.trans nx6, rh6, hn6, h6⟩
                  | some d1 =>
                    rw [hy1] at h6
                    simp only at h6
                    obtain ⟨g3, g4⟩ := go1 d1 hy1
                    refine .inr ⟨g3, fun H' => ∃ M μ, Nx μ5 H5 μ H' ∧ RH X.prog X.w X.K Γ μ M H' ∧ μ[M1.length]? = some D' ∧
                      Pst X.prog X.w X.K Γ (relV X.K) W σ μ H' ((match lcN yd1.y p1 (lcB t1 f M1.length) (wipeD ζ2 vs1) k (j + 1) M with
                        | .ok _ M' => lcN yd.y p (lcB2 t s1 p1 vs1 t1 f M1.length) (wipeD ζ vs) m (i + 1) M'
                        | _ => .no).bind fun _ M2 => .ok (.ref M1.length) M2) Q, fun H' q => ⟨k, Nat.lt_succ_self _, q⟩, fun x1 H7 hx1 => ?_⟩
                    obtain ⟨μ7, nx7, rh7, rv7⟩ := g4 x1 H7 hx1
                    refine ⟨d1, M6, μ7, rh7, rv7, ?_⟩
                    cases hl1 : bindP p1 d1 with
                    | none => rw [hl1] at h6; exact h6.elim
                    | some l1 =>
                      rw [hl1] at h6
                      simp only at h6
                      intro l1' br1
                      have hs1 : ∀ q ∈ l1', q.1 ∈ vs1 := br_slots br1 fun q hq => hp1 _ (bindP_slots p1 hl1 q hq)
                      refine ⟨(wipe_setAll hs1).trans (wipe_wipe fun _ h => h), ?_⟩
                      have sl7 : RSl X.K H7 μ7 (setAll (wipeD ζ2 vs1) l1) (setAll (wipe σ2 vs1) l1') := RSl.setAll br1 ((((sl3.mono nx4).mono nx5).mono (nx6.trans nx7)).wiped vs1)
                      have hn7 := nx7.pre _ _ hn6
                      refine lcB_of (W := W) (σ0 := σ) (C := fun r => (match (match r with
                          | .ok _ M' => lcN yd1.y p1 (lcB t1 f M1.length) (wipeD ζ2 vs1) k (j + 1) M'
                          | _ => .no) with
                        | .ok _ M' => lcN yd.y p (lcB2 t s1 p1 vs1 t1 f M1.length) (wipeD ζ vs) m (i + 1) M'
                        | _ => .no).bind fun _ M2 => .ok (.ref M1.length) M2) (Q := Q) ⟨sl7, rh7⟩ hn7 (fun r => by cases r <;> rfl) (fun M8 μ8 H8 nx8 rh8 h8 => ?_) ?_
                      · exact ⟨M8, μ8, (nx6.trans nx7).trans nx8, rh8, nx8.pre _ _ hn7, h8⟩
                      · exact Pst.mono h6 nx7
theorem ex_lc2 (hc : X.calm = true) (hN : X.N.Nodup) (hi : EI X Γ W tg iter s) (ok : BlkOk X.N X.env.scope scope own) (hv : ∀ i ∈ vs1, i ∈ own.map (·.2)) (hp : ∀ i ∈ p.slots, i ∈ own.map (·.2)) (hp1 : ∀ i ∈ p1.slots, i ∈ vs1)
    (hg : ∀ (s : Shared) (H : Hp) (C : Addr) (cl : List (Str × Addr)) (fp : List Addr), EG (X.blk s H scope (compEnvC scope cl C X.env) fp) Γ tg p) (ht : ∀ (s : Shared) (H : Hp) (C : Addr) (cl : List (Str × Addr)) (fp : List Addr), ETs (X.blk s H scope (compEnvC scope cl C X.env) fp) Γ W0 ifs t)
    (hi1 : ∀ (s : Shared) (H : Hp) (C : Addr) (cl : List (Str × Addr)) (fp : List Addr), EI (X.blk s H scope (compEnvC scope cl C X.env) fp) Γ W0 tg1 iter1 s1)
    (hg1 : ∀ (s : Shared) (H : Hp) (C : Addr) (cl : List (Str × Addr)) (fp : List Addr), EG (X.blk s H scope (compEnvC scope cl C X.env) fp) Γ tg1 p1) (ht1 : ∀ (s : Shared) (H : Hp) (C : Addr) (cl : List (Str × Addr)) (fp : List Addr), ETs (X.blk s H scope (compEnvC scope cl C X.env) fp) Γ W0 ifs1 t1)
    (he : ∀ (s : Shared) (H : Hp) (C : Addr) (cl : List (Str × Addr)) (fp : List Addr), EX (X.blk s H scope (compEnvC scope cl C X.env) fp) Γ W0 elt f) (hs : ∀ x, foldedSetIterable iter X.env x = pure x := by intro _; rfl) (hs1 : ∀ env x, foldedSetIterable iter1 env x = pure x := by intro _ _; rfl) :
    EX X Γ W (.ListComp elt [⟨tg, iter, ifs, 0⟩, ⟨tg1, iter1, ifs1, 0⟩] scope pos) (xLc2 s (own.map (·.2)) p t s1 p1 vs1 t1 f) :=
  PE.imp (pe_lc2 hc hN hi ok hv hg ht hi1 hg1 ht1 he hs hs1) fun σ H Q h => tLc2_of hp hp1 hv h
/-- name = [..], the name a local on one line -/
theorem es_setLc2 (i : Nat) {y : Str} {py spos : Pos} (hc : X.calm = true) (hN : X.N.Nodup) (hi : EI X Γ W tg iter s) (ok : BlkOk X.N X.env.scope scope own) (hv : ∀ i ∈ vs1, i ∈ own.map (·.2)) (hp : ∀ i ∈ p.slots, i ∈ own.map (·.2)) (hp1 : ∀ i ∈ p1.slots, i ∈ vs1)
    (hg : ∀ (s : Shared) (H : Hp) (C : Addr) (cl : List (Str × Addr)) (fp : List Addr), EG (X.blk s H scope (compEnvC scope cl C X.env) fp) Γ tg p) (ht : ∀ (s : Shared) (H : Hp) (C : Addr) (cl : List (Str × Addr)) (fp : List Addr), ETs (X.blk s H scope (compEnvC scope cl C X.env) fp) Γ W0 ifs t)
    (hi1 : ∀ (s : Shared) (H : Hp) (C : Addr) (cl : List (Str × Addr)) (fp : List Addr), EI (X.blk s H scope (compEnvC scope cl C X.env) fp) Γ W0 tg1 iter1 s1)
    (hg1 : ∀ (s : Shared) (H : Hp) (C : Addr) (cl : List (Str × Addr)) (fp : List Addr), EG (X.blk s H scope (compEnvC scope cl C X.env) fp) Γ tg1 p1) (ht1 : ∀ (s : Shared) (H : Hp) (C : Addr) (cl : List (Str × Addr)) (fp : List Addr), ETs (X.blk s H scope (compEnvC scope cl C X.env) fp) Γ W0 ifs1 t1)
    (he : ∀ (s : Shared) (H : Hp) (C : Addr) (cl : List (Str × Addr)) (fp : List Addr), EX (X.blk s H scope (compEnvC scope cl C X.env) fp) Γ W0 elt f)
    (hsw : swapsWith (.ListComp elt [⟨tg, iter, ifs, 0⟩, ⟨tg1, iter1, ifs1, 0⟩] scope pos) (some (.Name y py)) spos.line X.env = pure true) (hy : X.N[i]? = some y := by rfl) (hyl : X.env.scope.names.lookup y = some .local := by rfl)
    (hs : ∀ x, foldedSetIterable iter X.env x = pure x := by intro _; rfl) (hs1 : ∀ env x, foldedSetIterable iter1 env x = pure x := by intro _ _; rfl) : ES X Γ W (.Assign [.Name y py] (.ListComp elt [⟨tg, iter, ifs, 0⟩, ⟨tg1, iter1, ifs1, 0⟩] scope pos) spos) (sSet i (xLc2 s (own.map (·.2)) p t s1 p1 vs1 t1 f)) :=
  PS.imp (ps_setLc2 hc hN hy hyl hsw hi ok hv hg ht hi1 hg1 ht1 he hs hs1) fun E σ H ⟨ζ, M, μ, rr, h⟩ => tLc2_of hp hp1 hv ⟨ζ, M, μ, rr, PstS.then h rr.sl fun v H1 d M1 μ1 nx rh rv h1 => h1 _ _ _ (Nx.refl _ _) rh ((rr.sl.mono nx).set rv i)⟩
end

def rgD (a b : Int) : List D := (List.range (b - a).toNat).map fun i => D.int (a + (i : Nat))
theorem rvs_rg {K : PySem.W.Frag} {H : Hp} {μ : List Addr} (a b : Int) : RVs K H μ (rgD a b) (rgV a b) := RVs.map _ _ (fun i => .int _) _
def okRgV (b : Int) : Bool := match b with
  | .ofNat m => Nat.ble m 16777216
  | _ => false
theorem okRgV_ok {b : Int} (h : okRgV b = true) : 0 ≤ b ∧ b ≤ 16777216 := by
  cases b with
  | ofNat m =>
    have := Nat.le_of_ble_eq_true (show Nat.ble m 16777216 = true from h)
    rw [show Int.ofNat m = (m : Int) from rfl]
    omega
  | negSucc m => cases h
theorem okRgV_mk {b : Int} (h0 : 0 ≤ b) (h1 : b ≤ 16777216) : okRgV b = true := by
  cases b with
  | ofNat m =>
    rw [show Int.ofNat m = (m : Int) from rfl] at h0 h1
    exact Nat.ble_eq_true_of_le (show m ≤ 16777216 by omega)
  | negSucc m => rw [Int.negSucc_eq] at h0; omega
/-- list(range(..)) of one number -/
def gListRg : GL := fun ds M => match ds with
  | [.int b] => if okRgV b = true then some (.ref M.length, M ++ [.lst (rgD 0 b)]) else none
  | _ => none
def gTupRg : GL := fun ds M => match ds with
  | [.int b] => if okRgV b = true then some (.tup (rgD 0 b), M) else none
  | _ => none
def gRev : GL := fun ds M => match ds with
  | [.ref n] => match hSeq M (.ref n) with
    | some xs => some (.ref M.length, M ++ [.lst xs.reverse])
    | none => none
  | _ => none
section
variable {X : Cx} {Γ : Gm} {W : WX} {e : Expr} {fe : MX} {p p2 pos pos2 p1 p3 : Pos}
theorem b_one {g : GL} {σ : L2.St} {H : Hp} {Q : VK} {P : D → Hs → List Addr → Hp → V → Prop} (h : tX X.prog X.w X.K Γ W (xB g (aCons fe aNil)) σ H Q)
    (k : ∀ d v M1 μ1 H1, RH X.prog X.w X.K Γ μ1 M1 H1 → RV X.K H1 μ1 d v → Pk X.prog X.w X.K Γ (relV X.K) μ1 H1 (g [d] M1) Q → P d M1 μ1 H1 v) : tX X.prog X.w X.K Γ W fe σ H fun v H1 => ∃ d M1 μ1, P d M1 μ1 H1 v := by
  obtain ⟨ζ, M, μ, rr, h⟩ := h
  refine ⟨ζ, M, μ, rr, ?_⟩
  unfold xB aCons aNil at h
  refine Pst.then (k := fun d M1 => R.of (g [d] M1)) (by
    cases hf : fe ζ M with
    | ok d M1 => rw [hf] at h; exact h
    | ex c fs M1 => rw [hf] at h; exact h
    | no => rw [hf] at h; exact h) fun v H1 d M1 μ1 nx rh rv h1 => ⟨d, M1, μ1, k d v M1 μ1 H1 rh rv h1.of⟩
theorem ex_listRg (hc : X.calm = true) (he : EX X Γ W e fe) (hm : X.mg "list" = none) (hm2 : X.mg "range" = none) (hg : Gl X "list" := by rfl) (hg2 : Gl X "range" := by rfl) (h1 : starEach [e] X.env = (false, eval e X.env) :: starEach [] X.env := by rfl) :
    EX X Γ W (.Call (.Name "list" p) [.Call (.Name "range" p2) [e] [] pos2] [] pos) (xB gListRg (aCons fe aNil)) :=
  PE.imp (pe_listRg hc hg hm (prg_1 hg2 hm2 he (na := h1))) fun σ H Q h => by
    obtain ⟨ζ, M, μ, rr, h⟩ := b_one (P := fun d M1 μ1 H1 v => ∃ n, v = .int n ∧ RgOk 0 n ∧ ∀ q, H1 q = none → Q (.ref q) (upd H1 q (.lst (rgV 0 n)))) h fun d v M1 μ1 H1 rh rv h1 => by
      unfold gListRg at h1
      split at h1
      · rename_i b e1
        cases e1
        cases rv
        split at h1
        · rename_i hb
          have hb := okRgV_ok hb
          exact ⟨b, rfl, RgOk.of_le (Int.le_refl _) hb.2 (by omega) hb.1, fun q hq => Pk.new rh h1 hq ⟨_, upd_same, rvs_rg 0 b⟩⟩
        · exact h1.elim
      · exact h1.elim
    refine ⟨ζ, M, μ, rr, Pst.imp h fun v H1 ⟨d, M1, μ1, n, e, r, q⟩ => ⟨n, e, r, q⟩⟩
theorem ex_tupRg (hc : X.calm = true) (he : EX X Γ W e fe) (hm : X.mg "tuple" = none) (hm2 : X.mg "range" = none) (hg : Gl X "tuple" := by rfl) (hg2 : Gl X "range" := by rfl) (h1 : starEach [e] X.env = (false, eval e X.env) :: starEach [] X.env := by rfl) :
    EX X Γ W (.Call (.Name "tuple" p) [.Call (.Name "range" p2) [e] [] pos2] [] pos) (xB gTupRg (aCons fe aNil)) :=
  PE.imp (pe_tupRg hc hg hm (prg_1 hg2 hm2 he (na := h1))) fun σ H Q h => by
    obtain ⟨ζ, M, μ, rr, h⟩ := b_one (P := fun d M1 μ1 H1 v => ∃ n, v = .int n ∧ RgOk 0 n ∧ ∀ q, H1 q = none → Q (.ref q) (upd H1 q (.tup (rgV 0 n)))) h fun d v M1 μ1 H1 rh rv h1 => by
      unfold gTupRg at h1
      split at h1
      · rename_i b e1
        cases e1
        cases rv
        split at h1
        · rename_i hb
          have hb := okRgV_ok hb
          exact ⟨b, rfl, RgOk.of_le (Int.le_refl _) hb.2 (by omega) hb.1, fun q hq => Pk.tup rh h1 hq (rvs_rg 0 b)⟩
        · exact h1.elim
      · exact h1.elim
    refine ⟨ζ, M, μ, rr, Pst.imp h fun v H1 ⟨d, M1, μ1, n, e, r, q⟩ => ⟨n, e, r, q⟩⟩
theorem ex_rev {k : Nat} (he : EX X Γ W e fe) : EX X Γ W (.Subscript e (.Slice none none (some (.UnaryOp .USub (.Constant (.int 1) k p1) p2)) p3) pos) (xB gRev (aCons fe aNil)) :=
  PE.imp (pe_revL he) fun σ H Q h => by
    obtain ⟨ζ, M, μ, rr, h⟩ := b_one (P := fun d M1 μ1 H1 v => ∃ a xs, v = .ref a ∧ SqL X.K H1 a xs ∧ ∀ p, H1 p = none → Q (.ref p) (upd H1 p (.lst xs.reverse))) h fun d v M1 μ1 H1 rh rv h1 => by
      unfold gRev at h1
      split at h1
      · rename_i n e1
        cases e1
        split at h1
        · rename_i xs hx
          obtain ⟨l, vs, rfl, hs, r⟩ := hRef_ok rh hx rv
          exact ⟨l, vs, rfl, hs, fun p hp => Pk.new rh h1 hp ⟨_, upd_same, (r.mono (Nx.fresh hp _)).reverse⟩⟩
        · exact h1.elim
      · exact h1.elim
    refine ⟨ζ, M, μ, rr, Pst.imp h fun v H1 ⟨d, M1, μ1, a, xs, e, r, q⟩ => ⟨a, xs, e, r, q⟩⟩
end
end Mi
end
section
set_option maxRecDepth 100000
set_option maxHeartbeats 4000000
set_option autoImplicit false
namespace Mi
open PySem PySem.Spec PyProof.Rows L2

section
variable {X : Cx} {Γ : Gm} {W : WX}
/-- what a store into the new dict asks -/
def PutK (P : Program) (w : World) (K : PySem.W.Frag) (Γ : Gm) (a : Addr) (y z : V) (H : Hp) (N : Hp → Prop) : Prop := ∃ d e M μ n, RH P w K Γ μ M H ∧ RV K H μ d y ∧ RV K H μ e z ∧ μ[n]? = some a ∧ ∃ kvs q, hDct M n = some kvs ∧ keyOf d = some q ∧ kvs.length < sizeLine ∧
  ∀ H' μ', Nx μ H μ' H' → RH P w K Γ μ' (M.set n (.dct (dPut kvs q d e))) H' → N H'
theorem putK_ok {pins : List (Addr × Obj)} {σ : L2.St} {H : Hp} {s : Shared} {E : Value → Shared → Prop} {a : Addr} {y z : V} {u r : Value} {Q : Unit → Shared → Prop} {N : Hp → Prop} (hr : Room 1 X.A) (I : Inv X pins σ H s) (ry : RelV y u) (rz : RelV z r) (h : PutK X.prog X.w X.K Γ a y z H N)
    (q : ∀ s' H', Inv X pins σ H' s' → N H' → Q () s') : wpAny (model X.prog X.w) X.A (dictSet a u r) Q E s := by
  have hu := hr.un
  obtain ⟨d, e, M, μ, n, rh, rd, re, ea, kvs, k, hk, hq, hl, fin⟩ := h
  obtain ⟨es, g, rp⟩ := ndct rh hk ea
  obtain ⟨xs, p, hd, hs, hz⟩ := dict_at I rp (.inl g)
  obtain ⟨c, rfl, rfl, hi⟩ := key_is I hq rd ry
  obtain ⟨k1, k2, k3⟩ := keyOf_ok hq
  have hlen : xs.length < sizeLine := by have l1 := Paired.length rp; have l2 := Paired.length p; omega
  obtain ⟨es', r', p'⟩ := puts_of k1 k2 rd re rz rp p
  have hm : Mut (H a) := by rw [g]; trivial
  refine wpAny_dictSet_heap (by show X.A.units + 8 < cLine; omega) hi hd (fun h' hd' sb => ?_) hz
  have new : ObjOk X.prog X.w (upd H a (dHO X.prog X.w a es')) h' a (dHO X.prog X.w a es') := by
    obtain ⟨o', ds', ep', ho', hx', hdt', he', _, hn'⟩ := hd'
    refine ⟨⟨_, p', o', ds', ep', ho', hx', hdt', he', hn', hs, ?_⟩, ⟨_, ho'⟩, dExt⟩
    unfold storedH
    split <;> (simp; omega)
  have hex : ∃ u, h'.get? a = some u := by obtain ⟨o', _, _, ho', _⟩ := hd'; exact ⟨o', ho'⟩
  exact q _ _ (I.write (x := a) (e := a) (o := dHO X.prog X.w a es') (t' := s.toks + (nestedKind X.prog X.w).draws k) hm (.inl rfl) (fun c ob hc hb => (sb.2 c hc).trans hb) hex new) (fin _ _ (Nx.write hm) (rh.write ea hm ⟨es', upd_same, Paired.imp r' fun _ _ => REn.mono (Nx.write hm)⟩))
variable {kx vx tg iter : Expr} {ifs : List Expr} {scope : Scope} {own : List (Str × Nat)} {pos : Pos}
/-- {k: v for target in iter if ..}: a the new dict -/
def tDk (P : Program) (w : World) (K : PySem.W.Frag) (Γ : Gm) (wi : TI) (g : TG) (tt : TT) (tk tv : TE) (vs : List Nat) : TE := fun σ H Q => wi σ H fun J H1 => ∀ a, H1 a = none → ∃ Z : Nat → Nat → Hp → Prop, (∃ m, Z 0 m (upd H1 a (dHO P w a []))) ∧ ∀ i m H, Z i m H →
  (J.stop i H ∧ Q (.ref a) H) ∨ (J.go i H ∧ ∃ N : Hp → Prop, (∀ H', N H' → ∃ m', m' < m ∧ Z (i + 1) m' H') ∧ ∀ x H', J.yld i H x H' → g x (wipe σ vs) H' fun σ2 H2 => wipe σ2 vs = wipe σ vs ∧ tt σ2 H2 fun b H3 =>
    if b = true then tk σ2 H3 fun y H4 => tv σ2 H4 fun z H5 => PutK P w K Γ a y z H5 N else N H3)
abbrev BlkEX (X : Cx) (scope : Scope) (e : Expr) (t : TE) : Prop := ∀ (s : Shared) (H : Hp) (C : Addr) (cl : List (Str × Addr)) (fp : List Addr), PE (X.blk s H scope (compEnvC scope cl C X.env) fp) e t
theorem dk_core {wi : TI} {g : TG} {tt : TT} {tk tv : TE} {pins : List (Addr × Obj)} {s : Shared} {σ : L2.St} {H : Hp} {Q : VK} {pos' : Pos} {use : Option (Value → Sem Unit)} {Qf : Value → Shared → Prop} (hr : Room 1 X.A) (hc : X.calm = true) (hN : X.N.Nodup) (I : Inv X pins σ H s) (hi : PI X tg iter wi) (ok : BlkOk X.N X.env.scope scope own)
    (hg : ∀ (s : Shared) (H : Hp) (C : Addr) (cl : List (Str × Addr)) (fp : List Addr), PG (X.blk s H scope (compEnvC scope cl C X.env) fp) tg g) (ht : ∀ (s : Shared) (H : Hp) (C : Addr) (cl : List (Str × Addr)) (fp : List Addr), PTs (X.blk s H scope (compEnvC scope cl C X.env) fp) ifs tt)
    (hk : BlkEX X scope kx tk) (hv : BlkEX X scope vx tv) (hs : ∀ x, foldedSetIterable iter X.env x = pure x) (h : tDk X.prog X.w X.K Γ wi g tt tk tv (own.map (·.2)) σ H Q)
    (hRR : ∀ a C s' m H', Inv X pins σ H' s' → Q (.ref a) H' → s'.heap.Ns C m → FpOk X pins H' C → compPost (model X.prog X.w) X.A X.xe use Qf (.ref a) C (.ok .next) s') :
    wpAny (model X.prog X.w) X.A (comprehension (.DictComp kx vx [⟨tg, iter, ifs, 0⟩] scope pos) scope X.env pos' newDict false (eval iter X.env) use) Qf X.xe s := by
  have cells : ∀ y ∈ scope.names, y.2 = .free → ∃ c, X.env.cells.lookup y.1 = some c := fun y hy e => (ok.free y hy e).elim (fun k => I.ok.has _ (.inl k)) fun k => I.ok.has _ (.inr k)
  refine wpAny_comprehension_free (use := use) rfl hs (closure_ok cells) ok.kind (fun y hy e => by rw [ok.uniq y hy, e]) (thn (hi.run pins s σ H _ I h) fun xv s1 hx => thn hx fun itv s2 h2 => ?_)
  obtain ⟨it, fp, tn, J, H2, rfl, I2, T, st2, f2, q⟩ := h2
  refine wpAny_newObj_type (newEnv_comp ?_)
  obtain ⟨a, ea⟩ : ∃ a, a = s2.heap.objs.size := ⟨_, rfl⟩
  rw [← ea]
  obtain ⟨Z, ⟨m0, z0⟩, turn⟩ := q a (I2.hok.fresh (Nat.le_of_eq ea.symm))
  obtain ⟨s3, es3⟩ : ∃ s3 : Shared, s3 = { s2 with heap := s2.heap.push { cls := .type "dict", data := .dict #[] } } := ⟨_, rfl⟩
  obtain ⟨H3, eH3⟩ : ∃ H3 : Hp, H3 = upd H2 a (dHO X.prog X.w a []) := ⟨_, rfl⟩
  have hget : s3.heap.get? a = some { cls := .type "dict", data := .dict #[] } := by rw [es3, ea]; exact Heap.get?_push_size _ rfl
  have I3 : Inv X pins σ H3 s3 := by
    rw [eH3, es3]
    refine I2.laid (t' := s2.toks) (fun b o e => Heap.get?_push_of_some _ e) (Nat.le_of_eq ea.symm) ⟨⟨[], .nil, _, #[], 0, by rw [es3] at hget; exact hget, ⟨rfl, rfl, rfl⟩, rfl, rfl, List.nodup_nil, ?_, Nat.zero_le _⟩, ⟨_, by rw [es3] at hget; exact hget⟩, dExt⟩
    exact beq_eq_false_iff_ne.mpr (Ne.symm (by rw [ea]; exact Nat.ne_of_lt I2.big))
  have h3 : s3.heap.objs.size = s2.heap.objs.size + 1 := by rw [es3]; exact Heap.size_push ..
  have old : ∀ b ∈ fp, b < s2.heap.objs.size := fun b hb => let ⟨o, e, _⟩ := T.obj _ _ st2 b hb; Heap.lt_size e
  have f3 : ∀ b ∈ fp, FpOk X pins H3 b ∧ b < s3.heap.objs.size := fun b hb => by
    have hlt := old b hb
    refine ⟨⟨?_, (f2 b hb).2⟩, by rw [h3]; exact Nat.lt_succ_of_lt hlt⟩
    rw [eH3, upd_ne (by rw [ea]; exact Nat.ne_of_lt hlt)]
    exact (f2 b hb).1
  have up3 : ∀ b o, s2.heap.get? b = some o → s3.heap.get? b = some o := fun b o e => by rw [es3]; exact Heap.get?_push_of_some _ e
  have st3 : tn 0 s3.heap := T.keep _ _ _ st2 fun b _ o e => up3 b o e
  have I4 := block_start I3 ok hN f3
  have go : codeAny (model X.prog X.w) X.A (.compStart (.DictComp kx vx [⟨tg, iter, ifs, 0⟩] scope pos) 0 (.ref it) (.ref a) (compEnvC scope (cellsFrom (s3.heap.objs.size + 1) scope.names (cloFrom X.env.cells scope.names [])) s3.heap.objs.size X.env))
      (compPost (model X.prog X.w) X.A X.xe use Qf (.ref a) s3.heap.objs.size) { s3 with heap := pushCells (s3.heap.push { cls := .type "dict", data := .dict #[] }) scope.names } := by
    have pg := hg s3 H3 s3.heap.objs.size (cellsFrom (s3.heap.objs.size + 1) scope.names (cloFrom X.env.cells scope.names [])) fp
    have pt := ht s3 H3 s3.heap.objs.size (cellsFrom (s3.heap.objs.size + 1) scope.names (cloFrom X.env.cells scope.names [])) fp
    have pk := hk s3 H3 s3.heap.objs.size (cellsFrom (s3.heap.objs.size + 1) scope.names (cloFrom X.env.cells scope.names [])) fp
    have pv := hv s3 H3 s3.heap.objs.size (cellsFrom (s3.heap.objs.size + 1) scope.names (cloFrom X.env.cells scope.names [])) fp
    have free0 : ∀ b ∈ fp, H3 b = none := fun b hb => (f3 b hb).1.1
    generalize ece : compEnvC scope (cellsFrom (s3.heap.objs.size + 1) scope.names (cloFrom X.env.cells scope.names [])) s3.heap.objs.size X.env = ce at I4 pg pt pk pv ⊢
    have loc : ce.locals = s3.heap.objs.size := by rw [← ece]; rfl
    generalize es4 : ({ s3 with heap := pushCells (s3.heap.push { cls := .type "dict", data := .dict #[] }) scope.names } : Shared) = s4 at I4 ⊢
    have st4 : tn 0 s4.heap := T.keep _ _ _ st3 fun b _ o e => by rw [← es4]; exact pushCells_keeps _ _ _ _ (Heap.get?_push_of_some _ e)
    have hz0 : Z 0 m0 H3 := by rw [eH3]; exact z0
    have fpk : ∀ {σ' : L2.St} {H' : Hp} {s' : Shared}, Inv (X.blk s3 H3 scope ce fp) [] σ' H' s' → (∀ b ∈ fp, H' b = none) → ∀ b ∈ fp, FpOk (X.blk s3 H3 scope ce fp) [] H' b := fun {σ' H' s'} J' n b hb =>
      ⟨n b hb, (J'.ok.exf b hb).1, J'.ok.exfs b hb, .inl hb, fun x c e => (J'.ok.exf b hb).2 x c e, fun p hp => absurd (show p ∈ ([] : List (Addr × Obj)) ++ [] from hp) (by simp)⟩
    have loop : codeAny (model X.prog X.w) X.A (.compLoop (.DictComp kx vx [⟨tg, iter, ifs, 0⟩] scope pos) 0 (.ref it) (.ref a) ce) (compPost (model X.prog X.w) X.A X.xe use Qf (.ref a) s3.heap.objs.size) s4 := by
      refine compLoop_anyD (fun n s' => ∃ i H', Inv (X.blk s3 H3 scope ce fp) [] (wipe σ (own.map (·.2))) H' s' ∧ tn i s'.heap ∧ (∀ b ∈ fp, H' b = none) ∧ Z i n H') ?_ m0 ⟨0, H3, I4, st4, free0, hz0⟩
      rintro n s5 ⟨i, H5, I5, st5, n5, z5⟩
      rcases turn i n H5 z5 with ⟨stop, qq⟩ | ⟨goes, N, hN', step⟩
      · refine thnF (T.done (X.blk s3 H3 scope ce fp) rfl rfl rfl hc i [] s5 _ H5 (fun _ _ => False) I5 (fpk I5 n5) st5 stop) fun r s6 ⟨er, I6⟩ => ?_
        subst er
        have I7 : Inv X pins σ H5 s6 := I3.call' (ch := fp) I6.os I6.base I6.hok I6.bare fun b hb => let z := (f3 b hb).1; ⟨z.2.2.2.1, z.2.1, z.2.2.2.2.1, z.2.2.2.2.2⟩
        have nC : H5 s3.heap.objs.size = none := by rw [← loc]; exact I6.free
        obtain ⟨m, hns, _⟩ := I6.loc
        have hns : s6.heap.Ns ce.locals m := hns
        rw [loc] at hns
        exact hRR a s3.heap.objs.size s6 m H5 I7 qq hns (I3.fpOk (Nat.le_refl _) nC)
      · refine thnF (T.item (X.blk s3 H3 scope ce fp) rfl rfl rfl hc i [] s5 _ H5 (fun _ _ => False) I5 (fpk I5 n5) st5 goes) fun r s6 ⟨u, er, h6⟩ => ?_
        subst er
        refine thnF h6 fun _ s7 ⟨x, H7, I7, r7, y7, st7, n7⟩ => ?_
        refine thnF (pg.run _ s7 _ H7 x u _ (I7.pinned (fpk I7 n7) (T.obj _ _ st7)) r7 (step x H7 y7)) fun _ s8 ⟨σ8, H8, I8, w8, q8⟩ => ?_
        refine thnF (pt.run _ s8 σ8 H8 _ I8 q8) fun b s9 ⟨H9, I9, q9⟩ => ?_
        have turnEnd : ∀ {s' : Shared} {H' : Hp}, Inv (X.blk s3 H3 scope ce fp) ([] ++ pinsAt fp s7.heap) σ8 H' s' → N H' → ∃ m, m < n ∧ ∃ i H', Inv (X.blk s3 H3 scope ce fp) [] (wipe σ (own.map (·.2))) H' s' ∧ tn i s'.heap ∧ (∀ b ∈ fp, H' b = none) ∧ Z i m H' := fun {s' H'} I' hn => by
          obtain ⟨m', hm, z'⟩ := hN' H' hn
          have pins' : ∀ b ∈ fp, ∀ o, s7.heap.get? b = some o → s'.heap.get? b = some o ∧ H' b = none := fun b hb o e => let z := I'.pin (b, o) (List.mem_append_right _ (List.mem_append_right _ (mem_pinsAt hb e))); ⟨z.1, z.2.1⟩
          refine ⟨m', hm, i + 1, H', (I'.unpinned (pins := [])).weak (by rw [← w8, wipe_length]) (fun j v e => ?_), T.keep _ _ _ st7 fun b hb o e => (pins' b hb o e).1, fun b hb => ?_, z'⟩
          · rw [← w8] at e; exact (wipe_some e).1
          · obtain ⟨o, e, _⟩ := T.obj _ _ st7 b hb; exact (pins' b hb o e).2
        cases b with
        | false =>
          simp only [Bool.false_eq_true, if_false] at q9 ⊢
          exact turnEnd I9 q9
        | true =>
          simp only [if_true] at q9 ⊢
          refine thnF (pk.run _ s9 σ8 H9 _ I9 q9) fun z s10 ⟨yk, H10, I10, r10, q10⟩ => ?_
          refine thnF (pv.run _ s10 σ8 H10 _ I10 q10) fun z2 s11 ⟨yv, H11, I11, r11, hput⟩ => ?_
          exact putK_ok (X := X.blk s3 H3 scope ce fp) (Γ := Γ) hr I11 r10 r11 hput fun s12 H12 I12 hn => turnEnd I12 hn
    exact codeAny_compStart_dict loop (T.self X.A 0 _ _ _ st4 loop)
  subst es3
  exact go
theorem ex_dk0 {wi : TI} {g : TG} {tt : TT} {tk tv : TE} (hr : Room 1 X.A) (hc : X.calm = true) (hN : X.N.Nodup) (hi : PI X tg iter wi) (ok : BlkOk X.N X.env.scope scope own)
    (hg : ∀ (s : Shared) (H : Hp) (C : Addr) (cl : List (Str × Addr)) (fp : List Addr), PG (X.blk s H scope (compEnvC scope cl C X.env) fp) tg g) (ht : ∀ (s : Shared) (H : Hp) (C : Addr) (cl : List (Str × Addr)) (fp : List Addr), PTs (X.blk s H scope (compEnvC scope cl C X.env) fp) ifs tt)
    (hk : BlkEX X scope kx tk) (hv : BlkEX X scope vx tv) (hs : ∀ x, foldedSetIterable iter X.env x = pure x := by intro _; rfl) : PE X (.DictComp kx vx [⟨tg, iter, ifs, 0⟩] scope pos) (tDk X.prog X.w X.K Γ wi g tt tk tv (own.map (·.2))) := by
  refine ⟨fun pins s σ H Q I h => ?_⟩
  rw [arm_eval_DictComp]
  refine dk_core hr hc hN I hi ok hg ht hk hv hs h fun a C s' m H' I' q hn f => ⟨m, hn, fun h'' sb => ?_⟩
  obtain ⟨f0, f1, f2, f3, f4, f5⟩ := f
  exact ⟨.ref a, H', I'.turned (t' := s'.toks) (fun b o hb e => (sb.2 b hb).trans e) f0 f1 f3 f4 f5, rfl, q⟩
/-- name = {..}, the name a local on one line -/
theorem ps_dk {i : Nat} {y : Str} {py spos : Pos} {wi : TI} {g : TG} {tt : TT} {tk tv : TE} (hr : Room 1 X.A) (hc : X.calm = true) (hN : X.N.Nodup) (hy : X.N[i]? = some y) (hyl : X.env.scope.names.lookup y = some .local) (hsw : swapsWith (.DictComp kx vx [⟨tg, iter, ifs, 0⟩] scope pos) (some (.Name y py)) spos.line X.env = pure true)
    (hi : PI X tg iter wi) (ok : BlkOk X.N X.env.scope scope own)
    (hg : ∀ (s : Shared) (H : Hp) (C : Addr) (cl : List (Str × Addr)) (fp : List Addr), PG (X.blk s H scope (compEnvC scope cl C X.env) fp) tg g) (ht : ∀ (s : Shared) (H : Hp) (C : Addr) (cl : List (Str × Addr)) (fp : List Addr), PTs (X.blk s H scope (compEnvC scope cl C X.env) fp) ifs tt)
    (hk : BlkEX X scope kx tk) (hv : BlkEX X scope vx tv) (hs : ∀ x, foldedSetIterable iter X.env x = pure x) : PS X (.Assign [.Name y py] (.DictComp kx vx [⟨tg, iter, ifs, 0⟩] scope pos) spos) (tAsg (tDk X.prog X.w X.K Γ wi g tt tk tv (own.map (·.2))) (gName i)) := by
  refine ⟨fun pins s σ H D I h => ?_⟩
  rw [exec_Assign_Name_used _ _ _ _ hsw]
  refine wpAny_bind (wpAny_standAt (wpAny_bind ?_))
  show wpAny _ X.A (do let _ ← comprehension (.DictComp kx vx [⟨tg, iter, ifs, 0⟩] scope pos) scope X.env (firstIterPos [⟨tg, iter, ifs, 0⟩] pos) newDict false (eval iter X.env) (some (assign (.Name y py) X.env))) _ _ s
  refine wpAny_bind (thn (dk_core (Qf := fun _ s' => SP X pins D .next s') (Q := fun x H1 => gName i x σ H1 D.nx) hr hc hN I hi ok hg ht hk hv hs h fun a C s' m H' I' q hn f => ?_) fun _ s' hq => wpAny_pure (wpAny_pure hq))
  show wpAny _ _ (assign (.Name y py) X.env (.ref a)) _ _ _
  refine wpAny_assign_Name (store_ok2 (v := V.ref a) I' hN hy (.inl hyl) rfl (fun s2 I2 ⟨b, sb, hb⟩ => ?_) (.inr hyl))
  obtain ⟨f0, f1, f2, f3, f4, f5⟩ := f
  have ne : C ≠ b := hb.elim (fun z => by rw [z]; exact f1) fun z e => f4 y b z e.symm
  exact ⟨m, hn.sameBut sb ne, fun h3 sb3 => ⟨_, H', I2.turned (t' := s2.toks) (fun b o hb e => (sb3.2 b hb).trans e) f0 f1 f3 f4 f5, q⟩⟩
theorem sw_dict {gs : List Comprehension} {py : Pos} {y : Str} {l : Nat} {env : Env} (hk : env.scope.kind = .function) (hy : env.scope.names.lookup y = some .local) (hl : (py.line == pos.line) = true)
    (ha : (scope.names.any fun (n, k) => n == y && (k == .local || k == .cell)) = false) : swapsWith (.DictComp kx vx gs scope pos) (some (.Name y py)) l env = pure true := by
  have k1 : env.kindOf y = some .local := hy
  have k2 : env.blockKind = .function := by unfold Env.blockKind; rw [hk]; rfl
  unfold swapsWith
  simp only [k1, k2, ha, Expr.pos, hl]
  rfl
end
def dput (n : Nat) (k v : D) (M : Hs) : R Unit := match hDct M n with
  | some kvs => match keyOf k with
    | some q => if kvs.length < sizeLine then .ok () (M.set n (.dct (dPut kvs q k v))) else .no
    | none => .no
  | none => .no
def dcB (t : MT) (fk fv : MX) (n : Nat) : Sl → Hs → R Unit := fun ζ M => match t ζ M with
  | .ok false M1 => .ok () M1
  | .ok true M1 => match fk ζ M1 with
    | .ok k M2 => match fv ζ M2 with
      | .ok v M3 => dput n k v M3
      | _ => .no
    | _ => .no
  | _ => .no
def xDc (s : MY) (vs : List Nat) (p : Pt) (t : MT) (fk fv : MX) : MX := fun ζ M => (s ζ M).bind fun yd M1 => (lcN yd.y p (dcB t fk fv M1.length) (wipeD ζ vs) yd.fuel 0 (M1 ++ [.dct []])).bind fun _ M2 => .ok (.ref M1.length) M2
section
variable {X : Cx} {Γ : Gm} {W : WX} {kx vx tg iter : Expr} {ifs : List Expr} {scope : Scope} {own : List (Str × Nat)} {pos : Pos} {s : MY} {p : Pt} {t : MT} {fk fv : MX}
theorem tDk_of {vs : List Nat} {σ : L2.St} {H : Hp} {Q : VK} (hp : ∀ i ∈ p.slots, i ∈ vs) (h : tX X.prog X.w X.K Γ W (xDc s vs p t fk fv) σ H Q) :
    tDk X.prog X.w X.K Γ (iY X.prog X.w X.K Γ W s) (gP X.prog X.w X.K Γ p) (tT X.prog X.w X.K Γ W0 t) (tX X.prog X.w X.K Γ W0 fk) (tX X.prog X.w X.K Γ W0 fv) vs σ H Q := by
  obtain ⟨ζ, M, μ, rr, h⟩ := h
  refine ⟨ζ, M, μ, rr, Pst.then h fun J H1 yd M1 μ1 nx rh rv h1 => fun D' hD => ?_⟩
  have nx0 : Nx μ1 H1 (μ1 ++ [D']) (upd H1 D' (dHO X.prog X.w D' [])) := Nx.fresh hD [D']
  have rh0 : RH X.prog X.w X.K Γ (μ1 ++ [D']) (M1 ++ [.dct []]) (upd H1 D' (dHO X.prog X.w D' [])) := rh.alloc hD ⟨[], upd_same, .nil⟩
  refine ⟨fun i m H => ∃ M μ, Nx μ1 H1 μ H ∧ RH X.prog X.w X.K Γ μ M H ∧ μ[M1.length]? = some D' ∧
    Pst X.prog X.w X.K Γ (relV X.K) W σ μ H ((lcN yd.y p (dcB t fk fv M1.length) (wipeD ζ vs) m i M).bind fun _ M2 => .ok (.ref M1.length) M2) Q,
    ⟨yd.fuel, _, _, nx0, rh0, rh.last, Pst.mono h1 nx0⟩, ?_⟩
  rintro i m H2 ⟨M2, μ2, nx2, rh2, hn, h2⟩
  cases m with
  | zero => exact h2.elim
  | succ m =>
    obtain ⟨st, go⟩ := rv i H2 μ2 M2 nx2 rh2
    simp only [lcN] at h2
    split at h2
    · exact h2.elim
    · rename_i hy
      exact .inl ⟨st hy, h2 _ _ _ (Nx.refl _ _) rh2 (.ref hn)⟩
    · rename_i d hy
      obtain ⟨g1, g2⟩ := go d hy
      refine .inr ⟨g1, fun H' => ∃ M μ, Nx μ1 H1 μ H' ∧ RH X.prog X.w X.K Γ μ M H' ∧ μ[M1.length]? = some D' ∧
        Pst X.prog X.w X.K Γ (relV X.K) W σ μ H' ((lcN yd.y p (dcB t fk fv M1.length) (wipeD ζ vs) m (i + 1) M).bind fun _ M2 => .ok (.ref M1.length) M2) Q, fun H' q => ⟨m, Nat.lt_succ_self _, q⟩, fun x H3 hx => ?_⟩
      obtain ⟨μ3, nx3, rh3, rv3⟩ := g2 x H3 hx
      refine ⟨d, M2, μ3, rh3, rv3, ?_⟩
      split at h2
      · exact h2.elim
      · rename_i l hl
        rw [hl]
        intro l' br
        have hs : ∀ q ∈ l', q.1 ∈ vs := br_slots br fun q hq => hp _ (bindP_slots p hl q hq)
        refine ⟨(wipe_setAll hs).trans (wipe_wipe fun _ h => h), ?_⟩
        have sl3 : RSl X.K H3 μ3 (setAll (wipeD ζ vs) l) (setAll (wipe σ vs) l') := RSl.setAll br (((rr.sl.mono nx).mono (nx2.trans nx3)).wiped vs)
        have n3 := nx2.trans nx3
        have hn3 := nx3.pre _ _ hn
        have h3 := Pst.mono h2 nx3
        generalize setAll (wipeD ζ vs) l = ζ2 at sl3 h3 ⊢
        refine ⟨ζ2, M2, μ3, ⟨sl3, rh3⟩, ?_⟩
        unfold dcB at h3
        cases ht : t ζ2 M2 with
        | ex c fs M4 => rw [ht] at h3; exact h3.elim
        | no => rw [ht] at h3; exact h3.elim
        | ok b M4 =>
          rw [ht] at h3
          intro b' H4 μ4 nx4 rh4 rb
          have rb : b = b' := rb
          subst rb
          have h4 := Pst.mono h3 nx4
          cases b with
          | false =>
            rw [if_neg Bool.false_ne_true]
            exact ⟨M4, μ4, n3.trans nx4, rh4, nx4.pre _ _ hn3, h4⟩
          | true =>
            rw [if_pos rfl]
            refine ⟨ζ2, M4, μ4, ⟨sl3.mono nx4, rh4⟩, ?_⟩
            simp only at h4
            cases hk : fk ζ2 M4 with
            | ex c fs M5 => rw [hk] at h4; exact h4.elim
            | no => rw [hk] at h4; exact h4.elim
            | ok k M5 =>
              rw [hk] at h4
              intro y H5 μ5 nx5 rh5 ry
              have h5 := Pst.mono h4 nx5
              simp only at h5
              refine ⟨ζ2, M5, μ5, ⟨(sl3.mono nx4).mono nx5, rh5⟩, ?_⟩
              cases hv : fv ζ2 M5 with
              | ex c fs M6 => rw [hv] at h5; exact h5.elim
              | no => rw [hv] at h5; exact h5.elim
              | ok v M6 =>
                rw [hv] at h5
                intro z H6 μ6 nx6 rh6 rz
                have h6 := Pst.mono h5 nx6
                simp only at h6
                have hn6 := nx6.pre _ _ (nx5.pre _ _ (nx4.pre _ _ hn3))
                unfold dput at h6
                split at h6
                · rename_i u M7 e7
                  split at e7
                  · rename_i kvs hkv
                    split at e7
                    · rename_i q hq
                      split at e7
                      · rename_i hl7
                        cases e7
                        exact ⟨k, v, M6, μ6, M1.length, rh6, RV.mono nx6 ry, rz, hn6, kvs, q, hkv, hq, hl7, fun H7 μ7 nx7 rh7 => ⟨_, μ7, (((n3.trans nx4).trans nx5).trans nx6).trans nx7, rh7, nx7.pre _ _ hn6, Pst.mono h6 nx7⟩⟩
                      · cases e7
                    · cases e7
                  · cases e7
                · exact h6.elim
theorem ex_dc (hr : Room 1 X.A) (hc : X.calm = true) (hN : X.N.Nodup) (hi : EI X Γ W tg iter s) (ok : BlkOk X.N X.env.scope scope own) (hp : ∀ i ∈ p.slots, i ∈ own.map (·.2))
    (hg : ∀ (s : Shared) (H : Hp) (C : Addr) (cl : List (Str × Addr)) (fp : List Addr), EG (X.blk s H scope (compEnvC scope cl C X.env) fp) Γ tg p) (ht : ∀ (s : Shared) (H : Hp) (C : Addr) (cl : List (Str × Addr)) (fp : List Addr), ETs (X.blk s H scope (compEnvC scope cl C X.env) fp) Γ W0 ifs t)
    (hk : ∀ (s : Shared) (H : Hp) (C : Addr) (cl : List (Str × Addr)) (fp : List Addr), EX (X.blk s H scope (compEnvC scope cl C X.env) fp) Γ W0 kx fk) (hv : ∀ (s : Shared) (H : Hp) (C : Addr) (cl : List (Str × Addr)) (fp : List Addr), EX (X.blk s H scope (compEnvC scope cl C X.env) fp) Γ W0 vx fv)
    (hs : ∀ x, foldedSetIterable iter X.env x = pure x := by intro _; rfl) : EX X Γ W (.DictComp kx vx [⟨tg, iter, ifs, 0⟩] scope pos) (xDc s (own.map (·.2)) p t fk fv) :=
  PE.imp (ex_dk0 (Γ := Γ) hr hc hN hi ok hg ht hk hv hs) fun σ H Q h => tDk_of hp h
theorem es_setDc (i : Nat) {y : Str} {py spos : Pos} (hr : Room 1 X.A) (hc : X.calm = true) (hN : X.N.Nodup) (hi : EI X Γ W tg iter s) (ok : BlkOk X.N X.env.scope scope own) (hp : ∀ i ∈ p.slots, i ∈ own.map (·.2))
    (hg : ∀ (s : Shared) (H : Hp) (C : Addr) (cl : List (Str × Addr)) (fp : List Addr), EG (X.blk s H scope (compEnvC scope cl C X.env) fp) Γ tg p) (ht : ∀ (s : Shared) (H : Hp) (C : Addr) (cl : List (Str × Addr)) (fp : List Addr), ETs (X.blk s H scope (compEnvC scope cl C X.env) fp) Γ W0 ifs t)
    (hk : ∀ (s : Shared) (H : Hp) (C : Addr) (cl : List (Str × Addr)) (fp : List Addr), EX (X.blk s H scope (compEnvC scope cl C X.env) fp) Γ W0 kx fk) (hv : ∀ (s : Shared) (H : Hp) (C : Addr) (cl : List (Str × Addr)) (fp : List Addr), EX (X.blk s H scope (compEnvC scope cl C X.env) fp) Γ W0 vx fv)
    (hsw : swapsWith (.DictComp kx vx [⟨tg, iter, ifs, 0⟩] scope pos) (some (.Name y py)) spos.line X.env = pure true) (hy : X.N[i]? = some y := by rfl) (hyl : X.env.scope.names.lookup y = some .local := by rfl)
    (hs : ∀ x, foldedSetIterable iter X.env x = pure x := by intro _; rfl) : ES X Γ W (.Assign [.Name y py] (.DictComp kx vx [⟨tg, iter, ifs, 0⟩] scope pos) spos) (sSet i (xDc s (own.map (·.2)) p t fk fv)) :=
  PS.imp (ps_dk (Γ := Γ) hr hc hN hy hyl hsw hi ok hg ht hk hv hs) fun E σ H ⟨ζ, M, μ, rr, h⟩ => tDk_of hp ⟨ζ, M, μ, rr, PstS.then h rr.sl fun v H1 d M1 μ1 nx rh rv h1 => h1 _ _ _ (Nx.refl _ _) rh ((rr.sl.mono nx).set rv i)⟩
end
end Mi
end
section
set_option maxRecDepth 100000
set_option maxHeartbeats 4000000
set_option autoImplicit false
namespace Mi
open PySem PySem.Spec PyProof.Rows L2

mutual
def pdT : D → Option PyData
  | .non => some .none
  | .bl b => some (.bool b)
  | .int i => some (.int i)
  | .str x => some (.str x)
  | .tup xs => (pdTs xs).map .tuple
  | .ref _ => none
  | .klst _ => none
  | .exc .. => none
def pdTs : List D → Option (List PyData)
  | [] => some []
  | x :: xs => match pdT x, pdTs xs with
    | some k, some ks => some (k :: ks)
    | _, _ => none
end
section
variable {X : Cx} {Γ : Gm} {pins : List (Addr × Obj)} {σ : L2.St} {H : Hp} {s : Shared} {μ : List Addr} {M : Hs}
mutual
theorem pd_reads (I : Inv X pins σ H s) : ∀ {d : D} {v : V} {u : Value} {p : PyData}, RV X.K H μ d v → RelV v u → pdT d = some p → Reads s.heap u p []
  | _, _, _, _, .non, r, h => by cases r; simp only [pdT] at h; cases h; exact .none
  | _, _, _, _, .bl b, r, h => by cases r; simp only [pdT] at h; cases h; exact .bool b
  | _, _, _, _, .int i, r, h => by obtain ⟨t, rfl⟩ := r; simp only [pdT] at h; cases h; exact .int i t
  | _, _, _, _, .str x, r, h => by obtain ⟨t, rfl⟩ := r; simp only [pdT] at h; cases h; exact .str x t
  | _, _, _, _, .tup g rs, r, h => by
    cases r
    simp only [pdT] at h
    obtain ⟨its, rv, ⟨o, ho, hc, n, hd⟩, _⟩ := I.tuple g
    cases e : pdTs _ with
    | none => rw [e] at h; cases h
    | some ks =>
      rw [e] at h
      cases h
      exact .tuple ho hc hd (pds_reads I rs (by simpa using rv) e)
  | _, _, _, _, .ref _, _, h => by simp [pdT] at h
  | _, _, _, _, .kls _ _, _, h => by simp [pdT] at h
  | _, _, _, _, .excN, _, h => by simp [pdT] at h
  | _, _, _, _, .excD _ _ _, _, h => by simp [pdT] at h
theorem pds_reads (I : Inv X pins σ H s) : ∀ {ds : List D} {vs : List V} {us : List Value} {ps : List PyData}, RVs X.K H μ ds vs → Vals vs us → pdTs ds = some ps → ReadsAll s.heap us ps []
  | _, _, _, _, .nil, r, h => by cases r; simp only [pdTs] at h; cases h; exact .nil
  | _, _, _, _, .cons a b, r, h => by
    cases r with
    | cons r1 r2 =>
      simp only [pdTs] at h
      split at h
      · rename_i k ks h1 h2
        cases h
        exact .cons (as := []) (bs := []) (pd_reads I a r1 h1) (pds_reads I b r2 h2)
      · cases h
end
/-- the order of data -/
def ltP (p q : PyData) : Bool := PyProof.Rows.lexLt PyProof.Rows.itemOrd (PySem.W.keyToks p) (PySem.W.keyToks q)
/-- things that are sorted by what they read as -/
structure SrtK (κ : Type) (f : κ → D) (enc : κ → PyData) : Prop where
  pd : ∀ k, pdT (f k) = some (enc k)
  inj : ∀ k l, PySem.W.keyToks (enc k) = PySem.W.keyToks (enc l) → k = l
  al : ∀ k l, PySem.W.alike (enc k) (enc l) = true
  tp : ∀ k, ∃ x r, enc k = .tuple (x :: r)
  dp : ∀ k, (enc k).depth ≤ 8
variable {κ : Type} {f : κ → D} {enc : κ → PyData}
def ltK (enc : κ → PyData) (k l : κ) : Bool := ltP (enc k) (enc l)
theorem SrtK.swo (S : SrtK κ f enc) : SrtO.Swo (ltK enc) := by
  refine ⟨fun x y h => ?_, fun x y z h1 h2 => ?_⟩
  · cases e : ltK enc y x with
    | false => rfl
    | true =>
      have a := (PyProof.Rows.listOrd PyProof.Rows.itemOrd).trans _ _ _ h e
      have b := (PyProof.Rows.listOrd PyProof.Rows.itemOrd).irrefl (PySem.W.keyToks (enc x))
      exact absurd (a.symm.trans b) (by decide)
  · cases e : ltK enc z x with
    | false => rfl
    | true =>
      rcases (PyProof.Rows.listOrd PyProof.Rows.itemOrd).negTrans _ (PySem.W.keyToks (enc y)) _ e with a | a
      · exact absurd (a.symm.trans h2) (by decide)
      · exact absurd (a.symm.trans h1) (by decide)
theorem SrtK.eq (S : SrtK κ f enc) (x y : κ) (h : SrtO.eqv (ltK enc) x y = true) : y = x := by
  obtain ⟨h1, h2⟩ := SrtO.eqv_iff.mp h
  exact (S.inj _ _ ((PyProof.Rows.listOrd PyProof.Rows.itemOrd).total _ _ h1 h2)).symm
theorem SrtK.sorted [Inhabited κ] (S : SrtK κ f enc) {E : Value → Shared → Prop} {Q : VK} (hr : Room 1 X.A) (hc : X.calm = true) (I : Inv X pins σ H s) (rh : RH X.prog X.w X.K Γ μ M H) {n : Nat} {a : Addr} {ks : List κ}
    (h : itemsA M (.ref n) = some (ks.map f)) (ea : μ[n]? = some a) (hq : ∀ p, H p = none → ∀ vs, RVs X.K H μ ((srtB (ltK enc) ks).map f) vs → Q (.ref p) (upd H p (.lst vs))) : wpAny (model X.prog X.w) X.A (call (.builtin "sorted") [.ref a]) (EP X pins σ Q) E s := by
  have hu := hr.un
  refine sorted_go S.swo S.eq f hc I rh (fun hq => collect_A (A := X.A.in1) (I.ok.hd hc) I rh h ea hq) (fun h' tk us I1 sh => ?_) hq
  have each : PySem.W.EachIs (fun u (k : κ) => Reads h' u (enc k) []) us ks := by
    obtain ⟨vs, r, t⟩ := sh
    clear h ea rh hq
    induction ks generalizing us vs with
    | nil => cases r; cases t; exact .nil
    | cons k ks ih =>
      cases r with
      | cons r1 r2 => cases t with
        | cons t1 t2 => exact .cons (pd_reads (s := { s with heap := h', toks := tk }) I1 r1 t1 (S.pd k)) (ih _ _ r2 t2)
  have one : ∀ {u : Value} {k l : κ}, Reads h' u (enc k) [] → Reads h' u (enc l) [] → k = l := fun r1 r2 => S.inj _ _ (by rw [(r1.unique _ _ r2).1])
  obtain ⟨g, hg, hgr⟩ : ∃ g : Value → κ, us.map g = ks ∧ ∀ u ∈ us, Reads h' u (enc (g u)) [] := by
    classical
    refine ⟨fun u => if x : ∃ k : κ, Reads h' u (enc k) [] then x.choose else default, ?_, ?_⟩
    · clear h ea rh hq sh
      induction each with
      | nil => rfl
      | @cons u k us ks h1 t ih =>
        have x : ∃ k : κ, Reads h' u (enc k) [] := ⟨k, h1⟩
        rw [List.map_cons, ih, dif_pos x, one x.choose_spec h1]
    · intro u hu
      obtain ⟨k, _, h1⟩ := each.left u hu
      have x : ∃ k : κ, Reads h' u (enc k) [] := ⟨k, h1⟩
      dsimp only
      rw [dif_pos x]
      exact x.choose_spec
  refine ⟨g, hg, fun h2 h₁ l hl kp => ?_⟩
  intro h'' hk
  have up : ∀ b o, h'.get? b = some o → h''.get? b = some o := fun b o e => hk b o (kp b o e).1 (kp b o e).2
  have e2 : PySem.W.EachIs (fun v d => ∃ as, Reads h'' v d as) us (us.map fun u => enc (g u)) := by
    clear hg h2 hl hk each sh
    induction us with
    | nil => exact .nil
    | cons u us ih => exact .cons ⟨[], PyProof.Rows.Reads.keeps up (hgr u List.mem_cons_self)⟩ (ih fun w hw => hgr w (List.mem_cons_of_mem _ hw))
  have al : PySem.W.AllAlike (us.map fun u => enc (g u)) := PySem.W.AllAlike.of (enc := fun u => enc (g u)) fun _ _ => S.al _ _
  have T := PySem.W.SortsAt.data (prog := X.prog) (w := X.w) (A := X.A.in1.in1) (s := { s with heap := h'', toks := tk }) e2 al (PySem.W.Sortable.tuples (enc := fun u => enc (g u)) fun _ => S.tp _) (fun d hd => by
    obtain ⟨u, _, rfl⟩ := List.mem_map.mp hd
    have := S.dp (g u)
    show X.A.units + 2 + _ < cLine
    omega)
  obtain ⟨kd, hlt, hkind⟩ := T.kind
  refine ⟨kd, fun Q E hq => hkind h2 E hq, ?_⟩
  intro p q hp hq
  have key : ∀ v ∈ us, (PySem.W.dataKind h'' (us.map fun u => enc (g u))).keyOf v = some (PySem.W.keyToks (enc (g v))) := fun v hv => PySem.W.dataKind_some al (List.mem_map.mpr ⟨v, hv, rfl⟩) (PyProof.Rows.Reads.keeps up (hgr v hv))
  exact hlt _ _ _ _ _ (key _ hp) (key _ hq) ⟨rfl, rfl⟩
end
abbrev P6 := T3 × T3
def p6D (p : P6) : D := .tup [tr3 p.1, tr3 p.2]
def t3P (t : T3) : PyData := .tuple [.int t.1, .int t.2.1, .int t.2.2]
def p6P (p : P6) : PyData := .tuple [t3P p.1, t3P p.2]
theorem srt_p6 : SrtK P6 p6D p6P where
  pd := fun ⟨a, b⟩ => by simp [p6D, tr3, pdT, pdTs, p6P, t3P]
  inj := fun ⟨⟨a1, a2, a3⟩, ⟨b1, b2, b3⟩⟩ ⟨⟨c1, c2, c3⟩, ⟨d1, d2, d3⟩⟩ h => by
    simp [p6P, t3P, PySem.W.keyToks, PySem.W.keyToksAll] at h
    simp [h]
  al := fun ⟨a, b⟩ ⟨c, d⟩ => by simp [p6P, t3P, PySem.W.alike, PySem.W.alikeAll]
  tp := fun p => ⟨_, _, rfl⟩
  dp := fun p => by simp [p6P, t3P, PyData.depth, PyData.depthAll]
abbrev lt6 : P6 → P6 → Bool := ltK p6P
def t3of : D → Option T3
  | .tup [.int i, .int j, .int k] => some (i, j, k)
  | _ => none
theorem t3of_ok {d : D} {t : T3} (h : t3of d = some t) : d = tr3 t := by
  unfold t3of at h
  split at h
  · cases h; rfl
  · cases h
def p6s : List D → Option (List P6)
  | [] => some []
  | .tup [a, b] :: r => match t3of a, t3of b, p6s r with
    | some x, some y, some ps => some ((x, y) :: ps)
    | _, _, _ => none
  | _ => none
theorem p6s_ok : ∀ {xs : List D} {ps : List P6}, p6s xs = some ps → xs = ps.map p6D
  | [], ps, h => by cases h; rfl
  | x :: xs, ps, h => by
    unfold p6s at h
    split at h
    · rename_i e; cases e
    · rename_i a b r e
      cases e
      split at h
      · rename_i x y qs h1 h2 h3
        cases h
        rw [p6s_ok h3, t3of_ok h1, t3of_ok h2]
        rfl
      · cases h
    · cases h
/-- sorted of ints, pairs of ints, pairs of triples -/
def gSortedA : GL := fun ds M => match gSorted ds M with
  | some r => some r
  | none => match ds with
    | [.ref n] => match itemsA M (.ref n) with
      | some xs => match p6s xs with
        | some ps => some (.ref M.length, M ++ [.lst ((srtB lt6 ps).map p6D)])
        | none => none
      | none => none
    | _ => none
section
variable {X : Cx} {Γ : Gm}
theorem b_sortedA (hr : Room 1 X.A) (hc : X.calm = true) : CB X Γ (.builtin "sorted") gSortedA := by
  intro pins s σ H xs us Q I r ⟨ds, M, μ, rh, rv, hq⟩
  unfold gSortedA at hq
  split at hq
  · rename_i e
    exact b_sorted hc pins s σ H xs us Q I r ⟨ds, M, μ, rh, rv, by rw [e]; exact hq⟩
  · split at hq
    · obtain ⟨v, rfl, r1⟩ := one_rel rv
      obtain ⟨a, rfl, ea⟩ := ref_rel r1
      obtain ⟨u, rfl, ru⟩ := Vals.one r
      cases ru
      split at hq
      · rename_i ys hx
        split at hq
        · rename_i ps hp
          have e := p6s_ok hp
          subst e
          exact srt_p6.sorted hr hc I rh hx ea fun p hp vs rv => Pk.new rh hq hp ⟨_, upd_same, rv.mono (Nx.fresh hp _)⟩
        · exact hq.elim
      · exact hq.elim
    · exact hq.elim
end
end Mi
end
section
set_option maxRecDepth 100000
set_option maxHeartbeats 2000000
set_option autoImplicit false
namespace Mi
open PySem PySem.Spec PyProof.Rows L2

/-- the def at m of the class c does what F does -/
structure MetD (P : Program) (w : World) (K : PySem.W.Frag) (mg : Str → Option Value) (base : Heap) (Γ : Gm) (k c : Nat) (m : Str) (n : Nat) (F : MF) : Prop where
  i : ∃ f fd ps, Meth K (Γ.cA c) m f ∧ FnOk P w K mg base (L2.CX P w) k f fd ps (spF P w K Γ n F) ∧ Binds K fd ps []
theorem MetD.mono {P : Program} {w : World} {K : PySem.W.Frag} {mg : Str → Option Value} {base : Heap} {Γ : Gm} {j k c : Nat} {m : Str} {n : Nat} {F : MF} (T : MetD P w K mg base Γ j c m n F) (h : j ≤ k) : MetD P w K mg base Γ k c m n F :=
  let ⟨f, fd, ps, a, b, d⟩ := T.i; ⟨⟨f, fd, ps, a, b.mono h, d⟩⟩
/-- the getter of a property -/
structure GetD (P : Program) (w : World) (K : PySem.W.Frag) (mg : Str → Option Value) (base : Heap) (Γ : Gm) (k c : Nat) (m : Str) (F : MF) : Prop where
  i : ∃ p f fd ps, PropOf K (Γ.cA c) m p f ∧ FnOk P w K mg base (L2.CX P w) k f fd ps (spF P w K Γ 1 F) ∧ Binds K fd ps []
def xMet (c n : Nat) (F : MF) (fo : MX) (ga : MA) : MX := fun ζ M => (fo ζ M).bind fun x M1 => match slAt c x M1 with
  | some _ => (ga ζ M1).bind fun ds M2 => if ds.length + 1 = n then F (x :: ds) M2 else .no
  | none => .no
def okR {α : Type} : R α → Option (α × Hs)
  | .ok a M => some (a, M)
  | _ => none
def xPrp (c : Nat) (F : MF) (fo : MX) : MX := fun ζ M => (fo ζ M).bind fun x M1 => match slAt c x M1 with
  | some _ => R.of (okR (F [x] M1))
  | none => .no
/-- no exception -/
abbrev E0 : XK := fun _ _ _ => False
theorem cx_none {P : Program} {w : World} {o : List Env} (H : Hp) (s : Shared) (e : Value) (s' : Shared) : L2.CX P w o H s E0 e s' → False := fun ⟨_, _, _, _, _, _, _, _, _, _, _, _, z⟩ => z
theorem spF_ok {P : Program} {w : World} {K : PySem.W.Frag} {Γ : Gm} {n : Nat} {F : MF} {ds : List D} {vs : List V} {M : Hs} {μ : List Addr} {H : Hp} {Q : VK} (rh : RH P w K Γ μ M H) (r : RVs K H μ ds vs) (hl : ds.length = n) (h : Pk P w K Γ (relV K) μ H (okR (F ds M)) Q) : spF P w K Γ n F vs H Q E0 := by
  refine ⟨ds, M, μ, rh, r, hl, ?_⟩
  cases e : F ds M with
  | ok d M' => rw [e] at h; exact h
  | ex c fs M' => rw [e] at h; exact h.elim
  | no => rw [e] at h; exact h.elim
theorem slAt_slt {P : Program} {w : World} {K : PySem.W.Frag} {Γ : Gm} {μ : List Addr} {M : Hs} {H : Hp} {c : Nat} {x : D} {v : V} {q : Nat × List (Option D)} (rh : RH P w K Γ μ M H) (r : RV K H μ x v) (h : slAt c x M = some q) : ∃ a dx vs, v = .ref a ∧ SlX.Slt H a (Γ.cA c) dx vs := by
  obtain ⟨n, fs⟩ := q
  obtain ⟨rfl, hm⟩ := slAt_ok h
  obtain ⟨a, rfl, ea⟩ := ref_rel r
  obtain ⟨dx, vs, h2, _⟩ := rh.at_ _ _ _ hm ea
  exact ⟨a, dx, vs, rfl, h2⟩
section
variable {X : Cx} {Γ : Gm} {W : WX} {e o : Expr} {es : List Expr} {fo fe : MX} {ga : MA} {f m : Str} {c k n : Nat} {pos apos : Pos} {F : MF}
theorem ex_met {pl : Sem Bool} (S : SlX.SCls X.K (Γ.cA c)) (T : MetD X.prog X.w X.K X.mg X.base Γ k c m n F) (hr : Room k X.A) (tk : Takes X W) (ho : EX X Γ W o fo) (ha : EA X Γ W (e :: es) ga)
    (hst : starEach (e :: es) X.env = (false, eval e X.env) :: starEach es X.env := by rfl) (hpl : (backTo pos (starEach es X.env)).any (·.1) = false := by rfl)
    (ht : eval (.Call (.Attribute o m apos) (e :: es) [] pos) X.env = (do
      let ov ← eval o X.env
      standAt apos.atName
      let (f, first) ← holding [ov] (getMethod ov m pl)
      callWith pos f first (backTo pos (starEach (e :: es) X.env)) (backToKw pos (keywordEach [] X.env))) := by rfl) : EX X Γ W (.Call (.Attribute o m apos) (e :: es) [] pos) (xMet c n F fo ga) := by
  obtain ⟨f, fd, ps, hm, F1, hb⟩ := T.i
  refine ⟨fun pins s σ H Q I ⟨ζ, M, μ, rr, h⟩ => ?_⟩
  have h' : tX X.prog X.w X.K Γ W fo σ H fun x H1 => ∃ a dx vs, x = .ref a ∧ SlX.Slt H1 a (Γ.cA c) dx vs ∧ tA X.prog X.w X.K Γ W ga σ H1 fun us H2 => spF X.prog X.w X.K Γ n F (x :: us) H2 Q (WE W σ) :=
    ⟨ζ, M, μ, rr, Pst.then h fun v H1 d M1 μ1 nx rh rv h1 => by
      cases hs : slAt c d M1 with
      | none => rw [hs] at h1; exact h1.elim
      | some q =>
        rw [hs] at h1
        obtain ⟨a, dx, vs, rfl, h2⟩ := slAt_slt rh rv hs
        exact ⟨a, dx, vs, rfl, h2, ζ, M1, μ1, ⟨rr.sl.mono nx, rh⟩, Pst.then h1 fun us H2 ds M2 μ2 nx2 rh2 rvs h3 => spF_of (W := W) rh2 (.cons (RV.mono nx2 rv) rvs) (by simpa using h3)⟩⟩
  refine PySem.W.methodCall_KW (pl := pl) (thn (ho.run pins s σ H _ I h') fun u s1 ⟨x, H1, I1, rx, a, dx, vs, ex, hs, q⟩ => ?_) ht
  subst ex
  obtain rfl : u = Value.ref a := rx
  refine SlX.getmethsl_ok I1 hs S hm (PySem.W.callWith_K (first := [.ref a]) (h₀ := X.base) I.ok.mod.kin hm.kp (thn (ha.run pos pins s1 σ H1 _ I1 q) fun us s2 ⟨ws, H2, I2, r, q2⟩ => ⟨I2.kIn, ?_⟩) hst hpl)
  exact run_fnS (us := .ref a :: us) (vs := .ref a :: ws) F1 hr hb (passAt tk σ) I2 (.cons rfl r) q2
theorem ex_prp (S : SlX.SCls X.K (Γ.cA c)) (T : GetD X.prog X.w X.K X.mg X.base Γ k c f F) (hr : Room (k + 1) X.A) (he : EX X Γ W e fe) (hb : attributeBase e f X.env (eval e X.env) = eval e X.env := by rfl) : EX X Γ W (.Attribute e f pos) (xPrp c F fe) := by
  obtain ⟨p, g, fd, ps, hp, F1, hbi⟩ := T.i
  refine PE.imp (SlX.pe_propSl he S hp.at_ hp.get hp.tak hp.rec_ (FnOk.raw F1 hbi .nil) hr cx_none hb) fun σ H Q ⟨ζ, M, μ, rr, h⟩ => ⟨ζ, M, μ, rr, Pst.then h fun v H1 d M1 μ1 nx rh rv h1 => ?_⟩
  cases hs : slAt c d M1 with
  | none => rw [hs] at h1; exact h1.elim
  | some q =>
    rw [hs] at h1
    obtain ⟨a, dx, vs, rfl, h2⟩ := slAt_slt rh rv hs
    refine ⟨a, dx, vs, rfl, h2, ?_⟩
    exact spF_ok rh (.cons rv .nil) rfl h1.of
def isLs (y : D) (M : Hs) : Bool := match y with
  | .ref n => (hLst M n).isSome
  | _ => false
def gEqC (c : Nat) (F : MF) (x y : D) (M : Hs) : Option (D × Hs) := match slAt c x M with
  | some _ => if ((slAt c y M).isSome || isLs y M) = true then okR (F [x, y] M) else none
  | none => none
theorem m_eqC (S : SlX.SCls X.K (Γ.cA c)) (T : MetD X.prog X.w X.K X.mg X.base Γ k c "__eq__" 2 F) (hn : PySem.W.notFirst X.K (Γ.cA c) (.type "list") = true) (hr : Room k X.A) : Op2 X Γ (compareOp .Eq) (gEqC c F) := by
  obtain ⟨f, fd, ps, hm, F1, hb⟩ := T.i
  have hx : Passes (L2.CX X.prog X.w) X E0 := fun _ _ _ _ _ _ _ z => (cx_none _ _ _ _ z).elim
  intro pins s σ H x y v u Q I rx ry ⟨d, e, M, μ, rh, rd, re, hq⟩
  unfold gEqC at hq
  cases hs : slAt c d M with
  | none => rw [hs] at hq; exact hq.elim
  | some q =>
    rw [hs] at hq
    obtain ⟨a, dx, vs, rfl, h2⟩ := slAt_slt rh rd hs
    dsimp only at hq
    split at hq
    · rename_i hy
      have sp := spF_ok (n := 2) rh (.cons rd (.cons re .nil)) rfl hq
      cases hs2 : slAt c e M with
      | some q2 =>
        obtain ⟨b, dy, ws, rfl, h3⟩ := slAt_slt rh re hs2
        refine SlX.op_own (op := .Eq) (fun _ _ => rfl) hm.at_ hm.fn (FnOk.raw F1 hb .nil) hr hx pins s σ H _ _ v u Q I rx ry ⟨a, dx, vs, b, Γ.cA c, dy, ws, rfl, rfl, h2, h3, ?_, ?_⟩
        · unfold PySem.W.notFirst
          simp
        · exact sp
      | none =>
        rw [hs2] at hy
        unfold isLs at hy
        cases e with
        | ref n =>
          obtain ⟨b, rfl, eb⟩ := ref_rel re
          simp only [Option.isSome_none, Bool.false_or] at hy
          obtain ⟨xs, hl⟩ := Option.isSome_iff_exists.mp hy
          obtain ⟨ws, g, _⟩ := nlst rh (hLst_ok rh hl) eb
          cases (show v = Value.ref a from rx)
          cases (show u = Value.ref b from ry)
          obtain ⟨sl, od, _, J, _⟩ := SlX.slt_inst I h2
          obtain ⟨m0, hF⟩ := I.fr
          obtain ⟨_, its, nn, _, h5⟩ := (show ObjOk X.prog X.w H s.heap b (.lst ws) from I.hok b _ g)
          have LT : PySem.W.Looks (model X.prog X.w) s.heap (typeOf (.ref b)) (.type "list") := (PySem.W.kitx_list (K := X.K)).ty _ _ I.kIn ⟨_, h5, rfl⟩
          show wpAny (model X.prog X.w) X.A (richCompare .Eq (.ref a) (.ref b)) _ _ s
          refine PySem.W.cmp_K (op := .Eq) (tb := .type "list") hr.units0 hF I.ok.mod.kin J LT hn hm.at_ hm.fn ?_
          refine wpAny_mono (wpAny_call (run_fnR (us := [.ref a, .ref b]) (vs := [.ref a, .ref b]) (FnOk.raw F1 hb .nil) hr hx I (.cons rfl (.cons rfl .nil)) sp)) (fun w' s' z => ?_) fun _ _ x => x
          obtain ⟨z', H', I', rz, qz⟩ := z
          exact SlX.cmpback rz ⟨z', H', I', rz, qz⟩
        | _ => cases hy
    · exact hq.elim
def xIsC (c : Nat) (f : MX) : MX := fun ζ M => (f ζ M).bind fun x M1 => if (slAt c x M1).isSome = true then .ok (.bl true) M1 else if isLs x M1 = true then .ok (.bl false) M1 else .no
theorem ex_isC {x : Str} {p p2 : Pos} (S : SlX.SCls X.K (Γ.cA c)) (Si : SlX.SIsi X.K (Γ.cA c)) (h1 : PySem.W.kitOne X.K (.ref (Γ.cA c)) (.ref (Γ.cA c)) = some true) (h2 : PySem.W.kitOne X.K (.type "list") (.ref (Γ.cA c)) = some false) (he : EX X Γ W e fe)
    (hC : PE X (.Name x p2) (tC (.ref (Γ.cA c)))) (hm : X.mg "isinstance" = none) (hg : Gl X "isinstance" := by rfl)
    (he1 : starEach [e, .Name x p2] X.env = (false, eval e X.env) :: starEach [.Name x p2] X.env := by rfl) : EX X Γ W (.Call (.Name "isinstance" p) [e, .Name x p2] [] pos) (xIsC c fe) := by
  have cr : CallR X (.builtin "isinstance") (fun xs H Q => SlX.rIsiSl X.K (.ref (Γ.cA c)) xs H Q ∨ rIsi X.K xs H Q) := fun pins s σ H xs us Q I r h => by
    rcases h with h | h
    · exact SlX.call_isiSl (.ref (Γ.cA c)) pins s σ H xs us Q I r h
    · exact call_isi pins s σ H xs us Q I r h
  refine PE.imp (pe_callB cr hg hm boot_isinstance (pa_cons he (pa_cons hC pa_nil) he1) (by decide) (by decide) he1) fun σ H Q ⟨ζ, M, μ, rr, h⟩ => ⟨ζ, M, μ, rr, Pst.then h fun v H1 d M1 μ1 nx rh rv h3 => ?_⟩
  split at h3
  · rename_i hs
    obtain ⟨q, hs⟩ := Option.isSome_iff_exists.mp hs
    obtain ⟨a, dx, vs, rfl, h4⟩ := slAt_slt rh rv hs
    exact .inl ⟨a, Γ.cA c, dx, vs, .ref (Γ.cA c), true, rfl, rfl, fun w h => h, h4, S, Si, h1, h3 _ _ _ (Nx.refl _ _) rh (.bl _)⟩
  · split at h3
    · rename_i hl
      unfold isLs at hl
      cases d with
      | ref n =>
        obtain ⟨b, rfl, eb⟩ := ref_rel rv
        obtain ⟨xs, hl⟩ := Option.isSome_iff_exists.mp hl
        obtain ⟨ws, g, _⟩ := nlst rh (hLst_ok rh hl) eb
        exact .inr ⟨.ref b, .ref (Γ.cA c), .type "list", .ref (Γ.cA c), false, rfl, .own _, .base (.lst g), h2, h3 _ _ _ (Nx.refl _ _) rh (.bl _)⟩
      | _ => cases hl
    · exact h3.elim
def fldOf (nm : Nat → List Str) (c : Nat) (f : Str) (fs : List D) : Option D := ((nm c).zip fs).lookup f
theorem lookup_zip {K : PySem.W.Frag} {H : Hp} {μ : List Addr} {f : Str} {d : D} : ∀ {ns : List Str} {fs : List D} {vs : List V}, RVs K H μ fs vs → (ns.zip fs).lookup f = some d → ∃ v, (ns.zip vs).lookup f = some v ∧ RV K H μ d v
  | [], _, _, _, h => by simp at h
  | n :: ns, _, _, .nil, h => by simp at h
  | n :: ns, _, _, .cons r t, h => by
    rw [List.zip_cons_cons, List.lookup_cons] at h ⊢
    cases hb : f == n with
    | true => rw [hb] at h; cases h; exact ⟨_, rfl, r⟩
    | false => rw [hb] at h; exact lookup_zip t h
def xXf2 (nm : Nat → List Str) (a : Addr) (d : Option Addr) (c : Nat) (ok : Nat → Bool) (f : Str) (fe : MX) : MX := fun ζ M => if ok c = true then (fe ζ M).bind fun y M1 => match y with
  | .exc a' d' c' ns fs => if a' = a ∧ c' = c ∧ d' = d ∧ ns = nm c ∧ d.isSome = true then match fldOf nm c f fs with
    | some z => .ok z M1
    | none => .no else .no
  | _ => .no else .no
theorem ex_xf2 {a : Addr} {oe : Obj} {d : Option Addr} {pn : List (Addr × Obj)} {ok : Nat → Bool} (hz : Zc (.ref (Γ.cA c)) d oe) (hf : ∃ vs, oe.data = .fields vs) (T : ok c = true → XfC X.K (Γ.cA c) ∧ PySem.W.findIn X.K (.ref (Γ.cA c)) f = some none)
    (he : EX (X.suite a ((a, oe) :: pn)) Γ W e fe) (hb : attributeBase e f X.env (eval e X.env) = eval e X.env := by rfl) : EX (X.suite a ((a, oe) :: pn)) Γ W (.Attribute e f pos) (xXf2 Γ.cN a d c ok f fe) := by
  by_cases hok : ok c = true
  · obtain ⟨T1, T2⟩ := T hok
    refine PE.imp (pe_xf (cls := .ref (Γ.cA c)) T1 T2 hz hf he hb) fun σ H Q ⟨ζ, M, μ, rr, h⟩ => ⟨ζ, M, μ, rr, ?_⟩
    unfold xXf2 at h
    rw [if_pos hok] at h
    refine Pst.then h fun v H1 y M1 μ1 nx rh rv h1 => ?_
    split at h1
    · rename_i a' d' c' ns fs
      split at h1
      · rename_i hh
        obtain ⟨rfl, rfl, rfl, rfl, hd⟩ := hh
        split at h1
        · rename_i z hz'
          obtain ⟨dd, rfl⟩ := Option.isSome_iff_exists.mp hd
          obtain ⟨rfl, hx⟩ := exc_dict rv
          obtain ⟨vs, g1, g2, g3⟩ := hx dd rfl
          obtain ⟨u, g4, g5⟩ := lookup_zip g3 hz'
          exact ⟨rfl, rfl, dd, _, u, rfl, g1, g4, h1 _ _ _ (Nx.refl _ _) rh g5⟩
        · exact h1.elim
      · exact h1.elim
    · exact h1.elim
  · refine ⟨fun pins s σ H Q I ⟨ζ, M, μ, rr, h⟩ => ?_⟩
    unfold xXf2 at h
    rw [if_neg hok] at h
    exact h.elim
def gMulA (x y : D) (M : Hs) : Option (D × Hs) := match x, y with
  | .int i, .int j => gMul (.int i) (.int j) M
  | .tup xs, .int k => if xs ≠ [] ∧ 2 ≤ k ∧ k ≤ 1000 ∧ xs.length ≤ 1000 then some (.tup (List.replicate k.toNat xs).flatten, M) else none
  | .ref n, .int k => match hLst M n with
    | some xs => if -(2 ^ 63) ≤ k ∧ k < 2 ^ 63 ∧ xs.length * k.toNat ≤ sizeLine then some (.ref M.length, M ++ [.lst (List.replicate k.toNat xs).flatten]) else none
    | none => none
  | _, _ => none
theorem RVs.rep {K : PySem.W.Frag} {H : Hp} {μ : List Addr} {ds : List D} {vs : List V} (r : RVs K H μ ds vs) : ∀ m : Nat, RVs K H μ (List.replicate m ds).flatten (List.replicate m vs).flatten
  | 0 => .nil
  | m + 1 => by
    rw [List.replicate_succ, List.replicate_succ, List.flatten_cons, List.flatten_cons]
    exact r.append (RVs.rep r m)
theorem m_mulA : Op2 X Γ (binaryOp .Mult) gMulA := by
  intro pins s σ H x y v u Q I rx ry ⟨d, e, M, μ, rh, rd, re, hq⟩
  unfold gMulA at hq
  split at hq
  · exact m_mul pins s σ H x y v u Q I rx ry ⟨_, _, M, μ, rh, rd, re, hq⟩
  · cases rd with
    | tup h1 r1 =>
      cases re
      split at hq
      · rename_i hc
        refine op_repT pins s σ H _ _ v u Q I rx ry ⟨_, _, _, rfl, rfl, h1, fun z => ?_, hc.2.1, hc.2.2.1, by rw [← r1.length]; exact hc.2.2.2, fun p hp => Pk.tup rh hq hp (r1.rep _)⟩
        subst z
        cases r1
        exact hc.1 rfl
      · exact hq.elim
  · obtain ⟨a, rfl, ea⟩ := ref_rel rd
    cases re
    split at hq
    · rename_i xs hl
      obtain ⟨vs, g, r⟩ := nlst rh (hLst_ok rh hl) ea
      split at hq
      · rename_i hc
        exact op_rep pins s σ H _ _ v u Q I rx ry ⟨a, _, vs, rfl, rfl, g, hc.1, hc.2.1, by rw [← r.length]; exact hc.2.2, fun p hp => Pk.new rh hq hp ⟨_, upd_same, (r.rep _).mono (Nx.fresh hp _)⟩⟩
      · exact hq.elim
    · exact hq.elim
  · exact hq.elim
end
end Mi
end
section
set_option maxRecDepth 100000
set_option maxHeartbeats 2000000
set_option autoImplicit false
namespace Mi
open PySem PySem.Spec PyProof.Rows L2

def inAt (c : Nat) (x : D) (M : Hs) : Option (Nat × List D) := match x with
  | .ref n => match M[n]? with
    | some (.ins c' fs) => if c' = c then some (n, fs) else none
    | _ => none
  | _ => none
theorem inAt_ok {c n : Nat} {x : D} {M : Hs} {fs : List D} (h : inAt c x M = some (n, fs)) : x = .ref n ∧ M[n]? = some (.ins c fs) := by
  unfold inAt at h
  split at h
  · split at h
    · split at h
      · rename_i e hc
        cases h
        subst hc
        exact ⟨rfl, e⟩
      · cases h
    · cases h
  · cases h
def putI (i : Nat) (d : D) (fs : List D) : Option (List D) := if i < fs.length then some (fs.set i d) else if i = fs.length then some (fs ++ [d]) else none
def xFldI (c i : Nat) (f : MX) : MX := fun ζ M => (f ζ M).bind fun x M1 => match inAt c x M1 with
  | some (_, fs) => match fs[i]? with
    | some d => .ok d M1
    | none => .no
  | none => .no
def sFldI (c i : Nat) (fo fv : MX) : MS := fun ζ M => RS.of ζ (fv ζ M) fun y M1 => RS.of ζ (fo ζ M1) fun x M2 => match inAt c x M2 with
  | some (n, fs) => match putI i y fs with
    | some fs' => .nx ζ (M2.set n (.ins c fs'))
    | none => .no
  | none => .no
/-- the field's name stands at i among the class's names -/
structure InF (K : PySem.W.Frag) (Γ : Gm) (c : Nat) (f : Str) (i : Nat) : Prop where
  cl : Cls K (Γ.cA c)
  n : NoAttr K (Γ.cA c) f
  ix : (Γ.cN c)[i]? = some f
  nd : (Γ.cN c).Nodup
  l : (Γ.cN c).length < 900
section
variable {P : Program} {w : World} {K : PySem.W.Frag} {Γ : Gm} {μ : List Addr} {H : Hp} {M : Hs}
theorem zip_lookup {β : Type} {f : Str} {v : β} : ∀ {ns : List Str} {vs : List β} {i : Nat}, ns.Nodup → ns[i]? = some f → vs[i]? = some v → (ns.zip vs).lookup f = some v
  | [], _, _, _, h, _ => by simp at h
  | n :: ns, [], i, _, _, h => by simp at h
  | n :: ns, u :: vs, 0, nd, h, g => by
    simp at h g
    subst h g
    simp [List.lookup_cons]
  | n :: ns, u :: vs, i + 1, nd, h, g => by
    have hne : (f == n) = false := by
      refine beq_eq_false_iff_ne.mpr fun e => ?_
      subst e
      rw [List.nodup_cons] at nd
      exact nd.1 (List.mem_of_getElem? (by simpa using h))
    rw [List.zip_cons_cons, List.lookup_cons, hne]
    exact zip_lookup (List.nodup_cons.mp nd).2 (by simpa using h) (by simpa using g)
theorem zip_none {β : Type} {f : Str} : ∀ {ns : List Str} {vs : List β}, f ∉ ns → (ns.zip vs).lookup f = none
  | [], _, _ => rfl
  | _ :: _, [], _ => by simp
  | n :: ns, u :: vs, h => by
    have hne : (f == n) = false := beq_eq_false_iff_ne.mpr fun e => h (by rw [e]; exact List.mem_cons_self)
    rw [List.zip_cons_cons, List.lookup_cons, hne]
    exact zip_none fun z => h (List.mem_cons_of_mem _ z)
theorem putF_zip {f : Str} {v : V} : ∀ {ns : List Str} {vs : List V} {i : Nat}, ns.Nodup → ns[i]? = some f → (i < vs.length → putF f v (ns.zip vs) = ns.zip (vs.set i v)) ∧ (i = vs.length → putF f v (ns.zip vs) = ns.zip (vs ++ [v]))
  | [], _, _, _, h => by simp at h
  | n :: ns, [], i, nd, h => ⟨fun z => by simp at z, fun z => by
      subst z
      simp at h
      subst h
      simp [putF]⟩
  | n :: ns, u :: vs, 0, nd, h => ⟨fun _ => by
      simp at h
      subst h
      simp [putF], fun z => by simp at z⟩
  | n :: ns, u :: vs, i + 1, nd, h => by
    have hne : n ≠ f := fun e => by
      subst e
      rw [List.nodup_cons] at nd
      exact nd.1 (List.mem_of_getElem? (by simpa using h))
    obtain ⟨h1, h2⟩ := putF_zip (v := v) (vs := vs) (List.nodup_cons.mp nd).2 (by simpa using h)
    refine ⟨fun z => ?_, fun z => ?_⟩
    · rw [List.zip_cons_cons, putF, if_neg hne, List.set_cons_succ, List.zip_cons_cons, h1 (by simpa using z)]
    · rw [List.zip_cons_cons, putF, if_neg hne, List.cons_append, List.zip_cons_cons, h2 (by simpa using z)]
theorem inAt_at {c : Nat} {x : D} {v : V} {n : Nat} {fs : List D} (rh : RH P w K Γ μ M H) (r : RV K H μ x v) (h : inAt c x M = some (n, fs)) : ∃ a dx vs, v = .ref a ∧ μ[n]? = some a ∧ M[n]? = some (.ins c fs) ∧ RVs K H μ fs vs ∧ H a = some (.ins (Γ.cA c) dx ((Γ.cN c).zip vs)) ∧ vs.length ≤ (Γ.cN c).length := by
  obtain ⟨rfl, hm⟩ := inAt_ok h
  obtain ⟨a, rfl, ea⟩ := ref_rel r
  obtain ⟨dx, vs, h1, h2, h3⟩ := rh.at_ _ _ _ hm ea
  exact ⟨a, dx, vs, rfl, ea, hm, h1, h2, h3⟩
end
def xMetI (c n : Nat) (F : MF) (fo : MX) (ga : MA) : MX := fun ζ M => (fo ζ M).bind fun x M1 => match inAt c x M1 with
  | some _ => (ga ζ M1).bind fun ds M2 => if ds.length + 1 = n then F (x :: ds) M2 else .no
  | none => .no
def xPrpI (c : Nat) (F : MF) (fo : MX) : MX := fun ζ M => (fo ζ M).bind fun x M1 => match inAt c x M1 with
  | some _ => R.of (okR (F [x] M1))
  | none => .no
/-- len of an instance with its own one, or of what the built-in takes -/
def xLenI (c : Nat) (F : MF) (fo : MX) : MX := fun ζ M => (fo ζ M).bind fun x M1 => match inAt c x M1 with
  | some _ => match okR (F [x] M1) with
    | some (.int i, M2) => if 0 ≤ i ∧ i < 16777216 then .ok (.int i) M2 else .no
    | _ => .no
  | none => .no
section
variable {X : Cx} {Γ : Gm} {W : WX} {e o v : Expr} {es : List Expr} {fo fe fv : MX} {ga : MA} {f m x : Str} {c k n i : Nat} {pos pos' apos p : Pos} {F : MF}
theorem ex_fldI (T : InF X.K Γ c f i) (he : EX X Γ W e fe) (hb : attributeBase e f X.env (eval e X.env) = eval e X.env := by rfl) : EX X Γ W (.Attribute e f pos) (xFldI c i fe) :=
  PE.imp (pe_fld he hb) fun σ H Q ⟨ζ, M, μ, rr, h⟩ => ⟨ζ, M, μ, rr, Pst.then h fun v H1 d M1 μ1 nx rh rv h1 => by
    cases hs : inAt c d M1 with
    | none => rw [hs] at h1; exact h1.elim
    | some q =>
      obtain ⟨n, fs⟩ := q
      rw [hs] at h1
      obtain ⟨a, dx, vs, rfl, ea, hm, h2, h3, h4⟩ := inAt_at rh rv hs
      dsimp only at h1
      split at h1
      · rename_i z hz
        obtain ⟨u, g1, g2⟩ := h2.get hz
        exact ⟨a, _, dx, _, u, rfl, h3, T.cl, T.n, zip_lookup T.nd T.ix g1, h1 _ _ _ (Nx.refl _ _) rh g2⟩
      · exact h1.elim⟩
theorem es_fldI (T : InF X.K Γ c f i) (ho : EX X Γ W o fo) (hv : EX X Γ W v fv) (hs : swapsWith v (some (.Attribute o f pos')) pos.line X.env = pure false := by rfl) : ES X Γ W (.Assign [.Attribute o f pos'] v pos) (sFldI c i fo fv) :=
  PS.imp (ps_fld ho hv hs) fun E σ H ⟨ζ, M, μ, rr, h⟩ => ⟨ζ, M, μ, rr, PstS.then h rr.sl fun y H1 d M1 μ1 nx rh rv h1 => ⟨ζ, M1, μ1, ⟨rr.sl.mono nx, rh⟩, PstS.then h1 (rr.sl.mono nx) fun u H2 z M2 μ2 nx2 rh2 ru h2 => by
    cases hq : inAt c z M2 with
    | none => rw [hq] at h2; exact h2.elim
    | some q =>
      obtain ⟨n, fs⟩ := q
      rw [hq] at h2
      obtain ⟨a, dx, vs, rfl, ea, hm, g2, g3, g4⟩ := inAt_at rh2 ru hq
      dsimp only at h2
      have hix := (List.getElem?_eq_some_iff.mp T.ix).1
      have mu : Mut (H2 a) := by rw [g3]; exact True.intro
      have rv2 := RV.mono nx2 rv
      split at h2
      · rename_i fs' hf
        refine ⟨a, _, dx, _, rfl, g3, T.cl, T.n, ?_, ?_⟩
        · rw [List.length_zip]; have := T.l; omega
        · unfold putI at hf
          obtain ⟨z1, z2⟩ := putF_zip (v := y) (vs := vs) T.nd T.ix
          split at hf
          · rename_i hlt
            cases hf
            rw [z1 (by rw [← g2.length]; exact hlt)]
            refine h2 _ _ _ (Nx.write mu) (rh2.write ea mu ⟨dx, _, (RVs.set rv2 i g2).mono (Nx.write mu), upd_same, by rw [List.length_set]; exact g4⟩) (((rr.sl.mono nx).mono nx2).mono (Nx.write mu))
          · split at hf
            · rename_i hnl heq
              cases hf
              have hl : vs.length = i := by rw [← g2.length]; exact heq.symm
              rw [z2 hl.symm]
              refine h2 _ _ _ (Nx.write mu) (rh2.write ea mu ⟨dx, _, (g2.append (.cons rv2 .nil)).mono (Nx.write mu), upd_same, by rw [List.length_append, hl]; exact hix⟩) (((rr.sl.mono nx).mono nx2).mono (Nx.write mu))
            · cases hf
      · exact h2.elim⟩⟩
theorem ex_metI {pl : Sem Bool} (S : Cls X.K (Γ.cA c)) (hnf : ((Γ.cN c).contains m) = false) (T : MetD X.prog X.w X.K X.mg X.base Γ k c m n F) (hr : Room k X.A) (tk : Takes X W) (ho : EX X Γ W o fo) (ha : EA X Γ W (e :: es) ga)
    (hst : starEach (e :: es) X.env = (false, eval e X.env) :: starEach es X.env := by rfl) (hpl : (backTo pos (starEach es X.env)).any (·.1) = false := by rfl)
    (ht : eval (.Call (.Attribute o m apos) (e :: es) [] pos) X.env = (do
      let ov ← eval o X.env
      standAt apos.atName
      let (f, first) ← holding [ov] (getMethod ov m pl)
      callWith pos f first (backTo pos (starEach (e :: es) X.env)) (backToKw pos (keywordEach [] X.env))) := by rfl) : EX X Γ W (.Call (.Attribute o m apos) (e :: es) [] pos) (xMetI c n F fo ga) := by
  obtain ⟨f, fd, ps, hm, F1, hb⟩ := T.i
  have hmn : m ∉ Γ.cN c := fun z => by
    have : (Γ.cN c).contains m = true := List.contains_iff_mem.mpr z
    rw [hnf] at this
    cases this
  refine ⟨fun pins s σ H Q I ⟨ζ, M, μ, rr, h⟩ => ?_⟩
  have h' : tX X.prog X.w X.K Γ W fo σ H fun x H1 => ∃ a dx fs, x = .ref a ∧ H1 a = some (.ins (Γ.cA c) dx fs) ∧ fs.lookup m = none ∧ tA X.prog X.w X.K Γ W ga σ H1 fun us H2 => spF X.prog X.w X.K Γ n F (x :: us) H2 Q (WE W σ) :=
    ⟨ζ, M, μ, rr, Pst.then h fun v H1 d M1 μ1 nx rh rv h1 => by
      cases hs : inAt c d M1 with
      | none => rw [hs] at h1; exact h1.elim
      | some q =>
        rw [hs] at h1
        obtain ⟨a, dx, vs, rfl, ea, hmm, h2, h3, h4⟩ := inAt_at (fs := q.2) (n := q.1) rh rv hs
        exact ⟨a, dx, _, rfl, h3, zip_none hmn, ζ, M1, μ1, ⟨rr.sl.mono nx, rh⟩, Pst.then h1 fun us H2 ds M2 μ2 nx2 rh2 rvs h5 => spF_of (W := W) rh2 (.cons (RV.mono nx2 rv) rvs) (by simpa using h5)⟩⟩
  refine PySem.W.methodCall_KW (pl := pl) (thn (ho.run pins s σ H _ I h') fun u s1 ⟨x, H1, I1, rx, a, dx, fs, ex, hs, hl, q⟩ => ?_) ht
  subst ex
  obtain rfl : u = Value.ref a := rx
  refine getmeth_ok I1 hs S hm hl (PySem.W.callWith_K (first := [.ref a]) (h₀ := X.base) I.ok.mod.kin hm.kp (thn (ha.run pos pins s1 σ H1 _ I1 q) fun us s2 ⟨ws, H2, I2, r, q2⟩ => ⟨I2.kIn, ?_⟩) hst hpl)
  exact run_fnS (us := .ref a :: us) (vs := .ref a :: ws) F1 hr hb (passAt tk σ) I2 (.cons rfl r) q2
theorem ex_metI0 {pl : Sem Bool} (S : Cls X.K (Γ.cA c)) (hnf : ((Γ.cN c).contains m) = false) (T : MetD X.prog X.w X.K X.mg X.base Γ k c m n F) (hr : Room k X.A) (tk : Takes X W) (ho : EX X Γ W o fo)
    (ht : eval (.Call (.Attribute o m apos) [] [] pos) X.env = (do
      let ov ← eval o X.env
      standAt apos.atName
      let (f, first) ← holding [ov] (getMethod ov m pl)
      callWith pos f first (backTo pos (starEach [] X.env)) (backToKw pos (keywordEach [] X.env))) := by rfl) : EX X Γ W (.Call (.Attribute o m apos) [] [] pos) (xMetI c n F fo aNil) := by
  obtain ⟨f, fd, ps, hm, F1, hb⟩ := T.i
  have hmn : m ∉ Γ.cN c := fun z => by
    have : (Γ.cN c).contains m = true := List.contains_iff_mem.mpr z
    rw [hnf] at this
    cases this
  refine ⟨fun pins s σ H Q I ⟨ζ, M, μ, rr, h⟩ => ?_⟩
  have h' : tX X.prog X.w X.K Γ W fo σ H fun x H1 => ∃ a dx fs, x = .ref a ∧ H1 a = some (.ins (Γ.cA c) dx fs) ∧ fs.lookup m = none ∧ spF X.prog X.w X.K Γ n F [x] H1 Q (WE W σ) :=
    ⟨ζ, M, μ, rr, Pst.then h fun v H1 d M1 μ1 nx rh rv h1 => by
      cases hs : inAt c d M1 with
      | none => rw [hs] at h1; exact h1.elim
      | some q =>
        rw [hs] at h1
        obtain ⟨a, dx, vs, rfl, ea, hmm, h2, h3, h4⟩ := inAt_at (fs := q.2) (n := q.1) rh rv hs
        exact ⟨a, dx, _, rfl, h3, zip_none hmn, spF_of (W := W) rh (.cons rv .nil) h1⟩⟩
  refine PySem.W.methodCall_KW (pl := pl) (thn (ho.run pins s σ H _ I h') fun u s1 ⟨x, H1, I1, rx, a, dx, fs, ex, hs, hl, q⟩ => ?_) ht
  subst ex
  obtain rfl : u = Value.ref a := rx
  refine getmeth_ok I1 hs S hm hl (PySem.W.callWith_K0 (first := [.ref a]) I1.kIn hm.kp ?_)
  exact run_fnS (us := [.ref a]) (vs := [.ref a]) F1 hr hb (passAt tk σ) I1 (.cons rfl .nil) q
theorem ex_prpI (S : Cls X.K (Γ.cA c)) (T : GetD X.prog X.w X.K X.mg X.base Γ k c f F) (hr : Room (k + 1) X.A) (he : EX X Γ W e fe) (hb : attributeBase e f X.env (eval e X.env) = eval e X.env := by rfl) : EX X Γ W (.Attribute e f pos) (xPrpI c F fe) := by
  obtain ⟨p, g, fd, ps, hp, F1, hbi⟩ := T.i
  refine PE.imp (pe_prop (dvs := []) (ds := []) (E := E0) he S hp F1 hr hbi .nil (fun _ _ _ _ _ _ _ z => (cx_none _ _ _ _ z).elim) hb) fun σ H Q ⟨ζ, M, μ, rr, h⟩ => ⟨ζ, M, μ, rr, Pst.then h fun v H1 d M1 μ1 nx rh rv h1 => ?_⟩
  cases hs : inAt c d M1 with
  | none => rw [hs] at h1; exact h1.elim
  | some q =>
    rw [hs] at h1
    obtain ⟨a, dx, vs, rfl, ea, hmm, h2, h3, h4⟩ := inAt_at (fs := q.2) (n := q.1) rh rv hs
    exact ⟨a, dx, _, rfl, h3, spF_ok rh (.cons rv .nil) rfl h1.of⟩
/-- len(x), x an instance with its own one -/
theorem ex_lenI (S : Cls X.K (Γ.cA c)) (T : MetD X.prog X.w X.K X.mg X.base Γ k c "__len__" 1 F) (hr : Room (k + 1) X.A) (hm : X.mg "len" = none) (he : EX X Γ W e fe) (hg : Gl X "len" := by rfl)
    (he1 : starEach [e] X.env = (false, eval e X.env) :: starEach [] X.env := by rfl) (hpl : (backTo pos (starEach [] X.env)).any (·.1) = false := by rfl) : EX X Γ W (.Call (.Name "len" p) [e] [] pos) (xLenI c F fe) := by
  obtain ⟨g, fd, ps, hmt, F1, hb⟩ := T.i
  have cr : CallR X (.builtin "len") (fun xs H Q => ∃ a dx fs, xs = [V.ref a] ∧ H a = some (.ins (Γ.cA c) dx fs) ∧ spF X.prog X.w X.K Γ 1 F [.ref a] H (fun z H' => ∃ i : Int, z = .int i ∧ (0 ≤ i ∧ i < 16777216) ∧ Q z H') E0) := by
    intro pins s σ H xs us Q I r ⟨a, dx, fs, ex, ha, q⟩
    subst ex
    cases r with
    | cons ru rr =>
      cases rr
      rename_i u
      obtain rfl : u = Value.ref a := ru
      obtain ⟨mA, O, _⟩ := ins_get I.hok ha
      obtain ⟨od, J, _⟩ := O.look
      obtain ⟨m0, hF⟩ := I.fr
      refine PySem.W.len_K hF I.ok.mod.kin J hmt.at_ hmt.fn ?_
      refine wpAny_call (codeAny_mono (FnOk.raw F1 hb .nil X.A.in1 X.stack s H [.ref a] [.ref a] _ E0 hr.in1 I.env0.in1 (.cons rfl .nil) q) fun r s' hq => ?_)
      cases r with
      | error er => exact (cx_none _ _ _ _ hq).elim
      | ok fl =>
        cases fl with
        | ret u' =>
          obtain ⟨z, H', I', rz, j, ez, hj, qz⟩ := I.after hq
          subst ez
          obtain ⟨t, et⟩ := (show ∃ t, u' = Value.int j t from rz)
          subst et
          exact ⟨⟨hj.1, by omega⟩, .int j, H', I'.tok _, ⟨_, rfl⟩, qz⟩
        | next => exact False.elim hq
        | brk => exact False.elim hq
        | cont => exact False.elim hq
  refine PE.imp (pe_callB cr hg hm (show bootBuiltins "len" = some (.builtin "len") from by first | rfl | exact boot_len) (pa_cons he pa_nil he1) (by decide) (by decide) he1 hpl) fun σ H Q ⟨ζ, M, μ, rr, h⟩ => ⟨ζ, M, μ, rr, Pst.then h fun v H1 d M1 μ1 nx rh rv h1 => ?_⟩
  cases hs : inAt c d M1 with
  | none => rw [hs] at h1; exact h1.elim
  | some q =>
    rw [hs] at h1
    obtain ⟨a, dx, vs, rfl, ea, hmm, h2, h3, h4⟩ := inAt_at (fs := q.2) (n := q.1) rh rv hs
    refine ⟨a, dx, _, rfl, h3, ?_⟩
    dsimp only at h1
    split at h1
    · rename_i j M2 hj
      split at h1
      · rename_i hji
        refine spF_ok rh (.cons rv .nil) rfl ?_
        rw [hj]
        intro z H' μ' nx' rh' rz
        cases rz
        exact ⟨j, rfl, hji, Pst.mono h1 nx' _ _ _ (Nx.refl _ _) rh' (.int _)⟩
      · exact h1.elim
    · exact h1.elim
theorem made_ins {P : Program} {w : World} {K : PySem.W.Frag} {Γ : Gm} {μ : List Addr} {M : Hs} {H : Hp} {x dx : Addr} (rh : RH P w K Γ μ M H) (h1 : H x = none) (h2 : H dx = none) (h3 : dx ≠ x) :
    Nx μ H (μ ++ [x]) (upd (upd H dx (.own x)) x (.ins (Γ.cA c) dx [])) ∧ RH P w K Γ (μ ++ [x]) (M ++ [.ins c []]) (upd (upd H dx (.own x)) x (.ins (Γ.cA c) dx [])) := by
  have h4 : upd H dx (.own x) x = none := by rw [upd_ne (Ne.symm h3)]; exact h1
  refine ⟨(Nx.fresh0 h2).trans (Nx.fresh h4 [x]), (rh.fresh h2).alloc h4 ⟨dx, [], .nil, ?_, Nat.zero_le _⟩⟩
  rw [upd_same, List.zip_nil_right]
theorem ex_makeI (T : Mkd X.prog X.w X.K X.mg X.base Γ k c x n F) (hr : Room (k + 1) X.A) (tk : Takes X W) (ha : EA X Γ W (e :: es) ga) (hg : Gl X x := by rfl) (hdb : (x == ("__debug__" : Str)) = false := by decide)
    (he : starEach (e :: es) X.env = (false, eval e X.env) :: starEach es X.env := by rfl) (hpl : (backTo pos (starEach es X.env)).any (·.1) = false := by rfl) : EX X Γ W (.Call (.Name x p) (e :: es) [] pos) (xMake (.ins c []) n F ga) := by
  obtain ⟨f, fd, ps, Mc, F1, hb⟩ := T.i
  refine ⟨fun pins s σ H Q I ⟨ζ, M, μ, rr, h⟩ => ?_⟩
  refine wpAny_Call_Name_kw (ld_glob I hg T.g ?_ hdb)
  have h' : tA X.prog X.w X.K Γ W ga σ H fun vs H1 => ∀ x dx, H1 x = none → H1 dx = none → dx ≠ x → spF X.prog X.w X.K Γ n F (.ref x :: vs) (upd (upd H1 dx (.own x)) x (.ins (Γ.cA c) dx [])) (fun v H2 => v = .non ∧ Q (.ref x) H2) (WE W σ) :=
    ⟨ζ, M, μ, rr, Pst.then h fun vs H1 ds M1 μ1 nx rh rv h1 => fun x dx h2 h3 h4 => by
      replace rv : RVs X.K H1 μ1 ds vs := rv
      obtain ⟨nx2, rh2⟩ := made_ins (c := c) rh h2 h3 h4
      have hx : (μ1 ++ [x])[M1.length]? = some x := rh.last
      split at h1
      · rename_i hl
        refine ⟨_, _, _, rh2, .cons (.ref hx) (rv.mono nx2), hl, ?_⟩
        have h5 := Pst.mono h1 nx2
        cases hF : F (.ref M1.length :: ds) (M1 ++ [.ins c []]) with
        | ok d M' =>
          rw [hF] at h5
          intro v H' μ' nx3 rh3 rv3
          have h6 := Pst.mono h5 nx3
          cases d with
          | non => cases rv3; exact ⟨rfl, h6 _ _ _ (Nx.refl _ _) rh3 (.ref (nx3.pre _ _ hx))⟩
          | _ => exact h6.elim
        | ex c' fs M' => rw [hF] at h5; exact h5
        | no => rw [hF] at h5; exact h5
      · exact h1.elim⟩
  refine PySem.W.callWith_K (h₀ := X.base) I.ok.mod.kin Mc.kp (thn (ha.run pos pins s σ H _ I h') fun us s1 ⟨vs, H1, I1, r, q⟩ => ⟨I1.kIn, ?_⟩) he hpl
  exact run_makeAt Mc F1 hr hb (passAt tk σ) I1 r q
end
end Mi
end
section
set_option maxRecDepth 100000
set_option maxHeartbeats 2000000
set_option autoImplicit false
namespace Mi
open PySem PySem.Spec PyProof.Rows L2

section
variable {X : Cx} {Γ : Gm} {W : WX} {e : Expr} {es : List Expr} {fe : MX} {p : Pt} {ps : List Pt} {pos : Pos} {k : Nat}
def gLst (K : PySem.W.Frag) (n : Nat) (t : TGs) : TG := fun v σ H Q => ∃ a xs, v = .ref a ∧ SqL K H a xs ∧ xs.length = n ∧ t xs σ H Q
theorem pg_lst {t : TGs} {n : Nat} (hc : X.calm = true) (h : PGs X es t)
    (hn : (assignEach es X.env).length = n := by rfl) (hst : (assignEach es X.env).findIdx? (·.1) = none := by rfl) : PG X (.Tuple es k pos) (gLst X.K n t) := by
  refine ⟨fun pins s σ H v u Q I r hw => ?_⟩
  obtain ⟨a, xs, e1, hq, hl, hw⟩ := hw
  subst e1
  cases r
  obtain ⟨its, rv, ht, hz⟩ := I.list hq
  have hl2 : its.toArray.size = n := by simp [← hl, rv.length]
  rw [assign_Tuple]
  refine wpAny_bind (wpAny_standAt ?_)
  unfold unpack
  rw [hn, hst]
  refine wpAny_bind (wpAny_holding ?_)
  rw [← hl2]
  refine PySem.W.kun_itemsOf (I.ok.hd hc) ht.isList fun h' hx => ?_
  have I1 : Inv X pins σ H { s with heap := h' } := I.kept (t' := s.toks) fun b o e => hx b o (Nat.ne_of_lt (Heap.lt_size e)) e
  exact h.run pins _ σ H xs _ Q I1 (by simpa using rv) hw
def gPL (P : Program) (w : World) (K : PySem.W.Frag) (Γ : Gm) (ps : List Pt) : TG := fun v σ H Q => ∃ n M μ, RH P w K Γ μ M H ∧ RV K H μ (.ref n) v ∧ match hSeq M (.ref n) with
  | some xs => (match bindPs ps xs with
    | some l => ∀ l', BR K H μ l l' → Q (setAll σ l') H
    | none => False)
  | none => False
theorem eg_lst (hc : X.calm = true) (h : EGs X Γ es ps) (hn : (assignEach es X.env).length = ps.length := by rfl) (hst : (assignEach es X.env).findIdx? (·.1) = none := by rfl) : PG X (.Tuple es k pos) (gPL X.prog X.w X.K Γ ps) :=
  PG.imp (pg_lst hc h hn hst) fun v σ H Q ⟨n, M, μ, rh, r, h⟩ => by
    obtain ⟨a, rfl, ea⟩ := ref_rel r
    cases hs : hSeq M (.ref n) with
    | none => rw [hs] at h; exact h.elim
    | some xs =>
      rw [hs] at h
      obtain ⟨b, vs, e, hs2, rr⟩ := hRef_ok rh hs (.ref ea)
      cases e
      refine ⟨_, vs, rfl, hs2, ?_, xs, M, μ, rh, rr, h⟩
      dsimp only at h
      cases hb : bindPs ps xs with
      | none => rw [hb] at h; exact h.elim
      | some l =>
        rw [← rr.length]
        exact eg_tup.bindPs_len hb
/-- a, b = .., a list -/
def sAsgL (f : MX) (ps : List Pt) : MS := fun ζ M => RS.of ζ (f ζ M) fun d M1 => match d with
  | .ref n => (match hSeq M1 (.ref n) with
    | some xs => (match bindPs ps xs with
      | some l => .nx (setAll ζ l) M1
      | none => .no)
    | none => .no)
  | _ => .no
theorem es_asgL {tg : Expr} (he : EX X Γ W e fe) (hg : PG X tg (gPL X.prog X.w X.K Γ ps)) (hs : swapsWithSole [tg] e pos.line X.env = pure false := by rfl) (hw : swappedStores [tg] e X.env = pure none := by rfl)
    (h1 : (assignEach [tg] X.env).map (·.2) = [assign tg X.env] := by rfl) : ES X Γ W (.Assign [tg] e pos) (sAsgL fe ps) :=
  PS.imp (ps_asg he hg hs hw h1) fun E σ H ⟨ζ, M, μ, rr, h⟩ => ⟨ζ, M, μ, rr, PstS.then h rr.sl fun v H1 d M1 μ1 nx rh rv h1 => by
    cases d with
    | ref n =>
      dsimp only at h1
      refine ⟨n, M1, μ1, rh, rv, ?_⟩
      cases hq : hSeq M1 (.ref n) with
      | none => rw [hq] at h1; exact h1.elim
      | some xs =>
        rw [hq] at h1
        dsimp only at h1
        cases hb : bindPs ps xs with
        | none => rw [hb] at h1; exact h1.elim
        | some l =>
          rw [hb] at h1
          dsimp only
          rw [hb]
          exact fun l' br => h1 _ _ _ (Nx.refl _ _) rh (RSl.setAll br (rr.sl.mono nx))
    | _ => exact h1.elim⟩
end
end Mi
end
section
set_option maxRecDepth 100000
set_option maxHeartbeats 4000000
set_option autoImplicit false
namespace Mi
open PySem PySem.Spec PyProof.Rows L2

section
variable {X : Cx} {st : Stmt} {t : TS}
theorem ps_ghost (h : PS X st t) : PS X st (fun E σ H => t { E with nx := fun σ' H' => ∃ d u, H' d = some u ∧ Mut (some u) ∧ ∀ od, E.nx σ' (upd H' d (.frz od u)) } σ H) := by
  refine ⟨fun pins s σ H E I hw => ?_⟩
  refine thn (h.run pins s σ H _ I hw) fun f s1 q => ?_
  cases f with
  | next =>
    obtain ⟨σ', H', J, d, u, hd, mu, q⟩ := q
    obtain ⟨od, J1⟩ := J.lock hd mu
    exact ⟨σ', _, J1, q od⟩
  | brk => exact q
  | cont => exact q
  | ret v => exact q
end
def sFrz (i : Nat) (f : MS) : MS := fun ζ M => match f ζ M with
  | .nx ζ' M' => match ζ'[i]? with
    | some (some (.ref n)) => match hDct M' n with
      | some kvs => .nx ζ' (M'.set n (.fdc kvs))
      | none => .no
    | _ => .no
  | r => r
section
variable {X : Cx} {Γ : Gm} {W : WX} {st : Stmt} {f : MS}
theorem es_frz (i : Nat) (h : ES X Γ W st f) : ES X Γ W st (sFrz i f) :=
  PS.imp (ps_ghost h) fun E σ H ⟨ζ, M, μ, rr, h⟩ => ⟨ζ, M, μ, rr, by
    unfold sFrz at h
    cases hf : f ζ M with
    | nx ζ1 M1 =>
      rw [hf] at h
      intro σ' H' μ' nx rh sl
      dsimp only at h
      split at h
      · rename_i n hz
        split at h
        · rename_i kvs hk
          obtain ⟨v, hv, rv⟩ := sl.at_ i _ hz
          cases rv with
          | ref ea =>
            rename_i a
            obtain ⟨es, g, rp⟩ := ndct rh hk ea
            have hm : Mut (H' a) := by rw [g]; trivial
            exact ⟨a, dHO X.prog X.w a es, g, trivial, fun od => h σ' (upd H' a (.frz od (dHO X.prog X.w a es))) μ' (nx.trans (Nx.write hm)) (rh.write ea hm ⟨es, ⟨od, upd_same⟩, Paired.imp rp fun _ _ => REn.mono (Nx.write hm)⟩) (sl.mono (Nx.write hm))⟩
        · exact h.elim
      · exact h.elim
    | rt d M1 => rw [hf] at h; exact h
    | bk ζ1 M1 => rw [hf] at h; exact h
    | ct ζ1 M1 => rw [hf] at h; exact h
    | ex c fs ζ1 M1 => rw [hf] at h; exact h
    | no => rw [hf] at h; exact h⟩
end

theorem mi_meets_items {prog : Program} {w : World} (d : Addr) (hd : (d == sysModules) = false) :
    MeetsIn prog w (Builtin.«dict.items» ⟨[.ref d], []⟩) (fun _ R s => s.TypeIs (.ref d) "dict" ∧ R (.ok (.ret (.ref s.heap.objs.size))) { s with heap := s.heap.push (DSub.viewOb "dict_items" d) }) :=
  .of_wp fun A R s hh => by
    obtain ⟨hT, h⟩ := hh
    unfold Builtin.«dict.items»
    refine wpAny_bind ?_
    unfold Builtin.Dict.noArgs
    refine wpAny_bind (wpAny_notOrdered_dict hT ?_)
    show wpAny _ _ (pure d) _ _ s
    refine wpAny_pure ?_
    show wpAny _ _ (Builtin.Dict.showsAll d >>= _) _ _ s
    unfold Builtin.Dict.showsAll
    rw [if_neg (by rw [hd]; decide)]
    exact wpAny_bind (wpAny_pure (wpAny_bind (wpAny_newObj_type (wpAny_pure ⟨_, rfl, h⟩))))
/-- what the frozen dict's object is -/
structure FzAt (P : Program) (w : World) (h : Heap) (a : Addr) (o : Obj) (es : List (NestedKey × Addr × V)) (ds : Array DictEntry) (ep : Nat) (xs : List (NestedKey × Addr × Value)) : Prop where
  get : h.get? a = some o
  ex : o.ExactDict
  dat : o.data = .dict ds ep
  ent : ds.toList = xs.map (entryOfKey (nestedKind P w))
  par : Paired (fun (p : NestedKey × Addr × V) (q : NestedKey × Addr × Value) => p.1 = q.1 ∧ p.2.1 = q.2.1 ∧ RelV p.2.2 q.2.2) es xs
  sm : (a == sysModules) = false
  size : ds.size = es.length
theorem fz_at {X : Cx} {pins : List (Addr × Obj)} {σ : L2.St} {H : Hp} {s : Shared} {a : Addr} {o : Obj} {es : List (NestedKey × Addr × V)} (I : Inv X pins σ H s) (h : H a = some (.frz o (dHO X.prog X.w a es))) : ∃ ds ep xs, FzAt X.prog X.w s.heap a o es ds ep xs := by
  obtain ⟨e, ⟨xs, p, o', ds, ep, ho, hx, hd, he, hn, hs, hl⟩, _⟩ := (show ObjOk X.prog X.w H s.heap a (.frz o (dHO X.prog X.w a es)) from I.hok a _ h)
  have eo : o' = o := Option.some.inj (ho.symm.trans e)
  subst eo
  refine ⟨ds, ep, xs, e, hx, hd, he, p, hs, ?_⟩
  have e1 : ds.size = xs.length := by
    have := congrArg List.length he
    simpa using this
  rw [e1, Paired.length p]
theorem FzAt.entry {P : Program} {w : World} {h : Heap} {a : Addr} {o : Obj} {es : List (NestedKey × Addr × V)} {ds : Array DictEntry} {ep : Nat} {xs : List (NestedKey × Addr × Value)} (z : FzAt P w h a o es ds ep xs) {i : Nat} {x : NestedKey × Addr × V} (hx : es[i]? = some x) : ∃ e, ds[i]? = some e ∧ e.key = .ref x.2.1 ∧ RelV x.2.2 e.val := by
  obtain ⟨y, hy, e1, e2, e3⟩ := paired_get z.par hx
  have q : ds[i]? = (xs[i]?).map (entryOfKey (nestedKind P w)) := entry_at z.ent i
  rw [hy] at q
  exact ⟨_, q, by rw [e2]; rfl, e3⟩
/-- the pairs of the frozen dict at a, each a new tuple -/
def ItF (P : Program) (w : World) (a : Addr) (o : Obj) (es : List (NestedKey × Addr × V)) : It :=
  ⟨fun i H => H a = some (.frz o (dHO P w a es)) ∧ i < es.length, fun i H x H' => ∃ T e, es[i]? = some e ∧ x = .ref T ∧ H T = none ∧ H' = upd H T (.tup [.ref e.2.1, e.2.2]), fun i H => H a = some (.frz o (dHO P w a es)) ∧ es.length ≤ i⟩
theorem turn_itemsF {P : Program} {w : World} {K : PySem.W.Frag} {a : Addr} {o : Obj} {es : List (NestedKey × Addr × V)} {ds : Array DictEntry} {ep : Nat} {elts : List Expr} {kk : Nat} {tpos : Pos} (it : Addr) (hod : o.data = .dict ds ep) :
    Turn P w K (.Tuple elts kk tpos) (ItF P w a o es) [it] it (fun i h => ∃ k v, h.get? it = some (DVw.itmOb a .none i es.length ep k v)) where
  mem := by simp
  obj := fun i h st b hb => by
    have z : b = it := by simpa using hb
    subst z
    obtain ⟨k, v, q⟩ := st
    exact ⟨_, q, fun v z => nomatch z⟩
  keep := fun i h h' st kp => let ⟨k, v, q⟩ := st; ⟨k, v, kp it (by simp) _ q⟩
  item := by
    intro X hP hw hK hc i pins s σ H E I hf st hg
    subst hP hw hK
    obtain ⟨hd, hi⟩ := hg
    obtain ⟨ds', ep', xs, Z⟩ := fz_at I hd
    obtain ⟨q1, q2⟩ := dict_ep hod Z.dat
    obtain ⟨x, hx⟩ : ∃ x, es[i]? = some x := ⟨es[i], List.getElem?_eq_getElem hi⟩
    obtain ⟨e, he, hkey, ru⟩ := Z.entry hx
    obtain ⟨k, v, hit0⟩ := st
    have hit : s.heap.get? it = some (DVw.itmOb a .none i es.length ep' k v) := by rw [q2]; exact hit0
    have hlt : it < s.heap.objs.size := Heap.lt_size hit
    refine DVw.itm_item hit Z.get Z.dat Z.size he fun h' b1 b2 b3 b4 => ?_
    refine ⟨_, rfl, wpAny_letOwnedTupleGo_items (s := { s with heap := h' }) (d := a) (i := i + 1) (n := es.length) (ep := ep') (ok := e.key) (ov := e.val) b1 fun h2 g2 sb => ?_⟩
    have hT : h2.get? s.heap.objs.size = some { cls := .type "tuple", data := .seq #[e.key, e.val] } := (sb.2 _ (Nat.ne_of_gt hlt)).trans b2
    have new : ObjOk X.prog X.w (upd H s.heap.objs.size (.tup [.ref x.2.1, x.2.2])) h2 s.heap.objs.size (.tup [.ref x.2.1, x.2.2]) :=
      ⟨by show 2 ≤ sizeLine; decide, [e.key, e.val], .cons (show RelV (.ref x.2.1) e.key from hkey) (.cons ru .nil), ⟨_, hT, rfl, _, rfl⟩⟩
    have J : Inv X pins σ (upd H s.heap.objs.size (.tup [.ref x.2.1, x.2.2])) { s with heap := h2 } :=
      I.turnedNew (t' := s.toks) (ch := [it]) (fun b ob hb z => (sb.2 b (by simpa using hb)).trans (b4 b ob (by simpa using hb) z)) hf (Nat.le_refl _) new
    refine ⟨.ref s.heap.objs.size, _, J, rfl, ⟨_, x, hx, rfl, I.hok.fresh (Nat.le_refl _), rfl⟩, ⟨e.key, e.val, by rw [← q2]; exact g2⟩, fun b hb => ?_⟩
    have z : b = it := by simpa using hb
    rw [z, upd_ne (Nat.ne_of_lt hlt)]
    exact (hf it (by simp)).1
  done := by
    intro X hP hw hK hc i pins s σ H E I hf st hg
    subst hP hw hK
    obtain ⟨hd, hi⟩ := hg
    obtain ⟨f0, f1, f2, f3, f4, f5⟩ := hf it (by simp)
    obtain ⟨ds', ep', xs, Z⟩ := fz_at I hd
    obtain ⟨q1, q2⟩ := dict_ep hod Z.dat
    obtain ⟨k, v, hit0⟩ := st
    have hit : s.heap.get? it = some (DVw.itmOb a .none i es.length ep' k v) := by rw [q2]; exact hit0
    exact DVw.itm_end (I.ok.hd hc) hit Z.get Z.dat Z.size (Array.getElem?_eq_none (by rw [Z.size]; exact hi)) fun h' eb => ⟨rfl, I.turned (t' := s.toks) (fun b ob hb e => eb b ob hb e) f0 f1 f3 f4 f5⟩
  self := fun A i s Q E st h => let ⟨_, _, e⟩ := st; PySem.W.kcp_self e h
section
variable {X : Cx} {e : Expr} {td : TE} {apos cpos : Pos} {elts : List Expr} {kk : Nat} {tpos : Pos}
theorem pi_itemsF (he : PE X e td) (hbase : attributeBase e "items" X.env (eval e X.env) = eval e X.env := by rfl) (hline : (apos.endLine == cpos.line) = true := by rfl) :
    PI X (.Tuple elts kk tpos) (.Call (.Attribute e "items" apos) [] [] cpos) (fun σ H R => td σ H fun x H1 => ∃ a o es, x = .ref a ∧ H1 a = some (.frz o (dHO X.prog X.w a es)) ∧ R (ItF X.prog X.w a o es) H1) := by
  refine ⟨fun pins s σ H R I h => ?_⟩
  refine wpAny_Call_method (T := "dict") (id := "dict.items") hbase rfl hline F.plainAttrs_dict F.slot_dict_items F.type_dict_items (thn (he.run pins s σ H _ I h) fun u s1 ⟨x, H1, J, rx, a, o, es, ex, hd, q⟩ => ?_)
  subst ex
  obtain rfl : u = Value.ref a := rx
  obtain ⟨ds, ep, xs, Z⟩ := fz_at J hd
  have hT : s1.TypeIs (.ref a) "dict" := ⟨o, Z.get, Z.ex.1⟩
  refine ⟨hT, fun b hb => ?_, ?_⟩
  · cases hb
    exact ⟨o, Z.get, Z.ex.2.1⟩
  have J2 : Inv X pins σ H1 { s1 with heap := s1.heap.push (DSub.viewOb "dict_items" a) } := J.kept (t' := s1.toks) fun b ob z => Heap.get?_push_of_some _ z
  have fin : wpAny (model X.prog X.w) X.A (pyIter (.ref s1.heap.objs.size)) (PIE X pins σ (.Tuple elts kk tpos) R) X.xe { s1 with heap := s1.heap.push (DSub.viewOb "dict_items" a) } := by
    refine DSub.iter_itms (Heap.get?_push_size _ rfl) (Heap.get?_push_of_some _ Z.get) Z.dat (pi_one (tk := s1.toks) J2 _ (turn_itemsF _ Z.dat) ⟨.none, .none, ?_⟩ q)
    rw [← Z.size]
    exact Heap.get?_push_size _ rfl
  show wpAny _ _ (callWith cpos (.builtin "dict.items") [.ref a] [] []) _ X.xe s1
  exact method_meetsIn F.slot_dict_items F.entry_dict_items rfl (PySem.evalArgs_none ⟨rfl, hT, F.args_dict_items_1 _, _, mi_meets_items a Z.sm, hT, fin⟩)
end
def hFdc (M : Hs) (n : Nat) : Option (List (D × D)) := match M[n]? with
  | some (.fdc kvs) => some kvs
  | _ => none
def yItems (f : MX) : MY := fun ζ M => (f ζ M).bind fun d M1 => match d with
  | .ref n => match hFdc M1 n with
    | some kvs => .ok ⟨fun i _ => some (match kvs[i]? with | some p => some (.tup [p.1, p.2]) | none => none), kvs.length + 1⟩ M1
    | none => .no
  | _ => .no
section
variable {P : Program} {w : World} {K : PySem.W.Frag} {Γ : Gm} {μ0 : List Addr} {H0 : Hp}
theorem hFdc_ok {M : Hs} {n : Nat} {kvs : List (D × D)} (h : hFdc M n = some kvs) : M[n]? = some (.fdc kvs) := by
  unfold hFdc at h
  split at h
  · cases h
    assumption
  · cases h
theorem y_items {a : Addr} {o : Obj} {es : List (NestedKey × Addr × V)} {kvs : List (D × D)} {f : Nat} (g : H0 a = some (.frz o (dHO P w a es))) (r : Paired (REn K H0 μ0) kvs es) : YOk P w K Γ H0 μ0 ⟨fun i _ => some (match kvs[i]? with | some p => some (.tup [p.1, p.2]) | none => none), f⟩ (ItF P w a o es) := by
  intro i H μ M nx rh
  have g' := nx.frz _ _ _ g
  refine ⟨fun h => ?_, fun d h => ?_⟩
  · simp only at h
    split at h
    · cases h
    · rename_i hx
      exact ⟨g', by rw [← Paired.length r]; exact List.getElem?_eq_none_iff.mp hx⟩
  · simp only at h
    split at h
    · rename_i z hz
      cases h
      obtain ⟨x, h1, h2⟩ := paired_get r hz
      refine ⟨⟨g', (List.getElem?_eq_some_iff.mp h1).1⟩, fun v H2 hy => ?_⟩
      obtain ⟨T, y, e1, e2, hT, e3⟩ := hy
      rw [h1] at e1
      cases e1
      subst e2 e3
      have n1 : Nx μ H μ (upd H T (.tup [.ref x.2.1, x.2.2])) := Nx.fresh0 hT
      exact ⟨μ, n1, rh.fresh hT, .tup (SqT.of upd_same) (.cons ((h2.2.2.1.mono nx).mono n1) (.cons ((h2.2.2.2.mono nx).mono n1) .nil))⟩
    · cases h
end
section
variable {X : Cx} {Γ : Gm} {W : WX} {e : Expr} {fe : MX} {apos cpos tpos : Pos} {elts : List Expr} {kk : Nat}
theorem ei_items (he : EX X Γ W e fe) (hbase : attributeBase e "items" X.env (eval e X.env) = eval e X.env := by rfl) (hline : (apos.endLine == cpos.line) = true := by rfl) : EI X Γ W (.Tuple elts kk tpos) (.Call (.Attribute e "items" apos) [] [] cpos) (yItems fe) :=
  PI.imp (pi_itemsF he hbase hline) fun σ H R ⟨ζ, M, μ, rr, h⟩ => ⟨ζ, M, μ, rr, Pst.then h fun v H1 d M1 μ1 nx rh rv h1 => by
    replace rv : RV X.K H1 μ1 d v := rv
    cases rv with
    | ref e1 =>
      simp only at h1
      split at h1
      · rename_i kvs hk
        obtain ⟨a, ha, es, ⟨o, g⟩, r⟩ := rh.addr (hFdc_ok hk)
        rw [e1] at ha
        cases ha
        exact ⟨_, o, es, rfl, g, h1 _ _ _ (Nx.refl _ _) rh (y_items g r)⟩
      · exact h1.elim
    | _ => exact h1.elim⟩
end

def xDict1 (fk fv : MX) : MX := fun ζ M => (fk ζ (M ++ [.dct []])).bind fun k M1 => (fv ζ M1).bind fun v M2 => match keyOf k, hDct M2 M.length with
  | some _, some [] => .ok (.ref M.length) (M2.set M.length (.dct [(k, v)]))
  | _, _ => .no
section
variable {X : Cx} {Γ : Gm} {W : WX} {ke ve : Expr} {fk fv : MX} {pos : Pos}
theorem ex_dict1 (hr : Room 1 X.A) (hk : EX X Γ W ke fk) (hv : EX X Γ W ve fv) : EX X Γ W (.Dict [some ke] [ve] pos) (xDict1 fk fv) := ⟨fun pins s σ H Q I ⟨ζ, M, μ, rr, h⟩ => by
  have hu := hr.un
  have hp := I.hok.fresh (Nat.le_refl s.heap.objs.size)
  have sh : eval (.Dict [some ke] [ve] pos) X.env = (do standAt pos; dictDisplay ([(eval ke X.env, (eval ve X.env >>= fun x => standAt pos >>= fun _ => pure x))].map fun p => (some p.1, p.2))) := rfl
  rw [sh, dictDisplay_pairs _ (by simp) (by show 1 < 17; decide)]
  refine wpAny_bind (wpAny_standAt (wpAny_bind (wpAny_subDictH (knd := nestedKind X.prog X.w) (by show X.A.units + 8 < cLine; omega) (by show 1 ≤ 15; decide) ?_)))
  obtain ⟨a, ea⟩ : ∃ a, a = s.heap.objs.size := ⟨_, rfl⟩
  have ho := Heap.get?_push_size s.heap (o := { cls := .type "dict", data := .dict #[] }) rfl
  have I0 : Inv X pins σ (upd H a (dHO X.prog X.w a [])) { s with heap := s.heap.push { cls := .type "dict", data := .dict #[] } } := by
    rw [ea]
    refine I.laid (t' := s.toks) (fun _ _ q => Heap.get?_push_of_some _ q) (Nat.le_refl _) ⟨⟨[], .nil, _, #[], 0, ho, ⟨rfl, rfl, rfl⟩, rfl, rfl, List.nodup_nil, beq_eq_false_iff_ne.mpr (Ne.symm (Nat.ne_of_lt I.big)), Nat.zero_le _⟩, ⟨_, ho⟩, dExt⟩
  rw [← ea] at hp ⊢
  have n0 : Nx μ H (μ ++ [a]) (upd H a (dHO X.prog X.w a [])) := Nx.fresh hp [a]
  have rh0 : RH X.prog X.w X.K Γ (μ ++ [a]) (M ++ [.dct []]) (upd H a (dHO X.prog X.w a [])) := rr.hp.alloc hp ⟨[], upd_same, .nil⟩
  have g0 : (μ ++ [a])[M.length]? = some a := rr.hp.last
  unfold xDict1 at h
  refine evalPairs_cons (thn (hk.run pins _ σ _ _ I0 ⟨ζ, _, _, ⟨rr.sl.mono n0, rh0⟩, Pst.bind (Pst.mono h n0)⟩) fun u s1 q1 => ?_)
  obtain ⟨y, H1, I1, ry, d, M1, μ1, nx, rh, rv, h1⟩ := q1
  refine wpAny_bind (thn (hv.run pins s1 σ H1 _ I1 ⟨ζ, M1, μ1, ⟨(rr.sl.mono n0).mono nx, rh⟩, Pst.bind h1⟩) fun u2 s2 q2 => wpAny_bind (wpAny_standAt (wpAny_pure (evalPairs_nil ?_))))
  obtain ⟨z, H2, I2, rz, e, M2, μ2, nx2, rh2, re, h2⟩ := q2
  split at h2
  · rename_i k hq hk2
    have e2 : μ2[M.length]? = some a := nx2.pre _ _ (nx.pre _ _ g0)
    obtain ⟨es, g, rp⟩ := ndct rh2 hk2 e2
    cases rp
    obtain ⟨xs, p, hd, hs, hz⟩ := dict_at I2 (kvs := []) (es := []) (μ := μ2) .nil (.inl g)
    cases p
    obtain ⟨c, e3, e4, hi⟩ := key_is I2 hq (RV.mono nx2 rv) ry
    subst e3 e4
    obtain ⟨k1, k2, k3⟩ := keyOf_ok hq
    have hm : Mut (H2 a) := by rw [g]; trivial
    refine ⟨[(k, c, u2)], ⟨rfl, rfl, hi, trivial⟩, hd, fun h' tk hd' sb => wpAny_pure ?_⟩
    have p' : Paired (fun (p : NestedKey × Addr × V) (q : NestedKey × Addr × Value) => p.1 = q.1 ∧ p.2.1 = q.2.1 ∧ RelV p.2.2 q.2.2) [(k, c, z)] [(k, c, u2)] := .cons ⟨rfl, rfl, rz⟩ .nil
    have hex : ∃ u, h'.get? a = some u := by obtain ⟨o', _, _, ho', _⟩ := hd'; exact ⟨o', ho'⟩
    have new : ObjOk X.prog X.w (upd H2 a (dHO X.prog X.w a [(k, c, z)])) h' a (dHO X.prog X.w a [(k, c, z)]) := by
      obtain ⟨o', ds', ep', ho', hx', hdt', he', _, hn'⟩ := hd'
      exact ⟨⟨_, p', o', ds', ep', ho', hx', hdt', he', hn', hs, by show 1 ≤ sizeLine; decide⟩, ⟨_, ho'⟩, dExt⟩
    have J : Inv X pins σ (upd H2 a (dHO X.prog X.w a [(k, c, z)])) { s2 with heap := h', toks := tk } := I2.write (x := a) (e := a) (o := dHO X.prog X.w a [(k, c, z)]) (t' := tk) hm (.inl rfl) (fun c ob hc hb => (sb.2 c hc).trans hb) hex new
    have nw : Nx μ2 H2 μ2 (upd H2 a (dHO X.prog X.w a [(k, c, z)])) := Nx.write hm
    exact ⟨.ref a, _, J, rfl, h2 (.ref a) _ μ2 nw (rh2.write e2 hm ⟨[(k, c, z)], upd_same, .cons ⟨k1, k2, RV.mono nw (RV.mono nx2 rv), RV.mono nw re⟩ .nil⟩) (.ref e2)⟩
  · exact h2.elim⟩
end

theorem mi_same0 {prog : Program} {w : World} {A : Around} {E : Value → Shared → Prop} {s : Shared} {nm : String} {a b : Addr} {oa ob : Obj} {es : Array DictEntry} {ep ep' : Nat} {Q : Bool → Shared → Prop} (ha : (a == sysModules) = false) (hb : (b == sysModules) = false)
    (hoa : s.heap.get? a = some oa) (hda : oa.data = .dict es ep) (hob : s.heap.get? b = some ob) (hdb : ob.data = .dict #[] ep') (h : Q (decide (es.size = 0)) s) : wpAny (model prog w) A (Builtin.Dict.samePairs nm a b) Q E s := by
  unfold Builtin.Dict.samePairs Builtin.Dict.showsAll
  rw [if_neg (by rw [ha]; decide), if_neg (by rw [hb]; decide)]
  refine wpAny_bind (wpAny_pure (wpAny_bind (wpAny_pure (wpAny_bind (wpAny_dictEntries hoa hda ?_)))))
  dsimp only
  refine wpAny_bind (wpAny_dictEntries hob hdb ?_)
  by_cases hz : es.size = 0
  · rw [if_neg (by simp [hz])]
    rw [decide_eq_true hz] at h
    refine wpAny_bind (wpAny_dictEpoch hoa hda (wpAny_bind ?_))
    rw [Std.Legacy.Range.forIn_eq_forIn_range']
    simp only [Std.Legacy.Range.size, Nat.sub_zero, Nat.add_sub_cancel, Nat.div_one, hz, List.range'_zero, List.forIn_nil]
    exact wpAny_pure (wpAny_pure h)
  · rw [if_pos (by simpa using hz)]
    rw [decide_eq_false hz] at h
    exact wpAny_bind (wpAny_rule (wpAny_pure h))
theorem mi_ne0 {prog : Program} {w : World} {A : Around} {E : Value → Shared → Prop} {s : Shared} {a b : Addr} {oa ob : Obj} {es : Array DictEntry} {ep ep' : Nat} {Q : Value → Shared → Prop} (ha : (a == sysModules) = false) (hb : (b == sysModules) = false)
    (hoa : s.heap.get? a = some oa) (xa : oa.ExactDict) (hda : oa.data = .dict es ep) (hob : s.heap.get? b = some ob) (xb : ob.ExactDict) (hdb : ob.data = .dict #[] ep') (hu : A.units < cLine) (h : Q (.bool (!decide (es.size = 0))) s) :
    wpAny (model prog w) A (compareOp .NotEq (.ref a) (.ref b)) Q E s := by
  have ta : s.TypeIs (.ref a) "dict" := ⟨oa, hoa, xa.1⟩
  have tb : s.TypeIs (.ref b) "dict" := ⟨ob, hob, xb.1⟩
  refine wpAny_richCompare_same_room (op := .NotEq) ta tb PySem.F.slot_dict_ne (wpAny_call_entry PySem.F.slot_dict_ne ta PySem.F.entry_dict_ne ?_ (PySem.F.args_dict_ne_2 _ _)) hu
  show wpAny _ _ (Builtin.Dict.dictSlotArgs "__ne__" ⟨[.ref a, .ref b], []⟩ >>= _) _ _ s
  refine wpAny_bind ?_
  unfold Builtin.Dict.dictSlotArgs
  refine wpAny_bind (wpAny_notOrdered_dict ta ?_)
  show wpAny _ _ (pure (Value.ref a, Value.ref b)) _ _ s
  refine wpAny_pure (wpAny_bind (wpAny_isInstance (T := "dict") tb PySem.F.sub_dict_dict ?_))
  simp only [Bool.not_true, Bool.false_eq_true, if_false]
  refine wpAny_bind (wpAny_pure (wpAny_bind (wpAny_pure (wpAny_bind (mi_same0 ha hb hoa hda hob hdb ?_)))))
  refine wpAny_pure ⟨_, rfl, ?_, ?_⟩
  · exact fun z => nomatch z
  · simpa using h
def gNeD (x y : D) (M : Hs) : Option (D × Hs) := match x, y with
  | .ref m, .ref n => match hFdc M m, hDct M n with
    | some kvs, some [] => some (.bl (!decide (kvs.length = 0)), M)
    | _, _ => none
  | _, _ => none
theorem m_neD {X : Cx} {Γ : Gm} (hu : X.A.units + 64 < cLine) : Op2 X Γ (compareOp .NotEq) gNeD := by
  intro pins s σ H x y v u Q I rx ry hq
  obtain ⟨d, e, M, μ, rh, rd, re, hq⟩ := hq
  unfold gNeD at hq
  split at hq
  · rename_i m n
    split at hq
    · rename_i kvs h1 h2
      obtain ⟨a, rfl, ea⟩ := ref_rel rd
      obtain ⟨b, rfl, eb⟩ := ref_rel re
      cases rx
      cases ry
      obtain ⟨a', ha', es, ⟨o, g⟩, r⟩ := rh.addr (hFdc_ok h1)
      rw [ea] at ha'
      cases ha'
      obtain ⟨ds, ep, xs, Z⟩ := fz_at I g
      obtain ⟨es2, g2, r2⟩ := ndct rh h2 eb
      cases r2
      obtain ⟨⟨xs2, p2, o2, ds2, ep2, ho2, hx2, hd2, he2, hn2, hs2, hl2⟩, _⟩ := (show ObjOk X.prog X.w H s.heap b (dHO X.prog X.w b []) from I.hok b _ g2)
      cases p2
      have e0 : ds2 = #[] := by
        have : ds2.toList = [] := he2
        exact Array.toList_eq_nil_iff.mp this
      subst e0
      refine mi_ne0 Z.sm hs2 Z.get Z.ex Z.dat ho2 hx2 hd2 (by omega) ?_
      rw [Z.size, ← Paired.length r]
      exact ⟨.bl _, H, I, rfl, Pk.here rh hq (.bl _)⟩
    · exact hq.elim
  · exact hq.elim
end Mi
end
section
set_option maxRecDepth 100000
set_option maxHeartbeats 4000000
set_option autoImplicit false
namespace Mi
open PySem PySem.Spec PyProof.Rows L2

def numOk (i : Int) : Bool := decide (i.natAbs.log2 < 1920)
def gStr : GL := fun ds M => match ds with
  | [.int i] => if numOk i = true then some (.str (toString i), M) else none
  | _ => none
def gIntS : GL := fun ds M => match ds with
  | [.str a] => match PySem.intText? a with
    | some n => if a.length ≤ 640 then some (.int n, M) else none
    | none => none
  | _ => none
section
variable {X : Cx} {Γ : Gm}
theorem b_str : CB X Γ (.type "str") gStr := by
  intro pins s σ H xs us Q I r ⟨ds, M, μ, rh, rv, hq⟩
  unfold gStr at hq
  split at hq
  · obtain ⟨v, rfl, r1⟩ := one_rel rv
    cases r1
    split at hq
    · rename_i hn
      exact call_str_int pins s σ H _ us Q I r ⟨_, rfl, of_decide_eq_true hn, Pk.here rh hq (.str _)⟩
    · exact hq.elim
  · exact hq.elim
theorem b_intS : CB X Γ (.type "int") gIntS := by
  intro pins s σ H xs us Q I r ⟨ds, M, μ, rh, rv, hq⟩
  unfold gIntS at hq
  split at hq
  · obtain ⟨v, rfl, r1⟩ := one_rel rv
    cases r1
    split at hq
    · rename_i n hn
      split at hq
      · rename_i hl
        exact call_int_str pins s σ H _ us Q I r ⟨_, n, rfl, hn, hl, Pk.here rh hq (.int _)⟩
      · exact hq.elim
    · exact hq.elim
  · exact hq.elim
end

def strsOf : List D → Option (List Str)
  | [] => some []
  | .str x :: r => match strsOf r with
    | some ys => some (x :: ys)
    | none => none
  | _ => none
theorem strsOf_ok {K : PySem.W.Frag} {H : Hp} {μ : List Addr} : ∀ {xs : List D} {ys : List Str} {vs : List V}, strsOf xs = some ys → RVs K H μ xs vs → vs = ys.map V.str
  | [], ys, vs, h, r => by cases h; cases r; rfl
  | d :: xs, ys, vs, h, r => by
    cases d with
    | str x =>
      simp only [strsOf] at h
      split at h
      · rename_i zs e
        cases h
        cases r with
        | cons r1 r2 =>
          cases r1
          rw [strsOf_ok e r2]
          rfl
      · cases h
    | _ => simp [strsOf] at h
theorem strsOf_map : ∀ ys : List Str, strsOf (ys.map D.str) = some ys
  | [] => rfl
  | y :: ys => by simp [strsOf, strsOf_map ys]
def jnOk (a : Str) (ys : List Str) : Bool := decide ((ys.map (·.length)).sum + ys.length * a.length ≤ 16777216)
def xJoin (fo fe : MX) : MX := fun ζ M => (fo ζ M).bind fun x M1 => match x with
  | .str a => (fe ζ M1).bind fun y M2 => match y with
    | .ref n => match hSeq M2 (.ref n) with
      | some xs => match strsOf xs with
        | some ys => if jnOk a ys = true then .ok (.str (Txt.join a ys)) M2 else .no
        | none => .no
      | none => .no
    | _ => .no
  | _ => .no
def xSplit (fo fe : MX) : MX := fun ζ M => (fo ζ M).bind fun x M1 => match x with
  | .str a => (fe ζ M1).bind fun y M2 => match y with
    | .str b => if (b.length == 0) = false ∧ a.length + 2 ≤ sizeLine then .ok (.ref M2.length) (M2 ++ [.lst ((Txt.split a b).map .str)]) else .no
    | _ => .no
  | _ => .no
section
variable {X : Cx} {Γ : Gm} {W : WX} {o e : Expr} {fo fe : MX} {apos pos : Pos}
theorem ex_join (ho : EX X Γ W o fo) (he : EX X Γ W e fe) (hs : starEach [e] X.env = [(false, eval e X.env)] := by rfl) (hbase : attributeBase o "join" X.env (eval o X.env) = eval o X.env := by rfl) (hline : (apos.endLine == pos.line) = true := by rfl) : EX X Γ W (.Call (.Attribute o "join" apos) [e] [] pos) (xJoin fo fe) :=
  PE.imp (pe_join ho he hs hbase hline) fun σ H Q ⟨ζ, M, μ, rr, h⟩ => ⟨ζ, M, μ, rr, Pst.then h fun v H1 d M1 μ1 nx rh rv h1 => by
    cases d with
    | str a =>
      cases rv
      refine ⟨⟨a, rfl⟩, ζ, M1, μ1, ⟨rr.sl.mono nx, rh⟩, Pst.then h1 fun u H2 z M2 μ2 nx2 rh2 ru h2 => ?_⟩
      cases z with
      | ref n =>
        simp only at h2
        split at h2
        · rename_i xs hx
          split at h2
          · rename_i ys hy
            split at h2
            · rename_i hz
              obtain ⟨b, vs, hb, hs2, r⟩ := hRef_ok rh2 hx ru
              subst hb
              have ev := strsOf_ok hy r
              subst ev
              exact ⟨a, b, ys, rfl, rfl, .inl hs2, of_decide_eq_true hz, h2 _ _ _ (Nx.refl _ _) rh2 (.str _)⟩
            · exact h2.elim
          · exact h2.elim
        · exact h2.elim
      | _ => exact h2.elim
    | _ => exact h1.elim⟩
theorem ex_split (ho : EX X Γ W o fo) (he : EX X Γ W e fe) (hs : starEach [e] X.env = [(false, eval e X.env)] := by rfl) (hbase : attributeBase o "split" X.env (eval o X.env) = eval o X.env := by rfl) (hline : (apos.endLine == pos.line) = true := by rfl) : EX X Γ W (.Call (.Attribute o "split" apos) [e] [] pos) (xSplit fo fe) :=
  PE.imp (pe_split ho he hs hbase hline) fun σ H Q ⟨ζ, M, μ, rr, h⟩ => ⟨ζ, M, μ, rr, Pst.then h fun v H1 d M1 μ1 nx rh rv h1 => by
    cases d with
    | str a =>
      cases rv
      refine ⟨⟨a, rfl⟩, ζ, M1, μ1, ⟨rr.sl.mono nx, rh⟩, Pst.then h1 fun u H2 z M2 μ2 nx2 rh2 ru h2 => ?_⟩
      cases z with
      | str b =>
        cases ru
        simp only at h2
        split at h2
        · rename_i hb
          refine ⟨a, b, rfl, rfl, hb.1, hb.2, fun p hp => ?_⟩
          have rs : RVs X.K H2 μ2 ((Txt.split a b).map D.str) ((Txt.split a b).map V.str) := RVs.map _ _ (fun x => .str x) _
          exact h2 _ _ _ (Nx.fresh hp [p]) (rh2.alloc hp ⟨_, upd_same, rs.mono (Nx.fresh hp _)⟩) (.ref rh2.last)
        · exact h2.elim
      | _ => exact h2.elim
    | _ => exact h1.elim⟩
end

def xFmt (f : MX) : MX := fun ζ M => (f ζ M).bind fun x M1 => match x with
  | .str y => if y.length ≤ sizeLine then .ok (.str y) M1 else .no
  | .int i => if numOk i = true then .ok (.str (toString i)) M1 else .no
  | _ => .no
def xJs : List MX → Str → MX
  | [], acc => fun _ M => .ok (.str acc) M
  | f :: fs, acc => fun ζ M => (f ζ M).bind fun x M1 => match x with
    | .str y => if (acc ++ y).length ≤ sizeLine then xJs fs (acc ++ y) ζ M1 else .no
    | _ => .no
inductive FJ (X : Cx) (Γ : Gm) (W : WX) : List Expr → List MX → Prop
  | nil : FJ X Γ W [] []
  | cons {e : Expr} {f : MX} {es : List Expr} {fs : List MX} (h : EX X Γ W e f) (r : FJ X Γ W es fs) : FJ X Γ W (e :: es) (f :: fs)
section
variable {X : Cx} {Γ : Gm} {W : WX} {e v1 v2 : Expr} {es rest : List Expr} {f : MX} {fs : List MX} {pos : Pos}
theorem ex_fmt (h : EX X Γ W e f) : EX X Γ W (.FormattedValue e (-1) none pos) (xFmt f) :=
  PE.imp (pe_fmt h) fun σ H Q ⟨ζ, M, μ, rr, h⟩ => ⟨ζ, M, μ, rr, Pst.then h fun v H1 d M1 μ1 nx rh rv h1 => by
    cases d with
    | str y =>
      cases rv
      simp only at h1
      split at h1
      · rename_i hl
        exact .inl ⟨y, rfl, hl, h1 _ _ _ (Nx.refl _ _) rh (.str _)⟩
      · exact h1.elim
    | int i =>
      cases rv
      simp only at h1
      split at h1
      · rename_i hl
        exact .inr ⟨i, rfl, of_decide_eq_true hl, h1 _ _ _ (Nx.refl _ _) rh (.str _)⟩
      · exact h1.elim
    | _ => exact h1.elim⟩
theorem FJ.pj (h : FJ X Γ W es fs) : PJ X es (fs.map (tX X.prog X.w X.K Γ W)) := by
  induction h with
  | nil => exact .nil
  | cons h _ ih => exact .cons h ih
theorem js_of {ζ : Sl} {σ : L2.St} {Q : VK} : ∀ (fs : List MX) (acc : Str) (M : Hs) (μ : List Addr) (H : Hp), RR X.prog X.w X.K Γ μ H ζ M σ → Pst X.prog X.w X.K Γ (relV X.K) W σ μ H (xJs fs acc ζ M) Q → tJs (fs.map (tX X.prog X.w X.K Γ W)) acc σ H fun out H1 => Q (.str out) H1
  | [], acc, M, μ, H, rr, h => h (.str acc) H μ (Nx.refl _ _) rr.hp (.str _)
  | f :: fs, acc, M, μ, H, rr, h => ⟨ζ, M, μ, rr, Pst.then h fun v H1 d M1 μ1 nx rh rv h1 => by
    cases d with
    | str y =>
      cases rv
      simp only at h1
      split at h1
      · rename_i hl
        exact ⟨y, rfl, hl, js_of fs _ M1 μ1 H1 ⟨rr.sl.mono nx, rh⟩ h1⟩
      · exact h1.elim
    | _ => exact h1.elim⟩
theorem ex_fstr (h : FJ X Γ W (v1 :: v2 :: rest) fs) : EX X Γ W (.JoinedStr (v1 :: v2 :: rest) pos) (xJs fs Str.empty) :=
  PE.imp (pe_joined h.pj) fun σ H Q ⟨ζ, M, μ, rr, h⟩ => js_of fs _ M μ H rr h
end

def gMulS (x y : D) (M : Hs) : Option (D × Hs) := match x, y with
  | .str a, .int n => if n ≤ 1000 ∧ 0 ≤ n ∧ a.length = 1 then some (.str (Txt.mul a n), M) else none
  | _, _ => none
theorem m_mulS {X : Cx} {Γ : Gm} : Op2 X Γ (binaryOp .Mult) gMulS := by
  intro pins s σ H x y v u Q I rx ry ⟨d, e, M, μ, rh, rd, re, hq⟩
  unfold gMulS at hq
  split at hq
  · rename_i a n
    cases rd
    cases re
    obtain ⟨t, rfl⟩ := rx
    obtain ⟨t', rfl⟩ := ry
    split at hq
    · rename_i hc
      obtain ⟨h1, h2, h3⟩ := hc
      refine SB.mul ⟨?_, fun h4 _ => ?_, fun h4 _ => ?_⟩ fun t2 k => ⟨.str _, H, I.tok _, ⟨_, rfl⟩, Pk.here rh hq (.str _)⟩
      · have e1 : decide (n < -(2 ^ 63 : Int)) = false := decide_eq_false (by omega)
        have e2 : decide (n ≥ 2 ^ 63) = false := decide_eq_false (by omega)
        rw [e1, e2]
        rfl
      · rw [h3]
        have : (1000 : Int) ≤ (2 ^ 63 - 1) / n := (Int.le_ediv_iff_mul_le (by omega)).mpr (by omega)
        omega
      · rw [h3, Nat.one_mul]
        have hz : sizeLine = 16777216 := rfl
        show decide (n.toNat > sizeLine) = false
        exact decide_eq_false (by omega)
    · exact hq.elim
  · exact hq.elim

def yZip (f g : MX) : MY := fun ζ M => (f ζ M).bind fun d M1 => (g ζ M1).bind fun e M2 => match d, e with
  | .ref m, .ref n => match hSeq M2 (.ref m), hSeq M2 (.ref n) with
    | some xs, some _ => .ok ⟨fun i M => match hSeq M (.ref m), hSeq M (.ref n) with
      | some xs, some ys => some (match xs[i]?, ys[i]? with | some x, some y => some (.tup [x, y]) | _, _ => none)
      | _, _ => none, xs.length + 1⟩ M2
    | _, _ => .no
  | _, _ => .no
section
variable {P : Program} {w : World} {K : PySem.W.Frag} {Γ : Gm} {μ0 : List Addr} {H0 : Hp}
theorem y_zip {a b : Addr} {m n f : Nat} (ga : μ0[m]? = some a) (gb : μ0[n]? = some b) : YOk P w K Γ H0 μ0 ⟨fun i M => match hSeq M (.ref m), hSeq M (.ref n) with
    | some xs, some ys => some (match xs[i]?, ys[i]? with | some x, some y => some (.tup [x, y]) | _, _ => none)
    | _, _ => none, f⟩ (Itz K a b) := by
  intro i H μ M nx rh
  have e1 := nx.pre _ _ ga
  have e2 := nx.pre _ _ gb
  have key : ∀ (k : Nat) (c : Addr) (ys : List D), μ[k]? = some c → hSeq M (.ref k) = some ys → ∃ vs, SqL K H c vs ∧ RVs K H μ ys vs := fun k c ys hc hy => by
    obtain ⟨b, vs, hb, hs, r⟩ := hRef_ok rh hy (.ref hc)
    cases hb
    exact ⟨vs, hs, r⟩
  refine ⟨fun h => ?_, fun d h => ?_⟩
  · simp only at h
    split at h
    · rename_i xs ys hx hy
      obtain ⟨us, hu, ru⟩ := key _ _ _ e1 hx
      obtain ⟨vs, hv, rv⟩ := key _ _ _ e2 hy
      split at h
      · cases h
      · rename_i hn
        refine ⟨us, vs, hu, hv, ?_⟩
        cases h1 : xs[i]? with
        | none => exact .inl (ru.getN h1)
        | some x =>
          cases h2 : ys[i]? with
          | none => exact .inr (rv.getN h2)
          | some y => exact absurd h2 (hn x y h1)
    · cases h
  · simp only at h
    split at h
    · rename_i xs ys hx hy
      obtain ⟨us, hu, ru⟩ := key _ _ _ e1 hx
      obtain ⟨vs, hv, rv⟩ := key _ _ _ e2 hy
      split at h
      · rename_i x y h1 h2
        cases h
        obtain ⟨u, g1, g2⟩ := ru.get h1
        obtain ⟨v, g3, g4⟩ := rv.get h2
        refine ⟨⟨us, vs, u, v, hu, hv, g1, g3⟩, fun z H2 hy => ?_⟩
        obtain ⟨T, p, q, q1, hT, q2, q3, q4⟩ := hy
        subst q1 q2
        have z1 := q3 us hu
        have z2 := q4 vs hv
        rw [g1] at z1
        rw [g3] at z2
        cases z1
        cases z2
        have n1 : Nx μ H μ (upd H T (.tup [u, v])) := Nx.fresh0 hT
        exact ⟨μ, n1, rh.fresh hT, .tup (SqT.of upd_same) (.cons (g2.mono n1) (.cons (g4.mono n1) .nil))⟩
      · cases h
    · cases h
end
section
variable {X : Cx} {Γ : Gm} {W : WX} {a b : Expr} {fa fb : MX} {p pos tpos : Pos} {elts : List Expr} {kk : Nat}
theorem ei_zip (ha : EX X Γ W a fa) (hb : EX X Γ W b fb) (hm : X.mg "zip" = none) (hg : Gl X "zip" := by rfl) (hs2 : starEach [b] X.env = [(false, eval b X.env)] := by rfl)
    (hs : starEach [a, b] X.env = (false, eval a X.env) :: starEach [b] X.env := by rfl) (hpl : (backTo pos (starEach [b] X.env)).any (·.1) = false := by rfl) : EI X Γ W (.Tuple elts kk tpos) (.Call (.Name "zip" p) [a, b] [] pos) (yZip fa fb) :=
  PI.imp (pi_zip hg hm (pa_cons ha (pa_cons hb pa_nil hs2) hs) hs hpl) fun σ H R ⟨ζ, M, μ, rr, h⟩ => ⟨ζ, M, μ, rr, Pst.then h fun v H1 d M1 μ1 nx rh rv h1 => ⟨ζ, M1, μ1, ⟨rr.sl.mono nx, rh⟩, Pst.then h1 fun u H2 e M2 μ2 nx2 rh2 ru h2 => by
    replace rv : RV X.K H2 μ2 d v := RV.mono nx2 rv
    replace ru : RV X.K H2 μ2 e u := ru
    split at h2
    · cases rv with
      | ref g1 =>
        cases ru with
        | ref g2 =>
          split at h2
          · rename_i xs ys hx hy
            obtain ⟨a1, vs, hb1, hs1, r1⟩ := hRef_ok rh2 hx (.ref g1)
            cases hb1
            obtain ⟨a2, us, hb2, hs2', r2⟩ := hRef_ok rh2 hy (.ref g2)
            cases hb2
            exact ⟨_, _, vs, us, rfl, hs1, hs2', h2 _ _ _ (Nx.refl _ _) rh2 (y_zip g1 g2)⟩
          · exact h2.elim
    · exact h2.elim⟩⟩
end

def sAugI (c i : Nat) (fo : MX) (k : Int) : MS := fun ζ M => RS.of ζ (fo ζ M) fun x M1 => match inAt c x M1 with
  | some (n, fs) => (match fs[i]? with
    | some (.int a) => .nx ζ (M1.set n (.ins c (fs.set i (.int (a + k)))))
    | _ => .no)
  | none => .no
section
variable {X : Cx} {Γ : Gm} {W : WX} {o : Expr} {fo : MX} {f : Str} {c i : Nat} {k : Int} {j : Nat} {pos tpos p : Pos}
theorem es_augI (T : InF X.K Γ c f i) (ho : EX X Γ W o fo) : ES X Γ W (.AugAssign (.Attribute o f tpos) .Add (.Constant (.int k) j p) pos) (sAugI c i fo k) :=
  PS.imp (ps_fldaug ho pe_int in_add) fun E σ H ⟨ζ, M, μ, rr, h⟩ => ⟨ζ, M, μ, rr, PstS.then h rr.sl fun v H1 d M1 μ1 nx rh rv h1 => by
    cases hs : inAt c d M1 with
    | none => rw [hs] at h1; exact h1.elim
    | some q =>
      obtain ⟨n, fs⟩ := q
      rw [hs] at h1
      obtain ⟨a, dx, vs, rfl, ea, hm, h2, h3, h4⟩ := inAt_at rh rv hs
      dsimp only at h1
      split at h1
      · rename_i z hz
        obtain ⟨u, g1, g2⟩ := h2.get hz
        cases g2
        have mu : Mut (H1 a) := by rw [h3]; exact True.intro
        have hix := (List.getElem?_eq_some_iff.mp T.ix).1
        have hlt := (List.getElem?_eq_some_iff.mp g1).1
        refine ⟨a, _, dx, _, _, rfl, h3, T.cl, T.n, zip_lookup T.nd T.ix g1, _, _, rfl, rfl, dx, _, h3, ?_, ?_⟩
        · rw [List.length_zip]; have := T.l; omega
        · obtain ⟨z1, _⟩ := putF_zip (v := V.int (z + k)) (vs := vs) T.nd T.ix
          rw [z1 hlt]
          exact h1 _ _ _ (Nx.write mu) (rh.write ea mu ⟨dx, _, (RVs.set (.int _) i h2).mono (Nx.write mu), upd_same, by rw [List.length_set]; exact h4⟩) ((rr.sl.mono nx).mono (Nx.write mu))
      · exact h1.elim⟩
end
end Mi
end
section
set_option maxRecDepth 100000
set_option maxHeartbeats 4000000
set_option autoImplicit false
namespace Ga
open Mi

section
variable {α : Type}
inductive Rt (R : α → α → Prop) : α → α → Prop
  | refl (x : α) : Rt R x x
  | tail {x y z : α} : Rt R x y → R y z → Rt R x z
variable {R S : α → α → Prop}
theorem Rt.one {x y : α} (h : R x y) : Rt R x y := .tail (.refl x) h
theorem Rt.trans {x y z : α} (a : Rt R x y) (b : Rt R y z) : Rt R x z := by
  induction b with
  | refl => exact a
  | tail b h ih => exact .tail ih h
theorem Rt.imp (f : ∀ x y, R x y → S x y) {x y : α} (a : Rt R x y) : Rt S x y := by
  induction a with
  | refl => exact .refl _
  | tail a h ih => exact .tail ih (f _ _ h)
theorem Rt.map {β : Type} {S : β → β → Prop} (g : α → β) (f : ∀ x y, R x y → S (g x) (g y)) {x y : α} (a : Rt R x y) : Rt S (g x) (g y) := by
  induction a with
  | refl => exact .refl _
  | tail a h ih => exact .tail ih (f _ _ h)
/-- a walk of a step at least -/
def Tc (R : α → α → Prop) (x y : α) : Prop := ∃ z, Rt R x z ∧ R z y
theorem Tc.rt {x y : α} (h : Tc R x y) : Rt R x y := let ⟨_, a, b⟩ := h; .tail a b
theorem Tc.one {x y : α} (h : R x y) : Tc R x y := ⟨x, .refl x, h⟩
theorem Tc.imp (f : ∀ x y, R x y → S x y) {x y : α} (h : Tc R x y) : Tc S x y := let ⟨z, a, b⟩ := h; ⟨z, a.imp f, f _ _ b⟩
theorem Rt.tc {x y z : α} (a : Rt R x y) (b : Tc R y z) : Tc R x z := let ⟨w, c, d⟩ := b; ⟨w, a.trans c, d⟩
theorem Rt.cases {x y : α} (a : Rt R x y) : x = y ∨ Tc R x y := by
  cases a with
  | refl => exact .inl rfl
  | tail b h => exact .inr ⟨_, b, h⟩
theorem Tc.trans {x y z : α} (a : Tc R x y) (b : Tc R y z) : Tc R x z := a.rt.tc b
theorem Rt.head {x y : α} (a : Rt R x y) : x = y ∨ ∃ z, R x z ∧ Rt R z y := by
  induction a with
  | refl => exact .inl rfl
  | @tail y z a h ih =>
    rcases ih with rfl | ⟨w, h1, h2⟩
    · exact .inr ⟨z, h, .refl z⟩
    · exact .inr ⟨w, h1, .tail h2 h⟩
theorem Tc.head {x y : α} (a : Tc R x y) : ∃ z, R x z ∧ Rt R z y := by
  obtain ⟨w, h1, h2⟩ := a
  rcases h1.head with rfl | ⟨z, h3, h4⟩
  · exact ⟨y, h2, .refl y⟩
  · exact ⟨z, h3, .tail h4 h2⟩
/-- E' is E with new steps within W -/
structure Grows (E New E' : α → α → Prop) (W : α → Prop) : Prop where
  e : ∀ x y, E' x y ↔ E x y ∨ New x y
  w : ∀ x y, New x y → W x ∧ W y
def Ln (E New : α → α → Prop) (W : α → Prop) (a b : α) : Prop := (Tc E a b ∧ W a ∧ W b) ∨ New a b
variable {E New E' : α → α → Prop} {W : α → Prop}
theorem Grows.up (G : Grows E New E' W) {x y : α} (h : Rt E x y) : Rt E' x y := h.imp fun x y h => (G.e x y).mpr (.inl h)
theorem Grows.ln (G : Grows E New E' W) {x y : α} (h : Ln E New W x y) : Tc E' x y := by
  rcases h with ⟨h, _⟩ | h
  · exact h.imp fun x y h => (G.e x y).mpr (.inl h)
  · exact .one ((G.e x y).mpr (.inr h))
theorem Grows.lns (G : Grows E New E' W) {x y : α} (h : Rt (Ln E New W) x y) : Rt E' x y := by
  induction h with
  | refl => exact .refl _
  | tail a h ih => exact ih.trans (G.ln h).rt
theorem ln_of {x y : α} (h : Rt E x y) (wx : W x) (wy : W y) : Rt (Ln E New W) x y := by
  rcases h.cases with rfl | h
  · exact .refl _
  · exact .one (.inl ⟨h, wx, wy⟩)
theorem Grows.cut (G : Grows E New E' W) {p y : α} (h : Rt E' p y) : Rt E p y ∨ ∃ a z, W a ∧ Rt E p a ∧ W z ∧ Rt (Ln E New W) a z ∧ Rt E z y := by
  induction h with
  | refl => exact .inl (.refl _)
  | @tail y y' a h ih =>
    rcases (G.e _ _).mp h with h | h
    · rcases ih with ih | ⟨a, z, h1, h2, h3, h4, h5⟩
      · exact .inl (.tail ih h)
      · exact .inr ⟨a, z, h1, h2, h3, h4, .tail h5 h⟩
    · obtain ⟨w1, w2⟩ := G.w _ _ h
      rcases ih with ih | ⟨a, z, h1, h2, h3, h4, h5⟩
      · exact .inr ⟨y, y', w1, ih, w2, .one (.inr h), .refl _⟩
      · exact .inr ⟨a, y', h1, h2, w2, .tail (h4.trans (ln_of h5 h3 w1)) (.inr h), .refl _⟩
theorem Grows.win (G : Grows E New E' W) {x y : α} (wx : W x) (wy : W y) (h : Rt E' x y) : Rt (Ln E New W) x y := by
  rcases G.cut h with h | ⟨a, z, h1, h2, h3, h4, h5⟩
  · exact ln_of h wx wy
  · exact ((ln_of h2 wx h1).trans h4).trans (ln_of h5 h3 wy)
theorem Grows.from (G : Grows E New E' W) {x y : α} (wx : W x) (h : Rt E' x y) : ∃ z, W z ∧ Rt (Ln E New W) x z ∧ Rt E z y := by
  rcases G.cut h with h | ⟨a, z, h1, h2, h3, h4, h5⟩
  · exact ⟨x, wx, .refl _, h⟩
  · exact ⟨z, h3, (ln_of h2 wx h1).trans h4, h5⟩
theorem Grows.tc (G : Grows E New E' W) {x y : α} (wx : W x) (wy : W y) : Tc E' x y ↔ Tc (Ln E New W) x y := by
  constructor
  · rintro ⟨z', h1, h2⟩
    obtain ⟨z, wz, h3, h4⟩ := G.from wx h1
    rcases (G.e _ _).mp h2 with h2 | h2
    · exact h3.tc (.one (.inl ⟨h4.tc (.one h2), wz, wy⟩))
    · exact (h3.trans (ln_of h4 wz (G.w _ _ h2).1)).tc (.one (.inr h2))
  · rintro ⟨z, h1, h2⟩
    exact (G.lns h1).tc (G.ln h2)
end

structure Og where
  cs : List (Int × Int × Int)
  rs : List (Int × Int × Int)
  all : Bool
  oct : Int
structure Og.Ok (O : Og) : Prop where
  cm : ∀ c ∈ O.cs, (c.1 = 0 ∨ c.1 = 1) ∧ (c.2.1 = 0 ∨ c.2.1 = 1) ∧ -2 ≤ c.2.2 ∧ c.2.2 ≤ 2
  rm : ∀ r ∈ O.rs, (r.1 = 0 ∨ r.1 = 1) ∧ -2 ≤ r.2.2 ∧ r.2.2 ≤ 2
  oc : O.oct = 0 ∨ O.oct = 2 ∨ O.oct = 3
def Og.l2 (O : Og) : Int := if O.all then 0 else 1
theorem Og.l2_or (O : Og) : O.l2 = 0 ∨ O.l2 = 1 := by unfold Og.l2; split <;> simp
/-- a coupler leads from x to y, in the compass of n keys, without what comes back from above -/
def Ed (O : Og) (n : Int) (x y : T3) : Prop := ∃ c ∈ O.cs, x.2.1 = c.1 ∧ y.2.1 = c.2.1 ∧ x.2.2 = 0 ∧ y.2.2 = O.l2 ∧ (0 ≤ x.1 ∧ x.1 < n) ∧ (0 ≤ y.1 ∧ y.1 < n) ∧ (y.1 = x.1 + c.2.2 ∨ 0 < O.oct ∧ x.1 + c.2.2 < 0 ∧ y.1 = x.1 + c.2.2 + O.oct)
/-- such a step touches the last key -/
def Nw (O : Og) (n : Int) (x y : T3) : Prop := Ed O (n + 1) x y ∧ (x.1 = n ∨ y.1 = n)
/-- what comes back from above the last of n keys -/
def Hi (O : Og) (n : Int) (x y : T3) : Prop := ∃ c ∈ O.cs, x.2.1 = c.1 ∧ y.2.1 = c.2.1 ∧ x.2.2 = 0 ∧ y.2.2 = O.l2 ∧ (0 ≤ x.1 ∧ x.1 < n) ∧ (0 ≤ y.1 ∧ y.1 < n) ∧ 0 < O.oct ∧ n ≤ x.1 + c.2.2 ∧ y.1 = x.1 + c.2.2 - O.oct
def Fin (O : Og) (n : Int) (x y : T3) : Prop := Ed O n x y ∨ Hi O n x y
theorem ed_up {O : Og} {n m : Int} (h : n ≤ m) {x y : T3} (e : Ed O n x y) : Ed O m x y := by
  obtain ⟨c, h1, h2, h3, h4, h5, h6, h7, h8⟩ := e
  exact ⟨c, h1, h2, h3, h4, h5, ⟨h6.1, by omega⟩, ⟨h7.1, by omega⟩, h8⟩
theorem ed_rng {O : Og} {n : Int} {x y : T3} (e : Ed O n x y) : (0 ≤ x.1 ∧ x.1 < n) ∧ (0 ≤ y.1 ∧ y.1 < n) := by
  obtain ⟨c, h1, h2, h3, h4, h5, h6, h7, h8⟩ := e
  exact ⟨h6, h7⟩
/-- the window behind n keys, with the new one -/
def Wn (n : Int) (x : T3) : Prop := n - 3 ≤ x.1 ∧ x.1 ≤ n
theorem grows (O : Og) (ok : O.Ok) (n : Int) (hn : 0 ≤ n) : Grows (Ed O n) (Nw O n) (Ed O (n + 1)) (Wn n) where
  e := fun x y => by
    constructor
    · intro h
      by_cases t : x.1 = n ∨ y.1 = n
      · exact .inr ⟨h, t⟩
      · obtain ⟨c, h1, h2, h3, h4, h5, h6, h7, h8⟩ := h
        exact .inl ⟨c, h1, h2, h3, h4, h5, ⟨h6.1, by omega⟩, ⟨h7.1, by omega⟩, h8⟩
    · rintro (h | h)
      · exact ed_up (by omega) h
      · exact h.1
  w := fun x y ⟨h, t⟩ => by
    obtain ⟨c, h1, h2, h3, h4, h5, h6, h7, h8⟩ := h
    have hc := (ok.cm c h1).2.2
    have ho := ok.oc
    unfold Wn
    omega
theorem growsHi (O : Og) (ok : O.Ok) (n : Int) : Grows (Ed O n) (Hi O n) (Fin O n) (Wn n) where
  e := fun x y => Iff.rfl
  w := fun x y h => by
    obtain ⟨c, h1, h2, h3, h4, h5, h6, h7, h8⟩ := h
    have hc := (ok.cm c h1).2.2
    have ho := ok.oc
    unfold Wn
    omega
/-- the stops' keys of a pipe, in the compass of n keys -/
def En (O : Og) (rank : Int) (pos : Option Int) (n : Int) (e : T3) : Prop := ∃ r ∈ O.rs, r.2.1 = rank ∧ e.2.1 = r.1 ∧ (0 ≤ e.2.2 ∧ e.2.2 ≤ O.l2) ∧ (0 ≤ e.1 ∧ e.1 < n) ∧ ∃ p, pos = some p ∧ (0 ≤ p ∧ p < n) ∧ (e.1 + r.2.2 = p ∨ 0 < O.oct ∧ e.1 + r.2.2 < 0 ∧ e.1 + r.2.2 + O.oct = p)
def EnHi (O : Og) (rank : Int) (pos : Option Int) (n : Int) (e : T3) : Prop := ∃ r ∈ O.rs, r.2.1 = rank ∧ e.2.1 = r.1 ∧ (0 ≤ e.2.2 ∧ e.2.2 ≤ O.l2) ∧ (0 ≤ e.1 ∧ e.1 < n) ∧ ∃ p, pos = some p ∧ (0 ≤ p ∧ p < n) ∧ 0 < O.oct ∧ n ≤ e.1 + r.2.2 ∧ e.1 + r.2.2 - O.oct = p
/-- pressed keys -/
def Ps (pr : Int → Int → Prop) (n : Int) (x : T3) : Prop := pr x.1 x.2.1 ∧ x.2.2 = 0 ∧ (x.2.1 = 0 ∨ x.2.1 = 1) ∧ 0 ≤ x.1 ∧ x.1 < n
/-- the pipe sounds, in the compass of n keys -/
def Snd (O : Og) (rank : Int) (pr : Int → Int → Prop) (pos : Option Int) (n : Int) : Prop := ∃ p e, Ps pr n p ∧ (En O rank pos n e ∨ EnHi O rank pos n e) ∧ Rt (Fin O n) p e
end Ga
end
section
set_option maxRecDepth 100000
set_option maxHeartbeats 4000000
set_option autoImplicit false
namespace Ga
open Mi

structure St where
  many : Int
  links : List P6
  started : List T3
  ending : List T3
  age : Option Int
  done : Bool
def older (x : T3) : T3 := (x.1 + 1, x.2.1, x.2.2)
def stDone : St := ⟨3, [], [], [], some 3, true⟩
def stFirst : St := ⟨0, [], [], [], none, false⟩
def upTo (n : Int) : List Int := (List.range n.toNat).map fun i : Nat => (i : Int)
theorem mem_upTo {n k : Int} : k ∈ upTo n ↔ 0 ≤ k ∧ k < n := by
  unfold upTo
  rw [List.mem_map]
  constructor
  · rintro ⟨i, hi, rfl⟩
    have := List.mem_range.mp hi
    omega
  · rintro ⟨h1, h2⟩
    exact ⟨k.toNat, List.mem_range.mpr (by omega), by omega⟩
def mxI (a b : Int) : Int := if b > a then b else a
def mnI (a b : Int) : Int := if b < a then b else a
def lowF (oct s many : Int) : List (Int × Int) := (upTo (many + 1)).filterMap fun k => if 0 < oct ∧ k + s < 0 ∧ k + s + oct ≤ many ∧ mxI k (k + s + oct) = many then some (k, k + s + oct) else none
def highF (oct s many : Int) : List (Int × Int) := (upTo (mnI many 3)).filterMap fun b => if 0 < oct ∧ b < s ∧ b - s + oct < many then some (b, b - s + oct) else none
theorem mem_lowF {oct s many k p : Int} : (k, p) ∈ lowF oct s many ↔ 0 ≤ k ∧ k ≤ many ∧ 0 < oct ∧ k + s < 0 ∧ p = k + s + oct ∧ p ≤ many ∧ (k = many ∨ p = many) := by
  unfold lowF
  simp only [List.mem_filterMap, mem_upTo]
  constructor
  · rintro ⟨a, ha, h⟩
    split at h
    · rename_i hc
      cases h
      unfold mxI at hc
      split at hc <;> omega
    · cases h
  · rintro ⟨h1, h2, h3, h4, h5, h6, h7⟩
    refine ⟨k, by omega, ?_⟩
    rw [if_pos]
    · rw [h5]
    · unfold mxI
      split <;> omega
theorem mem_highF {oct s many b p : Int} : (b, p) ∈ highF oct s many ↔ 0 ≤ b ∧ b < many ∧ b < 3 ∧ 0 < oct ∧ b < s ∧ p = b - s + oct ∧ p < many := by
  unfold highF
  simp only [List.mem_filterMap, mem_upTo]
  constructor
  · rintro ⟨a, ha, h⟩
    split at h
    · rename_i hc
      cases h
      unfold mnI at ha
      split at ha <;> omega
    · cases h
  · rintro ⟨h1, h2, h3, h4, h5, h6, h7⟩
    refine ⟨b, by unfold mnI; split <;> omega, ?_⟩
    rw [if_pos (by omega), h6]
variable (O : Og)
def baseF (many : Int) (c : Int × Int × Int) : List P6 := if c.2.2 = 0 then [((0, c.1, 0), (0, c.2.1, O.l2))] else if c.2.2 > 0 ∧ many ≥ c.2.2 then [((c.2.2, c.1, 0), (0, c.2.1, O.l2))] else if c.2.2 < 0 ∧ many ≥ -c.2.2 then [((0, c.1, 0), (-c.2.2, c.2.1, O.l2))] else []
def newLinksF (many : Int) : List P6 := O.cs.flatMap fun c => baseF O many c ++ (if many < 3 then (lowF O.oct c.2.2 many).map fun q => ((many - q.1, c.1, 0), (many - q.2, c.2.1, O.l2)) else [])
def endsAt (rank many a : Int) (r : Int × Int × Int) : List (Int × Int) := (if r.2.2 = -a ∨ a = 0 ∧ 0 ≤ r.2.2 ∧ r.2.2 ≤ many then [(mxI r.2.2 0, r.1)] else []) ++ (if many < 3 ∧ a ≤ many then (lowF O.oct r.2.2 many).filterMap fun q => if q.2 = many - a then some (many - q.1, r.1) else none else [])
def newEndsF (rank many : Int) (age : Option Int) : List (Int × Int) := O.rs.flatMap fun r => match age with
  | some a => if r.2.1 = rank then endsAt O rank many a r else []
  | none => []
def layF (some : List (Int × Int)) : List T3 := some.flatMap fun q => (upTo (O.l2 + 1)).map fun l => (q.1, q.2, l)
theorem mem_layF {some : List (Int × Int)} {x : T3} : x ∈ layF O some ↔ (x.1, x.2.1) ∈ some ∧ 0 ≤ x.2.2 ∧ x.2.2 ≤ O.l2 := by
  unfold layF
  simp only [List.mem_flatMap, List.mem_map, mem_upTo]
  constructor
  · rintro ⟨q, hq, l, hl, rfl⟩
    exact ⟨hq, hl.1, by show l ≤ O.l2; omega⟩
  · rintro ⟨h1, h2, h3⟩
    exact ⟨_, h1, x.2.2, by omega, rfl⟩
def prs (l : List P6) (a b : T3) : Prop := (a, b) ∈ l
open Classical in
noncomputable def cloL (pairs : List P6) : List P6 := srtB lt6 (unq (((pairs.map (·.1)).flatMap fun a => (pairs.map (·.2)).map fun b => (a, b)).filter fun p => decide (Tc (prs pairs) p.1 p.2)))
open Classical in
theorem mem_clo {pairs : List P6} {p : P6} : p ∈ cloL pairs ↔ Tc (prs pairs) p.1 p.2 := by
  unfold cloL
  rw [(srtB_perm _ _).mem_iff, mem_unq, List.mem_filter, decide_eq_true_eq]
  constructor
  · exact fun h => h.2
  · intro h
    refine ⟨?_, h⟩
    obtain ⟨z, h1, _⟩ := h.head
    obtain ⟨w, _, h2⟩ := h
    exact List.mem_flatMap.mpr ⟨p.1, List.mem_map.mpr ⟨_, h1, rfl⟩, List.mem_map.mpr ⟨p.2, List.mem_map.mpr ⟨_, h2, rfl⟩, rfl⟩⟩
noncomputable def reachedF (links : List P6) (started : List T3) : List T3 := srtB lt3 (unq (started ++ (links.filter fun p => decide (p.1 ∈ started)).map (·.2)))
noncomputable def endsF (links : List P6) (ending : List T3) : List T3 := srtB lt3 (unq (ending ++ (links.filter fun p => decide (p.2 ∈ ending)).map (·.1)))
theorem mem_reached {links : List P6} {started : List T3} {x : T3} : x ∈ reachedF links started ↔ x ∈ started ∨ ∃ y ∈ started, (y, x) ∈ links := by
  unfold reachedF
  rw [(srtB_perm _ _).mem_iff, mem_unq, List.mem_append]
  simp only [List.mem_map, List.mem_filter, decide_eq_true_eq]
  constructor
  · rintro (h | ⟨p, ⟨h1, h2⟩, rfl⟩)
    · exact .inl h
    · exact .inr ⟨p.1, h2, h1⟩
  · rintro (h | ⟨y, h1, h2⟩)
    · exact .inl h
    · exact .inr ⟨(y, x), ⟨h2, h1⟩, rfl⟩
theorem mem_ends {links : List P6} {ending : List T3} {x : T3} : x ∈ endsF links ending ↔ x ∈ ending ∨ ∃ y ∈ ending, (x, y) ∈ links := by
  unfold endsF
  rw [(srtB_perm _ _).mem_iff, mem_unq, List.mem_append]
  simp only [List.mem_map, List.mem_filter, decide_eq_true_eq]
  constructor
  · rintro (h | ⟨p, ⟨h1, h2⟩, rfl⟩)
    · exact .inl h
    · exact .inr ⟨p.2, h2, h1⟩
  · rintro (h | ⟨y, h1, h2⟩)
    · exact .inl h
    · exact .inr ⟨(x, y), ⟨h2, h1⟩, rfl⟩
def nearP (p : P6) : Bool := decide (p.1.1 < 3) && decide (p.2.1 < 3)
def near (x : T3) : Bool := decide (x.1 < 3)
/-- settled -/
noncomputable def setF (many : Int) (pairs : List P6) (started ending : List T3) (age : Option Int) (done : Bool) : St :=
  let L := cloL pairs
  let r := reachedF L started
  let e := endsF L ending
  if (done || r.any fun x => decide (x ∈ e)) = true then stDone else ⟨many, L.filter nearP, r.filter near, e.filter near, age, false⟩
def ageF (isPipe : Bool) (age : Option Int) : Option Int := if isPipe then some 0 else age.map fun a => mnI (a + 1) 3
noncomputable def stepF (rank : Int) (st : St) (mans : List Int) (isPipe : Bool) : St :=
  setF (mnI (st.many + 1) 3) (st.links.map (fun p => (older p.1, older p.2)) ++ newLinksF O st.many) (st.started.map older ++ mans.map fun m => (0, m, 0)) (st.ending.map older ++ layF O (newEndsF O rank st.many (ageF isPipe st.age))) (ageF isPipe st.age) st.done
def highL (many : Int) : List P6 := O.cs.flatMap fun c => (highF O.oct c.2.2 many).map fun q => ((q.1, c.1, 0), (q.2, c.2.1, O.l2))
def highE (rank many : Int) (age : Option Int) : List T3 := O.rs.flatMap fun r => if r.2.1 = rank then layF O ((highF O.oct r.2.2 many).filterMap fun q => if some q.2 = age then some (q.1, r.1) else none) else []
noncomputable def sndF (rank : Int) (st : St) : Bool := (setF st.many (st.links ++ highL O st.many) st.started (st.ending ++ highE O rank st.many st.age) st.age st.done).done
end Ga
end
section
set_option maxRecDepth 100000
set_option maxHeartbeats 4000000
set_option autoImplicit false
namespace Mi
open PySem

/-- a list made: at n, nothing old is changed -/
def RL (d : D) (M M' : Hs) (L : List D) : Prop := ∃ n, d = .ref n ∧ M.length ≤ n ∧ M'[n]? = some (.lst L) ∧ Fr No M M'
section
variable {α β : Type} {ζ : Sl} {M M1 : Hs} {N : Sl → Hs → Prop} {T : D → Hs → Prop} {Qd : D → Hs → Prop}
theorem wX_star {f : MX} {ga : MA} {Q : List D → Hs → Prop} : wX (aStar f ga ζ M) Q = wX (f ζ M) fun x M1 => match hSeq M1 x with
  | some ys => wX (ga ζ M1) fun xs M2 => Q (ys ++ xs) M2
  | none => False := by
  unfold aStar
  rw [wX_bind]
  congr
  funext x M1
  cases hSeq M1 x with
  | none => rfl
  | some ys => dsimp only; rw [wX_bind]; rfl
theorem wS_asg {f : MX} {p : Pt} : wS (sAsg f p ζ M) N T = wX (f ζ M) fun d M1 => match bindP p d with
  | some l => N (setAll ζ l) M1
  | none => False := by
  unfold sAsg
  rw [wS_of]
  congr
  funext d M1
  cases bindP p d <;> rfl
theorem wS_par {i j : Nat} {g : MA} : wS (sPar i j g ζ M) N T = wX (g ζ M) fun ds M1 => match ds with
  | [d, e] => N ((ζ.set i (some d)).set j (some e)) M1
  | _ => False := by
  unfold sPar
  rw [wS_of]
  congr
  funext ds M1
  split <;> first | rfl | (rename_i h; split <;> first | rfl | (exact absurd rfl (h _ _)))
theorem wS_aug {i : Nat} {g : D → D → Hs → Option (D × Hs)} {f : MX} : wS (sAug i g f ζ M) N T = match ζ[i]? with
  | some (some x) => wX (f ζ M) fun y M1 => wO (g x y M1) fun d M2 => N (ζ.set i (some d)) M2
  | _ => False := by
  unfold sAug
  cases ζ[i]? with
  | none => rfl
  | some o =>
    cases o with
    | none => rfl
    | some x =>
      dsimp only
      rw [wS_of]
      congr
      funext y M1
      cases g x y M1 with
      | none => rfl
      | some r => obtain ⟨d, M2⟩ := r; rfl
def Src (s : MY) (ζ : Sl) (M : Hs) (xs : List D) (M1 : Hs) (K : Hs → Prop) : Prop := ∃ yd, s ζ M = .ok yd M1 ∧ xs.length < yd.fuel ∧ ∀ M', K M' → ∀ i, yd.y i M' = some xs[i]?
theorem src_d {f : MX} {d : D} {xs : List D} (hf : f ζ M = .ok d M1) (hs : hSeq M1 d = some xs) : Src (ySeq f) ζ M xs M1 fun M' => hSeq M' d = some xs := by
  unfold Src ySeq
  rw [hf]
  show ∃ yd, (match d with
    | .tup xs => R.ok (Yd.mk (fun i _ => some xs[i]?) (xs.length + 1)) M1
    | .klst xs => R.ok (Yd.mk (fun i _ => some xs[i]?) (xs.length + 1)) M1
    | .ref n => match hSeq M1 (.ref n) with
      | some xs => R.ok (Yd.mk (fun i M => match hSeq M (.ref n) with | some ys => some ys[i]? | none => none) (xs.length + 1)) M1
      | none => .no
    | _ => .no) = _ ∧ _
  cases d with
  | tup ys => cases hs; exact ⟨_, rfl, Nat.lt_succ_self _, fun M' _ i => rfl⟩
  | klst ys => cases hs; exact ⟨_, rfl, Nat.lt_succ_self _, fun M' _ i => rfl⟩
  | ref n =>
    dsimp only
    rw [hs]
    refine ⟨_, rfl, Nat.lt_succ_self _, fun M' h i => ?_⟩
    dsimp only
    rw [h]
  | _ => cases hs
theorem upTo_get (j : Int) (i : Nat) : ((Ga.upTo j).map D.int)[i]? = if i < j.toNat then some (.int (0 + (i : Int))) else none := by
  unfold Ga.upTo
  rw [List.map_map, List.getElem?_map]
  by_cases h : i < j.toNat
  · rw [if_pos h, List.getElem?_range h]
    simp
  · rw [if_neg h, List.getElem?_eq_none (by simpa using h)]
    rfl
theorem src_rg1 {f : MX} {j : Int} (hf : f ζ M = .ok (.int j) M1) (hj : okRg j = true) : Src (yRg1 f) ζ M ((Ga.upTo j).map D.int) M1 fun _ => True := by
  unfold Src yRg1
  rw [hf]
  show ∃ yd, (if okRg j = true then R.ok (yRg 0 j.toNat) M1 else .no) = _ ∧ _
  rw [if_pos hj]
  refine ⟨_, rfl, by simp [Ga.upTo, yRg], fun M' _ i => ?_⟩
  rw [upTo_get]
  rfl
/-- for a in as -/
theorem for_list {s : MY} {p : Pt} {b : MS} (e : α → D) {as : List α} {K : Hs → Prop} (S : Src s ζ M (as.map e) M1 K) (I : List α → Sl → Hs → Prop) (h0 : I [] ζ M1) (hk : ∀ done ζ M', I done ζ M' → K M')
    (go : ∀ done a rest ζ M', as = done ++ a :: rest → I done ζ M' → ∃ l, bindP p (e a) = some l ∧ wS (b (setAll ζ l) M') (I (done ++ [a])) T) (fin : ∀ ζ M', I as ζ M' → N ζ M') : wS (sFor s p b ζ M) N T := by
  obtain ⟨yd, h1, h2, h3⟩ := S
  rw [wS_for, h1, wX_ok]
  refine wS_forN (I := fun i ζ M' => I (as.take i) ζ M') as.length (fun i ζ M' hi h => ?_) (fun ζ M' h => ?_) yd.fuel 0 ζ M1 (by simpa using h2) (Nat.zero_le _) (by simpa using h0)
  · obtain ⟨l, h4, h5⟩ := go (as.take i) as[i] (as.drop (i + 1)) ζ M' (by simp) h
    refine ⟨e as[i], l, ?_, h4, ?_⟩
    · rw [h3 M' (hk _ _ _ h) i]
      simp [hi]
    · rw [List.take_succ, List.getElem?_eq_getElem hi]
      exact h5
  · refine ⟨?_, fin ζ M' (by simpa using h)⟩
    rw [h3 M' (hk _ _ _ h)]
    simp
theorem snoc_t {α β : Type} {c : α → Bool} {v : α → β} {l : List α} {a : α} (h : c a = true) : ((l ++ [a]).filter c).map v = (l.filter c).map v ++ [v a] := by
  rw [List.filter_append, List.map_append, List.filter_cons, if_pos h]
  rfl
theorem snoc_f {α β : Type} {c : α → Bool} {v : α → β} {l : List α} {a : α} (h : c a = false) : ((l ++ [a]).filter c).map v = (l.filter c).map v := by
  rw [List.filter_append, List.map_append, List.filter_cons, if_neg (by rw [h]; decide)]
  simp
theorem take_sn {α : Type} {l : List α} {i : Nat} (h : i < l.length) : l.take (i + 1) = l.take i ++ [l[i]] := by rw [List.take_succ, List.getElem?_eq_getElem h]; rfl
theorem hLst_at {M : Hs} {n : Nat} {xs : List D} (h : M[n]? = some (.lst xs)) : hLst M n = some xs := by unfold hLst; rw [h]
theorem fr_lt {M M' : Hs} (f : Fr No M M') {n : Nat} {o : MO} (h : M[n]? = some o) : M'[n]? = some o := f.get h id
/-- [v a for a in as if c a] -/
theorem lc_ret {s : MY} {vs : List Nat} {p : Pt} {t : MT} {f : MX} (e : α → D) (c : α → Bool) (v : α → D) {as : List α} {K : Hs → Prop} (S : Src s ζ M (as.map e) M1 K) (hM : Fr No M M1) (hk : ∀ M', Fr No M1 M' → K M') (hl : as.length < sizeLine)
    (go : ∀ a ∈ as, ∀ M', Fr No M1 M' → ∃ l, bindP p (e a) = some l ∧ wX (t (setAll (wipeD ζ vs) l) M') fun b M2 => b = c a ∧ Fr No M' M2 ∧ (c a = true → wX (f (setAll (wipeD ζ vs) l) M2) fun d M3 => d = v a ∧ Fr No M2 M3)) :
    wX (xLc s vs p t f ζ M) fun d M' => RL d M M' ((as.filter c).map v) := by
  obtain ⟨yd, h1, h2, h3⟩ := S
  rw [wX_lc, h1, wX_ok]
  refine wX_lcN (Q := fun M2 => RL (.ref M1.length) M M2 ((as.filter c).map v)) (fun i M' => Fr No M1 M' ∧ M'[M1.length]? = some (.lst (((as.take i).filter c).map v))) as.length (fun i M' hi ⟨h4, h5⟩ => ?_) (fun M' ⟨h4, h5⟩ => ?_) yd.fuel 0 (M1 ++ [.lst []]) (by simpa using h2) (Nat.zero_le _) ⟨Fr.push _ _, by simp⟩
  · obtain ⟨l, h6, h7⟩ := go as[i] (List.getElem_mem hi) M' h4
    refine ⟨e as[i], l, ?_, h6, ?_⟩
    · rw [h3 M' (hk _ h4) i]
      simp [hi]
    · rw [take_sn hi]
      obtain ⟨b, M2, e2, rfl, f2, h8⟩ := wX_get h7
      unfold lcB
      rw [e2]
      cases hc : c as[i] with
      | false =>
        refine ⟨h4.trans f2, ?_⟩
        rw [fr_lt f2 h5, snoc_f hc]
      | true =>
        obtain ⟨z, M3, e3, rfl, f3⟩ := wX_get (h8 hc)
        dsimp only
        rw [e3]
        have h9 := fr_lt f3 (fr_lt f2 h5)
        unfold lput
        dsimp only
        rw [hLst_at h9]
        dsimp only
        rw [if_pos]
        · refine ⟨((h4.trans f2).trans f3).setHi (Nat.le_refl _), ?_⟩
          rw [set_get h9, snoc_t hc]
        · have := List.length_filter_le c (as.take i)
          rw [List.length_map]
          rw [List.length_take] at this
          omega
  · refine ⟨?_, M1.length, rfl, hM.1, ?_, hM.trans h4⟩
    · rw [h3 M' (hk _ h4)]
      simp
    · rw [List.take_length] at h5
      exact h5
/-- [v a b for a in as if c a for b in bs a if d a b] -/
theorem lc2_ret {s s1 : MY} {vs vs1 : List Nat} {p p1 : Pt} {t t1 : MT} {f : MX} (e : α → D) (c : α → Bool) (bs : α → List β) (e1 : β → D) (c1 : α → β → Bool) (v : α → β → D) {as : List α} {K : Hs → Prop} (S : Src s ζ M (as.map e) M1 K) (hM : Fr No M M1) (hk : ∀ M', Fr No M1 M' → K M')
    (hl : (as.flatMap fun a => bs a).length < sizeLine)
    (go : ∀ a ∈ as, ∀ M', Fr No M1 M' → ∃ l, bindP p (e a) = some l ∧ wX (t (setAll (wipeD ζ vs) l) M') fun b M2 => b = c a ∧ Fr No M' M2 ∧ (c a = true → ∃ M3 K1, Src s1 (setAll (wipeD ζ vs) l) M2 ((bs a).map e1) M3 K1 ∧ Fr No M2 M3 ∧ (∀ M4, Fr No M1 M4 → Fr No M1 M3 → K1 M4) ∧
      ∀ x ∈ bs a, ∀ M4, Fr No M1 M4 → ∃ l1, bindP p1 (e1 x) = some l1 ∧ wX (t1 (setAll (wipeD (setAll (wipeD ζ vs) l) vs1) l1) M4) fun b M5 => b = c1 a x ∧ Fr No M4 M5 ∧ (c1 a x = true → wX (f (setAll (wipeD (setAll (wipeD ζ vs) l) vs1) l1) M5) fun d M6 => d = v a x ∧ Fr No M5 M6))) :
    wX (xLc2 s vs p t s1 p1 vs1 t1 f ζ M) fun d M' => RL d M M' ((as.filter c).flatMap fun a => ((bs a).filter (c1 a)).map (v a)) := by
  obtain ⟨yd, h1, h2, h3⟩ := S
  unfold xLc2
  rw [wX_bind, h1, wX_ok, wX_bind]
  have size : ∀ (i : Nat), (((as.take i).filter c).flatMap fun a => ((bs a).filter (c1 a)).map (v a)).length ≤ ((as.take i).flatMap fun a => bs a).length := fun i => by
    generalize as.take i = l
    induction l with
    | nil => simp
    | cons a l ih =>
      rw [List.filter_cons]
      split
      · rw [List.flatMap_cons, List.flatMap_cons, List.length_append, List.length_append, List.length_map]
        have := List.length_filter_le (c1 a) (bs a)
        omega
      · rw [List.flatMap_cons, List.length_append]
        omega
  refine wX_mono (wX_lcN (Q := fun M2 => RL (.ref M1.length) M M2 ((as.filter c).flatMap fun a => ((bs a).filter (c1 a)).map (v a))) (fun i M' => Fr No M1 M' ∧ M'[M1.length]? = some (.lst (((as.take i).filter c).flatMap fun a => ((bs a).filter (c1 a)).map (v a)))) as.length (fun i M' hi ⟨h4, h5⟩ => ?_) (fun M' ⟨h4, h5⟩ => ?_) yd.fuel 0 (M1 ++ [.lst []]) (by simpa using h2) (Nat.zero_le _) ⟨Fr.push _ _, by simp⟩) fun _ M2 h => h
  · obtain ⟨l, h6, h7⟩ := go as[i] (List.getElem_mem hi) M' h4
    refine ⟨e as[i], l, ?_, h6, ?_⟩
    · rw [h3 M' (hk _ h4) i]
      simp [hi]
    · rw [take_sn hi]
      obtain ⟨b, M2, e2, rfl, f2, h8⟩ := wX_get h7
      unfold lcB2
      rw [e2]
      cases hc : c as[i] with
      | false =>
        refine ⟨h4.trans f2, ?_⟩
        rw [fr_lt f2 h5, List.filter_append, List.filter_cons, if_neg (by rw [hc]; decide)]
        simp
      | true =>
        obtain ⟨M3, K1, ⟨yd1, g1, g2, g3⟩, f3, kk, go1⟩ := h8 hc
        dsimp only
        rw [g1]
        dsimp only
        have f13 := (h4.trans f2).trans f3
        have len1 : (((as.take i).filter c).flatMap fun a => ((bs a).filter (c1 a)).map (v a)).length + (bs as[i]).length < sizeLine := by
          have q := size i
          have q2 : ((as.take i).flatMap fun a => bs a).length + (bs as[i]).length ≤ (as.flatMap fun a => bs a).length := by
            have e3 : as = as.take i ++ as[i] :: as.drop (i + 1) := by simp
            rw [show (as.flatMap fun a => bs a) = ((as.take i ++ as[i] :: as.drop (i + 1)).flatMap fun a => bs a) from by rw [← e3]]
            rw [List.flatMap_append, List.flatMap_cons, List.length_append, List.length_append]
            omega
          omega
        refine wX_mono (wX_lcN (Q := fun M' => Fr No M1 M' ∧ M'[M1.length]? = some (.lst (((as.take i ++ [as[i]]).filter c).flatMap fun a => ((bs a).filter (c1 a)).map (v a)))) (fun j M' => Fr No M1 M' ∧ M'[M1.length]? = some (.lst ((((as.take i).filter c).flatMap fun a => ((bs a).filter (c1 a)).map (v a)) ++ ((((bs as[i]).take j).filter (c1 as[i])).map (v as[i]))))) (bs as[i]).length
          (fun j M' hj ⟨q4, q5⟩ => ?_) (fun M' ⟨q4, q5⟩ => ?_) yd1.fuel 0 M3 (by simpa using g2) (Nat.zero_le _) ⟨f13, by rw [fr_lt f3 (fr_lt f2 h5)]; simp⟩) fun _ M' h => h
        · obtain ⟨l1, q6, q7⟩ := go1 (bs as[i])[j] (List.getElem_mem hj) M' q4
          refine ⟨e1 (bs as[i])[j], l1, ?_, q6, ?_⟩
          · rw [g3 M' (kk _ q4 f13) j]
            simp [hj]
          · rw [take_sn hj]
            obtain ⟨b, M5, e5, rfl, f5, q8⟩ := wX_get q7
            unfold lcB
            rw [e5]
            cases hc1 : c1 as[i] (bs as[i])[j] with
            | false =>
              refine ⟨q4.trans f5, ?_⟩
              rw [fr_lt f5 q5, snoc_f hc1]
            | true =>
              obtain ⟨z, M6, e6, rfl, f6⟩ := wX_get (q8 hc1)
              dsimp only
              rw [e6]
              have q9 := fr_lt f6 (fr_lt f5 q5)
              unfold lput
              dsimp only
              rw [hLst_at q9]
              dsimp only
              rw [if_pos]
              · refine ⟨((q4.trans f5).trans f6).setHi (Nat.le_refl _), ?_⟩
                rw [set_get q9, snoc_t hc1, List.append_assoc]
              · have := List.length_filter_le (c1 as[i]) ((bs as[i]).take j)
                rw [List.length_append, List.length_map]
                rw [List.length_take] at this
                omega
        · refine ⟨?_, q4, ?_⟩
          · rw [g3 M' (kk _ q4 f13)]
            simp
          · rw [List.take_length] at q5
            rw [q5, List.filter_append, List.flatMap_append, List.filter_cons, if_pos hc]
            simp
  · refine ⟨?_, M1.length, rfl, hM.1, ?_, hM.trans h4⟩
    · rw [h3 M' (hk _ h4)]
      simp
    · rw [List.take_length] at h5
      exact h5
end
end Mi
end
section
set_option maxRecDepth 100000
set_option maxHeartbeats 4000000
set_option autoImplicit false
namespace Mi
open PySem

section
variable {M : Hs}
mutual
theorem pd_deep : ∀ (d : D) (p : PyData) (n : Nat), pdT d = some p → p.depth < n → toPD M n d = some p
  | .non, p, n, h, hn => by
    cases n with
    | zero => omega
    | succ n => simp only [pdT] at h; cases h; rfl
  | .bl b, p, n, h, hn => by
    cases n with
    | zero => omega
    | succ n => simp only [pdT] at h; cases h; rfl
  | .int i, p, n, h, hn => by
    cases n with
    | zero => omega
    | succ n => simp only [pdT] at h; cases h; rfl
  | .str x, p, n, h, hn => by
    cases n with
    | zero => omega
    | succ n => simp only [pdT] at h; cases h; rfl
  | .tup xs, p, n, h, hn => by
    simp only [pdT] at h
    cases e : pdTs xs with
    | none => rw [e] at h; cases h
    | some ps =>
      rw [e] at h
      cases h
      cases n with
      | zero => omega
      | succ n =>
        have hd : PyData.depthAll ps < n := by simp only [PyData.depth] at hn; omega
        show (match mapO (toPD M n) xs with | some ps => some (PyData.tuple ps) | none => none) = _
        rw [pds_deep xs ps n e hd]
  | .ref _, p, n, h, hn => by simp [pdT] at h
  | .klst _, p, n, h, hn => by simp [pdT] at h
  | .exc .., p, n, h, hn => by simp [pdT] at h
theorem pds_deep : ∀ (xs : List D) (ps : List PyData) (n : Nat), pdTs xs = some ps → PyData.depthAll ps < n → mapO (toPD M n) xs = some ps
  | [], ps, n, h, hn => by simp only [pdTs] at h; cases h; rfl
  | x :: xs, ps, n, h, hn => by
    simp only [pdTs] at h
    split at h
    · rename_i k ks h1 h2
      cases h
      simp only [PyData.depthAll] at hn
      unfold mapO
      rw [pd_deep x k n h1 (by omega), pds_deep xs ks n h2 (by omega)]
    · cases h
end
/-- things that are compared by value -/
structure Eqk (α : Type) (f : α → D) (enc : α → PyData) : Prop where
  pd : ∀ a, pdT (f a) = some (enc a)
  eq : ∀ a b, PyData.eqv (enc a) (enc b) = true ↔ a = b
  cl : ∀ a, PyData.canLay0 (enc a) = true
  dp : ∀ a, (enc a).depth ≤ 6
variable {α : Type} [DecidableEq α] {f : α → D} {enc : α → PyData} (E : Eqk α f enc)
include E
theorem Eqk.sh (a : α) : SeqAt.shaped (enc a) = true := by
  have := E.dp a
  unfold SeqAt.shaped
  rw [E.cl]
  simp
  omega
theorem Eqk.eqb (a b : α) : PyData.eqv (enc a) (enc b) = decide (a = b) := by
  have h := E.eq a b
  by_cases e : a = b
  · rw [h.mpr e, decide_eq_true e]
  · cases q : PyData.eqv (enc a) (enc b) with
    | true => exact absurd (h.mp q) e
    | false => rw [decide_eq_false e]
theorem Eqk.to (a : α) : toPD M deep (f a) = some (enc a) := pd_deep _ _ _ (E.pd a) (by have := E.dp a; show _ < 12; omega)
theorem Eqk.gEq (a b : α) : Mi.gEq (f a) (f b) M = some (.bl (decide (a = b)), M) := by
  unfold Mi.gEq gEqB
  rw [E.to, E.to]
  dsimp only
  rw [E.sh, E.sh, E.eqb]
  rfl
theorem Eqk.gNe (a b : α) : Mi.gNe (f a) (f b) M = some (.bl (!decide (a = b)), M) := by
  unfold Mi.gNe gEqB
  rw [E.to, E.to]
  dsimp only
  rw [E.sh, E.sh, E.eqb]
  rfl
theorem Eqk.all (xs : List α) : PyData.canLayAll0 (xs.map enc) = true ∧ PyData.depthAll (xs.map enc) ≤ 6 := by
  induction xs with
  | nil => exact ⟨rfl, Nat.zero_le _⟩
  | cons a xs ih =>
    have := E.dp a
    constructor
    · simp only [List.map_cons, PyData.canLayAll0, E.cl, ih.1, Bool.and_self]
    · simp only [List.map_cons, PyData.depthAll]
      omega
theorem Eqk.pds (xs : List α) : pdTs (xs.map f) = some (xs.map enc) := by
  induction xs with
  | nil => rfl
  | cons a xs ih =>
    rw [List.map_cons]
    unfold pdTs
    rw [E.pd, ih]
    rfl
theorem Eqk.tos (xs : List α) : mapO (toPD M 11) (xs.map f) = some (xs.map enc) := pds_deep _ _ _ (E.pds xs) (by have := (E.all xs).2; omega)
theorem Eqk.shL (xs : List α) : SeqAt.shaped (.list (xs.map enc)) = true := by
  obtain ⟨h1, h2⟩ := E.all xs
  unfold SeqAt.shaped
  rw [Bool.and_eq_true, decide_eq_true_eq]
  refine ⟨by simp only [PyData.canLay0]; exact h1, ?_⟩
  simp only [PyData.depth]
  exact Nat.le_trans (Nat.succ_le_succ h2) (by decide)
theorem Eqk.shT (xs : List α) : SeqAt.shaped (.tuple (xs.map enc)) = true := by
  obtain ⟨h1, h2⟩ := E.all xs
  unfold SeqAt.shaped
  rw [Bool.and_eq_true, decide_eq_true_eq]
  refine ⟨by simp only [PyData.canLay0]; exact h1, ?_⟩
  simp only [PyData.depth]
  exact Nat.le_trans (Nat.succ_le_succ h2) (by decide)
theorem Eqk.anyb (xs : List α) (a : α) : ((xs.map enc).any fun z => PyData.eqv z (enc a)) = decide (a ∈ xs) := by
  induction xs with
  | nil => rfl
  | cons x xs ih =>
    rw [List.map_cons, List.any_cons, ih, E.eqb]
    by_cases h1 : x = a <;> by_cases h2 : a ∈ xs
    · subst h1; simp
    · subst h1; simp
    · have h3 : a ≠ x := Ne.symm h1; simp [h1, h2, h3]
    · have h3 : a ≠ x := Ne.symm h1; simp [h1, h2, h3]
/-- a in xs, xs a list or a tuple -/
theorem Eqk.gIn {k : Bool → Bool} {a : α} {d : D} {xs : List α} (hd : (∃ n, d = .ref n ∧ M[n]? = some (.lst (xs.map f))) ∨ d = .tup (xs.map f)) : gInA k (f a) d M = some (.bl (k (decide (a ∈ xs))), M) := by
  rcases hd with ⟨n, rfl, hn⟩ | rfl
  · have e1 : hDct M n = none := by unfold hDct; rw [hn]
    have e2 : toPD M deep (.ref n) = some (.list (xs.map enc)) := by
      have := pd_ref M 11 n _ hn
      rw [E.tos] at this
      exact this
    unfold gInA
    dsimp only
    rw [e1]
    dsimp only
    unfold gInB
    rw [E.to, e2]
    dsimp only
    rw [E.sh, E.shL, E.anyb]
    rfl
  · have e2 : toPD M deep (.tup (xs.map f)) = some (.tuple (xs.map enc)) := by
      show (match mapO (toPD M 11) (xs.map f) with | some ps => some (PyData.tuple ps) | none => none) = _
      rw [E.tos]
    show gInB k (f a) (.tup (xs.map f)) M = _
    unfold gInB
    rw [E.to, e2]
    dsimp only
    rw [E.sh, E.shT, E.anyb]
    rfl
/-- a list that is compared with [] -/
theorem Eqk.gNeNil {m n : Nat} {xs : List α} (h1 : M[m]? = some (.lst (xs.map f))) (h2 : M[n]? = some (.lst [])) : Mi.gNe (.ref m) (.ref n) M = some (.bl (!xs.isEmpty), M) := by
  have e1 : toPD M deep (.ref m) = some (.list (xs.map enc)) := by
    have := pd_ref M 11 m _ h1
    rw [E.tos] at this
    exact this
  have e2 : toPD M deep (.ref n) = some (.list []) := pd_ref M 11 n _ h2
  unfold Mi.gNe gEqB
  rw [e1, e2]
  dsimp only
  rw [E.shL, show SeqAt.shaped (.list []) = true by decide +kernel]
  cases xs with
  | nil => rfl
  | cons x xs => simp [PyData.eqv, PyData.eqvAll]
end
theorem eqk_int : Eqk Int D.int PyData.int where
  pd := fun _ => rfl
  eq := fun a b => by simp [PyData.eqv]
  cl := fun _ => rfl
  dp := fun _ => by simp [PyData.depth]
theorem eqk_t3 : Eqk T3 tr3 t3P where
  pd := fun ⟨a, b, c⟩ => rfl
  eq := fun ⟨a, b, c⟩ ⟨x, y, z⟩ => by simp [t3P, PyData.eqv, PyData.eqvAll]
  cl := fun ⟨a, b, c⟩ => by simp [t3P, PyData.canLay0, PyData.canLayAll0]
  dp := fun ⟨a, b, c⟩ => by simp [t3P, PyData.depth, PyData.depthAll]
theorem eqk_p6 : Eqk P6 p6D p6P where
  pd := fun ⟨a, b⟩ => rfl
  eq := fun ⟨⟨a, b, c⟩, ⟨x, y, z⟩⟩ ⟨⟨a', b', c'⟩, ⟨x', y', z'⟩⟩ => by simp [p6P, t3P, PyData.eqv, PyData.eqvAll]
  cl := fun ⟨⟨a, b, c⟩, ⟨x, y, z⟩⟩ => by simp [p6P, t3P, PyData.canLay0, PyData.canLayAll0]
  dp := fun ⟨⟨a, b, c⟩, ⟨x, y, z⟩⟩ => by simp [p6P, t3P, PyData.depth, PyData.depthAll]

structure Kyk (κ : Type) (f : κ → D) (key : κ → NestedKey) : Prop where
  nk : ∀ k, nkey (f k) = some (key k)
  inj : ∀ k l, key k = key l → k = l
  dp : ∀ k, (key k).depth ≤ 8
  tp : ∀ k, isTupD (f k) = true
section
variable {κ : Type} [DecidableEq κ] {f : κ → D} {key : κ → NestedKey} (Y : Kyk κ f key)
def dcK (f : κ → D) (kvs : List (κ × D)) : List (D × D) := kvs.map fun p => (f p.1, p.2)
def kGet (kvs : List (κ × D)) (k : κ) : Option D := (kvs.find? fun p => decide (p.1 = k)).map (·.2)
def kPut (kvs : List (κ × D)) (k : κ) (v : D) : List (κ × D) := if (kGet kvs k).isSome then kvs.map fun p => if p.1 = k then (p.1, v) else p else kvs ++ [(k, v)]
include Y
theorem Kyk.of (k : κ) : keyOf (f k) = some (key k) := by
  unfold keyOf
  rw [if_pos (Y.tp k), Y.nk]
  dsimp only
  rw [if_pos (Y.dp k)]
theorem Kyk.get (kvs : List (κ × D)) (k : κ) : dGet (dcK f kvs) (key k) = kGet kvs k := by
  unfold dGet dcK kGet
  induction kvs with
  | nil => rfl
  | cons p kvs ih =>
    rw [List.map_cons, List.find?_cons, List.find?_cons]
    by_cases h : p.1 = k
    · have e1 : decide (nkey (f p.1) = some (key k)) = true := decide_eq_true (by rw [h]; exact Y.nk k)
      have e2 : decide (p.1 = k) = true := decide_eq_true h
      simp only [e1, e2, Option.map_some]
    · have e1 : decide (nkey (f p.1) = some (key k)) = false := decide_eq_false (by rw [Y.nk]; exact fun e => h (Y.inj _ _ (Option.some.inj e)))
      have e2 : decide (p.1 = k) = false := decide_eq_false h
      simp only [e1, e2]
      exact ih
theorem Kyk.put (kvs : List (κ × D)) (k : κ) (v : D) : dPut (dcK f kvs) (key k) (f k) v = dcK f (kPut kvs k v) := by
  unfold dPut kPut
  rw [Y.get]
  split
  · unfold dcK
    rw [List.map_map, List.map_map]
    apply List.map_congr_left
    intro p _
    simp only [Function.comp]
    by_cases h : p.1 = k
    · rw [if_pos h, if_pos (by rw [h]; exact Y.nk k)]
    · rw [if_neg h, if_neg (by rw [Y.nk]; exact fun e => h (Y.inj _ _ (Option.some.inj e)))]
  · simp [dcK]
theorem Kyk.gIn {n : Nat} {kvs : List (κ × D)} {M : Hs} {b : Bool → Bool} {k : κ} (h : M[n]? = some (.dct (dcK f kvs))) : gInA b (f k) (.ref n) M = some (.bl (b (kGet kvs k).isSome), M) := by
  have e : hDct M n = some (dcK f kvs) := by unfold hDct; rw [h]
  unfold gInA
  dsimp only
  rw [e]
  dsimp only
  rw [Y.of]
  dsimp only
  rw [Y.get]
theorem Kyk.gIx {n : Nat} {kvs : List (κ × D)} {M : Hs} {k : κ} {d : D} (h : M[n]? = some (.dct (dcK f kvs))) (hd : kGet kvs k = some d) : gIxA (.ref n) (f k) M = some (d, M) := by
  have e : hDct M n = some (dcK f kvs) := by unfold hDct; rw [h]
  unfold gIxA
  dsimp only
  rw [e]
  dsimp only
  rw [Y.of]
  dsimp only
  rw [Y.get, hd]
theorem Kyk.gPut {n : Nat} {kvs : List (κ × D)} {M : Hs} {k : κ} {v : D} (h : M[n]? = some (.dct (dcK f kvs))) (hl : kvs.length < sizeLine) : gPutA (.ref n) (f k) v M = some (M.set n (.dct (dcK f (kPut kvs k v)))) := by
  have e : hDct M n = some (dcK f kvs) := by unfold hDct; rw [h]
  unfold gPutA
  dsimp only
  rw [e]
  dsimp only
  rw [Y.of]
  dsimp only
  rw [if_pos (by unfold dcK; rw [List.length_map]; exact hl), Y.put]
end
section
variable {κ : Type} [DecidableEq κ]
theorem kGet_some {kvs : List (κ × D)} {k : κ} : (kGet kvs k).isSome = decide (k ∈ kvs.map (·.1)) := by
  unfold kGet
  induction kvs with
  | nil => rfl
  | cons p kvs ih =>
    rw [List.find?_cons]
    by_cases h : p.1 = k
    · simp [h]
    · have h2 : k ≠ p.1 := Ne.symm h
      simp only [decide_eq_false h]
      rw [ih]
      simp [h2]
theorem kGet_mem {kvs : List (κ × D)} (nd : (kvs.map (·.1)).Nodup) {k : κ} {d : D} (h : (k, d) ∈ kvs) : kGet kvs k = some d := by
  unfold kGet
  induction kvs with
  | nil => cases h
  | cons p kvs ih =>
    rw [List.map_cons, List.nodup_cons] at nd
    rw [List.find?_cons]
    rcases List.mem_cons.mp h with rfl | h
    · simp
    · have : p.1 ≠ k := fun e => nd.1 (by rw [e]; exact List.mem_map.mpr ⟨_, h, rfl⟩)
      simp only [decide_eq_false this]
      exact ih nd.2 h
theorem kPut_new {kvs : List (κ × D)} {k : κ} {v : D} (h : k ∉ kvs.map (·.1)) : kPut kvs k v = kvs ++ [(k, v)] := by
  unfold kPut
  rw [kGet_some, decide_eq_false h]
  rfl
/-- a set kept in a dict -/
def stK (xs : List κ) : List (κ × D) := xs.map fun k => (k, .bl true)
theorem stK_fst (xs : List κ) : (stK xs).map (·.1) = xs := by
  unfold stK
  rw [List.map_map]
  simp [Function.comp_def]
theorem stK_len (xs : List κ) : (stK xs).length = xs.length := by unfold stK; simp
def addK (xs : List κ) (k : κ) : List κ := if k ∈ xs then xs else xs ++ [k]
theorem stK_put (xs : List κ) (k : κ) : kPut (stK xs) k (.bl true) = stK (addK xs k) := by
  unfold addK
  by_cases h : k ∈ xs
  · rw [if_pos h]
    unfold kPut
    rw [kGet_some, stK_fst, decide_eq_true h, if_pos rfl]
    unfold stK
    rw [List.map_map]
    apply List.map_congr_left
    intro q _
    simp only [Function.comp]
    split <;> rfl
  · rw [if_neg h, kPut_new (by rw [stK_fst]; exact h)]
    simp [stK]
theorem mem_addK {xs : List κ} {k l : κ} : l ∈ addK xs k ↔ l ∈ xs ∨ l = k := by
  unfold addK
  split
  · rename_i h
    constructor
    · exact .inl
    · rintro (h1 | rfl)
      · exact h1
      · exact h
  · simp
theorem nd_addK {xs : List κ} {k : κ} (h : xs.Nodup) : (addK xs k).Nodup := by
  unfold addK
  split
  · exact h
  · rename_i hp
    rw [List.nodup_append]
    exact ⟨h, by simp, fun a ha b hb e => by simp at hb; subst hb; subst e; exact hp ha⟩
end
def t3K (t : T3) : NestedKey := .tup [.num t.1, .num t.2.1, .num t.2.2]
def p6K (p : P6) : NestedKey := .tup [t3K p.1, t3K p.2]
theorem kyk_p6 : Kyk P6 p6D p6K where
  nk := fun ⟨⟨a, b, c⟩, ⟨x, y, z⟩⟩ => by simp [p6D, tr3, nkey, nkeys, p6K, t3K]
  inj := fun ⟨⟨a, b, c⟩, ⟨x, y, z⟩⟩ ⟨⟨a', b', c'⟩, ⟨x', y', z'⟩⟩ h => by simpa [p6K, t3K] using h
  dp := fun ⟨⟨a, b, c⟩, ⟨x, y, z⟩⟩ => by simp [p6K, t3K, NestedKey.depth, NestedKey.depthAll]
  tp := fun _ => rfl
end Mi
end
section
set_option maxRecDepth 100000
set_option maxHeartbeats 4000000
set_option autoImplicit false
namespace Mi
open PySem

theorem size1 : (1000000 : Nat) < sizeLine := by decide
def OgM (M : Hs) (g : Nat) (many : Int) (cs rs : List Tr3) (ch : Str) (oct : Int) : Prop := M[g]? = some (.slo 0 [some (.int oct), some (.tup (cs.map trD)), some (.int many), some (.str ch), some (.tup (rs.map trD))])
section
variable {M M' : Hs} {n m : Nat}
theorem get_app {o : MO} {l : List MO} (h : M[n]? = some o) : (M ++ l)[n]? = some o := by rw [List.getElem?_append_left (lt_of_get h)]; exact h
theorem sl_at {g : Nat} {fs : List (Option D)} (h : M[g]? = some (.slo 0 fs)) : slAt 0 (.ref g) M = some (g, fs) := by
  unfold slAt
  simp only [h, if_true]
theorem s_ref {xs : List D} (h : M[n]? = some (.lst xs)) : hSeq M (.ref n) = some xs := by simp [hSeq, h]
theorem s_tup (xs : List D) : hSeq M (.tup xs) = some xs := rfl
theorem g_eqI {i j : Int} : gEq (.int i) (.int j) M = some (.bl (decide (i = j)), M) := by
  have := (eqk_int).gEq (M := M) i j
  exact this
theorem g_neI {i j : Int} : gNe (.int i) (.int j) M = some (.bl (!decide (i = j)), M) := (eqk_int).gNe (M := M) i j
theorem g_isN : gIs .non .non M = some (.bl true, M) := rfl
theorem g_isI {i : Int} : gIs (.int i) .non M = some (.bl false, M) := rfl
theorem g_isNotN : gIsNot .non .non M = some (.bl false, M) := rfl
theorem g_isNotI {i : Int} : gIsNot (.int i) .non M = some (.bl true, M) := rfl
theorem is_L {xs : List D} (h : M[n]? = some (.lst xs)) : isLst (.ref n) M = true := by
  have e : hLst M n = some xs := by unfold hLst; rw [h]
  unfold isLst
  dsimp only
  rw [e]
  rfl
theorem g_app {xs : List D} {d : D} (h : M[n]? = some (.lst xs)) (hl : xs.length < sizeLine) : gAppend (.ref n) [d] M = some (.non, M.set n (.lst (xs ++ [d]))) := by
  unfold gAppend
  dsimp only
  rw [hLst_at h]
  dsimp only
  rw [if_pos hl]
theorem g_ext {xs ys : List D} (h : M[n]? = some (.lst xs)) (h2 : M[m]? = some (.lst ys)) (hl : xs.length + ys.length ≤ sizeLine) : gExtend (.ref n) [.ref m] M = some (.non, M.set n (.lst (xs ++ ys))) := by
  unfold gExtend
  dsimp only
  rw [hLst_at h, hLst_at h2]
  dsimp only
  rw [if_pos hl]
theorem g_lenD {xs : List D} (h : M[n]? = some (.lst xs)) : gLen [.ref n] M = some (.int xs.length, M) := by
  unfold gLen
  dsimp only
  rw [s_ref h]
theorem g_lenT {xs : List D} : gLen [.tup xs] M = some (.int xs.length, M) := rfl
theorem g_ixR {xs : List D} {k : Int} {d : D} (h : M[n]? = some (.lst xs)) (h0 : 0 ≤ k) (hd : xs[k.toNat]? = some d) : gIxA (.ref n) (.int k) M = some (d, M) := g_ixL (i := k.toNat) h hd (by omega)
theorem g_ixU {xs : List D} {k : Int} {d : D} (h0 : 0 ≤ k) (hd : xs[k.toNat]? = some d) : gIxA (.tup xs) (.int k) M = some (d, M) := g_ixT (i := k.toNat) hd (by omega)
theorem g_ix0 {a : D} {xs : List D} : gIxA (.tup (a :: xs)) (.int 0) M = some (a, M) := g_ixU (by decide) rfl
theorem g_ix1 {a b : D} {xs : List D} : gIxA (.tup (a :: b :: xs)) (.int 1) M = some (b, M) := g_ixU (by decide) rfl
theorem g_ix2 {a b c : D} {xs : List D} : gIxA (.tup (a :: b :: c :: xs)) (.int 2) M = some (c, M) := g_ixU (by decide) rfl
theorem g_ix5 {a b c d e f : D} {xs : List D} : gIxA (.tup (a :: b :: c :: d :: e :: f :: xs)) (.int 5) M = some (f, M) := g_ixU (by decide) rfl
theorem sz_eq : sizeLine = 16777216 := rfl
theorem g_min {i j : Int} : gMin2 [.int i, .int j] M = some (.int (Ga.mnI i j), M) := rfl
theorem g_mx {i j : Int} : gMax2 [.int i, .int j] M = some (.int (Ga.mxI i j), M) := rfl
theorem g_cat {xs ys : List D} (h : M[m]? = some (.lst xs)) (h2 : M[n]? = some (.lst ys)) (hl : (xs ++ ys).length ≤ sizeLine) : gAdd (.ref m) (.ref n) M = some (.ref M.length, M ++ [.lst (xs ++ ys)]) := by
  unfold gAdd newL
  dsimp only
  rw [h, h2]
  dsimp only
  rw [if_pos hl]
theorem g_tupD {d : D} {xs : List D} (h : hSeq M d = some xs) : gTuple [d] M = some (.tup xs, M) := by
  unfold gTuple
  dsimp only
  rw [h]
theorem g_listT {xs : List D} : gListA [.tup xs] M = some (.ref M.length, M ++ [.lst xs]) := rfl
theorem g_listL {xs : List D} (h : M[n]? = some (.lst xs)) : gListA [.ref n] M = some (.ref M.length, M ++ [.lst xs]) := by
  have e1 : hDct M n = none := by unfold hDct; rw [h]
  unfold gListA
  dsimp only
  rw [e1]
  unfold gList
  dsimp only
  rw [s_ref h]
theorem g_listD {kvs : List (D × D)} (h : M[n]? = some (.dct kvs)) : gListA [.ref n] M = some (.ref M.length, M ++ [.lst (kvs.map (·.1))]) := by
  have e1 : hDct M n = some kvs := by unfold hDct; rw [h]
  unfold gListA
  dsimp only
  rw [e1]
theorem g_popL {xs : List D} {d : D} (h : M[n]? = some (.lst (xs ++ [d]))) : gPop (.ref n) [] M = some (d, M.set n (.lst xs)) := by
  unfold gPop
  dsimp only
  rw [hLst_at h]
  simp
theorem blsOf_map (bs : List Bool) : blsOf (bs.map D.bl) = some bs := by
  induction bs with
  | nil => rfl
  | cons b bs ih => rw [List.map_cons]; unfold blsOf; rw [ih]
theorem g_anyL {bs : List Bool} (h : M[n]? = some (.lst (bs.map D.bl))) : gAny [.ref n] M = some (.bl (bs.any id), M) := by
  unfold gAny gBools
  dsimp only
  rw [s_ref h]
  dsimp only
  rw [blsOf_map]
theorem intsOf_map (is : List Int) : intsOf (is.map D.int) = some is := by
  induction is with
  | nil => rfl
  | cons b bs ih => rw [List.map_cons]; unfold intsOf; rw [ih]
theorem t3s_map (ts : List T3) : t3s (ts.map tr3) = some ts := by
  induction ts with
  | nil => rfl
  | cons b bs ih =>
    obtain ⟨x, y, z⟩ := b
    rw [List.map_cons]
    show (match t3s (bs.map tr3) with | some ps => some ((x, y, z) :: ps) | none => none) = _
    rw [ih]
theorem p6s_map (ts : List P6) : p6s (ts.map p6D) = some ts := by
  induction ts with
  | nil => rfl
  | cons b bs ih =>
    obtain ⟨⟨x, y, z⟩, u, v, w⟩ := b
    rw [List.map_cons]
    show (match t3of (tr3 (x, y, z)), t3of (tr3 (u, v, w)), p6s (bs.map p6D) with | some x, some y, some ps => some ((x, y) :: ps) | _, _, _ => none) = _
    rw [ih]
    rfl
theorem g_sset3 {ts : List T3} (h : M[n]? = some (.lst (ts.map tr3))) (h1 : ts.all smallT = true) (h2 : (unq ts).length < 63) : gSortSet [.ref n] M = some (.ref M.length, M ++ [.lst ((srtB lt3 (unq ts)).map tr3)]) := by
  unfold gSortSet
  dsimp only
  rw [s_ref h]
  dsimp only
  cases ts with
  | nil => rfl
  | cons t ts =>
    have e : intsOf ((t :: ts).map tr3) = none := rfl
    rw [e]
    dsimp only
    rw [t3s_map]
    dsimp only
    rw [if_pos (by rw [h1, decide_eq_true h2]; rfl)]
theorem g_ssetI {is : List Int} (h : M[n]? = some (.lst (is.map D.int))) (hl : is.length < 63) : gSortSet [.ref n] M = some (.ref M.length, M ++ [.lst ((srtB ltI (unq is)).map D.int)]) := by
  unfold gSortSet
  dsimp only
  rw [s_ref h]
  dsimp only
  rw [intsOf_map]
  dsimp only
  rw [if_pos hl]
theorem g_sorted6 {xs : List P6} (h : M[n]? = some (.dct (dcK p6D (stK xs)))) : gSortedA [.ref n] M = some (.ref M.length, M ++ [.lst ((srtB lt6 xs).map p6D)]) := by
  have e1 : itemsA M (.ref n) = some (xs.map p6D) := by
    have e : hSeq M (.ref n) = none := by simp [hSeq, h]
    have e2 : hDct M n = some (dcK p6D (stK xs)) := by unfold hDct; rw [h]
    unfold itemsA
    rw [e]
    dsimp only
    rw [e2]
    simp [dcK, stK, Function.comp_def]
  unfold gSortedA
  cases xs with
  | nil =>
    have : gSorted [.ref n] M = some (.ref M.length, M ++ [.lst []]) := by
      unfold gSorted
      dsimp only
      rw [e1]
      rfl
    rw [this]
    rfl
  | cons x xs =>
    have : gSorted [.ref n] M = none := by
      unfold gSorted
      dsimp only
      rw [e1]
      rfl
    rw [this]
    dsimp only
    rw [e1]
    dsimp only
    rw [p6s_map]
end
theorem bp_n {i : Nat} {d : D} : bindP (.n i) d = some [(i, d)] := by simp [bindP]
theorem bp_t {ps : List Pt} {ds : List D} : bindP (.t ps) (.tup ds) = bindPs ps ds := by simp [bindP]
theorem bps_n : bindPs [] [] = some [] := by simp [bindPs]
theorem bps_c {p : Pt} {ps : List Pt} {d : D} {ds : List D} {l r : List (Nat × D)} (h1 : bindP p d = some l) (h2 : bindPs ps ds = some r) : bindPs (p :: ps) (d :: ds) = some (l ++ r) := by
  simp only [bindPs]
  rw [h1, h2]
theorem bps_cn {i : Nat} {ps : List Pt} {d : D} {ds : List D} : bindPs (.n i :: ps) (d :: ds) = (bindPs ps ds).map fun r => (i, d) :: r := by
  simp only [bindPs, bp_n]
  cases bindPs ps ds <;> rfl
theorem sa_n {α : Type} {ζ : List (Option α)} : setAll ζ [] = ζ := rfl
theorem sa_c {α : Type} {ζ : List (Option α)} {i : Nat} {d : α} {r : List (Nat × α)} : setAll ζ ((i, d) :: r) = setAll (ζ.set i (some d)) r := rfl
/-- the state as a tuple -/
def stD (s : Ga.St) : D := .tup [.int s.many, .tup (s.links.map p6D), .tup (s.started.map tr3), .tup (s.ending.map tr3), optD s.age, .bl s.done]
end Mi
end
section
set_option maxRecDepth 100000
set_option maxHeartbeats 2000000
set_option autoImplicit false
namespace Mi
open PySem

abbrev XQ := Nat → List D → Hs → Prop
def wR {α : Type} (r : R α) (Q : α → Hs → Prop) (E : XQ) : Prop := match r with
  | .ok a M => Q a M
  | .ex c fs M => E c fs M
  | .no => False
def wT (r : RS) (N : Sl → Hs → Prop) (T : D → Hs → Prop) (E : Nat → List D → Sl → Hs → Prop) : Prop := match r with
  | .nx ζ M => N ζ M
  | .rt d M => T d M
  | .ex c fs ζ M => E c fs ζ M
  | _ => False
section
variable {α β : Type} {Q Q' : α → Hs → Prop} {ζ : Sl} {M : Hs} {N N' : Sl → Hs → Prop} {T T' : D → Hs → Prop} {E E' : XQ} {G G' : Nat → List D → Sl → Hs → Prop}
theorem wR_x {r : R α} (h : wX r Q) : wR r Q E := by
  cases r with
  | ok a M => exact h
  | _ => exact h.elim
theorem wR_mono {r : R α} (h : wR r Q E) (i : ∀ a M, Q a M → Q' a M) (j : ∀ c fs M, E c fs M → E' c fs M) : wR r Q' E' := by
  cases r with
  | ok a M => exact i a M h
  | ex c fs M => exact j c fs M h
  | no => exact h
theorem wR_ok {a : α} : wR (.ok a M) Q E = Q a M := rfl
theorem wR_get {r : R α} (h : wR r Q E) : (∃ a M, r = .ok a M ∧ Q a M) ∨ ∃ c fs M, r = .ex c fs M ∧ E c fs M := by
  cases r with
  | ok a M => exact .inl ⟨a, M, rfl, h⟩
  | ex c fs M => exact .inr ⟨c, fs, M, rfl, h⟩
  | no => exact h.elim
theorem wX_R {r : R α} (h : wR r Q fun _ _ _ => False) : wX r Q := by
  cases r with
  | ok a M => exact h
  | _ => exact h.elim
theorem wR_bind {r : R α} {k : α → Hs → R β} {Q : β → Hs → Prop} : wR (r.bind k) Q E = wR r (fun a M => wR (k a M) Q E) E := by cases r <;> rfl
theorem wT_s {r : RS} (h : wS r N T) : wT r N T G := by
  cases r with
  | nx a M => exact h
  | rt a M => exact h
  | _ => exact h.elim
theorem wT_mono {r : RS} (h : wT r N T G) (i : ∀ a M, N a M → N' a M) (j : ∀ a M, T a M → T' a M) (k : ∀ c fs ζ M, G c fs ζ M → G' c fs ζ M) : wT r N' T' G' := by
  cases r with
  | nx a M => exact i a M h
  | rt a M => exact j a M h
  | ex c fs ζ M => exact k c fs ζ M h
  | _ => exact h
theorem wT_of {r : R α} {k : α → Hs → RS} : wT (RS.of ζ r k) N T G = wR r (fun a M => wT (k a M) N T G) fun c fs M => G c fs ζ M := by cases r <;> rfl
variable {a b : MS} {f g fo fi fv : MX} {t : MT} {i n c k : Nat} {ga : MA} {F : MF}
theorem wT_seq : wT (sSeq a b ζ M) N T G = wT (a ζ M) (fun ζ M => wT (b ζ M) N T G) T G := by
  unfold sSeq
  cases a ζ M <;> rfl
theorem wT_set : wT (sSet i f ζ M) N T G = wR (f ζ M) (fun d M => N (ζ.set i (some d)) M) fun c fs M => G c fs ζ M := wT_of
theorem wT_ret : wT (sRet f ζ M) N T G = wR (f ζ M) T fun c fs M => G c fs ζ M := wT_of
theorem wT_expr : wT (sExpr f ζ M) N T G = wR (f ζ M) (fun _ M => N ζ M) fun c fs M => G c fs ζ M := wT_of
theorem wT_nx : wT (.nx ζ M) N T G = N ζ M := rfl
theorem wT_rt {d : D} : wT (.rt d M) N T G = T d M := rfl
theorem wT_pass : wT (sPass ζ M) N T G = N ζ M := rfl
theorem wT_if : wT (sIf t a b ζ M) N T G = wR (t ζ M) (fun c M => if c = true then wT (a ζ M) N T G else wT (b ζ M) N T G) fun c fs M => G c fs ζ M := by
  unfold sIf
  rw [wT_of]
  congr
  funext c M
  split <;> rfl
theorem wT_raise0 : wT (sRaise0 c ζ M) N T G = G c [] ζ M := rfl
theorem wT_raise : wT (sRaise c n ga ζ M) N T G = wR (ga ζ M) (fun ds M => if ds.length = n then G c ds.reverse ζ M else False) fun c fs M => G c fs ζ M := by
  unfold sRaise
  rw [wT_of]
  congr
  funext ds M
  split <;> rfl
theorem wT_for {s : MY} {p : Pt} : wT (sFor s p a ζ M) N T G = wR (s ζ M) (fun yd M => wT (forN yd.y p a yd.fuel 0 ζ M) N T G) fun c fs M => G c fs ζ M := wT_of
theorem wT_forN {y : Nat → Hs → Option (Option D)} {p : Pt} (I : Nat → Sl → Hs → Prop) (e : Nat) (go : ∀ i ζ M, i < e → I i ζ M → ∃ d l, y i M = some (some d) ∧ bindP p d = some l ∧ wT (a (setAll ζ l) M) (I (i + 1)) T G) (fin : ∀ ζ M, I e ζ M → y e M = some none ∧ N ζ M) :
    ∀ (m i : Nat) (ζ : Sl) (M : Hs), e - i < m → i ≤ e → I i ζ M → wT (forN y p a m i ζ M) N T G
  | 0, _, _, _, h, _, _ => by omega
  | m + 1, i, ζ, M, h, hi, q => by
    unfold forN
    by_cases hie : i = e
    · subst hie
      obtain ⟨h1, h2⟩ := fin ζ M q
      rw [h1]
      exact h2
    · obtain ⟨d, l, h1, h2, h3⟩ := go i ζ M (by omega) q
      rw [h1]
      dsimp only
      rw [h2]
      dsimp only
      cases hr : a (setAll ζ l) M with
      | nx ζ1 M1 => rw [hr] at h3; exact wT_forN I e go fin m (i + 1) ζ1 M1 (by omega) (by omega) h3
      | rt d M1 => rw [hr] at h3; exact h3
      | bk ζ1 M1 => rw [hr] at h3; exact h3.elim
      | ct ζ1 M1 => rw [hr] at h3; exact h3.elim
      | ex c fs ζ1 M1 => rw [hr] at h3; exact h3
      | no => rw [hr] at h3; exact h3.elim
theorem wR_fn {np nl : Nat} {ds : List D} {Q : D → Hs → Prop} : wR (fnS np nl a ds M) Q E = wT (a (ds.map some ++ List.replicate (nl - np) none) M) (fun _ M => Q .non M) Q fun c fs _ M => E c fs M := by
  unfold fnS
  cases a (ds.map some ++ List.replicate (nl - np) none) M <;> rfl
theorem wR_call {Q : D → Hs → Prop} : wR (xCall n F ga ζ M) Q E = wR (ga ζ M) (fun ds M => if ds.length = n then wR (F ds M) Q E else False) E := by
  unfold xCall
  rw [wR_bind]
  congr
  funext ds M
  split <;> rfl
theorem wR_make {o : MO} {Q : D → Hs → Prop} : wR (xMake o n F ga ζ M) Q E = wR (ga ζ M) (fun ds M1 => if ds.length + 1 = n then wR (F (.ref M1.length :: ds) (M1 ++ [o])) (fun v M2 => match v with
  | .non => Q (.ref M1.length) M2
  | _ => False) E else False) E := by
  unfold xMake
  rw [wR_bind]
  congr
  funext ds M1
  split
  · rw [wR_bind]
    congr
    funext v M2
    cases v <;> rfl
  · rfl
theorem wR_met {Q : D → Hs → Prop} : wR (xMet c n F fo ga ζ M) Q E = wR (fo ζ M) (fun x M1 => match slAt c x M1 with
  | some _ => wR (ga ζ M1) (fun ds M2 => if ds.length + 1 = n then wR (F (x :: ds) M2) Q E else False) E
  | none => False) E := by
  unfold xMet
  rw [wR_bind]
  congr
  funext x M1
  cases slAt c x M1 with
  | none => rfl
  | some q =>
    dsimp only
    rw [wR_bind]
    congr
    funext ds M2
    split <;> rfl
theorem wX_met {Q : D → Hs → Prop} : wX (xMet c n F fo ga ζ M) Q = wX (fo ζ M) (fun x M1 => match slAt c x M1 with
  | some _ => wX (ga ζ M1) (fun ds M2 => if ds.length + 1 = n then wX (F (x :: ds) M2) Q else False)
  | none => False) := by
  unfold xMet
  rw [wX_bind]
  congr
  funext x M1
  cases slAt c x M1 with
  | none => rfl
  | some q =>
    dsimp only
    rw [wX_bind]
    congr
    funext ds M2
    split <;> rfl
theorem wO_okR {r : R α} : wO (okR r) Q = wX r Q := by cases r <;> rfl
theorem wX_prp {Q : D → Hs → Prop} : wX (xPrp c F fo ζ M) Q = wX (fo ζ M) fun x M1 => match slAt c x M1 with
  | some _ => wX (F [x] M1) Q
  | none => False := by
  unfold xPrp
  rw [wX_bind]
  congr
  funext x M1
  cases slAt c x M1 with
  | none => rfl
  | some q =>
    dsimp only
    rw [wX_of, wO_okR]
theorem wX_isC {Q : D → Hs → Prop} : wX (xIsC c f ζ M) Q = wX (f ζ M) fun x M1 => if (slAt c x M1).isSome = true then Q (.bl true) M1 else if isLs x M1 = true then Q (.bl false) M1 else False := by
  unfold xIsC
  rw [wX_bind]
  congr
  funext x M1
  split
  · rfl
  · split <;> rfl
theorem wT_wX {r : R α} {k : α → Hs → RS} (h : wX r fun a M => wT (k a M) N T G) : wT (RS.of ζ r k) N T G := by
  rw [wT_of]
  exact wR_x h
end
theorem sTry_at {nm : Nat → List Str} {b : MS} {l : List CL} {ζ ζ' : Sl} {M M' : Hs} {c : Nat} {fs : List D} {r : RS} (hb : b ζ M = .ex c fs ζ' M') (hr : tryR nm l c fs ζ' M' = r) : sTry nm b l ζ M = r := by
  unfold sTry
  rw [hb]
  exact hr
theorem tryR_yes {nm : Nat → List Str} {h : CL} {l : List CL} {ζ : Sl} {M : Hs} {c : Nat} {fs : List D} {r : RS} (hm : h.ma c = some true) (hs : ∀ a d, suR nm h c fs ζ M a d = r) : tryR nm (h :: l) c fs ζ M = r := by
  simp only [tryR]
  rw [hm]
  exact uni_eq hs
theorem tryR_no {nm : Nat → List Str} {h : CL} {l : List CL} {ζ : Sl} {M : Hs} {c : Nat} {fs : List D} {r : RS} (hm : h.ma c = some false) (hs : tryR nm l c fs ζ M = r) : tryR nm (h :: l) c fs ζ M = r := by
  simp only [tryR]
  rw [hm]
  exact hs
theorem wT_try {nm : Nat → List Str} {b : MS} {l : List CL} {ζ : Sl} {M : Hs} {N : Sl → Hs → Prop} {T : D → Hs → Prop} {G : Nat → List D → Sl → Hs → Prop} (h : wT (b ζ M) N T fun c fs ζ' M' => wT (tryR nm l c fs ζ' M') N T G) : wT (sTry nm b l ζ M) N T G := by
  unfold sTry
  cases hb : b ζ M with
  | nx ζ' M' => rw [hb] at h; exact h
  | rt d M' => rw [hb] at h; exact h
  | ex c fs ζ' M' => rw [hb] at h; exact h
  | bk ζ' M' => rw [hb] at h; exact h.elim
  | ct ζ' M' => rw [hb] at h; exact h.elim
  | no => rw [hb] at h; exact h.elim
end Mi
end
section
set_option maxRecDepth 100000
set_option maxHeartbeats 2000000
set_option autoImplicit false
namespace Mi
open PySem
theorem inAt_get {c n : Nat} {M : Hs} {fs : List D} (h : M[n]? = some (.ins c fs)) : inAt c (.ref n) M = some (n, fs) := by
  unfold inAt
  dsimp only
  rw [h]
  exact if_pos rfl
def LenB (i : Int) : Prop := 0 ≤ i ∧ i < 16777216
noncomputable instance (i : Int) : Decidable (LenB i) := Classical.propDecidable _
theorem lenB_small {n : Nat} (h : n ≤ 1000000) : LenB (n : Int) := ⟨by omega, by omega⟩
section
variable {α : Type} {ζ : Sl} {M : Hs} {N : Sl → Hs → Prop} {T : D → Hs → Prop} {E : XQ} {Q : D → Hs → Prop} {fo fv f : MX} {c i n : Nat} {F : MF} {ga : MA}
theorem wX_fldI : wX (xFldI c i f ζ M) Q = wX (f ζ M) fun x M1 => match inAt c x M1 with
  | some (_, fs) => (match fs[i]? with
    | some d => Q d M1
    | none => False)
  | none => False := by
  unfold xFldI
  rw [wX_bind]
  congr
  funext x M1
  cases inAt c x M1 with
  | none => rfl
  | some q =>
    dsimp only
    cases q.2[i]? <;> rfl
theorem wS_fldI : wS (sFldI c i fo fv ζ M) N T = wX (fv ζ M) fun y M1 => wX (fo ζ M1) fun x M2 => match inAt c x M2 with
  | some (n, fs) => (match putI i y fs with
    | some fs' => N ζ (M2.set n (.ins c fs'))
    | none => False)
  | none => False := by
  unfold sFldI
  rw [wS_of]
  congr
  funext y M1
  rw [wS_of]
  congr
  funext x M2
  cases inAt c x M2 with
  | none => rfl
  | some q =>
    dsimp only
    cases putI i y q.2 <;> rfl
theorem wT_fldI {G : Nat → List D → Sl → Hs → Prop} : wT (sFldI c i fo fv ζ M) N T G = wR (fv ζ M) (fun y M1 => wR (fo ζ M1) (fun x M2 => match inAt c x M2 with
  | some (n, fs) => (match putI i y fs with
    | some fs' => N ζ (M2.set n (.ins c fs'))
    | none => False)
  | none => False) fun c fs M => G c fs ζ M) fun c fs M => G c fs ζ M := by
  unfold sFldI
  rw [wT_of]
  congr
  funext y M1
  rw [wT_of]
  congr
  funext x M2
  cases inAt c x M2 with
  | none => rfl
  | some q =>
    dsimp only
    cases putI i y q.2 <;> rfl
theorem wR_metI : wR (xMetI c n F fo ga ζ M) Q E = wR (fo ζ M) (fun x M1 => match inAt c x M1 with
  | some _ => wR (ga ζ M1) (fun ds M2 => if ds.length + 1 = n then wR (F (x :: ds) M2) Q E else False) E
  | none => False) E := by
  unfold xMetI
  rw [wR_bind]
  congr
  funext x M1
  cases inAt c x M1 with
  | none => rfl
  | some q =>
    dsimp only
    rw [wR_bind]
    congr
    funext ds M2
    split <;> rfl
theorem wX_metI : wX (xMetI c n F fo ga ζ M) Q = wX (fo ζ M) (fun x M1 => match inAt c x M1 with
  | some _ => wX (ga ζ M1) (fun ds M2 => if ds.length + 1 = n then wX (F (x :: ds) M2) Q else False)
  | none => False) := by
  unfold xMetI
  rw [wX_bind]
  congr
  funext x M1
  cases inAt c x M1 with
  | none => rfl
  | some q =>
    dsimp only
    rw [wX_bind]
    congr
    funext ds M2
    split <;> rfl
theorem wX_prpI : wX (xPrpI c F fo ζ M) Q = wX (fo ζ M) fun x M1 => match inAt c x M1 with
  | some _ => wX (F [x] M1) Q
  | none => False := by
  unfold xPrpI
  rw [wX_bind]
  congr
  funext x M1
  cases inAt c x M1 with
  | none => rfl
  | some q =>
    dsimp only
    rw [wX_of, wO_okR]
theorem wX_lenI : wX (xLenI c F fo ζ M) Q = wX (fo ζ M) fun x M1 => match inAt c x M1 with
  | some _ => wX (F [x] M1) fun d M2 => match d with
    | .int i => if LenB i then Q (.int i) M2 else False
    | _ => False
  | none => False := by
  unfold xLenI
  rw [wX_bind]
  congr
  funext x M1
  cases inAt c x M1 with
  | none => rfl
  | some q =>
    dsimp only
    cases F [x] M1 with
    | ok d M2 =>
      cases d with
      | int i =>
        simp only [okR]
        show wX (if 0 ≤ i ∧ i < 16777216 then R.ok (D.int i) M2 else R.no) Q = if LenB i then Q (.int i) M2 else False
        by_cases h : 0 ≤ i ∧ i < 16777216
        · rw [if_pos h]
          exact (if_pos (show LenB i from h)).symm
        · rw [if_neg h]
          exact (if_neg (show ¬ LenB i from h)).symm
      | _ => rfl
    | _ => rfl
theorem wS_T {r : RS} (h : wT r N T fun _ _ _ _ => False) : wS r N T := by
  cases r with
  | nx a M => exact h
  | rt a M => exact h
  | _ => exact h.elim
end
section
variable {ζ : Sl} {M : Hs} {N : Sl → Hs → Prop} {T : D → Hs → Prop}
theorem wS_asgL {f : MX} {ps : List Pt} : wS (sAsgL f ps ζ M) N T = wX (f ζ M) fun d M1 => match d with
  | .ref n => (match hSeq M1 (.ref n) with
    | some xs => (match bindPs ps xs with
      | some l => N (setAll ζ l) M1
      | none => False)
    | none => False)
  | _ => False := by
  unfold sAsgL
  rw [wS_of]
  congr
  funext d M1
  cases d with
  | ref n =>
    dsimp only
    cases hSeq M1 (.ref n) with
    | none => rfl
    | some xs =>
      dsimp only
      cases bindPs ps xs <;> rfl
  | _ => rfl
end
end Mi
end
section
set_option maxRecDepth 100000
set_option maxHeartbeats 4000000
set_option autoImplicit false
namespace Mi
open PySem PySem.Spec
section
variable {ζ : Sl} {M M1 M2 : Hs} {N : Sl → Hs → Prop} {T : D → Hs → Prop} {Q : D → Hs → Prop} {fo fe f g : MX} {fs : List MX} {c i : Nat} {k : Int}
def joinQ (Q : D → Hs → Prop) (a : Str) (y : D) (M : Hs) : Prop := match y with
  | .ref n => (match hSeq M (.ref n) with
    | some xs => (match strsOf xs with
      | some ys => if jnOk a ys = true then Q (.str (Txt.join a ys)) M else False
      | none => False)
    | none => False)
  | _ => False
theorem wX_join : wX (xJoin fo fe ζ M) Q = wX (fo ζ M) fun x M1 => match x with
  | .str a => wX (fe ζ M1) fun y M2 => joinQ Q a y M2
  | _ => False := by
  unfold xJoin
  rw [wX_bind]
  congr
  funext x M1
  cases x with
  | str a =>
    dsimp only
    rw [wX_bind]
    congr
    funext y M2
    unfold joinQ
    cases y with
    | ref n =>
      dsimp only
      cases hSeq M2 (.ref n) with
      | none => rfl
      | some xs =>
        dsimp only
        cases strsOf xs with
        | none => rfl
        | some ys =>
          dsimp only
          split <;> rfl
    | _ => rfl
  | _ => rfl
theorem joinQ_at {n : Nat} {a : Str} {ys : List Str} (h : M[n]? = some (.lst (ys.map D.str))) (hj : jnOk a ys = true) : joinQ Q a (.ref n) M = Q (.str (Txt.join a ys)) M := by
  unfold joinQ
  have e : hSeq M (.ref n) = some (ys.map D.str) := by simp [hSeq, h]
  dsimp only
  rw [e]
  dsimp only
  rw [strsOf_map]
  dsimp only
  rw [if_pos hj]
def splitQ (Q : D → Hs → Prop) (a : Str) (y : D) (M : Hs) : Prop := match y with
  | .str b => if (b.length == 0) = false ∧ a.length + 2 ≤ sizeLine then Q (.ref M.length) (M ++ [.lst ((Txt.split a b).map .str)]) else False
  | _ => False
theorem wX_split : wX (xSplit fo fe ζ M) Q = wX (fo ζ M) fun x M1 => match x with
  | .str a => wX (fe ζ M1) fun y M2 => splitQ Q a y M2
  | _ => False := by
  unfold xSplit
  rw [wX_bind]
  congr
  funext x M1
  cases x with
  | str a =>
    dsimp only
    rw [wX_bind]
    congr
    funext y M2
    unfold splitQ
    cases y with
    | str b =>
      dsimp only
      split <;> rfl
    | _ => rfl
  | _ => rfl
theorem splitQ_at {a b : Str} (h : (b.length == 0) = false) (hl : a.length + 2 ≤ sizeLine) : splitQ Q a (.str b) M = Q (.ref M.length) (M ++ [.lst ((Txt.split a b).map .str)]) := by
  unfold splitQ
  dsimp only
  rw [if_pos ⟨h, hl⟩]
theorem wX_fmt : wX (xFmt f ζ M) Q = wX (f ζ M) fun x M1 => match x with
  | .str y => if y.length ≤ sizeLine then Q (.str y) M1 else False
  | .int i => if numOk i = true then Q (.str (toString i)) M1 else False
  | _ => False := by
  unfold xFmt
  rw [wX_bind]
  congr
  funext x M1
  cases x with
  | str y => dsimp only; split <;> rfl
  | int i => dsimp only; split <;> rfl
  | _ => rfl
theorem wX_js0 {acc : Str} : wX (xJs [] acc ζ M) Q = Q (.str acc) M := rfl
theorem wX_js1 {acc : Str} : wX (xJs (f :: fs) acc ζ M) Q = wX (f ζ M) fun x M1 => match x with
  | .str y => if (acc ++ y).length ≤ sizeLine then wX (xJs fs (acc ++ y) ζ M1) Q else False
  | _ => False := by
  rw [xJs]
  rw [wX_bind]
  congr
  funext x M1
  cases x with
  | str y => dsimp only; split <;> rfl
  | _ => rfl
theorem wS_augI : wS (sAugI c i fo k ζ M) N T = wX (fo ζ M) fun x M1 => match inAt c x M1 with
  | some (n, fs) => (match fs[i]? with
    | some (.int a) => N ζ (M1.set n (.ins c (fs.set i (.int (a + k)))))
    | _ => False)
  | none => False := by
  unfold sAugI
  rw [wS_of]
  congr
  funext x M1
  cases inAt c x M1 with
  | none => rfl
  | some q =>
    dsimp only
    cases q.2[i]? with
    | none => rfl
    | some d => cases d <;> rfl
theorem src_zip {m n : Nat} {xs ys : List D} (hf : f ζ M = .ok (.ref m) M1) (hg : g ζ M1 = .ok (.ref n) M2) (hx : hSeq M2 (.ref m) = some xs) (hy : hSeq M2 (.ref n) = some ys) :
    Src (yZip f g) ζ M (List.zipWith (fun x y => D.tup [x, y]) xs ys) M2 fun M' => hSeq M' (.ref m) = some xs ∧ hSeq M' (.ref n) = some ys := by
  refine ⟨⟨fun i M => match hSeq M (.ref m), hSeq M (.ref n) with
      | some xs, some ys => some (match xs[i]?, ys[i]? with | some x, some y => some (.tup [x, y]) | _, _ => none)
      | _, _ => none, xs.length + 1⟩, ?_, ?_, fun M' hk i => ?_⟩
  · unfold yZip
    rw [hf]
    show (g ζ M1).bind _ = _
    rw [hg]
    show (match hSeq M2 (.ref m), hSeq M2 (.ref n) with
      | some xs, some _ => R.ok (Yd.mk (fun i M => match hSeq M (.ref m), hSeq M (.ref n) with
        | some xs, some ys => some (match xs[i]?, ys[i]? with | some x, some y => some (.tup [x, y]) | _, _ => none)
        | _, _ => none) (xs.length + 1)) M2
      | _, _ => .no) = _
    rw [hx, hy]
  · show (List.zipWith _ xs ys).length < xs.length + 1
    rw [List.length_zipWith]
    omega
  · dsimp only
    rw [hk.1, hk.2]
    dsimp only
    rw [List.getElem?_zipWith]
    cases xs[i]? with
    | none => rfl
    | some x =>
      cases ys[i]? <;> rfl
end
end Mi
end
section
set_option maxRecDepth 100000
set_option maxHeartbeats 4000000
set_option autoImplicit false
namespace Wk
open PySem PySem.Spec L2 Mi TL
def num (i : Int) : Str := toString i
def sp : Str := " "
def nl : Str := "\n"
theorem tl_sp : tl sp = 32 :: [] := by decide +kernel
theorem tl_nl : tl nl = 10 :: [] := by decide +kernel
/-- the words of texts -/
def WD : List Str := ["manuals", "chain", "octave", "coupler", "stop", "all", "pressed", num (-2), num (-1), num 0, num 1, num 2, num 3]
theorem wd_ok : ∀ w ∈ WD, SeqAt.shaped (.str w) = true ∧ 32 ∉ tl w ∧ 10 ∉ tl w ∧ (tl w).length ≤ 7 ∧ tl w ≠ [] := by decide +kernel
theorem wd_str : ∀ w ∈ WD, PyData.strOk w = true := by decide +kernel
theorem tl_e : tl (Str.empty) = [] := rfl
theorem num_wd {i : Int} (h : -2 ≤ i ∧ i ≤ 3) : num i ∈ WD := by
  have : i = -2 ∨ i = -1 ∨ i = 0 ∨ i = 1 ∨ i = 2 ∨ i = 3 := by omega
  rcases this with rfl | rfl | rfl | rfl | rfl | rfl <;> simp [WD]
theorem num_int {i : Int} (h : -2 ≤ i ∧ i ≤ 3) : PySem.intText? (num i) = some i ∧ (num i).length ≤ 640 := by
  have : i = -2 ∨ i = -1 ∨ i = 0 ∨ i = 1 ∨ i = 2 ∨ i = 3 := by omega
  rcases this with rfl | rfl | rfl | rfl | rfl | rfl <;> decide +kernel
theorem num_inj {i j : Int} (hi : -2 ≤ i ∧ i ≤ 3) (hj : -2 ≤ j ∧ j ≤ 3) (h : num i = num j) : i = j := by
  have h1 := (num_int hi).1
  rw [h, (num_int hj).1] at h1
  exact (Option.some.inj h1).symm
theorem num_ok {i : Int} (h : -2 ≤ i ∧ i ≤ 3) : numOk i = true := by
  have : i = -2 ∨ i = -1 ∨ i = 0 ∨ i = 1 ∨ i = 2 ∨ i = 3 := by omega
  rcases this with rfl | rfl | rfl | rfl | rfl | rfl <;> decide +kernel
/-- in, of words -/
theorem eqv_str (x y : Str) : PyData.eqv (.str x) (.str y) = decide (x = y) := by
  by_cases h : x = y <;> simp [PyData.eqv, h]
theorem shL {ys : List Str} (h : ∀ y ∈ ys, y ∈ WD) : SeqAt.shaped (.list (ys.map PyData.str)) = true ∧ SeqAt.shaped (.tuple (ys.map PyData.str)) = true := by
  have key : PyData.canLayAll0 (ys.map PyData.str) = true ∧ PyData.depthAll (ys.map PyData.str) ≤ 3 := by
    induction ys with
    | nil => simp [PyData.canLayAll0, PyData.depthAll]
    | cons y ys ih =>
      obtain ⟨h1, h2⟩ := ih fun z hz => h z (List.mem_cons_of_mem _ hz)
      have e1 : (PyData.str y).depth = 0 ∨ (PyData.str y).depth = 1 := by simp [PyData.depth]
      refine ⟨by simp [PyData.canLayAll0, PyData.canLay0, h1, wd_str y (h y List.mem_cons_self)], ?_⟩
      rw [List.map_cons]
      unfold PyData.depthAll
      omega
  unfold SeqAt.shaped
  simp [PyData.canLay0, PyData.depth, key.1]
  have := key.2
  omega
theorem tos_str {M : Hs} (ys : List Str) (n : Nat) : mapO (toPD M (n + 1)) (ys.map D.str) = some (ys.map PyData.str) := by
  induction ys with
  | nil => rfl
  | cons y ys ih =>
    rw [List.map_cons, List.map_cons]
    unfold mapO
    rw [ih]
    rfl
theorem any_str (x : Str) (ys : List Str) : ((ys.map PyData.str).any fun z => PyData.eqv z (.str x)) = decide (x ∈ ys) := by
  induction ys with
  | nil => rfl
  | cons y ys ih =>
    rw [List.map_cons, List.any_cons, ih, eqv_str]
    by_cases h1 : y = x
    · simp [h1]
    · have h2 : ¬ x = y := fun e => h1 e.symm
      simp [h1, h2]
theorem g_inW {k : Bool → Bool} {M : Hs} {x : Str} {d : D} {ys : List Str} (hx : x ∈ WD) (hy : ∀ y ∈ ys, y ∈ WD) (hd : (∃ n, d = .ref n ∧ M[n]? = some (.lst (ys.map D.str))) ∨ d = .tup (ys.map D.str)) : gInA k (.str x) d M = some (.bl (k (decide (x ∈ ys))), M) := by
  have hs := (wd_ok x hx).1
  rcases hd with ⟨n, rfl, h⟩ | rfl
  · have e0 : hDct M n = none := by unfold hDct; rw [h]
    unfold gInA
    dsimp only
    rw [e0]
    dsimp only
    unfold gInB
    have e : deep = 11 + 1 := rfl
    have e2 : toPD M deep (.ref n) = some (.list (ys.map PyData.str)) := by rw [e, pd_ref M 11 n _ h, tos_str ys 10]
    have e1 : toPD M deep (.str x) = some (.str x) := rfl
    rw [e1, e2]
    dsimp only
    rw [hs, (shL hy).1, any_str]
    rfl
  · unfold gInA
    dsimp only
    unfold gInB
    have e1 : toPD M deep (.str x) = some (.str x) := rfl
    have e2 : toPD M deep (.tup (ys.map D.str)) = some (.tuple (ys.map PyData.str)) := by
      show (match mapO (toPD M 11) (ys.map D.str) with | some ps => some (PyData.tuple ps) | none => none) = _
      rw [tos_str ys 10]
    rw [e1, e2]
    dsimp only
    rw [hs, (shL hy).2, any_str]
    rfl

theorem join_snocS (y : Str) : ∀ (ps : List (List Nat)) (q : List Nat), ps ≠ [] → joinL (tl y) (ps ++ [q]) = joinL (tl y) ps ++ (tl y ++ q)
  | [], _, h => absurd rfl h
  | [p], q, _ => rfl
  | p :: p2 :: r, q, _ => by
    have ih := join_snocS y (p2 :: r) q (by simp)
    show p ++ (tl y ++ joinL (tl y) (p2 :: r ++ [q])) = p ++ (tl y ++ joinL (tl y) (p2 :: r)) ++ (tl y ++ q)
    rw [ih]
    simp [List.append_assoc]
theorem join_endS (y : Str) : ∀ (ps : List (List Nat)) (q w : List Nat), joinL (tl y) (ps ++ [q]) ++ w = joinL (tl y) (ps ++ [q ++ w])
  | [], q, w => rfl
  | p :: r, q, w => by
    rw [join_snocS' y (p :: r) q (by simp), join_snocS' y (p :: r) (q ++ w) (by simp)]
    simp [List.append_assoc]
where
  join_snocS' (y : Str) (ps : List (List Nat)) (q : List Nat) (h : ps ≠ []) := join_snocS y ps q h
theorem jn (y : Str) (ps : List Str) : tl (Txt.join y ps) = joinL (tl y) (ps.map tl) := by rw [join_eq, tl_join]
/-- n blanks -/
theorem fold_sp : ∀ (n : Nat) (acc : Array Nat), ((List.replicate n sp.cps).foldl (· ++ ·) acc).toList = acc.toList ++ List.replicate n 32
  | 0, acc => by simp
  | n + 1, acc => by
    rw [List.replicate_succ, List.foldl_cons, fold_sp n, Array.toList_append, show sp.cps.toList = [32] from tl_sp, List.append_assoc]
    rfl
theorem tl_mul (n : Nat) : tl (Txt.mul sp (n : Int)) = List.replicate n 32 := by
  unfold Txt.mul
  by_cases h0 : (n : Int) < 1
  · have : n = 0 := by omega
    subst this
    rfl
  · rw [if_neg h0]
    split
    · rename_i h1
      have hl : sp.length = 1 := by decide +kernel
      rw [hl] at h1
      have : n = 1 := by
        simp at h1
        omega
      subst this
      exact tl_sp
    · show ((List.replicate (n : Int).toNat sp.cps).foldl (· ++ ·) #[]).toList = _
      rw [fold_sp, Int.toNat_natCast]
      rfl
/-- a line put loosely: it is the words joined, with empty ones between -/
structure Lo (x : Str) (ws : List Str) : Prop where
  p : ∃ qs : List Str, tl x = joinL [32] ((qs ++ [Str.empty]).map tl) ∧ (∀ q ∈ qs, q = Str.empty ∨ q ∈ WD) ∧ (qs.filter fun q => decide (q ≠ Str.empty)) = ws
theorem Lo.blank {x : Str} {ws : List Str} (h : Lo x ws) {y : Str} (hy : tl y = tl x ++ [32]) : Lo y ws := by
  obtain ⟨qs, h1, h2, h3⟩ := h.p
  refine ⟨qs ++ [Str.empty], ?_, fun q hq => ?_, ?_⟩
  · rw [hy, h1, List.map_append (l₁ := qs ++ [Str.empty])]
    have := join_snocS sp ((qs ++ [Str.empty]).map tl) [] (by simp)
    rw [tl_sp] at this
    show _ = joinL [32] ((qs ++ [Str.empty]).map tl ++ [[]])
    rw [this]
    rfl
  · rcases List.mem_append.mp hq with hq | hq
    · exact h2 q hq
    · exact .inl (List.mem_singleton.mp hq)
  · rw [List.filter_append, h3]
    simp
theorem Lo.blanks {ws : List Str} : ∀ (n : Nat) {x y : Str}, Lo x ws → tl y = tl x ++ List.replicate n 32 → Lo y ws
  | 0, x, y, h, hy => by
    have : y = x := ext_tl (by rw [hy]; simp)
    rw [this]
    exact h
  | n + 1, x, y, h, hy => by
    have h2 : Lo ⟨(tl x ++ List.replicate n 32).toArray⟩ ws := Lo.blanks n h (tl_mk _)
    refine h2.blank ?_
    rw [hy, tl_mk, List.replicate_succ', List.append_assoc]
theorem Lo.word {x : Str} {ws : List Str} (h : Lo x ws) {w y : Str} (hw : w ∈ WD) (hy : tl y = tl x ++ tl w ++ [32]) : Lo y (ws ++ [w]) := by
  obtain ⟨qs, h1, h2, h3⟩ := h.p
  have hne : w ≠ Str.empty := fun e => (wd_ok w hw).2.2.2.2 (by rw [e]; rfl)
  refine ⟨qs ++ [w], ?_, fun q hq => ?_, ?_⟩
  · rw [hy, h1, List.map_append, List.map_append (l₁ := qs ++ [w]), List.map_append]
    have e1 := join_endS sp (qs.map tl) [] (tl w)
    have e2 := join_snocS sp (qs.map tl ++ [tl w]) [] (by simp)
    rw [tl_sp] at e1 e2
    show joinL [32] (qs.map tl ++ [[]]) ++ tl w ++ [32] = joinL [32] (qs.map tl ++ [tl w] ++ [[]])
    rw [e1, e2]
    rfl
  · rcases List.mem_append.mp hq with hq | hq
    · exact h2 q hq
    · exact .inr (by rw [List.mem_singleton.mp hq]; exact hw)
  · rw [List.filter_append, h3]
    simp [hne]
theorem Lo.zero : Lo Str.empty [] := ⟨[], rfl, fun _ h => (by cases h), rfl⟩
/-- what is split, without the empty ones -/
theorem Lo.split {x : Str} {ws : List Str} (h : Lo x ws) : ((Txt.split x sp).filter fun q => decide (q ≠ Str.empty)) = ws ∧ 10 ∉ tl x := by
  obtain ⟨qs, h1, h2, h3⟩ := h.p
  have ex : x = Txt.join sp (qs ++ [Str.empty]) := ext_tl (by rw [h1, jn, tl_sp])
  have hp : ∀ p ∈ qs ++ [Str.empty], p = Str.empty ∨ p ∈ WD := fun p hp => by
    rcases List.mem_append.mp hp with hp | hp
    · exact h2 p hp
    · exact .inl (List.mem_singleton.mp hp)
  constructor
  · rw [ex, split_join tl_sp (by decide +kernel) (by simp) fun p hp' => ?_, List.filter_append, h3]
    · simp
    · rcases hp p hp' with rfl | hw
      · simp [tl_e]
      · exact (wd_ok p hw).2.1
  · rw [h1]
    have key : ∀ ps : List (List Nat), (∀ p ∈ ps, 10 ∉ p) → 10 ∉ joinL [32] ps := by
      intro ps
      induction ps with
      | nil => intro _; simp [joinL]
      | cons p ps ih =>
        intro hps
        cases ps with
        | nil => exact hps p List.mem_cons_self
        | cons p2 r =>
          show 10 ∉ p ++ ([32] ++ joinL [32] (p2 :: r))
          have h1 := hps p List.mem_cons_self
          have h2 := ih fun q hq => hps q (List.mem_cons_of_mem _ hq)
          simp [h1, h2]
    refine key _ fun p hp' => ?_
    obtain ⟨q, hq, rfl⟩ := List.mem_map.mp hp'
    rcases hp q hq with rfl | hw
    · simp [tl_e]
    · exact (wd_ok q hw).2.2.1
/-- a line put tightly -/
theorem tight {ws : List Str} (hne : ws ≠ []) (hw : ∀ w ∈ ws, w ∈ WD) : Txt.split (Txt.join sp ws) sp = ws ∧ ((Txt.split (Txt.join sp ws) sp).filter fun q => decide (q ≠ Str.empty)) = ws ∧ 10 ∉ tl (Txt.join sp ws) := by
  have h1 := split_join tl_sp (by decide +kernel) hne fun p hp => (wd_ok p (hw p hp)).2.1
  refine ⟨h1, ?_, ?_⟩
  · rw [h1]
    refine List.filter_eq_self.mpr fun w hw' => decide_eq_true fun e => ?_
    exact (wd_ok w (hw w hw')).2.2.2.2 (by rw [e]; rfl)
  · rw [jn, tl_sp]
    have key : ∀ ps : List (List Nat), (∀ p ∈ ps, 10 ∉ p) → 10 ∉ joinL [32] ps := by
      intro ps
      induction ps with
      | nil => intro _; simp [joinL]
      | cons p ps ih =>
        intro hps
        cases ps with
        | nil => exact hps p List.mem_cons_self
        | cons p2 r =>
          show 10 ∉ p ++ ([32] ++ joinL [32] (p2 :: r))
          have h1 := hps p List.mem_cons_self
          have h2 := ih fun q hq => hps q (List.mem_cons_of_mem _ hq)
          simp [h1, h2]
    refine key _ fun p hp' => ?_
    obtain ⟨q, hq, rfl⟩ := List.mem_map.mp hp'
    exact (wd_ok q (hw q hq)).2.2.1
end Wk
end
section
set_option maxRecDepth 1000000
set_option maxHeartbeats 4000000
set_option autoImplicit false
namespace Wk
open PySem PySem.Spec PyProof.Rows L2 Mi
def top (i : Nat) : Stmt := PySem.Challenge.pw_couplerreach_k10_organs_written.main.body.getD i (.Pass ⟨0, 0, 0, 0⟩)
def inCls (st : Stmt) (j : Nat) : Stmt := match st with
  | .ClassDef (body := b) .. => b.getD j (.Pass ⟨0, 0, 0, 0⟩)
  | _ => .Pass ⟨0, 0, 0, 0⟩
def clsN : List Str := ["Organ", "Console", "Line", "OrganError", "InvalidManuals", "InvalidCoupler", "InvalidStop", "InvalidChain", "InvalidOctave", "InvalidTop", "InvalidKey", "InvalidPipe", "InvalidRank", "InvalidManual", "NotComparable", "InvalidMove", "UnknownKnob", "UnknownIndex", "InvalidText"]
def cN (n : Nat) : List Str := ([[], [], ["number", "parts", "place"], [], [], ["index"], ["index"], [], [], [], [], [], [], [], [], [], [], [], ["word", "line"]] : List (List Str)).getD n []
def GmK (K : PySem.W.Frag) : Gm := ⟨fun n => He.ga K (clsN.getD n ""), cN⟩
/-- _law_mix: _law_script, _law_seed, _law_state, _law_cell -/
def f__law_mix : MF := fnS 2 4 (sSeq (sSet 2 (xVar 1))
  (sSeq (sFor (ySeq (xVar 0)) (.n 3) (sSet 2 (x2 gMod (xB gInt (aCons (x2 gAdd (x2 gAdd (x2 gMulA (xVar 2) (xC (.int 48271))) (x2 gMod (xB gInt (aCons (xVar 3) (aNil))) (xC (.int 2147483629)))) (xC (.int 1))) (aNil))) (xC (.int 2147483647)))))
  (sRet (xLst (aCons (xVar 2) (aCons (xB gListA (aCons (xVar 0) (aNil))) (aCons (xC (.int 0)) (aCons (xC (.int 14)) (aNil)))))))))
/-- _law_next: _law_h, _law_bound, _law_cell -/
def f__law_next : MF := fnS 2 3 (sSeq (sSet 2 (x2 gIxA (x2 gAdd (x2 gIxA (xVar 0) (xC (.int 1))) (xLst (aCons (xC (.int 0)) (aNil)))) (x2 gMod (xB gInt (aCons (x2 gIxA (xVar 0) (xC (.int 2))) (aNil))) (xB gMax2 (aCons (xC (.int 1)) (aCons (xB gLen (aCons (x2 gIxA (xVar 0) (xC (.int 1))) (aNil))) (aNil)))))))
  (sSeq (sIf (tB1 (x2 gGe (xVar 2) (x2 gPow (xC (.int 10)) (xC (.int 18))))) (sSeq (sPut gPutA (x2 gIxA (xVar 0) (xC (.int 1))) (x2 gMod (xB gInt (aCons (x2 gIxA (xVar 0) (xC (.int 2))) (aNil))) (xB gLen (aCons (x2 gIxA (xVar 0) (xC (.int 1))) (aNil)))) (x2 gDiv (xVar 2) (xVar 1)))
  (sRet (x2 gMod (xB gInt (aCons (xVar 2) (aNil))) (xVar 1)))) (sPass))
  (sSeq (sPut gPutA (xVar 0) (xC (.int 0)) (x2 gMod (xB gInt (aCons (x2 gAdd (x2 gAdd (x2 gMulA (x2 gIxA (xVar 0) (xC (.int 0))) (xC (.int 48271))) (x2 gMulA (xVar 2) (xC (.int 69621)))) (xC (.int 11))) (aNil))) (xC (.int 2147483647))))
  (sSeq (sPut gPutA (xVar 0) (xC (.int 2)) (x2 gAdd (x2 gIxA (xVar 0) (xC (.int 2))) (xC (.int 1))))
  (sRet (x2 gMod (xB gInt (aCons (x2 gDiv (x2 gIxA (xVar 0) (xC (.int 0))) (xC (.int 7))) (aNil))) (xVar 1)))))))
/-- _law_some: _law_h, _law_things, _law_many, _law_left, _law_found, _law_k -/
def f__law_some : MF := fnS 3 6 (sSeq (sSet 3 (xB gListA (aCons (xVar 1) (aNil))))
  (sSeq (sSet 4 (xLst (aNil)))
  (sSeq (sFor (yRg1 (xVar 2)) (.n 5) (sIf (tB1 (x2 gNe (xVar 3) (xLst (aNil)))) (sExpr (xMeth isLst gAppend (xVar 4) (aCons (xMeth isLst gPopAt (xVar 3) (aCons (xCall 2 f__law_next (aCons (xVar 0) (aCons (xB gLen (aCons (xVar 3) (aNil))) (aNil)))) (aNil))) (aNil)))) (sPass)))
  (sRet (xB gTuple (aCons (xVar 4) (aNil)))))))
/-- _law_couplers: _law_many, _law_found, _law_first, _law_second, _law_shift -/
def f__law_couplers : MF := fnS 1 5 (sSeq (sSet 1 (xLst (aNil)))
  (sSeq (sFor (yRg1 (xVar 0)) (.n 2) (sFor (yRg1 (xVar 0)) (.n 3) (sSet 1 (x2 gAdd (xVar 1) (xLc (yRg2 (xNeg (xC (.int 2))) (xC (.int 3))) [4] (.n 4) (tOr2 (tB1 (x2 gNe (xVar 4) (xC (.int 0)))) (tB1 (x2 gNe (xVar 2) (xVar 3)))) (xTup (aCons (xVar 2) (aCons (xVar 3) (aCons (xVar 4) (aNil))))))))))
  (sRet (xVar 1))))
/-- _law_stops: _law_many, _law_ranks, _law_found, _law_manual, _law_rank, _law_shift -/
def f__law_stops : MF := fnS 2 6 (sSeq (sSet 2 (xLst (aNil)))
  (sSeq (sFor (yRg1 (xVar 0)) (.n 3) (sFor (yRg1 (xVar 1)) (.n 4) (sSet 2 (x2 gAdd (xVar 2) (xLc (yRg2 (xNeg (xC (.int 2))) (xC (.int 3))) [5] (.n 5) (tTrue) (xTup (aCons (xVar 3) (aCons (xVar 4) (aCons (xVar 5) (aNil))))))))))
  (sRet (xVar 2))))
/-- _law_organ: _law_h, _law_links, _law_stops_here, _law_ranks, _law_many, _law_chain, _law_octave, _law_couplers_here -/
def f__law_organ : MF := fnS 4 8 (sSeq (sSet 4 (x2 gAdd (xC (.int 1)) (xB gInt (aCons (x2 gGt (xCall 2 f__law_next (aCons (xVar 0) (aCons (xC (.int 3)) (aNil)))) (xC (.int 0))) (aNil)))))
  (sSeq (sSet 5 (x2 gIxA (xLst (aCons (xC (.str "all")) (aCons (xC (.str "all")) (aCons (xC (.str "pressed")) (aNil))))) (xCall 2 f__law_next (aCons (xVar 0) (aCons (xC (.int 3)) (aNil))))))
  (sSeq (sSet 6 (x2 gIxA (xLst (aCons (xC (.int 0)) (aCons (xC (.int 0)) (aCons (xC (.int 2)) (aCons (xC (.int 3)) (aNil)))))) (xCall 2 f__law_next (aCons (xVar 0) (aCons (xC (.int 4)) (aNil))))))
  (sSeq (sSet 7 (xCall 3 f__law_some (aCons (xVar 0) (aCons (xCall 1 f__law_couplers (aCons (xVar 4) (aNil))) (aCons (xCall 2 f__law_next (aCons (xVar 0) (aCons (x2 gAdd (xVar 1) (xC (.int 1))) (aNil)))) (aNil))))))
  (sRet (xLst (aCons (xVar 4) (aCons (xVar 7) (aCons (xCall 3 f__law_some (aCons (xVar 0) (aCons (xCall 2 f__law_stops (aCons (xVar 4) (aCons (xVar 3) (aNil)))) (aCons (x2 gAdd (xC (.int 1)) (xCall 2 f__law_next (aCons (xVar 0) (aCons (xVar 2) (aNil))))) (aNil))))) (aCons (xVar 5) (aCons (xVar 6) (aNil))))))))))))
/-- is_integer: value, least, most -/
def f_is_integer : MF := fnS 3 3 (sRet (xAnd (xIs "int" (xVar 0)) (xAnd (xNot (xIs "bool" (xVar 0))) (x3 gLe gLe (xVar 1) (xVar 0) (xVar 2)))))
/-- is_coupler: value, many, own -/
def f_is_coupler : MF := fnS 2 3 (sSeq (sIf (tOr2 (tNot1 (tB1 (xIs "tuple" (xVar 0)))) (tOr2 (tB1 (x2 gNe (xB gLen (aCons (xVar 0) (aNil))) (xC (.int 3)))) (tNot1 (tB1 (xB gAll (aCons (xLc (ySeq (xCut (xVar 0) (oNone) (oSome (xC (.int 2))))) [2] (.n 2) (tTrue) (xCall 3 f_is_integer (aCons (xVar 2) (aCons (xC (.int 0)) (aCons (x2 gSub (xVar 1) (xC (.int 1))) (aNil)))))) (aNil))))))) (sRet (xC (.bl false))) (sPass))
  (sRet (xAnd (xCall 3 f_is_integer (aCons (x2 gIxA (xVar 0) (xC (.int 2))) (aCons (xNeg (xC (.int 2))) (aCons (xC (.int 2)) (aNil))))) (xOr (x2 gNe (x2 gIxA (xVar 0) (xC (.int 0))) (x2 gIxA (xVar 0) (xC (.int 1)))) (x2 gNe (x2 gIxA (xVar 0) (xC (.int 2))) (xC (.int 0)))))))
/-- look_at_couplers: value, many, index, one -/
def f_look_at_couplers : MF := fnS 2 4 (sSeq (sIf (tOr2 (tNot1 (tB1 (xIs "tuple" (xVar 0)))) (tB1 (x2 gGt (xB gLen (aCons (xVar 0) (aNil))) (xC (.int 5))))) (sRaise 5 1 (aCons (xC .non) (aNil))) (sPass))
  (sFor (yEnum (xVar 0)) (.t [.n 2, .n 3]) (sIf (tOr2 (tNot1 (tB1 (xCall 2 f_is_coupler (aCons (xVar 3) (aCons (xVar 1) (aNil)))))) (tB1 (x2 (gInA id) (xVar 3) (xCut (xVar 0) (oNone) (oSome (xVar 2)))))) (sRaise 5 1 (aCons (xVar 2) (aNil))) (sPass))))
/-- is_stop: value, many -/
def f_is_stop : MF := fnS 2 2 (sSeq (sIf (tOr2 (tNot1 (tB1 (xIs "tuple" (xVar 0)))) (tOr2 (tB1 (x2 gNe (xB gLen (aCons (xVar 0) (aNil))) (xC (.int 3)))) (tNot1 (tB1 (xCall 3 f_is_integer (aCons (x2 gIxA (xVar 0) (xC (.int 0))) (aCons (xC (.int 0)) (aCons (x2 gSub (xVar 1) (xC (.int 1))) (aNil))))))))) (sRet (xC (.bl false))) (sPass))
  (sRet (xAnd (xCall 3 f_is_integer (aCons (x2 gIxA (xVar 0) (xC (.int 1))) (aCons (xC (.int 0)) (aCons (xC (.int 2)) (aNil))))) (xCall 3 f_is_integer (aCons (x2 gIxA (xVar 0) (xC (.int 2))) (aCons (xNeg (xC (.int 2))) (aCons (xC (.int 2)) (aNil))))))))
/-- look_at_stops: value, many, index, one -/
def f_look_at_stops : MF := fnS 2 4 (sSeq (sIf (tOr2 (tNot1 (tB1 (xIs "tuple" (xVar 0)))) (tNot1 (tB1 (x3 gLe gLe (xC (.int 1)) (xB gLen (aCons (xVar 0) (aNil))) (xC (.int 4)))))) (sRaise 6 1 (aCons (xC .non) (aNil))) (sPass))
  (sFor (yEnum (xVar 0)) (.t [.n 2, .n 3]) (sIf (tOr2 (tNot1 (tB1 (xCall 2 f_is_stop (aCons (xVar 3) (aCons (xVar 1) (aNil)))))) (tB1 (x2 (gInA id) (xVar 3) (xCut (xVar 0) (oNone) (oSome (xVar 2)))))) (sRaise 6 1 (aCons (xVar 2) (aNil))) (sPass))))
/-- Organ.__init__: self, manuals, couplers, stops, chain, octave -/
def f_Organ_init : MF := fnS 6 6 (sSeq (sIf (tNot1 (tB1 (xCall 3 f_is_integer (aCons (xVar 1) (aCons (xC (.int 1)) (aCons (xC (.int 2)) (aNil))))))) (sRaise0 4) (sPass))
  (sSeq (sExpr (xCall 2 f_look_at_couplers (aCons (xVar 2) (aCons (xVar 1) (aNil)))))
  (sSeq (sExpr (xCall 2 f_look_at_stops (aCons (xVar 3) (aCons (xVar 1) (aNil)))))
  (sSeq (sIf (tOr2 (tNot1 (tB1 (xIs "str" (xVar 4)))) (tB1 (x2 (gInA not) (xVar 4) (xC (.tup [(.str "all"), (.str "pressed")]))))) (sRaise0 7) (sPass))
  (sSeq (sIf (tOr2 (tNot1 (tB1 (xCall 3 f_is_integer (aCons (xVar 5) (aCons (xC (.int 0)) (aCons (xC (.int 3)) (aNil))))))) (tB1 (x2 (gInA not) (xVar 5) (xC (.tup [(.int 0), (.int 2), (.int 3)]))))) (sRaise0 8) (sPass))
  (sSeq (sFld 0 2 (xVar 0) (xVar 1))
  (sSeq (sFld 0 1 (xVar 0) (xVar 2))
  (sSeq (sFld 0 4 (xVar 0) (xVar 3))
  (sSeq (sFld 0 3 (xVar 0) (xVar 4))
  (sFld 0 0 (xVar 0) (xVar 5)))))))))))
/-- _law_built: _law_t -/
def f__law_built : MF := fnS 1 1 (sRet (xMake (.slo 0 []) 6 f_Organ_init (aCons (x2 gIxA (xVar 0) (xC (.int 0))) (aCons (x2 gIxA (xVar 0) (xC (.int 1))) (aCons (x2 gIxA (xVar 0) (xC (.int 2))) (aCons (x2 gIxA (xVar 0) (xC (.int 3))) (aCons (x2 gIxA (xVar 0) (xC (.int 4))) (aNil))))))))
/-- write_organ: organ, rows, one, part -/
def f_write_organ : MF := fnS 1 4 (sSeq (sSet 1 (xLst (aCons (xJs [xC (.str "manuals "), xFmt (xFld 0 2 (xVar 0))] Str.empty) (aCons (xJs [xC (.str "chain "), xFmt (xFld 0 3 (xVar 0))] Str.empty) (aCons (xJs [xC (.str "octave "), xFmt (xFld 0 0 (xVar 0))] Str.empty) (aNil))))))
  (sSeq (sExpr (xMeth isLst gExtend (xVar 1) (aCons (xLc (ySeq (xFld 0 1 (xVar 0))) [2] (.n 2) (tTrue) (xJoin (xC (.str " ")) (xLst (aCons (xC (.str "coupler")) (aStar (xLc (ySeq (xVar 2)) [3] (.n 3) (tTrue) (xB gStr (aCons (xVar 3) (aNil)))) (aNil)))))) (aNil))))
  (sSeq (sExpr (xMeth isLst gExtend (xVar 1) (aCons (xLc (ySeq (xFld 0 4 (xVar 0))) [2] (.n 2) (tTrue) (xJoin (xC (.str " ")) (xLst (aCons (xC (.str "stop")) (aStar (xLc (ySeq (xVar 2)) [3] (.n 3) (tTrue) (xB gStr (aCons (xVar 3) (aNil)))) (aNil)))))) (aNil))))
  (sRet (xJoin (xC (.str "\n")) (xVar 1))))))
/-- Line.__init__: self, text, number, word -/
def f_Line_init : MF := fnS 3 4 (sSeq (sFldI 2 0 (xVar 0) (xVar 2))
  (sSeq (sFldI 2 1 (xVar 0) (xLc (ySeq (xSplit (xVar 1) (xC (.str " ")))) [3] (.n 3) (tB1 (x2 gNe (xVar 3) (xC (.str "")))) (xVar 3)))
  (sFldI 2 2 (xVar 0) (xC (.int 0)))))
/-- Line.refuse: self -/
def f_Line_refuse : MF := fnS 1 1 (sRaise 18 2 (aCons (xFldI 2 0 (xVar 0)) (aCons (x2 gAdd (xFldI 2 2 (xVar 0)) (xC (.int 1))) (aNil))))
/-- Line.take_one: self, words -/
def f_Line_take_one : MF := fnS 2 2 (sSeq (sIf (tOr2 (tB1 (x2 gEq (xFldI 2 2 (xVar 0)) (xB gLen (aCons (xFldI 2 1 (xVar 0)) (aNil))))) (tB1 (x2 (gInA not) (x2 gIxA (xFldI 2 1 (xVar 0)) (xFldI 2 2 (xVar 0))) (xVar 1)))) (sExpr (xMetI 2 1 f_Line_refuse (xVar 0) aNil)) (sPass))
  (sSeq (sAugI 2 2 (xVar 0) (1))
  (sRet (x2 gIxA (xFldI 2 1 (xVar 0)) (x2 gSub (xFldI 2 2 (xVar 0)) (xC (.int 1)))))))
/-- Line.finish: self -/
def f_Line_finish : MF := fnS 1 1 (sIf (tB1 (x2 gLt (xFldI 2 2 (xVar 0)) (xB gLen (aCons (xFldI 2 1 (xVar 0)) (aNil))))) (sExpr (xMetI 2 1 f_Line_refuse (xVar 0) aNil)) (sPass))
/-- head_in: line, word, words, found -/
def f_head_in : MF := fnS 3 4 (sSeq (sExpr (xMetI 2 2 f_Line_take_one (xVar 0) (aCons (xTup (aCons (xVar 1) (aNil))) (aNil))))
  (sSeq (sSet 3 (xMetI 2 2 f_Line_take_one (xVar 0) (aCons (xVar 2) (aNil))))
  (sSeq (sExpr (xMetI 2 1 f_Line_finish (xVar 0) aNil))
  (sRet (xVar 3)))))
/-- kinds_of: links, ranks, found -/
def f_kinds_of : MF := fnS 2 3 (sSeq (sSet 2 (xLst (aNil)))
  (sSeq (sIf (tAnd2 (tB1 (x2 gEq (xVar 1) (xLst (aNil)))) (tB1 (x2 gLt (xB gLen (aCons (xVar 0) (aNil))) (xC (.int 5))))) (sExpr (xMeth isLst gAppend (xVar 2) (aCons (xC (.str "coupler")) (aNil)))) (sPass))
  (sSeq (sIf (tB1 (x2 gLt (xB gLen (aCons (xVar 1) (aNil))) (xC (.int 4)))) (sExpr (xMeth isLst gAppend (xVar 2) (aCons (xC (.str "stop")) (aNil)))) (sPass))
  (sRet (xVar 2)))))
/-- Line.take_number: self, numbers, number -/
def f_Line_take_number : MF := fnS 2 3 (sRet (xB gIntS (aCons (xMetI 2 2 f_Line_take_one (xVar 0) (aCons (xLc (ySeq (xVar 1)) [2] (.n 2) (tTrue) (xB gStr (aCons (xVar 2) (aNil)))) (aNil))) (aNil))))
/-- coupler_in: line, many, known, first, second, some, found, shift -/
def f_coupler_in : MF := fnS 3 8 (sSeq (sAsg (xTup (aCons (xMetI 2 2 f_Line_take_number (xVar 0) (aCons (xB gListRg (aCons (xVar 1) aNil)) (aNil))) (aCons (xMetI 2 2 f_Line_take_number (xVar 0) (aCons (xB gListRg (aCons (xVar 1) aNil)) (aNil))) (aNil)))) (.t [.n 3, .n 4]))
  (sSeq (sSet 5 (xLc (yRg2 (xNeg (xC (.int 2))) (x2 gAdd (xC (.int 2)) (xC (.int 1)))) [7] (.n 7) (tB1 (x2 (gInA not) (xTup (aCons (xVar 3) (aCons (xVar 4) (aCons (xVar 7) (aNil))))) (xVar 2))) (xVar 7)))
  (sSeq (sIf (tB1 (x2 gEq (xVar 3) (xVar 4))) (sSet 5 (xLc (ySeq (xVar 5)) [7] (.n 7) (tB1 (x2 gNe (xVar 7) (xC (.int 0)))) (xVar 7))) (sPass))
  (sSeq (sSet 6 (xTup (aCons (xVar 3) (aCons (xVar 4) (aCons (xMetI 2 2 f_Line_take_number (xVar 0) (aCons (xVar 5) (aNil))) (aNil))))))
  (sSeq (sExpr (xMetI 2 1 f_Line_finish (xVar 0) aNil))
  (sRet (xVar 6)))))))
/-- stop_in: line, many, known, manual, rank, some, found, shift -/
def f_stop_in : MF := fnS 3 8 (sSeq (sAsg (xTup (aCons (xMetI 2 2 f_Line_take_number (xVar 0) (aCons (xB gListRg (aCons (xVar 1) aNil)) (aNil))) (aCons (xMetI 2 2 f_Line_take_number (xVar 0) (aCons (xB gListRg (aCons (x2 gAdd (xC (.int 2)) (xC (.int 1))) aNil)) (aNil))) (aNil)))) (.t [.n 3, .n 4]))
  (sSeq (sSet 5 (xLc (yRg2 (xNeg (xC (.int 2))) (x2 gAdd (xC (.int 2)) (xC (.int 1)))) [7] (.n 7) (tB1 (x2 (gInA not) (xTup (aCons (xVar 3) (aCons (xVar 4) (aCons (xVar 7) (aNil))))) (xVar 2))) (xVar 7)))
  (sSeq (sSet 6 (xTup (aCons (xVar 3) (aCons (xVar 4) (aCons (xMetI 2 2 f_Line_take_number (xVar 0) (aCons (xVar 5) (aNil))) (aNil))))))
  (sSeq (sExpr (xMetI 2 1 f_Line_finish (xVar 0) aNil))
  (sRet (xVar 6))))))
/-- read_organ: text, rows, lines, heads, words, line, word, some, many, links, ranks, index, row, octave -/
def f_read_organ : MF := fnS 1 14 (sSeq (sSet 1 (xSplit (xVar 0) (xC (.str "\n"))))
  (sSeq (sSet 2 (xLc (yEnum (xVar 1)) [11, 12] (.t [.n 11, .n 12]) (tTrue) (xMake (.ins 2 []) 3 f_Line_init (aCons (xVar 12) (aCons (x2 gAdd (xVar 11) (xC (.int 1))) (aNil))))))
  (sSeq (sSet 3 (xLst (aNil)))
  (sSeq (sSet 4 (xLst (aCons (xTup (aCons (xC (.str "manuals")) (aCons (xTup (aCons (xC (.str "1")) (aCons (xC (.str "2")) (aNil)))) (aNil)))) (aCons (xTup (aCons (xC (.str "chain")) (aCons (xC (.tup [(.str "all"), (.str "pressed")])) (aNil)))) (aCons (xTup (aCons (xC (.str "octave")) (aCons (xB gTuple (aCons (xLc (ySeq (xC (.tup [(.int 0), (.int 2), (.int 3)]))) [13] (.n 13) (tTrue) (xB gStr (aCons (xVar 13) (aNil)))) (aNil))) (aNil)))) (aNil))))))
  (sSeq (sFor (yZip (xVar 2) (xVar 4)) (.t [.n 5, .t [.n 6, .n 7]]) (sExpr (xMeth isLst gAppend (xVar 3) (aCons (xCall 3 f_head_in (aCons (xVar 5) (aCons (xVar 6) (aCons (xVar 7) (aNil))))) (aNil)))))
  (sSeq (sIf (tB1 (x2 gLt (xB gLen (aCons (xVar 3) (aNil))) (xC (.int 3)))) (sRaise 18 2 (aCons (x2 gAdd (xB gLen (aCons (xVar 1) (aNil))) (xC (.int 1))) (aCons (xC (.int 1)) (aNil)))) (sPass))
  (sSeq (sSet 8 (xB gIntS (aCons (x2 gIxA (xVar 3) (xC (.int 0))) (aNil))))
  (sSeq (sPar 9 10 (aCons (xLst (aNil)) (aCons (xLst (aNil)) (aNil))))
  (sSeq (sFor (ySeq (xCut (xVar 2) (oSome (xC (.int 3))) (oNone))) (.n 5) (sIf (tB1 (x2 gEq (xMetI 2 2 f_Line_take_one (xVar 5) (aCons (xCall 2 f_kinds_of (aCons (xVar 9) (aCons (xVar 10) (aNil)))) (aNil))) (xC (.str "coupler")))) (sExpr (xMeth isLst gAppend (xVar 9) (aCons (xCall 3 f_coupler_in (aCons (xVar 5) (aCons (xVar 8) (aCons (xVar 9) (aNil))))) (aNil)))) (sExpr (xMeth isLst gAppend (xVar 10) (aCons (xCall 3 f_stop_in (aCons (xVar 5) (aCons (xVar 8) (aCons (xVar 10) (aNil))))) (aNil))))))
  (sSeq (sIf (tB1 (x2 gEq (xVar 10) (xLst (aNil)))) (sRaise 18 2 (aCons (x2 gAdd (xB gLen (aCons (xVar 1) (aNil))) (xC (.int 1))) (aCons (xC (.int 1)) (aNil)))) (sPass))
  (sRet (xMake (.slo 0 []) 6 f_Organ_init (aCons (xVar 8) (aCons (xB gTuple (aCons (xVar 9) (aNil))) (aCons (xB gTuple (aCons (xVar 10) (aNil))) (aCons (x2 gIxA (xVar 3) (xC (.int 1))) (aCons (xB gIntS (aCons (x2 gIxA (xVar 3) (xC (.int 2))) (aNil))) (aNil))))))))))))))))))
/-- parts_of: organ -/
def f_parts_of : MF := fnS 1 1 (sRet (xTup (aCons (xFld 0 2 (xVar 0)) (aCons (xFld 0 1 (xVar 0)) (aCons (xFld 0 4 (xVar 0)) (aCons (xFld 0 3 (xVar 0)) (aCons (xFld 0 0 (xVar 0)) (aNil))))))))
/-- Organ.__eq__: self, other -/
def f_Organ___eq__ : MF := fnS 2 2 (sRet (xAnd (xIsC 0 (xVar 1)) (x2 gEq (xCall 1 f_parts_of (aCons (xVar 0) (aNil))) (xCall 1 f_parts_of (aCons (xVar 1) (aNil))))))
/-- _law_loose: _law_h, _law_row, _law_found, _law_word -/
def f__law_loose : MF := fnS 2 4 (sSeq (sSet 2 (x2 gMulS (xC (.str " ")) (xCall 2 f__law_next (aCons (xVar 0) (aCons (xC (.int 3)) (aNil))))))
  (sSeq (sFor (ySeq (xSplit (xVar 1) (xC (.str " ")))) (.n 3) (sSet 2 (x2 gAdd (x2 gAdd (xVar 2) (xVar 3)) (x2 gMulS (xC (.str " ")) (x2 gAdd (xC (.int 1)) (xCall 2 f__law_next (aCons (xVar 0) (aCons (xC (.int 3)) (aNil)))))))))
  (sRet (xVar 2))))
/-- law: _law_script, _law_h, _law_t, _law_organ_here, _law_rows, _law_loose_here, _law_one, _law_part, _law_row -/
def f_law : MF := fnS 1 9 (sSeq (sSet 1 (xCall 2 f__law_mix (aCons (xVar 0) (aCons (xC (.int 10)) (aNil)))))
  (sSeq (sSet 2 (xCall 4 f__law_organ (aCons (xVar 1) (aCons (xC (.int 5)) (aCons (xC (.int 4)) (aCons (xC (.int 3)) (aNil)))))))
  (sSeq (sSet 3 (xCall 1 f__law_built (aCons (xVar 2) (aNil))))
  (sSeq (sSet 4 (xLst (aCons (x2 gAdd (xC (.str "manuals ")) (xB gStr (aCons (x2 gIxA (xVar 2) (xC (.int 0))) (aNil)))) (aCons (x2 gAdd (xC (.str "chain ")) (x2 gIxA (xVar 2) (xC (.int 3)))) (aCons (x2 gAdd (xC (.str "octave ")) (xB gStr (aCons (x2 gIxA (xVar 2) (xC (.int 4))) (aNil)))) (aNil))))))
  (sSeq (sSet 4 (x2 gAdd (xVar 4) (xLc (ySeq (x2 gIxA (xVar 2) (xC (.int 1)))) [6] (.n 6) (tTrue) (xJoin (xC (.str " ")) (x2 gAdd (xLst (aCons (xC (.str "coupler")) (aNil))) (xLc (ySeq (xVar 6)) [7] (.n 7) (tTrue) (xB gStr (aCons (xVar 7) (aNil)))))))))
  (sSeq (sSet 4 (x2 gAdd (xVar 4) (xLc (ySeq (x2 gIxA (xVar 2) (xC (.int 2)))) [6] (.n 6) (tTrue) (xJoin (xC (.str " ")) (x2 gAdd (xLst (aCons (xC (.str "stop")) (aNil))) (xLc (ySeq (xVar 6)) [7] (.n 7) (tTrue) (xB gStr (aCons (xVar 7) (aNil)))))))))
  (sSeq (sIf (tOr2 (tB1 (x2 gNe (xCall 1 f_write_organ (aCons (xVar 3) (aNil))) (xJoin (xC (.str "\n")) (xVar 4)))) (tNot1 (tB1 (x2 (gEqC 0 f_Organ___eq__) (xCall 1 f_read_organ (aCons (xCall 1 f_write_organ (aCons (xVar 3) (aNil))) (aNil))) (xVar 3))))) (sRet (xC (.bl false))) (sPass))
  (sSeq (sSet 5 (xJoin (xC (.str "\n")) (xLc (ySeq (xVar 4)) [8] (.n 8) (tTrue) (xCall 2 f__law_loose (aCons (xVar 1) (aCons (xVar 8) (aNil)))))))
  (sRet (x2 (gEqC 0 f_Organ___eq__) (xCall 1 f_read_organ (aCons (xVar 5) (aNil))) (xVar 3)))))))))))
def d__law_mix : DefP := ⟨⟨("_law_mix", none), "_law_mix", "_law_mix", defArgs (top 33), defBody (top 33), defScope (top 33), [], []⟩, false⟩
def d__law_next : DefP := ⟨⟨("_law_next", none), "_law_next", "_law_next", defArgs (top 34), defBody (top 34), defScope (top 34), [], []⟩, false⟩
def d__law_some : DefP := ⟨⟨("_law_some", none), "_law_some", "_law_some", defArgs (top 35), defBody (top 35), defScope (top 35), [], []⟩, false⟩
def d__law_couplers : DefP := ⟨⟨("_law_couplers", none), "_law_couplers", "_law_couplers", defArgs (top 36), defBody (top 36), defScope (top 36), [], []⟩, false⟩
def d__law_stops : DefP := ⟨⟨("_law_stops", none), "_law_stops", "_law_stops", defArgs (top 37), defBody (top 37), defScope (top 37), [], []⟩, false⟩
def d__law_organ : DefP := ⟨⟨("_law_organ", none), "_law_organ", "_law_organ", defArgs (top 38), defBody (top 38), defScope (top 38), [], []⟩, false⟩
def d_is_integer : DefP := ⟨⟨("is_integer", none), "is_integer", "is_integer", defArgs (top 16), defBody (top 16), defScope (top 16), [], []⟩, false⟩
def d_InvalidCoupler_init : DefP := ⟨⟨("InvalidCoupler", some "__init__"), "__init__", "InvalidCoupler.__init__", defArgs (inCls (top 4) 0), defBody (inCls (top 4) 0), defScope (inCls (top 4) 0), [], []⟩, false⟩
def d_is_coupler : DefP := ⟨⟨("is_coupler", none), "is_coupler", "is_coupler", defArgs (top 17), defBody (top 17), defScope (top 17), [], []⟩, false⟩
def d_look_at_couplers : DefP := ⟨⟨("look_at_couplers", none), "look_at_couplers", "look_at_couplers", defArgs (top 19), defBody (top 19), defScope (top 19), [], []⟩, false⟩
def d_InvalidStop_init : DefP := ⟨⟨("InvalidStop", some "__init__"), "__init__", "InvalidStop.__init__", defArgs (inCls (top 5) 0), defBody (inCls (top 5) 0), defScope (inCls (top 5) 0), [], []⟩, false⟩
def d_is_stop : DefP := ⟨⟨("is_stop", none), "is_stop", "is_stop", defArgs (top 18), defBody (top 18), defScope (top 18), [], []⟩, false⟩
def d_look_at_stops : DefP := ⟨⟨("look_at_stops", none), "look_at_stops", "look_at_stops", defArgs (top 20), defBody (top 20), defScope (top 20), [], []⟩, false⟩
def d_Organ_init : DefP := ⟨⟨("Organ", some "__init__"), "__init__", "Organ.__init__", defArgs (inCls (top 21) 1), defBody (inCls (top 21) 1), defScope (inCls (top 21) 1), [], []⟩, false⟩
def d__law_built : DefP := ⟨⟨("_law_built", none), "_law_built", "_law_built", defArgs (top 39), defBody (top 39), defScope (top 39), [], []⟩, false⟩
def d_write_organ : DefP := ⟨⟨("write_organ", none), "write_organ", "write_organ", defArgs (top 25), defBody (top 25), defScope (top 25), [], []⟩, false⟩
def d_Line_init : DefP := ⟨⟨("Line", some "__init__"), "__init__", "Line.__init__", defArgs (inCls (top 26) 0), defBody (inCls (top 26) 0), defScope (inCls (top 26) 0), [], []⟩, false⟩
def d_InvalidText_init : DefP := ⟨⟨("InvalidText", some "__init__"), "__init__", "InvalidText.__init__", defArgs (inCls (top 8) 0), defBody (inCls (top 8) 0), defScope (inCls (top 8) 0), [], []⟩, false⟩
def d_Line_refuse : DefP := ⟨⟨("Line", some "refuse"), "refuse", "Line.refuse", defArgs (inCls (top 26) 1), defBody (inCls (top 26) 1), defScope (inCls (top 26) 1), [], []⟩, false⟩
def d_Line_take_one : DefP := ⟨⟨("Line", some "take_one"), "take_one", "Line.take_one", defArgs (inCls (top 26) 2), defBody (inCls (top 26) 2), defScope (inCls (top 26) 2), [], []⟩, false⟩
def d_Line_finish : DefP := ⟨⟨("Line", some "finish"), "finish", "Line.finish", defArgs (inCls (top 26) 4), defBody (inCls (top 26) 4), defScope (inCls (top 26) 4), [], []⟩, false⟩
def d_head_in : DefP := ⟨⟨("head_in", none), "head_in", "head_in", defArgs (top 27), defBody (top 27), defScope (top 27), [], []⟩, false⟩
def d_kinds_of : DefP := ⟨⟨("kinds_of", none), "kinds_of", "kinds_of", defArgs (top 30), defBody (top 30), defScope (top 30), [], []⟩, false⟩
def d_Line_take_number : DefP := ⟨⟨("Line", some "take_number"), "take_number", "Line.take_number", defArgs (inCls (top 26) 3), defBody (inCls (top 26) 3), defScope (inCls (top 26) 3), [], []⟩, false⟩
def d_coupler_in : DefP := ⟨⟨("coupler_in", none), "coupler_in", "coupler_in", defArgs (top 28), defBody (top 28), defScope (top 28), [], []⟩, false⟩
def d_stop_in : DefP := ⟨⟨("stop_in", none), "stop_in", "stop_in", defArgs (top 29), defBody (top 29), defScope (top 29), [], []⟩, false⟩
def d_read_organ : DefP := ⟨⟨("read_organ", none), "read_organ", "read_organ", defArgs (top 31), defBody (top 31), defScope (top 31), [], []⟩, false⟩
def d_parts_of : DefP := ⟨⟨("parts_of", none), "parts_of", "parts_of", defArgs (top 22), defBody (top 22), defScope (top 22), [], []⟩, false⟩
def d_Organ___eq__ : DefP := ⟨⟨("Organ", some "__eq__"), "__eq__", "Organ.__eq__", defArgs (inCls (top 21) 7), defBody (inCls (top 21) 7), defScope (inCls (top 21) 7), [], []⟩, false⟩
def d__law_loose : DefP := ⟨⟨("_law_loose", none), "_law_loose", "_law_loose", defArgs (top 40), defBody (top 40), defScope (top 40), [], []⟩, false⟩
def d_law : DefP := ⟨⟨("law", none), "law", "law", defArgs (top 41), defBody (top 41), defScope (top 41), [], []⟩, false⟩
def fn : List DefP := [d__law_mix, d__law_next, d__law_some, d__law_couplers, d__law_stops, d__law_organ, d_is_integer, d_InvalidCoupler_init, d_is_coupler, d_look_at_couplers, d_InvalidStop_init, d_is_stop, d_look_at_stops, d_Organ_init, d__law_built, d_write_organ, d_Line_init, d_InvalidText_init, d_Line_refuse, d_Line_take_one, d_Line_finish, d_head_in, d_kinds_of, d_Line_take_number, d_coupler_in, d_stop_in, d_read_organ, d_parts_of, d_Organ___eq__, d__law_loose, d_law]
def fa : List Fx := [.he (.free "int"),
  .he (.free "list"),
  .he (.free "len"),
  .he (.free "max"),
  .he (.free "range"),
  .he (.free "tuple"),
  .he (.free "isinstance"),
  .he (.free "bool"),
  .he (.glo "InvalidManuals"),
  .he (.exc "InvalidManuals"),
  .cst "MOST_COUPLERS" (.int 5),
  .he (.glo "InvalidCoupler"),
  .oex "InvalidCoupler" ["index"],
  .he (.free "enumerate"),
  .he (.free "all"),
  .cst "MOST_SHIFT" (.int 2),
  .cst "MOST_STOPS" (.int 4),
  .he (.glo "InvalidStop"),
  .oex "InvalidStop" ["index"],
  .cst "MOST_RANK" (.int 2),
  .he (.free "str"),
  .cst "CHAINS" (.tup [(.str "all"), (.str "pressed")]),
  .he (.glo "InvalidChain"),
  .he (.exc "InvalidChain"),
  .cst "OCTAVES" (.tup [(.int 0), (.int 2), (.int 3)]),
  .he (.glo "InvalidOctave"),
  .he (.exc "InvalidOctave"),
  .slc "Organ",
  .slt "Organ" "many" 2,
  .slt "Organ" "links" 1,
  .slt "Organ" "ranks" 4,
  .slt "Organ" "passing" 3,
  .slt "Organ" "by" 0,
  .he (.glo "Organ"),
  .he (.mkr "Organ"),
  .he (.cls "Line"),
  .he (.noat "Line" "number"),
  .he (.noat "Line" "parts"),
  .he (.noat "Line" "place"),
  .he (.glo "Line"),
  .he (.mkr "Line"),
  .he (.free "zip"),
  .he (.glo "InvalidText"),
  .oex "InvalidText" ["line", "word"],
  .he (.meth "Line" "refuse"),
  .he (.meth "Line" "take_one"),
  .he (.meth "Line" "finish"),
  .cst "HEADS" (.int 3),
  .he (.meth "Line" "take_number"),
  .isi "Organ",
  .kit "Organ" "Organ" true,
  .kitB "Organ" "list" "Organ" false,
  .he (.meth "Organ" "__eq__"),
  .ntf "Organ" "list",
  .he (.glo "_law_mix"),
  .he (.glo "_law_next"),
  .he (.glo "_law_some"),
  .he (.glo "_law_couplers"),
  .he (.glo "_law_stops"),
  .he (.glo "_law_organ"),
  .he (.glo "is_integer"),
  .he (.glo "is_coupler"),
  .he (.glo "look_at_couplers"),
  .he (.glo "is_stop"),
  .he (.glo "look_at_stops"),
  .he (.glo "_law_built"),
  .he (.glo "write_organ"),
  .he (.glo "head_in"),
  .he (.glo "kinds_of"),
  .he (.glo "coupler_in"),
  .he (.glo "stop_in"),
  .he (.glo "read_organ"),
  .he (.glo "parts_of"),
  .he (.glo "_law_loose"),
  .he (.glo "law")]
structure Fct (K : PySem.W.Frag) (mg : Str → Option Value) : Prop where
  h : ∃ h : Heap, K.In h ∧ h.Ns mainGlobals mg
  c : SaysM fa fn K
theorem u64 {k : Nat} {A : Around} (hr : Room k A) : A.units + 64 < cLine := by have := hr.un; omega
section
variable {K : PySem.W.Frag} {mg : Str → Option Value} {x f : Str} {d : D} {i : Nat}
theorem Fct.free (T : Fct K mg) (n : Nat) (e : fa[n]? = some (.he (.free x)) := by rfl) : mg x = none := let ⟨_, X, G⟩ := T.h; fx_free X G (T.c.fact n e)
theorem Fct.glo (T : Fct K mg) (n : Nat) (e : fa[n]? = some (.he (.glo x)) := by rfl) : mg x = some (.ref (He.ga K x)) := let ⟨_, X, G⟩ := T.h; fx_glo X G (T.c.fact n e)
theorem Fct.cst (T : Fct K mg) (n : Nat) (e : fa[n]? = some (.cst x d) := by rfl) : CstOk K mg x d := let ⟨_, X, G⟩ := T.h; fx_cst X G (T.c.fact n e)
theorem Fct.exc (T : Fct K mg) (n m : Nat) (e : fa[n]? = some (.he (.glo x)) := by rfl) (e2 : fa[m]? = some (.he (.exc x)) := by rfl) : Rz0 K mg (He.ga K x) x := let ⟨_, X, G⟩ := T.h; fx_exc X G (T.c.fact n e) (T.c.fact m e2)
theorem Fct.scl (T : Fct K mg) (n : Nat) (e : fa[n]? = some (.slc x) := by rfl) : SlX.SCls K (He.ga K x) := fx_scl (T.c.fact n e)
theorem Fct.slt (T : Fct K mg) (n m : Nat) (e : fa[n]? = some (.slc x) := by rfl) (e2 : fa[m]? = some (.slt x f i) := by rfl) : SlF K (He.ga K x) f i := fx_slt (T.c.fact n e) (T.c.fact m e2)
end
section
variable {P : Program} {w : World} {K : PySem.W.Frag} {mg : Str → Option Value} {base : Heap}
theorem s__law_mix : FnScope ["_law_script", "_law_seed", "_law_state", "_law_cell"] ["_law_script", "_law_seed"] (defScope (top 33)) := ⟨rfl, rfl, rfl, by decide +kernel, rfl, by decide +kernel, by decide +kernel⟩
theorem k__law_mix (T : Fct K mg) {fd : FuncData} (FD : FunD K d__law_mix.toDefD.name d__law_mix.toDefD.qual d__law_mix.toDefD.params d__law_mix.toDefD.body d__law_mix.toDefD.scope (d__law_mix.toDefD.dvs K) (d__law_mix.toDefD.kws K) (d__law_mix.adr K) fd) : FnOk P w K mg base (L2.CX P w) 2 (d__law_mix.adr K) fd ["_law_script", "_law_seed"] (spF P w K (GmK K) 2 f__law_mix) := by
  refine fn_mk (k := 1) (N := ["_law_script", "_law_seed", "_law_state", "_law_cell"]) (ps := ["_law_script", "_law_seed"]) FD s__law_mix fun cdv A outer s H E hr => ?_
  have hN : (["_law_script", "_law_seed", "_law_state", "_law_cell"] : List Str).Nodup := (s__law_mix).nd
  have tk := takes_cx (P := P) (w := w) (K := K) (mg := mg) (base := base) (N := ["_law_script", "_law_seed", "_law_state", "_law_cell"]) (qual := "_law_mix") (scope := defScope (top 33)) (i := d__law_mix.adr K) (cdv := cdv) (A := A) (outer := outer) (s := s) (H := H) (E := E)
  have hp := passes_cx (P := P) (w := w) (K := K) (mg := mg) (base := base) (N := ["_law_script", "_law_seed", "_law_state", "_law_cell"]) (qual := "_law_mix") (scope := defScope (top 33)) (i := d__law_mix.adr K) (cdv := cdv) (A := A) (outer := outer) (s := s) (H := H) (E := E)
  exact es_cons (es_set 2 hN (ex_var 1))
    (es_cons (es_for hp rfl (ei_seq (ex_var 0)) (eg_name 3 hN) (es_one (es_set 2 hN (ex_op m_mod (ex_callTy b_int (T.free (x := "int") 0) rfl (ea_cons (ex_op m_add (ex_op m_add (ex_op m_mulA (ex_var 2) (ex_int)) (ex_op m_mod (ex_callTy b_int (T.free (x := "int") 0) rfl (ea_cons (ex_var 3) (ea_nil))) (ex_int))) (ex_int)) (ea_nil))) (ex_int)))))
    (es_one (es_ret (ex_lst (ea_cons (ex_var 2) (ea_cons (ex_callTy (b_listA rfl) (T.free (x := "list") 1) rfl (ea_cons (ex_var 0) (ea_nil))) (ea_cons (ex_int) (ea_cons (ex_int) (ea_nil)))))))))
theorem c__law_mix (T : Fct K mg) : Cal P w K mg base (GmK K) 2 "_law_mix" ["_law_script", "_law_seed"] f__law_mix := let ⟨fd, FD⟩ := T.c.def_ 0 (d := d__law_mix) rfl; ⟨⟨_, fd, k__law_mix T FD, T.glo (x := "_law_mix") 54, FD.kp, FD.bindsN fun _ _ _ _ _ _ us hl => match us, hl with | [_, _], _ => rfl⟩⟩
theorem s__law_next : FnScope ["_law_h", "_law_bound", "_law_cell"] ["_law_h", "_law_bound"] (defScope (top 34)) := ⟨rfl, rfl, rfl, by decide +kernel, rfl, by decide +kernel, by decide +kernel⟩
theorem k__law_next (T : Fct K mg) {fd : FuncData} (FD : FunD K d__law_next.toDefD.name d__law_next.toDefD.qual d__law_next.toDefD.params d__law_next.toDefD.body d__law_next.toDefD.scope (d__law_next.toDefD.dvs K) (d__law_next.toDefD.kws K) (d__law_next.adr K) fd) : FnOk P w K mg base (L2.CX P w) 2 (d__law_next.adr K) fd ["_law_h", "_law_bound"] (spF P w K (GmK K) 2 f__law_next) := by
  refine fn_mk (k := 1) (N := ["_law_h", "_law_bound", "_law_cell"]) (ps := ["_law_h", "_law_bound"]) FD s__law_next fun cdv A outer s H E hr => ?_
  have hN : (["_law_h", "_law_bound", "_law_cell"] : List Str).Nodup := (s__law_next).nd
  have tk := takes_cx (P := P) (w := w) (K := K) (mg := mg) (base := base) (N := ["_law_h", "_law_bound", "_law_cell"]) (qual := "_law_next") (scope := defScope (top 34)) (i := d__law_next.adr K) (cdv := cdv) (A := A) (outer := outer) (s := s) (H := H) (E := E)
  have hp := passes_cx (P := P) (w := w) (K := K) (mg := mg) (base := base) (N := ["_law_h", "_law_bound", "_law_cell"]) (qual := "_law_next") (scope := defScope (top 34)) (i := d__law_next.adr K) (cdv := cdv) (A := A) (outer := outer) (s := s) (H := H) (E := E)
  exact es_cons (es_set 2 hN (ex_ixA (hr.mono (by decide)) (ex_op m_add (ex_ixA (hr.mono (by decide)) (ex_var 0) (ex_int)) (ex_lst (ea_cons (ex_int) (ea_nil)))) (ex_op m_mod (ex_callTy b_int (T.free (x := "int") 0) rfl (ea_cons (ex_ixA (hr.mono (by decide)) (ex_var 0) (ex_int)) (ea_nil))) (ex_callB (b_max2 rfl) (T.free (x := "max") 3) rfl (ea_cons (ex_int) (ea_cons (ex_callB b_len (T.free (x := "len") 2) rfl (ea_cons (ex_ixA (hr.mono (by decide)) (ex_var 0) (ex_int)) (ea_nil))) (ea_nil)))))))
    (es_cons (es_if (et_cmp m_ge (ex_var 2) (ex_op m_pow (ex_int) (ex_int))) (es_cons (es_put (put_any (hr.mono (by decide))) (ex_ixA (hr.mono (by decide)) (ex_var 0) (ex_int)) (ex_op m_mod (ex_callTy b_int (T.free (x := "int") 0) rfl (ea_cons (ex_ixA (hr.mono (by decide)) (ex_var 0) (ex_int)) (ea_nil))) (ex_callB b_len (T.free (x := "len") 2) rfl (ea_cons (ex_ixA (hr.mono (by decide)) (ex_var 0) (ex_int)) (ea_nil)))) (ex_op m_div (ex_var 2) (ex_var 1)))
    (es_one (es_ret (ex_op m_mod (ex_callTy b_int (T.free (x := "int") 0) rfl (ea_cons (ex_var 2) (ea_nil))) (ex_var 1))))) (es_nil))
    (es_cons (es_put (put_any (hr.mono (by decide))) (ex_var 0) (ex_int) (ex_op m_mod (ex_callTy b_int (T.free (x := "int") 0) rfl (ea_cons (ex_op m_add (ex_op m_add (ex_op m_mulA (ex_ixA (hr.mono (by decide)) (ex_var 0) (ex_int)) (ex_int)) (ex_op m_mulA (ex_var 2) (ex_int))) (ex_int)) (ea_nil))) (ex_int)))
    (es_cons (es_put (put_any (hr.mono (by decide))) (ex_var 0) (ex_int) (ex_op m_add (ex_ixA (hr.mono (by decide)) (ex_var 0) (ex_int)) (ex_int)))
    (es_one (es_ret (ex_op m_mod (ex_callTy b_int (T.free (x := "int") 0) rfl (ea_cons (ex_op m_div (ex_ixA (hr.mono (by decide)) (ex_var 0) (ex_int)) (ex_int)) (ea_nil))) (ex_var 1)))))))
theorem c__law_next (T : Fct K mg) : Cal P w K mg base (GmK K) 2 "_law_next" ["_law_h", "_law_bound"] f__law_next := let ⟨fd, FD⟩ := T.c.def_ 1 (d := d__law_next) rfl; ⟨⟨_, fd, k__law_next T FD, T.glo (x := "_law_next") 55, FD.kp, FD.bindsN fun _ _ _ _ _ _ us hl => match us, hl with | [_, _], _ => rfl⟩⟩
theorem s__law_some : FnScope ["_law_h", "_law_things", "_law_many", "_law_left", "_law_found", "_law_k"] ["_law_h", "_law_things", "_law_many"] (defScope (top 35)) := ⟨rfl, rfl, rfl, by decide +kernel, rfl, by decide +kernel, by decide +kernel⟩
theorem k__law_some (T : Fct K mg) {fd : FuncData} (FD : FunD K d__law_some.toDefD.name d__law_some.toDefD.qual d__law_some.toDefD.params d__law_some.toDefD.body d__law_some.toDefD.scope (d__law_some.toDefD.dvs K) (d__law_some.toDefD.kws K) (d__law_some.adr K) fd) : FnOk P w K mg base (L2.CX P w) 3 (d__law_some.adr K) fd ["_law_h", "_law_things", "_law_many"] (spF P w K (GmK K) 3 f__law_some) := by
  refine fn_mk (k := 2) (N := ["_law_h", "_law_things", "_law_many", "_law_left", "_law_found", "_law_k"]) (ps := ["_law_h", "_law_things", "_law_many"]) FD s__law_some fun cdv A outer s H E hr => ?_
  have hN : (["_law_h", "_law_things", "_law_many", "_law_left", "_law_found", "_law_k"] : List Str).Nodup := (s__law_some).nd
  have tk := takes_cx (P := P) (w := w) (K := K) (mg := mg) (base := base) (N := ["_law_h", "_law_things", "_law_many", "_law_left", "_law_found", "_law_k"]) (qual := "_law_some") (scope := defScope (top 35)) (i := d__law_some.adr K) (cdv := cdv) (A := A) (outer := outer) (s := s) (H := H) (E := E)
  have hp := passes_cx (P := P) (w := w) (K := K) (mg := mg) (base := base) (N := ["_law_h", "_law_things", "_law_many", "_law_left", "_law_found", "_law_k"]) (qual := "_law_some") (scope := defScope (top 35)) (i := d__law_some.adr K) (cdv := cdv) (A := A) (outer := outer) (s := s) (H := H) (E := E)
  exact es_cons (es_set 3 hN (ex_callTy (b_listA rfl) (T.free (x := "list") 1) rfl (ea_cons (ex_var 1) (ea_nil))))
    (es_cons (es_set 4 hN (ex_lst (ea_nil)))
    (es_cons (es_for hp rfl (ei_range1 (ex_var 2) (T.free (x := "range") 4)) (eg_name 5 hN) (es_one (es_if (et_cmp (m_ne (u64 hr)) (ex_var 3) (ex_lst (ea_nil))) (es_one (es_expr (ex_meth F.plainAttrs_list F.slot_list_append F.type_list_append ty_lst l_append (ex_var 4) (ea_cons (ex_meth F.plainAttrs_list F.slot_list_pop F.type_list_pop ty_lst l_popAt (ex_var 3) (ea_cons (ex_call (c__law_next T) (hr.mono (by decide)) tk (ea_cons (ex_var 0) (ea_cons (ex_callB b_len (T.free (x := "len") 2) rfl (ea_cons (ex_var 3) (ea_nil))) (ea_nil)))) (ea_nil))) (ea_nil))))) (es_nil))))
    (es_one (es_ret (ex_callTy b_tuple (T.free (x := "tuple") 5) rfl (ea_cons (ex_var 4) (ea_nil)))))))
theorem c__law_some (T : Fct K mg) : Cal P w K mg base (GmK K) 3 "_law_some" ["_law_h", "_law_things", "_law_many"] f__law_some := let ⟨fd, FD⟩ := T.c.def_ 2 (d := d__law_some) rfl; ⟨⟨_, fd, k__law_some T FD, T.glo (x := "_law_some") 56, FD.kp, FD.bindsN fun _ _ _ _ _ _ us hl => match us, hl with | [_, _, _], _ => rfl⟩⟩
theorem s__law_couplers : FnScope ["_law_many", "_law_found", "_law_first", "_law_second", "_law_shift"] ["_law_many"] (defScope (top 36)) := ⟨rfl, rfl, rfl, by decide +kernel, rfl, by decide +kernel, by decide +kernel⟩
theorem k__law_couplers (T : Fct K mg) {fd : FuncData} (FD : FunD K d__law_couplers.toDefD.name d__law_couplers.toDefD.qual d__law_couplers.toDefD.params d__law_couplers.toDefD.body d__law_couplers.toDefD.scope (d__law_couplers.toDefD.dvs K) (d__law_couplers.toDefD.kws K) (d__law_couplers.adr K) fd) : FnOk P w K mg base (L2.CX P w) 2 (d__law_couplers.adr K) fd ["_law_many"] (spF P w K (GmK K) 1 f__law_couplers) := by
  refine fn_mk (k := 1) (N := ["_law_many", "_law_found", "_law_first", "_law_second", "_law_shift"]) (ps := ["_law_many"]) FD s__law_couplers fun cdv A outer s H E hr => ?_
  have hN : (["_law_many", "_law_found", "_law_first", "_law_second", "_law_shift"] : List Str).Nodup := (s__law_couplers).nd
  have tk := takes_cx (P := P) (w := w) (K := K) (mg := mg) (base := base) (N := ["_law_many", "_law_found", "_law_first", "_law_second", "_law_shift"]) (qual := "_law_couplers") (scope := defScope (top 36)) (i := d__law_couplers.adr K) (cdv := cdv) (A := A) (outer := outer) (s := s) (H := H) (E := E)
  have hp := passes_cx (P := P) (w := w) (K := K) (mg := mg) (base := base) (N := ["_law_many", "_law_found", "_law_first", "_law_second", "_law_shift"]) (qual := "_law_couplers") (scope := defScope (top 36)) (i := d__law_couplers.adr K) (cdv := cdv) (A := A) (outer := outer) (s := s) (H := H) (E := E)
  exact es_cons (es_set 1 hN (ex_lst (ea_nil)))
    (es_cons (es_for hp rfl (ei_range1 (ex_var 0) (T.free (x := "range") 4)) (eg_name 2 hN) (es_one (es_for hp rfl (ei_range1 (ex_var 0) (T.free (x := "range") 4)) (eg_name 3 hN) (es_one (es_set 1 hN (ex_op m_add (ex_var 1) (ex_lc (own := [("_law_shift", 4)]) rfl hN (ei_range2 (ex_neg (ex_int)) (ex_int) (T.free (x := "range") 4)) (blkOk_by (N := ["_law_many", "_law_found", "_law_first", "_law_second", "_law_shift"]) (sc := defScope (top 36)) (by decide +kernel)) (by decide) (fun _ _ _ _ _ => eg_name 4 hN) (fun _ _ _ _ _ => ets_one (et_w (et_or (et_cmp (m_ne (u64 hr)) (ex_var 4) (ex_int)) (et_or1 (et_cmp (m_ne (u64 hr)) (ex_var 2) (ex_var 3)))))) (fun _ _ _ _ _ => ex_tup (ea_cons (ex_var 2) (ea_cons (ex_var 3) (ea_cons (ex_var 4) (ea_nil))))))))))))
    (es_one (es_ret (ex_var 1))))
theorem c__law_couplers (T : Fct K mg) : Cal P w K mg base (GmK K) 2 "_law_couplers" ["_law_many"] f__law_couplers := let ⟨fd, FD⟩ := T.c.def_ 3 (d := d__law_couplers) rfl; ⟨⟨_, fd, k__law_couplers T FD, T.glo (x := "_law_couplers") 57, FD.kp, FD.bindsN fun _ _ _ _ _ _ us hl => match us, hl with | [_], _ => rfl⟩⟩
theorem s__law_stops : FnScope ["_law_many", "_law_ranks", "_law_found", "_law_manual", "_law_rank", "_law_shift"] ["_law_many", "_law_ranks"] (defScope (top 37)) := ⟨rfl, rfl, rfl, by decide +kernel, rfl, by decide +kernel, by decide +kernel⟩
theorem k__law_stops (T : Fct K mg) {fd : FuncData} (FD : FunD K d__law_stops.toDefD.name d__law_stops.toDefD.qual d__law_stops.toDefD.params d__law_stops.toDefD.body d__law_stops.toDefD.scope (d__law_stops.toDefD.dvs K) (d__law_stops.toDefD.kws K) (d__law_stops.adr K) fd) : FnOk P w K mg base (L2.CX P w) 2 (d__law_stops.adr K) fd ["_law_many", "_law_ranks"] (spF P w K (GmK K) 2 f__law_stops) := by
  refine fn_mk (k := 1) (N := ["_law_many", "_law_ranks", "_law_found", "_law_manual", "_law_rank", "_law_shift"]) (ps := ["_law_many", "_law_ranks"]) FD s__law_stops fun cdv A outer s H E hr => ?_
  have hN : (["_law_many", "_law_ranks", "_law_found", "_law_manual", "_law_rank", "_law_shift"] : List Str).Nodup := (s__law_stops).nd
  have tk := takes_cx (P := P) (w := w) (K := K) (mg := mg) (base := base) (N := ["_law_many", "_law_ranks", "_law_found", "_law_manual", "_law_rank", "_law_shift"]) (qual := "_law_stops") (scope := defScope (top 37)) (i := d__law_stops.adr K) (cdv := cdv) (A := A) (outer := outer) (s := s) (H := H) (E := E)
  have hp := passes_cx (P := P) (w := w) (K := K) (mg := mg) (base := base) (N := ["_law_many", "_law_ranks", "_law_found", "_law_manual", "_law_rank", "_law_shift"]) (qual := "_law_stops") (scope := defScope (top 37)) (i := d__law_stops.adr K) (cdv := cdv) (A := A) (outer := outer) (s := s) (H := H) (E := E)
  exact es_cons (es_set 2 hN (ex_lst (ea_nil)))
    (es_cons (es_for hp rfl (ei_range1 (ex_var 0) (T.free (x := "range") 4)) (eg_name 3 hN) (es_one (es_for hp rfl (ei_range1 (ex_var 1) (T.free (x := "range") 4)) (eg_name 4 hN) (es_one (es_set 2 hN (ex_op m_add (ex_var 2) (ex_lc (own := [("_law_shift", 5)]) rfl hN (ei_range2 (ex_neg (ex_int)) (ex_int) (T.free (x := "range") 4)) (blkOk_by (N := ["_law_many", "_law_ranks", "_law_found", "_law_manual", "_law_rank", "_law_shift"]) (sc := defScope (top 37)) (by decide +kernel)) (by decide) (fun _ _ _ _ _ => eg_name 5 hN) (fun _ _ _ _ _ => ets_nil) (fun _ _ _ _ _ => ex_tup (ea_cons (ex_var 3) (ea_cons (ex_var 4) (ea_cons (ex_var 5) (ea_nil))))))))))))
    (es_one (es_ret (ex_var 2))))
theorem c__law_stops (T : Fct K mg) : Cal P w K mg base (GmK K) 2 "_law_stops" ["_law_many", "_law_ranks"] f__law_stops := let ⟨fd, FD⟩ := T.c.def_ 4 (d := d__law_stops) rfl; ⟨⟨_, fd, k__law_stops T FD, T.glo (x := "_law_stops") 58, FD.kp, FD.bindsN fun _ _ _ _ _ _ us hl => match us, hl with | [_, _], _ => rfl⟩⟩
theorem s__law_organ : FnScope ["_law_h", "_law_links", "_law_stops_here", "_law_ranks", "_law_many", "_law_chain", "_law_octave", "_law_couplers_here"] ["_law_h", "_law_links", "_law_stops_here", "_law_ranks"] (defScope (top 38)) := ⟨rfl, rfl, rfl, by decide +kernel, rfl, by decide +kernel, by decide +kernel⟩
theorem k__law_organ (T : Fct K mg) {fd : FuncData} (FD : FunD K d__law_organ.toDefD.name d__law_organ.toDefD.qual d__law_organ.toDefD.params d__law_organ.toDefD.body d__law_organ.toDefD.scope (d__law_organ.toDefD.dvs K) (d__law_organ.toDefD.kws K) (d__law_organ.adr K) fd) : FnOk P w K mg base (L2.CX P w) 4 (d__law_organ.adr K) fd ["_law_h", "_law_links", "_law_stops_here", "_law_ranks"] (spF P w K (GmK K) 4 f__law_organ) := by
  refine fn_mk (k := 3) (N := ["_law_h", "_law_links", "_law_stops_here", "_law_ranks", "_law_many", "_law_chain", "_law_octave", "_law_couplers_here"]) (ps := ["_law_h", "_law_links", "_law_stops_here", "_law_ranks"]) FD s__law_organ fun cdv A outer s H E hr => ?_
  have hN : (["_law_h", "_law_links", "_law_stops_here", "_law_ranks", "_law_many", "_law_chain", "_law_octave", "_law_couplers_here"] : List Str).Nodup := (s__law_organ).nd
  have tk := takes_cx (P := P) (w := w) (K := K) (mg := mg) (base := base) (N := ["_law_h", "_law_links", "_law_stops_here", "_law_ranks", "_law_many", "_law_chain", "_law_octave", "_law_couplers_here"]) (qual := "_law_organ") (scope := defScope (top 38)) (i := d__law_organ.adr K) (cdv := cdv) (A := A) (outer := outer) (s := s) (H := H) (E := E)
  have hp := passes_cx (P := P) (w := w) (K := K) (mg := mg) (base := base) (N := ["_law_h", "_law_links", "_law_stops_here", "_law_ranks", "_law_many", "_law_chain", "_law_octave", "_law_couplers_here"]) (qual := "_law_organ") (scope := defScope (top 38)) (i := d__law_organ.adr K) (cdv := cdv) (A := A) (outer := outer) (s := s) (H := H) (E := E)
  exact es_cons (es_set 4 hN (ex_op m_add (ex_int) (ex_callTy b_int (T.free (x := "int") 0) rfl (ea_cons (ex_cmp m_gt (ex_call (c__law_next T) (hr.mono (by decide)) tk (ea_cons (ex_var 0) (ea_cons (ex_int) (ea_nil)))) (ex_int)) (ea_nil)))))
    (es_cons (es_set 5 hN (ex_ixA (hr.mono (by decide)) (ex_lst (ea_cons (ex_str) (ea_cons (ex_str) (ea_cons (ex_str) (ea_nil))))) (ex_call (c__law_next T) (hr.mono (by decide)) tk (ea_cons (ex_var 0) (ea_cons (ex_int) (ea_nil))))))
    (es_cons (es_set 6 hN (ex_ixA (hr.mono (by decide)) (ex_lst (ea_cons (ex_int) (ea_cons (ex_int) (ea_cons (ex_int) (ea_cons (ex_int) (ea_nil)))))) (ex_call (c__law_next T) (hr.mono (by decide)) tk (ea_cons (ex_var 0) (ea_cons (ex_int) (ea_nil))))))
    (es_cons (es_set 7 hN (ex_call (c__law_some T) (hr.mono (by decide)) tk (ea_cons (ex_var 0) (ea_cons (ex_call (c__law_couplers T) (hr.mono (by decide)) tk (ea_cons (ex_var 4) (ea_nil))) (ea_cons (ex_call (c__law_next T) (hr.mono (by decide)) tk (ea_cons (ex_var 0) (ea_cons (ex_op m_add (ex_var 1) (ex_int)) (ea_nil)))) (ea_nil))))))
    (es_one (es_ret (ex_lst (ea_cons (ex_var 4) (ea_cons (ex_var 7) (ea_cons (ex_call (c__law_some T) (hr.mono (by decide)) tk (ea_cons (ex_var 0) (ea_cons (ex_call (c__law_stops T) (hr.mono (by decide)) tk (ea_cons (ex_var 4) (ea_cons (ex_var 3) (ea_nil)))) (ea_cons (ex_op m_add (ex_int) (ex_call (c__law_next T) (hr.mono (by decide)) tk (ea_cons (ex_var 0) (ea_cons (ex_var 2) (ea_nil))))) (ea_nil))))) (ea_cons (ex_var 5) (ea_cons (ex_var 6) (ea_nil))))))))))))
theorem c__law_organ (T : Fct K mg) : Cal P w K mg base (GmK K) 4 "_law_organ" ["_law_h", "_law_links", "_law_stops_here", "_law_ranks"] f__law_organ := let ⟨fd, FD⟩ := T.c.def_ 5 (d := d__law_organ) rfl; ⟨⟨_, fd, k__law_organ T FD, T.glo (x := "_law_organ") 59, FD.kp, FD.bindsN fun _ _ _ _ _ _ us hl => match us, hl with | [_, _, _, _], _ => rfl⟩⟩
theorem s_is_integer : FnScope ["value", "least", "most"] ["value", "least", "most"] (defScope (top 16)) := ⟨rfl, rfl, rfl, by decide +kernel, rfl, by decide +kernel, by decide +kernel⟩
theorem k_is_integer (T : Fct K mg) {fd : FuncData} (FD : FunD K d_is_integer.toDefD.name d_is_integer.toDefD.qual d_is_integer.toDefD.params d_is_integer.toDefD.body d_is_integer.toDefD.scope (d_is_integer.toDefD.dvs K) (d_is_integer.toDefD.kws K) (d_is_integer.adr K) fd) : FnOk P w K mg base (L2.CX P w) 2 (d_is_integer.adr K) fd ["value", "least", "most"] (spF P w K (GmK K) 3 f_is_integer) := by
  refine fn_mk (k := 1) (N := ["value", "least", "most"]) (ps := ["value", "least", "most"]) FD s_is_integer fun cdv A outer s H E hr => ?_
  have hN : (["value", "least", "most"] : List Str).Nodup := (s_is_integer).nd
  have tk := takes_cx (P := P) (w := w) (K := K) (mg := mg) (base := base) (N := ["value", "least", "most"]) (qual := "is_integer") (scope := defScope (top 16)) (i := d_is_integer.adr K) (cdv := cdv) (A := A) (outer := outer) (s := s) (H := H) (E := E)
  have hp := passes_cx (P := P) (w := w) (K := K) (mg := mg) (base := base) (N := ["value", "least", "most"]) (qual := "is_integer") (scope := defScope (top 16)) (i := d_is_integer.adr K) (cdv := cdv) (A := A) (outer := outer) (s := s) (H := H) (E := E)
  exact es_one (es_ret (ex_and (ex_isTy kind_int (ex_var 0) (T.free (x := "isinstance") 6) (T.free (x := "int") 0) rfl) (ex_and (ex_not (ex_isTy kind_bool (ex_var 0) (T.free (x := "isinstance") 6) (T.free (x := "bool") 7) rfl)) (ex_one (ex_chain m_le m_le (ex_var 1) (ex_var 0) (ex_var 2))))))
theorem c_is_integer (T : Fct K mg) : Cal P w K mg base (GmK K) 2 "is_integer" ["value", "least", "most"] f_is_integer := let ⟨fd, FD⟩ := T.c.def_ 6 (d := d_is_integer) rfl; ⟨⟨_, fd, k_is_integer T FD, T.glo (x := "is_integer") 60, FD.kp, FD.bindsN fun _ _ _ _ _ _ us hl => match us, hl with | [_, _, _], _ => rfl⟩⟩
theorem s_InvalidCoupler_init : FnScope ["self", "index"] ["self", "index"] (defScope (inCls (top 4) 0)) := ⟨rfl, rfl, rfl, by decide +kernel, rfl, by decide +kernel, by decide +kernel⟩
theorem z_InvalidCoupler (T : Fct K mg) : RzI P w K mg base 1 (He.ga K "InvalidCoupler") "InvalidCoupler" (cN 5) := by
  obtain ⟨fd, FD⟩ := T.c.def_ 7 (d := d_InvalidCoupler_init) rfl
  obtain ⟨o1, o2, o3, o4⟩ := fx_oex (T.c.fact 12 (f := .oex "InvalidCoupler" ["index"]) rfl)
  refine ⟨o1, ⟨_, fd, ["self", "index"], o2, o3, ?_, FD.bindsN fun _ _ _ _ _ _ us hl => match us, hl with | [_, _], _ => rfl⟩, T.glo 11⟩
  exact init_mk1 FD s_InvalidCoupler_init o1 (o4 _ (by simp)) fun cdv A outer s H E => pss_one (ps_ost (pv 0) (pv 1))
theorem s_is_coupler : FnScope ["value", "many", "own"] ["value", "many"] (defScope (top 17)) := ⟨rfl, rfl, rfl, by decide +kernel, rfl, by decide +kernel, by decide +kernel⟩
theorem k_is_coupler (T : Fct K mg) {fd : FuncData} (FD : FunD K d_is_coupler.toDefD.name d_is_coupler.toDefD.qual d_is_coupler.toDefD.params d_is_coupler.toDefD.body d_is_coupler.toDefD.scope (d_is_coupler.toDefD.dvs K) (d_is_coupler.toDefD.kws K) (d_is_coupler.adr K) fd) : FnOk P w K mg base (L2.CX P w) 3 (d_is_coupler.adr K) fd ["value", "many"] (spF P w K (GmK K) 2 f_is_coupler) := by
  refine fn_mk (k := 2) (N := ["value", "many", "own"]) (ps := ["value", "many"]) FD s_is_coupler fun cdv A outer s H E hr => ?_
  have hN : (["value", "many", "own"] : List Str).Nodup := (s_is_coupler).nd
  have tk := takes_cx (P := P) (w := w) (K := K) (mg := mg) (base := base) (N := ["value", "many", "own"]) (qual := "is_coupler") (scope := defScope (top 17)) (i := d_is_coupler.adr K) (cdv := cdv) (A := A) (outer := outer) (s := s) (H := H) (E := E)
  have hp := passes_cx (P := P) (w := w) (K := K) (mg := mg) (base := base) (N := ["value", "many", "own"]) (qual := "is_coupler") (scope := defScope (top 17)) (i := d_is_coupler.adr K) (cdv := cdv) (A := A) (outer := outer) (s := s) (H := H) (E := E)
  exact es_cons (es_if (et_w (et_or (et_not (et_val (ex_isTy kind_tuple (ex_var 0) (T.free (x := "isinstance") 6) (T.free (x := "tuple") 5) rfl))) (et_or (et_cmp (m_ne (u64 hr)) (ex_callB b_len (T.free (x := "len") 2) rfl (ea_cons (ex_var 0) (ea_nil))) (ex_int)) (et_or1 (et_not (et_val (ex_callB (b_all rfl) (T.free (x := "all") 14) rfl (ea_cons (ex_lc (own := [("own", 2)]) rfl hN (ei_seq (ex_cut (ex_var 0) (eo_none) (eo_some (ex_int)))) (blkOk_by (N := ["value", "many", "own"]) (sc := defScope (top 17)) (by decide +kernel)) (by decide) (fun _ _ _ _ _ => eg_name 2 hN) (fun _ _ _ _ _ => ets_nil) (fun _ _ _ _ _ => ex_call (c_is_integer T) (hr.mono (by decide)) takes_W0 (ea_cons (ex_var 2) (ea_cons (ex_int) (ea_cons (ex_op m_sub (ex_var 1) (ex_int)) (ea_nil)))))) (ea_nil))))))))) (es_one (es_ret (ex_bl))) (es_nil))
    (es_one (es_ret (ex_and (ex_call (c_is_integer T) (hr.mono (by decide)) tk (ea_cons (ex_ixA (hr.mono (by decide)) (ex_var 0) (ex_int)) (ea_cons (ex_neg (ex_glob (T.cst (x := "MOST_SHIFT") (d := (.int 2)) 15))) (ea_cons (ex_glob (T.cst (x := "MOST_SHIFT") (d := (.int 2)) 15)) (ea_nil))))) (ex_one (ex_or (ex_cmp (m_ne (u64 hr)) (ex_ixA (hr.mono (by decide)) (ex_var 0) (ex_int)) (ex_ixA (hr.mono (by decide)) (ex_var 0) (ex_int))) (ex_one (ex_cmp (m_ne (u64 hr)) (ex_ixA (hr.mono (by decide)) (ex_var 0) (ex_int)) (ex_int))))))))
theorem c_is_coupler (T : Fct K mg) : Cal P w K mg base (GmK K) 3 "is_coupler" ["value", "many"] f_is_coupler := let ⟨fd, FD⟩ := T.c.def_ 8 (d := d_is_coupler) rfl; ⟨⟨_, fd, k_is_coupler T FD, T.glo (x := "is_coupler") 61, FD.kp, FD.bindsN fun _ _ _ _ _ _ us hl => match us, hl with | [_, _], _ => rfl⟩⟩
theorem s_look_at_couplers : FnScope ["value", "many", "index", "one"] ["value", "many"] (defScope (top 19)) := ⟨rfl, rfl, rfl, by decide +kernel, rfl, by decide +kernel, by decide +kernel⟩
theorem k_look_at_couplers (T : Fct K mg) {fd : FuncData} (FD : FunD K d_look_at_couplers.toDefD.name d_look_at_couplers.toDefD.qual d_look_at_couplers.toDefD.params d_look_at_couplers.toDefD.body d_look_at_couplers.toDefD.scope (d_look_at_couplers.toDefD.dvs K) (d_look_at_couplers.toDefD.kws K) (d_look_at_couplers.adr K) fd) : FnOk P w K mg base (L2.CX P w) 4 (d_look_at_couplers.adr K) fd ["value", "many"] (spF P w K (GmK K) 2 f_look_at_couplers) := by
  refine fn_mk (k := 3) (N := ["value", "many", "index", "one"]) (ps := ["value", "many"]) FD s_look_at_couplers fun cdv A outer s H E hr => ?_
  have hN : (["value", "many", "index", "one"] : List Str).Nodup := (s_look_at_couplers).nd
  have tk := takes_cx (P := P) (w := w) (K := K) (mg := mg) (base := base) (N := ["value", "many", "index", "one"]) (qual := "look_at_couplers") (scope := defScope (top 19)) (i := d_look_at_couplers.adr K) (cdv := cdv) (A := A) (outer := outer) (s := s) (H := H) (E := E)
  have hp := passes_cx (P := P) (w := w) (K := K) (mg := mg) (base := base) (N := ["value", "many", "index", "one"]) (qual := "look_at_couplers") (scope := defScope (top 19)) (i := d_look_at_couplers.adr K) (cdv := cdv) (A := A) (outer := outer) (s := s) (H := H) (E := E)
  exact es_cons (es_if (et_w (et_or (et_not (et_val (ex_isTy kind_tuple (ex_var 0) (T.free (x := "isinstance") 6) (T.free (x := "tuple") 5) rfl))) (et_or1 (et_cmp m_gt (ex_callB b_len (T.free (x := "len") 2) rfl (ea_cons (ex_var 0) (ea_nil))) (ex_glob (T.cst (x := "MOST_COUPLERS") (d := (.int 5)) 10)))))) (es_one (es_raise (c := 5) (z_InvalidCoupler T) rfl (by decide) (hr.mono (by decide)) rfl tk (ea_cons (ex_non) (ea_nil)))) (es_nil))
    (es_one (es_for hp rfl (ei_enum (ex_var 0) (T.free (x := "enumerate") 13)) (eg_tup rfl (egs_cons (eg_name 2 hN) (egs_cons (eg_name 3 hN) (egs_nil)))) (es_one (es_if (et_w (et_or (et_not (et_val (ex_call (c_is_coupler T) (hr.mono (by decide)) tk (ea_cons (ex_var 3) (ea_cons (ex_var 1) (ea_nil)))))) (et_or1 (et_cmp (m_inA (hr.mono (by decide))) (ex_var 3) (ex_cut (ex_var 0) (eo_none) (eo_some (ex_var 2))))))) (es_one (es_raise (c := 5) (z_InvalidCoupler T) rfl (by decide) (hr.mono (by decide)) rfl tk (ea_cons (ex_var 2) (ea_nil)))) (es_nil)))))
theorem c_look_at_couplers (T : Fct K mg) : Cal P w K mg base (GmK K) 4 "look_at_couplers" ["value", "many"] f_look_at_couplers := let ⟨fd, FD⟩ := T.c.def_ 9 (d := d_look_at_couplers) rfl; ⟨⟨_, fd, k_look_at_couplers T FD, T.glo (x := "look_at_couplers") 62, FD.kp, FD.bindsN fun _ _ _ _ _ _ us hl => match us, hl with | [_, _], _ => rfl⟩⟩
theorem s_InvalidStop_init : FnScope ["self", "index"] ["self", "index"] (defScope (inCls (top 5) 0)) := ⟨rfl, rfl, rfl, by decide +kernel, rfl, by decide +kernel, by decide +kernel⟩
theorem z_InvalidStop (T : Fct K mg) : RzI P w K mg base 1 (He.ga K "InvalidStop") "InvalidStop" (cN 6) := by
  obtain ⟨fd, FD⟩ := T.c.def_ 10 (d := d_InvalidStop_init) rfl
  obtain ⟨o1, o2, o3, o4⟩ := fx_oex (T.c.fact 18 (f := .oex "InvalidStop" ["index"]) rfl)
  refine ⟨o1, ⟨_, fd, ["self", "index"], o2, o3, ?_, FD.bindsN fun _ _ _ _ _ _ us hl => match us, hl with | [_, _], _ => rfl⟩, T.glo 17⟩
  exact init_mk1 FD s_InvalidStop_init o1 (o4 _ (by simp)) fun cdv A outer s H E => pss_one (ps_ost (pv 0) (pv 1))
theorem s_is_stop : FnScope ["value", "many"] ["value", "many"] (defScope (top 18)) := ⟨rfl, rfl, rfl, by decide +kernel, rfl, by decide +kernel, by decide +kernel⟩
theorem k_is_stop (T : Fct K mg) {fd : FuncData} (FD : FunD K d_is_stop.toDefD.name d_is_stop.toDefD.qual d_is_stop.toDefD.params d_is_stop.toDefD.body d_is_stop.toDefD.scope (d_is_stop.toDefD.dvs K) (d_is_stop.toDefD.kws K) (d_is_stop.adr K) fd) : FnOk P w K mg base (L2.CX P w) 3 (d_is_stop.adr K) fd ["value", "many"] (spF P w K (GmK K) 2 f_is_stop) := by
  refine fn_mk (k := 2) (N := ["value", "many"]) (ps := ["value", "many"]) FD s_is_stop fun cdv A outer s H E hr => ?_
  have hN : (["value", "many"] : List Str).Nodup := (s_is_stop).nd
  have tk := takes_cx (P := P) (w := w) (K := K) (mg := mg) (base := base) (N := ["value", "many"]) (qual := "is_stop") (scope := defScope (top 18)) (i := d_is_stop.adr K) (cdv := cdv) (A := A) (outer := outer) (s := s) (H := H) (E := E)
  have hp := passes_cx (P := P) (w := w) (K := K) (mg := mg) (base := base) (N := ["value", "many"]) (qual := "is_stop") (scope := defScope (top 18)) (i := d_is_stop.adr K) (cdv := cdv) (A := A) (outer := outer) (s := s) (H := H) (E := E)
  exact es_cons (es_if (et_w (et_or (et_not (et_val (ex_isTy kind_tuple (ex_var 0) (T.free (x := "isinstance") 6) (T.free (x := "tuple") 5) rfl))) (et_or (et_cmp (m_ne (u64 hr)) (ex_callB b_len (T.free (x := "len") 2) rfl (ea_cons (ex_var 0) (ea_nil))) (ex_int)) (et_or1 (et_not (et_val (ex_call (c_is_integer T) (hr.mono (by decide)) tk (ea_cons (ex_ixA (hr.mono (by decide)) (ex_var 0) (ex_int)) (ea_cons (ex_int) (ea_cons (ex_op m_sub (ex_var 1) (ex_int)) (ea_nil))))))))))) (es_one (es_ret (ex_bl))) (es_nil))
    (es_one (es_ret (ex_and (ex_call (c_is_integer T) (hr.mono (by decide)) tk (ea_cons (ex_ixA (hr.mono (by decide)) (ex_var 0) (ex_int)) (ea_cons (ex_int) (ea_cons (ex_glob (T.cst (x := "MOST_RANK") (d := (.int 2)) 19)) (ea_nil))))) (ex_one (ex_call (c_is_integer T) (hr.mono (by decide)) tk (ea_cons (ex_ixA (hr.mono (by decide)) (ex_var 0) (ex_int)) (ea_cons (ex_neg (ex_glob (T.cst (x := "MOST_SHIFT") (d := (.int 2)) 15))) (ea_cons (ex_glob (T.cst (x := "MOST_SHIFT") (d := (.int 2)) 15)) (ea_nil)))))))))
theorem c_is_stop (T : Fct K mg) : Cal P w K mg base (GmK K) 3 "is_stop" ["value", "many"] f_is_stop := let ⟨fd, FD⟩ := T.c.def_ 11 (d := d_is_stop) rfl; ⟨⟨_, fd, k_is_stop T FD, T.glo (x := "is_stop") 63, FD.kp, FD.bindsN fun _ _ _ _ _ _ us hl => match us, hl with | [_, _], _ => rfl⟩⟩
theorem s_look_at_stops : FnScope ["value", "many", "index", "one"] ["value", "many"] (defScope (top 20)) := ⟨rfl, rfl, rfl, by decide +kernel, rfl, by decide +kernel, by decide +kernel⟩
theorem k_look_at_stops (T : Fct K mg) {fd : FuncData} (FD : FunD K d_look_at_stops.toDefD.name d_look_at_stops.toDefD.qual d_look_at_stops.toDefD.params d_look_at_stops.toDefD.body d_look_at_stops.toDefD.scope (d_look_at_stops.toDefD.dvs K) (d_look_at_stops.toDefD.kws K) (d_look_at_stops.adr K) fd) : FnOk P w K mg base (L2.CX P w) 4 (d_look_at_stops.adr K) fd ["value", "many"] (spF P w K (GmK K) 2 f_look_at_stops) := by
  refine fn_mk (k := 3) (N := ["value", "many", "index", "one"]) (ps := ["value", "many"]) FD s_look_at_stops fun cdv A outer s H E hr => ?_
  have hN : (["value", "many", "index", "one"] : List Str).Nodup := (s_look_at_stops).nd
  have tk := takes_cx (P := P) (w := w) (K := K) (mg := mg) (base := base) (N := ["value", "many", "index", "one"]) (qual := "look_at_stops") (scope := defScope (top 20)) (i := d_look_at_stops.adr K) (cdv := cdv) (A := A) (outer := outer) (s := s) (H := H) (E := E)
  have hp := passes_cx (P := P) (w := w) (K := K) (mg := mg) (base := base) (N := ["value", "many", "index", "one"]) (qual := "look_at_stops") (scope := defScope (top 20)) (i := d_look_at_stops.adr K) (cdv := cdv) (A := A) (outer := outer) (s := s) (H := H) (E := E)
  exact es_cons (es_if (et_w (et_or (et_not (et_val (ex_isTy kind_tuple (ex_var 0) (T.free (x := "isinstance") 6) (T.free (x := "tuple") 5) rfl))) (et_or1 (et_not (et_chain m_le m_le (ex_int) (ex_callB b_len (T.free (x := "len") 2) rfl (ea_cons (ex_var 0) (ea_nil))) (ex_glob (T.cst (x := "MOST_STOPS") (d := (.int 4)) 16))))))) (es_one (es_raise (c := 6) (z_InvalidStop T) rfl (by decide) (hr.mono (by decide)) rfl tk (ea_cons (ex_non) (ea_nil)))) (es_nil))
    (es_one (es_for hp rfl (ei_enum (ex_var 0) (T.free (x := "enumerate") 13)) (eg_tup rfl (egs_cons (eg_name 2 hN) (egs_cons (eg_name 3 hN) (egs_nil)))) (es_one (es_if (et_w (et_or (et_not (et_val (ex_call (c_is_stop T) (hr.mono (by decide)) tk (ea_cons (ex_var 3) (ea_cons (ex_var 1) (ea_nil)))))) (et_or1 (et_cmp (m_inA (hr.mono (by decide))) (ex_var 3) (ex_cut (ex_var 0) (eo_none) (eo_some (ex_var 2))))))) (es_one (es_raise (c := 6) (z_InvalidStop T) rfl (by decide) (hr.mono (by decide)) rfl tk (ea_cons (ex_var 2) (ea_nil)))) (es_nil)))))
theorem c_look_at_stops (T : Fct K mg) : Cal P w K mg base (GmK K) 4 "look_at_stops" ["value", "many"] f_look_at_stops := let ⟨fd, FD⟩ := T.c.def_ 12 (d := d_look_at_stops) rfl; ⟨⟨_, fd, k_look_at_stops T FD, T.glo (x := "look_at_stops") 64, FD.kp, FD.bindsN fun _ _ _ _ _ _ us hl => match us, hl with | [_, _], _ => rfl⟩⟩
theorem s_Organ_init : FnScope ["self", "manuals", "couplers", "stops", "chain", "octave"] ["self", "manuals", "couplers", "stops", "chain", "octave"] (defScope (inCls (top 21) 1)) := ⟨rfl, rfl, rfl, by decide +kernel, rfl, by decide +kernel, by decide +kernel⟩
theorem k_Organ_init (T : Fct K mg) {fd : FuncData} (FD : FunD K d_Organ_init.toDefD.name d_Organ_init.toDefD.qual d_Organ_init.toDefD.params d_Organ_init.toDefD.body d_Organ_init.toDefD.scope (d_Organ_init.toDefD.dvs K) (d_Organ_init.toDefD.kws K) (d_Organ_init.adr K) fd) : FnOk P w K mg base (L2.CX P w) 5 (d_Organ_init.adr K) fd ["self", "manuals", "couplers", "stops", "chain", "octave"] (spF P w K (GmK K) 6 f_Organ_init) := by
  refine fn_mk (k := 4) (N := ["self", "manuals", "couplers", "stops", "chain", "octave"]) (ps := ["self", "manuals", "couplers", "stops", "chain", "octave"]) FD s_Organ_init fun cdv A outer s H E hr => ?_
  have hN : (["self", "manuals", "couplers", "stops", "chain", "octave"] : List Str).Nodup := (s_Organ_init).nd
  have tk := takes_cx (P := P) (w := w) (K := K) (mg := mg) (base := base) (N := ["self", "manuals", "couplers", "stops", "chain", "octave"]) (qual := "Organ.__init__") (scope := defScope (inCls (top 21) 1)) (i := d_Organ_init.adr K) (cdv := cdv) (A := A) (outer := outer) (s := s) (H := H) (E := E)
  have hp := passes_cx (P := P) (w := w) (K := K) (mg := mg) (base := base) (N := ["self", "manuals", "couplers", "stops", "chain", "octave"]) (qual := "Organ.__init__") (scope := defScope (inCls (top 21) 1)) (i := d_Organ_init.adr K) (cdv := cdv) (A := A) (outer := outer) (s := s) (H := H) (E := E)
  exact es_cons (es_if (et_not (et_val (ex_call (c_is_integer T) (hr.mono (by decide)) tk (ea_cons (ex_var 1) (ea_cons (ex_int) (ea_cons (ex_int) (ea_nil))))))) (es_one (es_raise0 (c := 4) (T.exc (x := "InvalidManuals") 8 9) rfl tk)) (es_nil))
    (es_cons (es_expr (ex_call (c_look_at_couplers T) (hr.mono (by decide)) tk (ea_cons (ex_var 2) (ea_cons (ex_var 1) (ea_nil)))))
    (es_cons (es_expr (ex_call (c_look_at_stops T) (hr.mono (by decide)) tk (ea_cons (ex_var 3) (ea_cons (ex_var 1) (ea_nil)))))
    (es_cons (es_if (et_w (et_or (et_not (et_val (ex_isTy kind_str (ex_var 4) (T.free (x := "isinstance") 6) (T.free (x := "str") 20) rfl))) (et_or1 (et_cmp (m_notInA (hr.mono (by decide))) (ex_var 4) (ex_glob (T.cst (x := "CHAINS") (d := (.tup [(.str "all"), (.str "pressed")])) 21)))))) (es_one (es_raise0 (c := 7) (T.exc (x := "InvalidChain") 22 23) rfl tk)) (es_nil))
    (es_cons (es_if (et_w (et_or (et_not (et_val (ex_call (c_is_integer T) (hr.mono (by decide)) tk (ea_cons (ex_var 5) (ea_cons (ex_int) (ea_cons (ex_int) (ea_nil))))))) (et_or1 (et_cmp (m_notInA (hr.mono (by decide))) (ex_var 5) (ex_glob (T.cst (x := "OCTAVES") (d := (.tup [(.int 0), (.int 2), (.int 3)])) 24)))))) (es_one (es_raise0 (c := 8) (T.exc (x := "InvalidOctave") 25 26) rfl tk)) (es_nil))
    (es_cons (es_fld (c := 0) (i := 2) (T.slt (x := "Organ") (f := "many") (i := 2) 27 28) (ex_var 0) (ex_var 1))
    (es_cons (es_fld (c := 0) (i := 1) (T.slt (x := "Organ") (f := "links") (i := 1) 27 29) (ex_var 0) (ex_var 2))
    (es_cons (es_fld (c := 0) (i := 4) (T.slt (x := "Organ") (f := "ranks") (i := 4) 27 30) (ex_var 0) (ex_var 3))
    (es_cons (es_fld (c := 0) (i := 3) (T.slt (x := "Organ") (f := "passing") (i := 3) 27 31) (ex_var 0) (ex_var 4))
    (es_one (es_fld (c := 0) (i := 0) (T.slt (x := "Organ") (f := "by") (i := 0) 27 32) (ex_var 0) (ex_var 5)))))))))))
theorem m_Organ (T : Fct K mg) : Mkd P w K mg base (GmK K) 5 0 "Organ" 6 f_Organ_init := let ⟨fd, FD⟩ := T.c.def_ 13 (d := d_Organ_init) rfl; ⟨T.glo (x := "Organ") 33, ⟨_, fd, _, He.mkr_ok (x := "Organ") (T.c.fact 34 (f := .he (.mkr "Organ"))), k_Organ_init T FD, FD.bindsN fun _ _ _ _ _ _ us hl => match us, hl with | [_, _, _, _, _, _], _ => rfl⟩⟩
theorem s__law_built : FnScope ["_law_t"] ["_law_t"] (defScope (top 39)) := ⟨rfl, rfl, rfl, by decide +kernel, rfl, by decide +kernel, by decide +kernel⟩
theorem k__law_built (T : Fct K mg) {fd : FuncData} (FD : FunD K d__law_built.toDefD.name d__law_built.toDefD.qual d__law_built.toDefD.params d__law_built.toDefD.body d__law_built.toDefD.scope (d__law_built.toDefD.dvs K) (d__law_built.toDefD.kws K) (d__law_built.adr K) fd) : FnOk P w K mg base (L2.CX P w) 7 (d__law_built.adr K) fd ["_law_t"] (spF P w K (GmK K) 1 f__law_built) := by
  refine fn_mk (k := 6) (N := ["_law_t"]) (ps := ["_law_t"]) FD s__law_built fun cdv A outer s H E hr => ?_
  have hN : (["_law_t"] : List Str).Nodup := (s__law_built).nd
  have tk := takes_cx (P := P) (w := w) (K := K) (mg := mg) (base := base) (N := ["_law_t"]) (qual := "_law_built") (scope := defScope (top 39)) (i := d__law_built.adr K) (cdv := cdv) (A := A) (outer := outer) (s := s) (H := H) (E := E)
  have hp := passes_cx (P := P) (w := w) (K := K) (mg := mg) (base := base) (N := ["_law_t"]) (qual := "_law_built") (scope := defScope (top 39)) (i := d__law_built.adr K) (cdv := cdv) (A := A) (outer := outer) (s := s) (H := H) (E := E)
  exact es_one (es_ret (ex_make (m_Organ T) (hr.mono (by decide)) tk (ea_cons (ex_ixA (hr.mono (by decide)) (ex_var 0) (ex_int)) (ea_cons (ex_ixA (hr.mono (by decide)) (ex_var 0) (ex_int)) (ea_cons (ex_ixA (hr.mono (by decide)) (ex_var 0) (ex_int)) (ea_cons (ex_ixA (hr.mono (by decide)) (ex_var 0) (ex_int)) (ea_cons (ex_ixA (hr.mono (by decide)) (ex_var 0) (ex_int)) (ea_nil))))))))
theorem c__law_built (T : Fct K mg) : Cal P w K mg base (GmK K) 7 "_law_built" ["_law_t"] f__law_built := let ⟨fd, FD⟩ := T.c.def_ 14 (d := d__law_built) rfl; ⟨⟨_, fd, k__law_built T FD, T.glo (x := "_law_built") 65, FD.kp, FD.bindsN fun _ _ _ _ _ _ us hl => match us, hl with | [_], _ => rfl⟩⟩
theorem s_write_organ : FnScope ["organ", "rows", "one", "part"] ["organ"] (defScope (top 25)) := ⟨rfl, rfl, rfl, by decide +kernel, rfl, by decide +kernel, by decide +kernel⟩
theorem k_write_organ (T : Fct K mg) {fd : FuncData} (FD : FunD K d_write_organ.toDefD.name d_write_organ.toDefD.qual d_write_organ.toDefD.params d_write_organ.toDefD.body d_write_organ.toDefD.scope (d_write_organ.toDefD.dvs K) (d_write_organ.toDefD.kws K) (d_write_organ.adr K) fd) : FnOk P w K mg base (L2.CX P w) 2 (d_write_organ.adr K) fd ["organ"] (spF P w K (GmK K) 1 f_write_organ) := by
  refine fn_mk (k := 1) (N := ["organ", "rows", "one", "part"]) (ps := ["organ"]) FD s_write_organ fun cdv A outer s H E hr => ?_
  have hN : (["organ", "rows", "one", "part"] : List Str).Nodup := (s_write_organ).nd
  have tk := takes_cx (P := P) (w := w) (K := K) (mg := mg) (base := base) (N := ["organ", "rows", "one", "part"]) (qual := "write_organ") (scope := defScope (top 25)) (i := d_write_organ.adr K) (cdv := cdv) (A := A) (outer := outer) (s := s) (H := H) (E := E)
  have hp := passes_cx (P := P) (w := w) (K := K) (mg := mg) (base := base) (N := ["organ", "rows", "one", "part"]) (qual := "write_organ") (scope := defScope (top 25)) (i := d_write_organ.adr K) (cdv := cdv) (A := A) (outer := outer) (s := s) (H := H) (E := E)
  exact es_cons (es_set 1 hN (ex_lst (ea_cons (ex_fstr (FJ.cons (ex_str) (FJ.cons (ex_fmt (ex_fld (c := 0) (i := 2) (T.slt (x := "Organ") (f := "many") (i := 2) 27 28) (ex_var 0))) (FJ.nil)))) (ea_cons (ex_fstr (FJ.cons (ex_str) (FJ.cons (ex_fmt (ex_fld (c := 0) (i := 3) (T.slt (x := "Organ") (f := "passing") (i := 3) 27 31) (ex_var 0))) (FJ.nil)))) (ea_cons (ex_fstr (FJ.cons (ex_str) (FJ.cons (ex_fmt (ex_fld (c := 0) (i := 0) (T.slt (x := "Organ") (f := "by") (i := 0) 27 32) (ex_var 0))) (FJ.nil)))) (ea_nil))))))
    (es_cons (es_expr (ex_meth F.plainAttrs_list F.slot_list_extend F.type_list_extend ty_lst l_extend (ex_var 1) (ea_cons (ex_lc (own := [("one", 2)]) rfl hN (ei_seq (ex_fld (c := 0) (i := 1) (T.slt (x := "Organ") (f := "links") (i := 1) 27 29) (ex_var 0))) (blkOk_by (N := ["organ", "rows", "one", "part"]) (sc := defScope (top 25)) (by decide +kernel)) (by decide) (fun _ _ _ _ _ => eg_name 2 hN) (fun _ _ _ _ _ => ets_nil) (fun _ _ _ _ _ => ex_join (ex_str) (ex_lst (ea_cons (ex_str) (ea_star (ex_lc (own := [("part", 3)]) rfl hN (ei_seq (ex_var 2)) (blkOk_by (N := ["organ", "rows", "one", "part"]) (sc := L2.relS ({ kind := .function, names := [(".0", .local), ("one", .local)], isGenerator := false, isCoroutine := false } : Scope) (defScope (top 25))) (by decide +kernel)) (by decide) (fun _ _ _ _ _ => eg_name 3 hN) (fun _ _ _ _ _ => ets_nil) (fun _ _ _ _ _ => ex_callTy b_str (T.free (x := "str") 20) rfl (ea_cons (ex_var 3) (ea_nil)))) (ea_nil)))))) (ea_nil))))
    (es_cons (es_expr (ex_meth F.plainAttrs_list F.slot_list_extend F.type_list_extend ty_lst l_extend (ex_var 1) (ea_cons (ex_lc (own := [("one", 2)]) rfl hN (ei_seq (ex_fld (c := 0) (i := 4) (T.slt (x := "Organ") (f := "ranks") (i := 4) 27 30) (ex_var 0))) (blkOk_by (N := ["organ", "rows", "one", "part"]) (sc := defScope (top 25)) (by decide +kernel)) (by decide) (fun _ _ _ _ _ => eg_name 2 hN) (fun _ _ _ _ _ => ets_nil) (fun _ _ _ _ _ => ex_join (ex_str) (ex_lst (ea_cons (ex_str) (ea_star (ex_lc (own := [("part", 3)]) rfl hN (ei_seq (ex_var 2)) (blkOk_by (N := ["organ", "rows", "one", "part"]) (sc := L2.relS ({ kind := .function, names := [(".0", .local), ("one", .local)], isGenerator := false, isCoroutine := false } : Scope) (defScope (top 25))) (by decide +kernel)) (by decide) (fun _ _ _ _ _ => eg_name 3 hN) (fun _ _ _ _ _ => ets_nil) (fun _ _ _ _ _ => ex_callTy b_str (T.free (x := "str") 20) rfl (ea_cons (ex_var 3) (ea_nil)))) (ea_nil)))))) (ea_nil))))
    (es_one (es_ret (ex_join (ex_str) (ex_var 1))))))
theorem c_write_organ (T : Fct K mg) : Cal P w K mg base (GmK K) 2 "write_organ" ["organ"] f_write_organ := let ⟨fd, FD⟩ := T.c.def_ 15 (d := d_write_organ) rfl; ⟨⟨_, fd, k_write_organ T FD, T.glo (x := "write_organ") 66, FD.kp, FD.bindsN fun _ _ _ _ _ _ us hl => match us, hl with | [_], _ => rfl⟩⟩
theorem s_Line_init : FnScope ["self", "text", "number", "word"] ["self", "text", "number"] (defScope (inCls (top 26) 0)) := ⟨rfl, rfl, rfl, by decide +kernel, rfl, by decide +kernel, by decide +kernel⟩
theorem k_Line_init (T : Fct K mg) {fd : FuncData} (FD : FunD K d_Line_init.toDefD.name d_Line_init.toDefD.qual d_Line_init.toDefD.params d_Line_init.toDefD.body d_Line_init.toDefD.scope (d_Line_init.toDefD.dvs K) (d_Line_init.toDefD.kws K) (d_Line_init.adr K) fd) : FnOk P w K mg base (L2.CX P w) 2 (d_Line_init.adr K) fd ["self", "text", "number"] (spF P w K (GmK K) 3 f_Line_init) := by
  refine fn_mk (k := 1) (N := ["self", "text", "number", "word"]) (ps := ["self", "text", "number"]) FD s_Line_init fun cdv A outer s H E hr => ?_
  have hN : (["self", "text", "number", "word"] : List Str).Nodup := (s_Line_init).nd
  have tk := takes_cx (P := P) (w := w) (K := K) (mg := mg) (base := base) (N := ["self", "text", "number", "word"]) (qual := "Line.__init__") (scope := defScope (inCls (top 26) 0)) (i := d_Line_init.adr K) (cdv := cdv) (A := A) (outer := outer) (s := s) (H := H) (E := E)
  have hp := passes_cx (P := P) (w := w) (K := K) (mg := mg) (base := base) (N := ["self", "text", "number", "word"]) (qual := "Line.__init__") (scope := defScope (inCls (top 26) 0)) (i := d_Line_init.adr K) (cdv := cdv) (A := A) (outer := outer) (s := s) (H := H) (E := E)
  exact es_cons (es_fldI (c := 2) (i := 0) ⟨He.cls_ok (x := "Line") (T.c.fact 35 (f := .he (.cls "Line"))), He.noat_ok (x := "Line") (f := "number") (T.c.fact 36 (f := .he (.noat "Line" "number"))), rfl, (show (cN 2).Nodup by decide), (show (cN 2).length < 900 by decide)⟩ (ex_var 0) (ex_var 2))
    (es_cons (es_fldI (c := 2) (i := 1) ⟨He.cls_ok (x := "Line") (T.c.fact 35 (f := .he (.cls "Line"))), He.noat_ok (x := "Line") (f := "parts") (T.c.fact 37 (f := .he (.noat "Line" "parts"))), rfl, (show (cN 2).Nodup by decide), (show (cN 2).length < 900 by decide)⟩ (ex_var 0) (ex_lc (own := [("word", 3)]) rfl hN (ei_seq (ex_split (ex_var 1) (ex_str))) (blkOk_by (N := ["self", "text", "number", "word"]) (sc := defScope (inCls (top 26) 0)) (by decide +kernel)) (by decide) (fun _ _ _ _ _ => eg_name 3 hN) (fun _ _ _ _ _ => ets_one (et_cmp (m_ne (u64 hr)) (ex_var 3) (ex_str))) (fun _ _ _ _ _ => ex_var 3)))
    (es_one (es_fldI (c := 2) (i := 2) ⟨He.cls_ok (x := "Line") (T.c.fact 35 (f := .he (.cls "Line"))), He.noat_ok (x := "Line") (f := "place") (T.c.fact 38 (f := .he (.noat "Line" "place"))), rfl, (show (cN 2).Nodup by decide), (show (cN 2).length < 900 by decide)⟩ (ex_var 0) (ex_int))))
theorem m_Line (T : Fct K mg) : Mkd P w K mg base (GmK K) 2 2 "Line" 3 f_Line_init := let ⟨fd, FD⟩ := T.c.def_ 16 (d := d_Line_init) rfl; ⟨T.glo (x := "Line") 39, ⟨_, fd, _, He.mkr_ok (x := "Line") (T.c.fact 40 (f := .he (.mkr "Line"))), k_Line_init T FD, FD.bindsN fun _ _ _ _ _ _ us hl => match us, hl with | [_, _, _], _ => rfl⟩⟩
theorem s_InvalidText_init : FnScope ["self", "line", "word"] ["self", "line", "word"] (defScope (inCls (top 8) 0)) := ⟨rfl, rfl, rfl, by decide +kernel, rfl, by decide +kernel, by decide +kernel⟩
theorem z_InvalidText (T : Fct K mg) : RzI P w K mg base 1 (He.ga K "InvalidText") "InvalidText" (cN 18) := by
  obtain ⟨fd, FD⟩ := T.c.def_ 17 (d := d_InvalidText_init) rfl
  obtain ⟨o1, o2, o3, o4⟩ := fx_oex (T.c.fact 43 (f := .oex "InvalidText" ["line", "word"]) rfl)
  refine ⟨o1, ⟨_, fd, ["self", "line", "word"], o2, o3, ?_, FD.bindsN fun _ _ _ _ _ _ us hl => match us, hl with | [_, _, _], _ => rfl⟩, T.glo 42⟩
  exact init_mk2 FD s_InvalidText_init o1 (o4 _ (by simp)) (o4 _ (by simp)) fun cdv A outer s H E => pss_cons (ps_ost (pv 0) (pv 1)) (pss_one (ps_ost (pv 0) (pv 2)))
theorem s_Line_refuse : FnScope ["self"] ["self"] (defScope (inCls (top 26) 1)) := ⟨rfl, rfl, rfl, by decide +kernel, rfl, by decide +kernel, by decide +kernel⟩
theorem k_Line_refuse (T : Fct K mg) {fd : FuncData} (FD : FunD K d_Line_refuse.toDefD.name d_Line_refuse.toDefD.qual d_Line_refuse.toDefD.params d_Line_refuse.toDefD.body d_Line_refuse.toDefD.scope (d_Line_refuse.toDefD.dvs K) (d_Line_refuse.toDefD.kws K) (d_Line_refuse.adr K) fd) : FnOk P w K mg base (L2.CX P w) 3 (d_Line_refuse.adr K) fd ["self"] (spF P w K (GmK K) 1 f_Line_refuse) := by
  refine fn_mk (k := 2) (N := ["self"]) (ps := ["self"]) FD s_Line_refuse fun cdv A outer s H E hr => ?_
  have hN : (["self"] : List Str).Nodup := (s_Line_refuse).nd
  have tk := takes_cx (P := P) (w := w) (K := K) (mg := mg) (base := base) (N := ["self"]) (qual := "Line.refuse") (scope := defScope (inCls (top 26) 1)) (i := d_Line_refuse.adr K) (cdv := cdv) (A := A) (outer := outer) (s := s) (H := H) (E := E)
  have hp := passes_cx (P := P) (w := w) (K := K) (mg := mg) (base := base) (N := ["self"]) (qual := "Line.refuse") (scope := defScope (inCls (top 26) 1)) (i := d_Line_refuse.adr K) (cdv := cdv) (A := A) (outer := outer) (s := s) (H := H) (E := E)
  exact es_one (es_raise (c := 18) (z_InvalidText T) rfl (by decide) (hr.mono (by decide)) rfl tk (ea_cons (ex_fldI (c := 2) (i := 0) ⟨He.cls_ok (x := "Line") (T.c.fact 35 (f := .he (.cls "Line"))), He.noat_ok (x := "Line") (f := "number") (T.c.fact 36 (f := .he (.noat "Line" "number"))), rfl, (show (cN 2).Nodup by decide), (show (cN 2).length < 900 by decide)⟩ (ex_var 0)) (ea_cons (ex_op m_add (ex_fldI (c := 2) (i := 2) ⟨He.cls_ok (x := "Line") (T.c.fact 35 (f := .he (.cls "Line"))), He.noat_ok (x := "Line") (f := "place") (T.c.fact 38 (f := .he (.noat "Line" "place"))), rfl, (show (cN 2).Nodup by decide), (show (cN 2).length < 900 by decide)⟩ (ex_var 0)) (ex_int)) (ea_nil))))
theorem q_Line_refuse (T : Fct K mg) : MetD P w K mg base (GmK K) 3 2 "refuse" 1 f_Line_refuse := let ⟨fd, FD⟩ := T.c.def_ 18 (d := d_Line_refuse) rfl; ⟨⟨_, fd, _, He.meth_ok (x := "Line") (m := "refuse") (T.c.fact 44 (f := .he (.meth "Line" "refuse"))), k_Line_refuse T FD, FD.bindsN fun _ _ _ _ _ _ us hl => match us, hl with | [_], _ => rfl⟩⟩
theorem s_Line_take_one : FnScope ["self", "words"] ["self", "words"] (defScope (inCls (top 26) 2)) := ⟨rfl, rfl, rfl, by decide +kernel, rfl, by decide +kernel, by decide +kernel⟩
theorem k_Line_take_one (T : Fct K mg) {fd : FuncData} (FD : FunD K d_Line_take_one.toDefD.name d_Line_take_one.toDefD.qual d_Line_take_one.toDefD.params d_Line_take_one.toDefD.body d_Line_take_one.toDefD.scope (d_Line_take_one.toDefD.dvs K) (d_Line_take_one.toDefD.kws K) (d_Line_take_one.adr K) fd) : FnOk P w K mg base (L2.CX P w) 4 (d_Line_take_one.adr K) fd ["self", "words"] (spF P w K (GmK K) 2 f_Line_take_one) := by
  refine fn_mk (k := 3) (N := ["self", "words"]) (ps := ["self", "words"]) FD s_Line_take_one fun cdv A outer s H E hr => ?_
  have hN : (["self", "words"] : List Str).Nodup := (s_Line_take_one).nd
  have tk := takes_cx (P := P) (w := w) (K := K) (mg := mg) (base := base) (N := ["self", "words"]) (qual := "Line.take_one") (scope := defScope (inCls (top 26) 2)) (i := d_Line_take_one.adr K) (cdv := cdv) (A := A) (outer := outer) (s := s) (H := H) (E := E)
  have hp := passes_cx (P := P) (w := w) (K := K) (mg := mg) (base := base) (N := ["self", "words"]) (qual := "Line.take_one") (scope := defScope (inCls (top 26) 2)) (i := d_Line_take_one.adr K) (cdv := cdv) (A := A) (outer := outer) (s := s) (H := H) (E := E)
  exact es_cons (es_if (et_w (et_or (et_cmp (m_eq (u64 hr)) (ex_fldI (c := 2) (i := 2) ⟨He.cls_ok (x := "Line") (T.c.fact 35 (f := .he (.cls "Line"))), He.noat_ok (x := "Line") (f := "place") (T.c.fact 38 (f := .he (.noat "Line" "place"))), rfl, (show (cN 2).Nodup by decide), (show (cN 2).length < 900 by decide)⟩ (ex_var 0)) (ex_callB b_len (T.free (x := "len") 2) rfl (ea_cons (ex_fldI (c := 2) (i := 1) ⟨He.cls_ok (x := "Line") (T.c.fact 35 (f := .he (.cls "Line"))), He.noat_ok (x := "Line") (f := "parts") (T.c.fact 37 (f := .he (.noat "Line" "parts"))), rfl, (show (cN 2).Nodup by decide), (show (cN 2).length < 900 by decide)⟩ (ex_var 0)) (ea_nil)))) (et_or1 (et_cmp (m_notInA (hr.mono (by decide))) (ex_ixA (hr.mono (by decide)) (ex_fldI (c := 2) (i := 1) ⟨He.cls_ok (x := "Line") (T.c.fact 35 (f := .he (.cls "Line"))), He.noat_ok (x := "Line") (f := "parts") (T.c.fact 37 (f := .he (.noat "Line" "parts"))), rfl, (show (cN 2).Nodup by decide), (show (cN 2).length < 900 by decide)⟩ (ex_var 0)) (ex_fldI (c := 2) (i := 2) ⟨He.cls_ok (x := "Line") (T.c.fact 35 (f := .he (.cls "Line"))), He.noat_ok (x := "Line") (f := "place") (T.c.fact 38 (f := .he (.noat "Line" "place"))), rfl, (show (cN 2).Nodup by decide), (show (cN 2).length < 900 by decide)⟩ (ex_var 0))) (ex_var 1))))) (es_one (es_expr (ex_metI0 (c := 2) (He.cls_ok (x := "Line") (T.c.fact 35 (f := .he (.cls "Line")))) (by rfl) (q_Line_refuse T) (hr.mono (by decide)) tk (ex_var 0)))) (es_nil))
    (es_cons (es_augI (c := 2) (i := 2) ⟨He.cls_ok (x := "Line") (T.c.fact 35 (f := .he (.cls "Line"))), He.noat_ok (x := "Line") (f := "place") (T.c.fact 38 (f := .he (.noat "Line" "place"))), rfl, (show (cN 2).Nodup by decide), (show (cN 2).length < 900 by decide)⟩ (ex_var 0))
    (es_one (es_ret (ex_ixA (hr.mono (by decide)) (ex_fldI (c := 2) (i := 1) ⟨He.cls_ok (x := "Line") (T.c.fact 35 (f := .he (.cls "Line"))), He.noat_ok (x := "Line") (f := "parts") (T.c.fact 37 (f := .he (.noat "Line" "parts"))), rfl, (show (cN 2).Nodup by decide), (show (cN 2).length < 900 by decide)⟩ (ex_var 0)) (ex_op m_sub (ex_fldI (c := 2) (i := 2) ⟨He.cls_ok (x := "Line") (T.c.fact 35 (f := .he (.cls "Line"))), He.noat_ok (x := "Line") (f := "place") (T.c.fact 38 (f := .he (.noat "Line" "place"))), rfl, (show (cN 2).Nodup by decide), (show (cN 2).length < 900 by decide)⟩ (ex_var 0)) (ex_int))))))
theorem q_Line_take_one (T : Fct K mg) : MetD P w K mg base (GmK K) 4 2 "take_one" 2 f_Line_take_one := let ⟨fd, FD⟩ := T.c.def_ 19 (d := d_Line_take_one) rfl; ⟨⟨_, fd, _, He.meth_ok (x := "Line") (m := "take_one") (T.c.fact 45 (f := .he (.meth "Line" "take_one"))), k_Line_take_one T FD, FD.bindsN fun _ _ _ _ _ _ us hl => match us, hl with | [_, _], _ => rfl⟩⟩
theorem s_Line_finish : FnScope ["self"] ["self"] (defScope (inCls (top 26) 4)) := ⟨rfl, rfl, rfl, by decide +kernel, rfl, by decide +kernel, by decide +kernel⟩
theorem k_Line_finish (T : Fct K mg) {fd : FuncData} (FD : FunD K d_Line_finish.toDefD.name d_Line_finish.toDefD.qual d_Line_finish.toDefD.params d_Line_finish.toDefD.body d_Line_finish.toDefD.scope (d_Line_finish.toDefD.dvs K) (d_Line_finish.toDefD.kws K) (d_Line_finish.adr K) fd) : FnOk P w K mg base (L2.CX P w) 4 (d_Line_finish.adr K) fd ["self"] (spF P w K (GmK K) 1 f_Line_finish) := by
  refine fn_mk (k := 3) (N := ["self"]) (ps := ["self"]) FD s_Line_finish fun cdv A outer s H E hr => ?_
  have hN : (["self"] : List Str).Nodup := (s_Line_finish).nd
  have tk := takes_cx (P := P) (w := w) (K := K) (mg := mg) (base := base) (N := ["self"]) (qual := "Line.finish") (scope := defScope (inCls (top 26) 4)) (i := d_Line_finish.adr K) (cdv := cdv) (A := A) (outer := outer) (s := s) (H := H) (E := E)
  have hp := passes_cx (P := P) (w := w) (K := K) (mg := mg) (base := base) (N := ["self"]) (qual := "Line.finish") (scope := defScope (inCls (top 26) 4)) (i := d_Line_finish.adr K) (cdv := cdv) (A := A) (outer := outer) (s := s) (H := H) (E := E)
  exact es_one (es_if (et_cmp m_lt (ex_fldI (c := 2) (i := 2) ⟨He.cls_ok (x := "Line") (T.c.fact 35 (f := .he (.cls "Line"))), He.noat_ok (x := "Line") (f := "place") (T.c.fact 38 (f := .he (.noat "Line" "place"))), rfl, (show (cN 2).Nodup by decide), (show (cN 2).length < 900 by decide)⟩ (ex_var 0)) (ex_callB b_len (T.free (x := "len") 2) rfl (ea_cons (ex_fldI (c := 2) (i := 1) ⟨He.cls_ok (x := "Line") (T.c.fact 35 (f := .he (.cls "Line"))), He.noat_ok (x := "Line") (f := "parts") (T.c.fact 37 (f := .he (.noat "Line" "parts"))), rfl, (show (cN 2).Nodup by decide), (show (cN 2).length < 900 by decide)⟩ (ex_var 0)) (ea_nil)))) (es_one (es_expr (ex_metI0 (c := 2) (He.cls_ok (x := "Line") (T.c.fact 35 (f := .he (.cls "Line")))) (by rfl) (q_Line_refuse T) (hr.mono (by decide)) tk (ex_var 0)))) (es_nil))
theorem q_Line_finish (T : Fct K mg) : MetD P w K mg base (GmK K) 4 2 "finish" 1 f_Line_finish := let ⟨fd, FD⟩ := T.c.def_ 20 (d := d_Line_finish) rfl; ⟨⟨_, fd, _, He.meth_ok (x := "Line") (m := "finish") (T.c.fact 46 (f := .he (.meth "Line" "finish"))), k_Line_finish T FD, FD.bindsN fun _ _ _ _ _ _ us hl => match us, hl with | [_], _ => rfl⟩⟩
theorem s_head_in : FnScope ["line", "word", "words", "found"] ["line", "word", "words"] (defScope (top 27)) := ⟨rfl, rfl, rfl, by decide +kernel, rfl, by decide +kernel, by decide +kernel⟩
theorem k_head_in (T : Fct K mg) {fd : FuncData} (FD : FunD K d_head_in.toDefD.name d_head_in.toDefD.qual d_head_in.toDefD.params d_head_in.toDefD.body d_head_in.toDefD.scope (d_head_in.toDefD.dvs K) (d_head_in.toDefD.kws K) (d_head_in.adr K) fd) : FnOk P w K mg base (L2.CX P w) 5 (d_head_in.adr K) fd ["line", "word", "words"] (spF P w K (GmK K) 3 f_head_in) := by
  refine fn_mk (k := 4) (N := ["line", "word", "words", "found"]) (ps := ["line", "word", "words"]) FD s_head_in fun cdv A outer s H E hr => ?_
  have hN : (["line", "word", "words", "found"] : List Str).Nodup := (s_head_in).nd
  have tk := takes_cx (P := P) (w := w) (K := K) (mg := mg) (base := base) (N := ["line", "word", "words", "found"]) (qual := "head_in") (scope := defScope (top 27)) (i := d_head_in.adr K) (cdv := cdv) (A := A) (outer := outer) (s := s) (H := H) (E := E)
  have hp := passes_cx (P := P) (w := w) (K := K) (mg := mg) (base := base) (N := ["line", "word", "words", "found"]) (qual := "head_in") (scope := defScope (top 27)) (i := d_head_in.adr K) (cdv := cdv) (A := A) (outer := outer) (s := s) (H := H) (E := E)
  exact es_cons (es_expr (ex_metI (c := 2) (He.cls_ok (x := "Line") (T.c.fact 35 (f := .he (.cls "Line")))) (by rfl) (q_Line_take_one T) (hr.mono (by decide)) tk (ex_var 0) (ea_cons (ex_tup (ea_cons (ex_var 1) (ea_nil))) (ea_nil))))
    (es_cons (es_set 3 hN (ex_metI (c := 2) (He.cls_ok (x := "Line") (T.c.fact 35 (f := .he (.cls "Line")))) (by rfl) (q_Line_take_one T) (hr.mono (by decide)) tk (ex_var 0) (ea_cons (ex_var 2) (ea_nil))))
    (es_cons (es_expr (ex_metI0 (c := 2) (He.cls_ok (x := "Line") (T.c.fact 35 (f := .he (.cls "Line")))) (by rfl) (q_Line_finish T) (hr.mono (by decide)) tk (ex_var 0)))
    (es_one (es_ret (ex_var 3)))))
theorem c_head_in (T : Fct K mg) : Cal P w K mg base (GmK K) 5 "head_in" ["line", "word", "words"] f_head_in := let ⟨fd, FD⟩ := T.c.def_ 21 (d := d_head_in) rfl; ⟨⟨_, fd, k_head_in T FD, T.glo (x := "head_in") 67, FD.kp, FD.bindsN fun _ _ _ _ _ _ us hl => match us, hl with | [_, _, _], _ => rfl⟩⟩
theorem s_kinds_of : FnScope ["links", "ranks", "found"] ["links", "ranks"] (defScope (top 30)) := ⟨rfl, rfl, rfl, by decide +kernel, rfl, by decide +kernel, by decide +kernel⟩
theorem k_kinds_of (T : Fct K mg) {fd : FuncData} (FD : FunD K d_kinds_of.toDefD.name d_kinds_of.toDefD.qual d_kinds_of.toDefD.params d_kinds_of.toDefD.body d_kinds_of.toDefD.scope (d_kinds_of.toDefD.dvs K) (d_kinds_of.toDefD.kws K) (d_kinds_of.adr K) fd) : FnOk P w K mg base (L2.CX P w) 2 (d_kinds_of.adr K) fd ["links", "ranks"] (spF P w K (GmK K) 2 f_kinds_of) := by
  refine fn_mk (k := 1) (N := ["links", "ranks", "found"]) (ps := ["links", "ranks"]) FD s_kinds_of fun cdv A outer s H E hr => ?_
  have hN : (["links", "ranks", "found"] : List Str).Nodup := (s_kinds_of).nd
  have tk := takes_cx (P := P) (w := w) (K := K) (mg := mg) (base := base) (N := ["links", "ranks", "found"]) (qual := "kinds_of") (scope := defScope (top 30)) (i := d_kinds_of.adr K) (cdv := cdv) (A := A) (outer := outer) (s := s) (H := H) (E := E)
  have hp := passes_cx (P := P) (w := w) (K := K) (mg := mg) (base := base) (N := ["links", "ranks", "found"]) (qual := "kinds_of") (scope := defScope (top 30)) (i := d_kinds_of.adr K) (cdv := cdv) (A := A) (outer := outer) (s := s) (H := H) (E := E)
  exact es_cons (es_set 2 hN (ex_lst (ea_nil)))
    (es_cons (es_if (et_w (et_and (et_cmp (m_eq (u64 hr)) (ex_var 1) (ex_lst (ea_nil))) (et_and1 (et_cmp m_lt (ex_callB b_len (T.free (x := "len") 2) rfl (ea_cons (ex_var 0) (ea_nil))) (ex_glob (T.cst (x := "MOST_COUPLERS") (d := (.int 5)) 10)))))) (es_one (es_expr (ex_meth F.plainAttrs_list F.slot_list_append F.type_list_append ty_lst l_append (ex_var 2) (ea_cons (ex_str) (ea_nil))))) (es_nil))
    (es_cons (es_if (et_cmp m_lt (ex_callB b_len (T.free (x := "len") 2) rfl (ea_cons (ex_var 1) (ea_nil))) (ex_glob (T.cst (x := "MOST_STOPS") (d := (.int 4)) 16))) (es_one (es_expr (ex_meth F.plainAttrs_list F.slot_list_append F.type_list_append ty_lst l_append (ex_var 2) (ea_cons (ex_str) (ea_nil))))) (es_nil))
    (es_one (es_ret (ex_var 2)))))
theorem c_kinds_of (T : Fct K mg) : Cal P w K mg base (GmK K) 2 "kinds_of" ["links", "ranks"] f_kinds_of := let ⟨fd, FD⟩ := T.c.def_ 22 (d := d_kinds_of) rfl; ⟨⟨_, fd, k_kinds_of T FD, T.glo (x := "kinds_of") 68, FD.kp, FD.bindsN fun _ _ _ _ _ _ us hl => match us, hl with | [_, _], _ => rfl⟩⟩
theorem s_Line_take_number : FnScope ["self", "numbers", "number"] ["self", "numbers"] (defScope (inCls (top 26) 3)) := ⟨rfl, rfl, rfl, by decide +kernel, rfl, by decide +kernel, by decide +kernel⟩
theorem k_Line_take_number (T : Fct K mg) {fd : FuncData} (FD : FunD K d_Line_take_number.toDefD.name d_Line_take_number.toDefD.qual d_Line_take_number.toDefD.params d_Line_take_number.toDefD.body d_Line_take_number.toDefD.scope (d_Line_take_number.toDefD.dvs K) (d_Line_take_number.toDefD.kws K) (d_Line_take_number.adr K) fd) : FnOk P w K mg base (L2.CX P w) 5 (d_Line_take_number.adr K) fd ["self", "numbers"] (spF P w K (GmK K) 2 f_Line_take_number) := by
  refine fn_mk (k := 4) (N := ["self", "numbers", "number"]) (ps := ["self", "numbers"]) FD s_Line_take_number fun cdv A outer s H E hr => ?_
  have hN : (["self", "numbers", "number"] : List Str).Nodup := (s_Line_take_number).nd
  have tk := takes_cx (P := P) (w := w) (K := K) (mg := mg) (base := base) (N := ["self", "numbers", "number"]) (qual := "Line.take_number") (scope := defScope (inCls (top 26) 3)) (i := d_Line_take_number.adr K) (cdv := cdv) (A := A) (outer := outer) (s := s) (H := H) (E := E)
  have hp := passes_cx (P := P) (w := w) (K := K) (mg := mg) (base := base) (N := ["self", "numbers", "number"]) (qual := "Line.take_number") (scope := defScope (inCls (top 26) 3)) (i := d_Line_take_number.adr K) (cdv := cdv) (A := A) (outer := outer) (s := s) (H := H) (E := E)
  exact es_one (es_ret (ex_callTy b_intS (T.free (x := "int") 0) rfl (ea_cons (ex_metI (c := 2) (He.cls_ok (x := "Line") (T.c.fact 35 (f := .he (.cls "Line")))) (by rfl) (q_Line_take_one T) (hr.mono (by decide)) tk (ex_var 0) (ea_cons (ex_lc (own := [("number", 2)]) rfl hN (ei_seq (ex_var 1)) (blkOk_by (N := ["self", "numbers", "number"]) (sc := defScope (inCls (top 26) 3)) (by decide +kernel)) (by decide) (fun _ _ _ _ _ => eg_name 2 hN) (fun _ _ _ _ _ => ets_nil) (fun _ _ _ _ _ => ex_callTy b_str (T.free (x := "str") 20) rfl (ea_cons (ex_var 2) (ea_nil)))) (ea_nil))) (ea_nil))))
theorem q_Line_take_number (T : Fct K mg) : MetD P w K mg base (GmK K) 5 2 "take_number" 2 f_Line_take_number := let ⟨fd, FD⟩ := T.c.def_ 23 (d := d_Line_take_number) rfl; ⟨⟨_, fd, _, He.meth_ok (x := "Line") (m := "take_number") (T.c.fact 48 (f := .he (.meth "Line" "take_number"))), k_Line_take_number T FD, FD.bindsN fun _ _ _ _ _ _ us hl => match us, hl with | [_, _], _ => rfl⟩⟩
theorem s_coupler_in : FnScope ["line", "many", "known", "first", "second", "some", "found", "shift"] ["line", "many", "known"] (defScope (top 28)) := ⟨rfl, rfl, rfl, by decide +kernel, rfl, by decide +kernel, by decide +kernel⟩
theorem k_coupler_in (T : Fct K mg) {fd : FuncData} (FD : FunD K d_coupler_in.toDefD.name d_coupler_in.toDefD.qual d_coupler_in.toDefD.params d_coupler_in.toDefD.body d_coupler_in.toDefD.scope (d_coupler_in.toDefD.dvs K) (d_coupler_in.toDefD.kws K) (d_coupler_in.adr K) fd) : FnOk P w K mg base (L2.CX P w) 6 (d_coupler_in.adr K) fd ["line", "many", "known"] (spF P w K (GmK K) 3 f_coupler_in) := by
  refine fn_mk (k := 5) (N := ["line", "many", "known", "first", "second", "some", "found", "shift"]) (ps := ["line", "many", "known"]) FD s_coupler_in fun cdv A outer s H E hr => ?_
  have hN : (["line", "many", "known", "first", "second", "some", "found", "shift"] : List Str).Nodup := (s_coupler_in).nd
  have tk := takes_cx (P := P) (w := w) (K := K) (mg := mg) (base := base) (N := ["line", "many", "known", "first", "second", "some", "found", "shift"]) (qual := "coupler_in") (scope := defScope (top 28)) (i := d_coupler_in.adr K) (cdv := cdv) (A := A) (outer := outer) (s := s) (H := H) (E := E)
  have hp := passes_cx (P := P) (w := w) (K := K) (mg := mg) (base := base) (N := ["line", "many", "known", "first", "second", "some", "found", "shift"]) (qual := "coupler_in") (scope := defScope (top 28)) (i := d_coupler_in.adr K) (cdv := cdv) (A := A) (outer := outer) (s := s) (H := H) (E := E)
  exact es_cons (es_asg (ex_tup (ea_cons (ex_metI (c := 2) (He.cls_ok (x := "Line") (T.c.fact 35 (f := .he (.cls "Line")))) (by rfl) (q_Line_take_number T) (hr.mono (by decide)) tk (ex_var 0) (ea_cons (ex_listRg rfl (ex_var 1) (T.free (x := "list") 1) (T.free (x := "range") 4)) (ea_nil))) (ea_cons (ex_metI (c := 2) (He.cls_ok (x := "Line") (T.c.fact 35 (f := .he (.cls "Line")))) (by rfl) (q_Line_take_number T) (hr.mono (by decide)) tk (ex_var 0) (ea_cons (ex_listRg rfl (ex_var 1) (T.free (x := "list") 1) (T.free (x := "range") 4)) (ea_nil))) (ea_nil)))) (eg_tup rfl (egs_cons (eg_name 3 hN) (egs_cons (eg_name 4 hN) (egs_nil)))))
    (es_cons (es_setLc (own := [("shift", 7)]) 5 rfl hN (ei_range2 (ex_neg (ex_glob (T.cst (x := "MOST_SHIFT") (d := (.int 2)) 15))) (ex_op m_add (ex_glob (T.cst (x := "MOST_SHIFT") (d := (.int 2)) 15)) (ex_int)) (T.free (x := "range") 4)) (blkOk_by (N := ["line", "many", "known", "first", "second", "some", "found", "shift"]) (sc := defScope (top 28)) (by decide +kernel)) (by decide) (fun _ _ _ _ _ => eg_name 7 hN) (fun _ _ _ _ _ => ets_one (et_cmp (m_notInA (hr.mono (by decide))) (ex_tup (ea_cons (ex_var 3) (ea_cons (ex_var 4) (ea_cons (ex_var 7) (ea_nil))))) (ex_var 2))) (fun _ _ _ _ _ => ex_var 7) rfl)
    (es_cons (es_if (et_cmp (m_eq (u64 hr)) (ex_var 3) (ex_var 4)) (es_one (es_setLc (own := [("shift", 7)]) 5 rfl hN (ei_seq (ex_var 5)) (blkOk_by (N := ["line", "many", "known", "first", "second", "some", "found", "shift"]) (sc := defScope (top 28)) (by decide +kernel)) (by decide) (fun _ _ _ _ _ => eg_name 7 hN) (fun _ _ _ _ _ => ets_one (et_cmp (m_ne (u64 hr)) (ex_var 7) (ex_int))) (fun _ _ _ _ _ => ex_var 7) rfl)) (es_nil))
    (es_cons (es_set 6 hN (ex_tup (ea_cons (ex_var 3) (ea_cons (ex_var 4) (ea_cons (ex_metI (c := 2) (He.cls_ok (x := "Line") (T.c.fact 35 (f := .he (.cls "Line")))) (by rfl) (q_Line_take_number T) (hr.mono (by decide)) tk (ex_var 0) (ea_cons (ex_var 5) (ea_nil))) (ea_nil))))))
    (es_cons (es_expr (ex_metI0 (c := 2) (He.cls_ok (x := "Line") (T.c.fact 35 (f := .he (.cls "Line")))) (by rfl) (q_Line_finish T) (hr.mono (by decide)) tk (ex_var 0)))
    (es_one (es_ret (ex_var 6)))))))
theorem c_coupler_in (T : Fct K mg) : Cal P w K mg base (GmK K) 6 "coupler_in" ["line", "many", "known"] f_coupler_in := let ⟨fd, FD⟩ := T.c.def_ 24 (d := d_coupler_in) rfl; ⟨⟨_, fd, k_coupler_in T FD, T.glo (x := "coupler_in") 69, FD.kp, FD.bindsN fun _ _ _ _ _ _ us hl => match us, hl with | [_, _, _], _ => rfl⟩⟩
theorem s_stop_in : FnScope ["line", "many", "known", "manual", "rank", "some", "found", "shift"] ["line", "many", "known"] (defScope (top 29)) := ⟨rfl, rfl, rfl, by decide +kernel, rfl, by decide +kernel, by decide +kernel⟩
theorem k_stop_in (T : Fct K mg) {fd : FuncData} (FD : FunD K d_stop_in.toDefD.name d_stop_in.toDefD.qual d_stop_in.toDefD.params d_stop_in.toDefD.body d_stop_in.toDefD.scope (d_stop_in.toDefD.dvs K) (d_stop_in.toDefD.kws K) (d_stop_in.adr K) fd) : FnOk P w K mg base (L2.CX P w) 6 (d_stop_in.adr K) fd ["line", "many", "known"] (spF P w K (GmK K) 3 f_stop_in) := by
  refine fn_mk (k := 5) (N := ["line", "many", "known", "manual", "rank", "some", "found", "shift"]) (ps := ["line", "many", "known"]) FD s_stop_in fun cdv A outer s H E hr => ?_
  have hN : (["line", "many", "known", "manual", "rank", "some", "found", "shift"] : List Str).Nodup := (s_stop_in).nd
  have tk := takes_cx (P := P) (w := w) (K := K) (mg := mg) (base := base) (N := ["line", "many", "known", "manual", "rank", "some", "found", "shift"]) (qual := "stop_in") (scope := defScope (top 29)) (i := d_stop_in.adr K) (cdv := cdv) (A := A) (outer := outer) (s := s) (H := H) (E := E)
  have hp := passes_cx (P := P) (w := w) (K := K) (mg := mg) (base := base) (N := ["line", "many", "known", "manual", "rank", "some", "found", "shift"]) (qual := "stop_in") (scope := defScope (top 29)) (i := d_stop_in.adr K) (cdv := cdv) (A := A) (outer := outer) (s := s) (H := H) (E := E)
  exact es_cons (es_asg (ex_tup (ea_cons (ex_metI (c := 2) (He.cls_ok (x := "Line") (T.c.fact 35 (f := .he (.cls "Line")))) (by rfl) (q_Line_take_number T) (hr.mono (by decide)) tk (ex_var 0) (ea_cons (ex_listRg rfl (ex_var 1) (T.free (x := "list") 1) (T.free (x := "range") 4)) (ea_nil))) (ea_cons (ex_metI (c := 2) (He.cls_ok (x := "Line") (T.c.fact 35 (f := .he (.cls "Line")))) (by rfl) (q_Line_take_number T) (hr.mono (by decide)) tk (ex_var 0) (ea_cons (ex_listRg rfl (ex_op m_add (ex_glob (T.cst (x := "MOST_RANK") (d := (.int 2)) 19)) (ex_int)) (T.free (x := "list") 1) (T.free (x := "range") 4)) (ea_nil))) (ea_nil)))) (eg_tup rfl (egs_cons (eg_name 3 hN) (egs_cons (eg_name 4 hN) (egs_nil)))))
    (es_cons (es_setLc (own := [("shift", 7)]) 5 rfl hN (ei_range2 (ex_neg (ex_glob (T.cst (x := "MOST_SHIFT") (d := (.int 2)) 15))) (ex_op m_add (ex_glob (T.cst (x := "MOST_SHIFT") (d := (.int 2)) 15)) (ex_int)) (T.free (x := "range") 4)) (blkOk_by (N := ["line", "many", "known", "manual", "rank", "some", "found", "shift"]) (sc := defScope (top 29)) (by decide +kernel)) (by decide) (fun _ _ _ _ _ => eg_name 7 hN) (fun _ _ _ _ _ => ets_one (et_cmp (m_notInA (hr.mono (by decide))) (ex_tup (ea_cons (ex_var 3) (ea_cons (ex_var 4) (ea_cons (ex_var 7) (ea_nil))))) (ex_var 2))) (fun _ _ _ _ _ => ex_var 7) rfl)
    (es_cons (es_set 6 hN (ex_tup (ea_cons (ex_var 3) (ea_cons (ex_var 4) (ea_cons (ex_metI (c := 2) (He.cls_ok (x := "Line") (T.c.fact 35 (f := .he (.cls "Line")))) (by rfl) (q_Line_take_number T) (hr.mono (by decide)) tk (ex_var 0) (ea_cons (ex_var 5) (ea_nil))) (ea_nil))))))
    (es_cons (es_expr (ex_metI0 (c := 2) (He.cls_ok (x := "Line") (T.c.fact 35 (f := .he (.cls "Line")))) (by rfl) (q_Line_finish T) (hr.mono (by decide)) tk (ex_var 0)))
    (es_one (es_ret (ex_var 6))))))
theorem c_stop_in (T : Fct K mg) : Cal P w K mg base (GmK K) 6 "stop_in" ["line", "many", "known"] f_stop_in := let ⟨fd, FD⟩ := T.c.def_ 25 (d := d_stop_in) rfl; ⟨⟨_, fd, k_stop_in T FD, T.glo (x := "stop_in") 70, FD.kp, FD.bindsN fun _ _ _ _ _ _ us hl => match us, hl with | [_, _, _], _ => rfl⟩⟩
theorem s_read_organ : FnScope ["text", "rows", "lines", "heads", "words", "line", "word", "some", "many", "links", "ranks", "index", "row", "octave"] ["text"] (defScope (top 31)) := ⟨rfl, rfl, rfl, by decide +kernel, rfl, by decide +kernel, by decide +kernel⟩
theorem k_read_organ (T : Fct K mg) {fd : FuncData} (FD : FunD K d_read_organ.toDefD.name d_read_organ.toDefD.qual d_read_organ.toDefD.params d_read_organ.toDefD.body d_read_organ.toDefD.scope (d_read_organ.toDefD.dvs K) (d_read_organ.toDefD.kws K) (d_read_organ.adr K) fd) : FnOk P w K mg base (L2.CX P w) 7 (d_read_organ.adr K) fd ["text"] (spF P w K (GmK K) 1 f_read_organ) := by
  refine fn_mk (k := 6) (N := ["text", "rows", "lines", "heads", "words", "line", "word", "some", "many", "links", "ranks", "index", "row", "octave"]) (ps := ["text"]) FD s_read_organ fun cdv A outer s H E hr => ?_
  have hN : (["text", "rows", "lines", "heads", "words", "line", "word", "some", "many", "links", "ranks", "index", "row", "octave"] : List Str).Nodup := (s_read_organ).nd
  have tk := takes_cx (P := P) (w := w) (K := K) (mg := mg) (base := base) (N := ["text", "rows", "lines", "heads", "words", "line", "word", "some", "many", "links", "ranks", "index", "row", "octave"]) (qual := "read_organ") (scope := defScope (top 31)) (i := d_read_organ.adr K) (cdv := cdv) (A := A) (outer := outer) (s := s) (H := H) (E := E)
  have hp := passes_cx (P := P) (w := w) (K := K) (mg := mg) (base := base) (N := ["text", "rows", "lines", "heads", "words", "line", "word", "some", "many", "links", "ranks", "index", "row", "octave"]) (qual := "read_organ") (scope := defScope (top 31)) (i := d_read_organ.adr K) (cdv := cdv) (A := A) (outer := outer) (s := s) (H := H) (E := E)
  exact es_cons (es_set 1 hN (ex_split (ex_var 0) (ex_str)))
    (es_cons (es_setLc (own := [("index", 11), ("row", 12)]) 2 rfl hN (ei_enum (ex_var 1) (T.free (x := "enumerate") 13)) (blkOk_by (N := ["text", "rows", "lines", "heads", "words", "line", "word", "some", "many", "links", "ranks", "index", "row", "octave"]) (sc := defScope (top 31)) (by decide +kernel)) (by decide) (fun _ _ _ _ _ => eg_tup rfl (egs_cons (eg_name 11 hN) (egs_cons (eg_name 12 hN) (egs_nil)))) (fun _ _ _ _ _ => ets_nil) (fun _ _ _ _ _ => ex_makeI (m_Line T) (hr.mono (by decide)) takes_W0 (ea_cons (ex_var 12) (ea_cons (ex_op m_add (ex_var 11) (ex_int)) (ea_nil)))) rfl)
    (es_cons (es_set 3 hN (ex_lst (ea_nil)))
    (es_cons (es_set 4 hN (ex_lst (ea_cons (ex_tup (ea_cons (ex_str) (ea_cons (ex_tup (ea_cons (ex_str) (ea_cons (ex_str) (ea_nil)))) (ea_nil)))) (ea_cons (ex_tup (ea_cons (ex_str) (ea_cons (ex_glob (T.cst (x := "CHAINS") (d := (.tup [(.str "all"), (.str "pressed")])) 21)) (ea_nil)))) (ea_cons (ex_tup (ea_cons (ex_str) (ea_cons (ex_callTy b_tuple (T.free (x := "tuple") 5) rfl (ea_cons (ex_lc (own := [("octave", 13)]) rfl hN (ei_seq (ex_glob (T.cst (x := "OCTAVES") (d := (.tup [(.int 0), (.int 2), (.int 3)])) 24))) (blkOk_by (N := ["text", "rows", "lines", "heads", "words", "line", "word", "some", "many", "links", "ranks", "index", "row", "octave"]) (sc := defScope (top 31)) (by decide +kernel)) (by decide) (fun _ _ _ _ _ => eg_name 13 hN) (fun _ _ _ _ _ => ets_nil) (fun _ _ _ _ _ => ex_callTy b_str (T.free (x := "str") 20) rfl (ea_cons (ex_var 13) (ea_nil)))) (ea_nil))) (ea_nil)))) (ea_nil))))))
    (es_cons (es_for hp rfl (ei_zip (ex_var 2) (ex_var 4) (T.free (x := "zip") 41)) (eg_tup rfl (egs_cons (eg_name 5 hN) (egs_cons (eg_tup rfl (egs_cons (eg_name 6 hN) (egs_cons (eg_name 7 hN) (egs_nil)))) (egs_nil)))) (es_one (es_expr (ex_meth F.plainAttrs_list F.slot_list_append F.type_list_append ty_lst l_append (ex_var 3) (ea_cons (ex_call (c_head_in T) (hr.mono (by decide)) tk (ea_cons (ex_var 5) (ea_cons (ex_var 6) (ea_cons (ex_var 7) (ea_nil))))) (ea_nil))))))
    (es_cons (es_if (et_cmp m_lt (ex_callB b_len (T.free (x := "len") 2) rfl (ea_cons (ex_var 3) (ea_nil))) (ex_glob (T.cst (x := "HEADS") (d := (.int 3)) 47))) (es_one (es_raise (c := 18) (z_InvalidText T) rfl (by decide) (hr.mono (by decide)) rfl tk (ea_cons (ex_op m_add (ex_callB b_len (T.free (x := "len") 2) rfl (ea_cons (ex_var 1) (ea_nil))) (ex_int)) (ea_cons (ex_int) (ea_nil))))) (es_nil))
    (es_cons (es_set 8 hN (ex_callTy b_intS (T.free (x := "int") 0) rfl (ea_cons (ex_ixA (hr.mono (by decide)) (ex_var 3) (ex_int)) (ea_nil))))
    (es_cons (es_par 9 10 rfl hN (ea_cons (ex_lst (ea_nil)) (ea_cons (ex_lst (ea_nil)) (ea_nil))) (by decide))
    (es_cons (es_for hp rfl (ei_seq (ex_cut (ex_var 2) (eo_some (ex_glob (T.cst (x := "HEADS") (d := (.int 3)) 47))) (eo_none))) (eg_name 5 hN) (es_one (es_if (et_cmp (m_eq (u64 hr)) (ex_metI (c := 2) (He.cls_ok (x := "Line") (T.c.fact 35 (f := .he (.cls "Line")))) (by rfl) (q_Line_take_one T) (hr.mono (by decide)) tk (ex_var 5) (ea_cons (ex_call (c_kinds_of T) (hr.mono (by decide)) tk (ea_cons (ex_var 9) (ea_cons (ex_var 10) (ea_nil)))) (ea_nil))) (ex_str)) (es_one (es_expr (ex_meth F.plainAttrs_list F.slot_list_append F.type_list_append ty_lst l_append (ex_var 9) (ea_cons (ex_call (c_coupler_in T) (hr.mono (by decide)) tk (ea_cons (ex_var 5) (ea_cons (ex_var 8) (ea_cons (ex_var 9) (ea_nil))))) (ea_nil))))) (es_one (es_expr (ex_meth F.plainAttrs_list F.slot_list_append F.type_list_append ty_lst l_append (ex_var 10) (ea_cons (ex_call (c_stop_in T) (hr.mono (by decide)) tk (ea_cons (ex_var 5) (ea_cons (ex_var 8) (ea_cons (ex_var 10) (ea_nil))))) (ea_nil))))))))
    (es_cons (es_if (et_cmp (m_eq (u64 hr)) (ex_var 10) (ex_lst (ea_nil))) (es_one (es_raise (c := 18) (z_InvalidText T) rfl (by decide) (hr.mono (by decide)) rfl tk (ea_cons (ex_op m_add (ex_callB b_len (T.free (x := "len") 2) rfl (ea_cons (ex_var 1) (ea_nil))) (ex_int)) (ea_cons (ex_int) (ea_nil))))) (es_nil))
    (es_one (es_ret (ex_make (m_Organ T) (hr.mono (by decide)) tk (ea_cons (ex_var 8) (ea_cons (ex_callTy b_tuple (T.free (x := "tuple") 5) rfl (ea_cons (ex_var 9) (ea_nil))) (ea_cons (ex_callTy b_tuple (T.free (x := "tuple") 5) rfl (ea_cons (ex_var 10) (ea_nil))) (ea_cons (ex_ixA (hr.mono (by decide)) (ex_var 3) (ex_int)) (ea_cons (ex_callTy b_intS (T.free (x := "int") 0) rfl (ea_cons (ex_ixA (hr.mono (by decide)) (ex_var 3) (ex_int)) (ea_nil))) (ea_nil))))))))))))))))))
theorem c_read_organ (T : Fct K mg) : Cal P w K mg base (GmK K) 7 "read_organ" ["text"] f_read_organ := let ⟨fd, FD⟩ := T.c.def_ 26 (d := d_read_organ) rfl; ⟨⟨_, fd, k_read_organ T FD, T.glo (x := "read_organ") 71, FD.kp, FD.bindsN fun _ _ _ _ _ _ us hl => match us, hl with | [_], _ => rfl⟩⟩
theorem s_parts_of : FnScope ["organ"] ["organ"] (defScope (top 22)) := ⟨rfl, rfl, rfl, by decide +kernel, rfl, by decide +kernel, by decide +kernel⟩
theorem k_parts_of (T : Fct K mg) {fd : FuncData} (FD : FunD K d_parts_of.toDefD.name d_parts_of.toDefD.qual d_parts_of.toDefD.params d_parts_of.toDefD.body d_parts_of.toDefD.scope (d_parts_of.toDefD.dvs K) (d_parts_of.toDefD.kws K) (d_parts_of.adr K) fd) : FnOk P w K mg base (L2.CX P w) 2 (d_parts_of.adr K) fd ["organ"] (spF P w K (GmK K) 1 f_parts_of) := by
  refine fn_mk (k := 1) (N := ["organ"]) (ps := ["organ"]) FD s_parts_of fun cdv A outer s H E hr => ?_
  have hN : (["organ"] : List Str).Nodup := (s_parts_of).nd
  have tk := takes_cx (P := P) (w := w) (K := K) (mg := mg) (base := base) (N := ["organ"]) (qual := "parts_of") (scope := defScope (top 22)) (i := d_parts_of.adr K) (cdv := cdv) (A := A) (outer := outer) (s := s) (H := H) (E := E)
  have hp := passes_cx (P := P) (w := w) (K := K) (mg := mg) (base := base) (N := ["organ"]) (qual := "parts_of") (scope := defScope (top 22)) (i := d_parts_of.adr K) (cdv := cdv) (A := A) (outer := outer) (s := s) (H := H) (E := E)
  exact es_one (es_ret (ex_tup (ea_cons (ex_fld (c := 0) (i := 2) (T.slt (x := "Organ") (f := "many") (i := 2) 27 28) (ex_var 0)) (ea_cons (ex_fld (c := 0) (i := 1) (T.slt (x := "Organ") (f := "links") (i := 1) 27 29) (ex_var 0)) (ea_cons (ex_fld (c := 0) (i := 4) (T.slt (x := "Organ") (f := "ranks") (i := 4) 27 30) (ex_var 0)) (ea_cons (ex_fld (c := 0) (i := 3) (T.slt (x := "Organ") (f := "passing") (i := 3) 27 31) (ex_var 0)) (ea_cons (ex_fld (c := 0) (i := 0) (T.slt (x := "Organ") (f := "by") (i := 0) 27 32) (ex_var 0)) (ea_nil))))))))
theorem c_parts_of (T : Fct K mg) : Cal P w K mg base (GmK K) 2 "parts_of" ["organ"] f_parts_of := let ⟨fd, FD⟩ := T.c.def_ 27 (d := d_parts_of) rfl; ⟨⟨_, fd, k_parts_of T FD, T.glo (x := "parts_of") 72, FD.kp, FD.bindsN fun _ _ _ _ _ _ us hl => match us, hl with | [_], _ => rfl⟩⟩
theorem s_Organ___eq__ : FnScope ["self", "other"] ["self", "other"] (defScope (inCls (top 21) 7)) := ⟨rfl, rfl, rfl, by decide +kernel, rfl, by decide +kernel, by decide +kernel⟩
theorem k_Organ___eq__ (T : Fct K mg) {fd : FuncData} (FD : FunD K d_Organ___eq__.toDefD.name d_Organ___eq__.toDefD.qual d_Organ___eq__.toDefD.params d_Organ___eq__.toDefD.body d_Organ___eq__.toDefD.scope (d_Organ___eq__.toDefD.dvs K) (d_Organ___eq__.toDefD.kws K) (d_Organ___eq__.adr K) fd) : FnOk P w K mg base (L2.CX P w) 3 (d_Organ___eq__.adr K) fd ["self", "other"] (spF P w K (GmK K) 2 f_Organ___eq__) := by
  refine fn_mk (k := 2) (N := ["self", "other"]) (ps := ["self", "other"]) FD s_Organ___eq__ fun cdv A outer s H E hr => ?_
  have hN : (["self", "other"] : List Str).Nodup := (s_Organ___eq__).nd
  have tk := takes_cx (P := P) (w := w) (K := K) (mg := mg) (base := base) (N := ["self", "other"]) (qual := "Organ.__eq__") (scope := defScope (inCls (top 21) 7)) (i := d_Organ___eq__.adr K) (cdv := cdv) (A := A) (outer := outer) (s := s) (H := H) (E := E)
  have hp := passes_cx (P := P) (w := w) (K := K) (mg := mg) (base := base) (N := ["self", "other"]) (qual := "Organ.__eq__") (scope := defScope (inCls (top 21) 7)) (i := d_Organ___eq__.adr K) (cdv := cdv) (A := A) (outer := outer) (s := s) (H := H) (E := E)
  exact es_one (es_ret (ex_and (ex_isC (c := 0) (T.scl (x := "Organ") 27) (fx_isi (T.c.fact 49 (f := .isi "Organ"))) (of_decide_eq_true (T.c.fact 50 (f := .kit "Organ" "Organ" true))) (fx_kitB (T.c.fact 51 (f := .kitB "Organ" "list" "Organ" false))) (ex_var 1) (pe_glob (v := .ref (He.ga K "Organ")) rfl (T.glo (x := "Organ") 33) rfl) (T.free (x := "isinstance") 6)) (ex_one (ex_cmp (m_eq (u64 hr)) (ex_call (c_parts_of T) (hr.mono (by decide)) tk (ea_cons (ex_var 0) (ea_nil))) (ex_call (c_parts_of T) (hr.mono (by decide)) tk (ea_cons (ex_var 1) (ea_nil)))))))
theorem q_Organ___eq__ (T : Fct K mg) : MetD P w K mg base (GmK K) 3 0 "__eq__" 2 f_Organ___eq__ := let ⟨fd, FD⟩ := T.c.def_ 28 (d := d_Organ___eq__) rfl; ⟨⟨_, fd, _, He.meth_ok (x := "Organ") (m := "__eq__") (T.c.fact 52 (f := .he (.meth "Organ" "__eq__"))), k_Organ___eq__ T FD, FD.bindsN fun _ _ _ _ _ _ us hl => match us, hl with | [_, _], _ => rfl⟩⟩
theorem s__law_loose : FnScope ["_law_h", "_law_row", "_law_found", "_law_word"] ["_law_h", "_law_row"] (defScope (top 40)) := ⟨rfl, rfl, rfl, by decide +kernel, rfl, by decide +kernel, by decide +kernel⟩
theorem k__law_loose (T : Fct K mg) {fd : FuncData} (FD : FunD K d__law_loose.toDefD.name d__law_loose.toDefD.qual d__law_loose.toDefD.params d__law_loose.toDefD.body d__law_loose.toDefD.scope (d__law_loose.toDefD.dvs K) (d__law_loose.toDefD.kws K) (d__law_loose.adr K) fd) : FnOk P w K mg base (L2.CX P w) 3 (d__law_loose.adr K) fd ["_law_h", "_law_row"] (spF P w K (GmK K) 2 f__law_loose) := by
  refine fn_mk (k := 2) (N := ["_law_h", "_law_row", "_law_found", "_law_word"]) (ps := ["_law_h", "_law_row"]) FD s__law_loose fun cdv A outer s H E hr => ?_
  have hN : (["_law_h", "_law_row", "_law_found", "_law_word"] : List Str).Nodup := (s__law_loose).nd
  have tk := takes_cx (P := P) (w := w) (K := K) (mg := mg) (base := base) (N := ["_law_h", "_law_row", "_law_found", "_law_word"]) (qual := "_law_loose") (scope := defScope (top 40)) (i := d__law_loose.adr K) (cdv := cdv) (A := A) (outer := outer) (s := s) (H := H) (E := E)
  have hp := passes_cx (P := P) (w := w) (K := K) (mg := mg) (base := base) (N := ["_law_h", "_law_row", "_law_found", "_law_word"]) (qual := "_law_loose") (scope := defScope (top 40)) (i := d__law_loose.adr K) (cdv := cdv) (A := A) (outer := outer) (s := s) (H := H) (E := E)
  exact es_cons (es_set 2 hN (ex_op m_mulS (ex_str) (ex_call (c__law_next T) (hr.mono (by decide)) tk (ea_cons (ex_var 0) (ea_cons (ex_int) (ea_nil))))))
    (es_cons (es_for hp rfl (ei_seq (ex_split (ex_var 1) (ex_str))) (eg_name 3 hN) (es_one (es_set 2 hN (ex_op m_add (ex_op m_add (ex_var 2) (ex_var 3)) (ex_op m_mulS (ex_str) (ex_op m_add (ex_int) (ex_call (c__law_next T) (hr.mono (by decide)) tk (ea_cons (ex_var 0) (ea_cons (ex_int) (ea_nil))))))))))
    (es_one (es_ret (ex_var 2))))
theorem c__law_loose (T : Fct K mg) : Cal P w K mg base (GmK K) 3 "_law_loose" ["_law_h", "_law_row"] f__law_loose := let ⟨fd, FD⟩ := T.c.def_ 29 (d := d__law_loose) rfl; ⟨⟨_, fd, k__law_loose T FD, T.glo (x := "_law_loose") 73, FD.kp, FD.bindsN fun _ _ _ _ _ _ us hl => match us, hl with | [_, _], _ => rfl⟩⟩
theorem s_law : FnScope ["_law_script", "_law_h", "_law_t", "_law_organ_here", "_law_rows", "_law_loose_here", "_law_one", "_law_part", "_law_row"] ["_law_script"] (defScope (top 41)) := ⟨rfl, rfl, rfl, by decide +kernel, rfl, by decide +kernel, by decide +kernel⟩
theorem k_law (T : Fct K mg) {fd : FuncData} (FD : FunD K d_law.toDefD.name d_law.toDefD.qual d_law.toDefD.params d_law.toDefD.body d_law.toDefD.scope (d_law.toDefD.dvs K) (d_law.toDefD.kws K) (d_law.adr K) fd) : FnOk P w K mg base (L2.CX P w) 8 (d_law.adr K) fd ["_law_script"] (spF P w K (GmK K) 1 f_law) := by
  refine fn_mk (k := 7) (N := ["_law_script", "_law_h", "_law_t", "_law_organ_here", "_law_rows", "_law_loose_here", "_law_one", "_law_part", "_law_row"]) (ps := ["_law_script"]) FD s_law fun cdv A outer s H E hr => ?_
  have hN : (["_law_script", "_law_h", "_law_t", "_law_organ_here", "_law_rows", "_law_loose_here", "_law_one", "_law_part", "_law_row"] : List Str).Nodup := (s_law).nd
  have tk := takes_cx (P := P) (w := w) (K := K) (mg := mg) (base := base) (N := ["_law_script", "_law_h", "_law_t", "_law_organ_here", "_law_rows", "_law_loose_here", "_law_one", "_law_part", "_law_row"]) (qual := "law") (scope := defScope (top 41)) (i := d_law.adr K) (cdv := cdv) (A := A) (outer := outer) (s := s) (H := H) (E := E)
  have hp := passes_cx (P := P) (w := w) (K := K) (mg := mg) (base := base) (N := ["_law_script", "_law_h", "_law_t", "_law_organ_here", "_law_rows", "_law_loose_here", "_law_one", "_law_part", "_law_row"]) (qual := "law") (scope := defScope (top 41)) (i := d_law.adr K) (cdv := cdv) (A := A) (outer := outer) (s := s) (H := H) (E := E)
  exact es_cons (es_set 1 hN (ex_call (c__law_mix T) (hr.mono (by decide)) tk (ea_cons (ex_var 0) (ea_cons (ex_int) (ea_nil)))))
    (es_cons (es_set 2 hN (ex_call (c__law_organ T) (hr.mono (by decide)) tk (ea_cons (ex_var 1) (ea_cons (ex_int) (ea_cons (ex_int) (ea_cons (ex_int) (ea_nil)))))))
    (es_cons (es_set 3 hN (ex_call (c__law_built T) (hr.mono (by decide)) tk (ea_cons (ex_var 2) (ea_nil))))
    (es_cons (es_set 4 hN (ex_lst (ea_cons (ex_op m_add (ex_str) (ex_callTy b_str (T.free (x := "str") 20) rfl (ea_cons (ex_ixA (hr.mono (by decide)) (ex_var 2) (ex_int)) (ea_nil)))) (ea_cons (ex_op m_add (ex_str) (ex_ixA (hr.mono (by decide)) (ex_var 2) (ex_int))) (ea_cons (ex_op m_add (ex_str) (ex_callTy b_str (T.free (x := "str") 20) rfl (ea_cons (ex_ixA (hr.mono (by decide)) (ex_var 2) (ex_int)) (ea_nil)))) (ea_nil))))))
    (es_cons (es_set 4 hN (ex_op m_add (ex_var 4) (ex_lc (own := [("_law_one", 6)]) rfl hN (ei_seq (ex_ixA (hr.mono (by decide)) (ex_var 2) (ex_int))) (blkOk_by (N := ["_law_script", "_law_h", "_law_t", "_law_organ_here", "_law_rows", "_law_loose_here", "_law_one", "_law_part", "_law_row"]) (sc := defScope (top 41)) (by decide +kernel)) (by decide) (fun _ _ _ _ _ => eg_name 6 hN) (fun _ _ _ _ _ => ets_nil) (fun _ _ _ _ _ => ex_join (ex_str) (ex_op m_add (ex_lst (ea_cons (ex_str) (ea_nil))) (ex_lc (own := [("_law_part", 7)]) rfl hN (ei_seq (ex_var 6)) (blkOk_by (N := ["_law_script", "_law_h", "_law_t", "_law_organ_here", "_law_rows", "_law_loose_here", "_law_one", "_law_part", "_law_row"]) (sc := L2.relS ({ kind := .function, names := [(".0", .local), ("_law_one", .local)], isGenerator := false, isCoroutine := false } : Scope) (defScope (top 41))) (by decide +kernel)) (by decide) (fun _ _ _ _ _ => eg_name 7 hN) (fun _ _ _ _ _ => ets_nil) (fun _ _ _ _ _ => ex_callTy b_str (T.free (x := "str") 20) rfl (ea_cons (ex_var 7) (ea_nil)))))))))
    (es_cons (es_set 4 hN (ex_op m_add (ex_var 4) (ex_lc (own := [("_law_one", 6)]) rfl hN (ei_seq (ex_ixA (hr.mono (by decide)) (ex_var 2) (ex_int))) (blkOk_by (N := ["_law_script", "_law_h", "_law_t", "_law_organ_here", "_law_rows", "_law_loose_here", "_law_one", "_law_part", "_law_row"]) (sc := defScope (top 41)) (by decide +kernel)) (by decide) (fun _ _ _ _ _ => eg_name 6 hN) (fun _ _ _ _ _ => ets_nil) (fun _ _ _ _ _ => ex_join (ex_str) (ex_op m_add (ex_lst (ea_cons (ex_str) (ea_nil))) (ex_lc (own := [("_law_part", 7)]) rfl hN (ei_seq (ex_var 6)) (blkOk_by (N := ["_law_script", "_law_h", "_law_t", "_law_organ_here", "_law_rows", "_law_loose_here", "_law_one", "_law_part", "_law_row"]) (sc := L2.relS ({ kind := .function, names := [(".0", .local), ("_law_one", .local)], isGenerator := false, isCoroutine := false } : Scope) (defScope (top 41))) (by decide +kernel)) (by decide) (fun _ _ _ _ _ => eg_name 7 hN) (fun _ _ _ _ _ => ets_nil) (fun _ _ _ _ _ => ex_callTy b_str (T.free (x := "str") 20) rfl (ea_cons (ex_var 7) (ea_nil)))))))))
    (es_cons (es_if (et_w (et_or (et_cmp (m_ne (u64 hr)) (ex_call (c_write_organ T) (hr.mono (by decide)) tk (ea_cons (ex_var 3) (ea_nil))) (ex_join (ex_str) (ex_var 4))) (et_or1 (et_not (et_cmp (m_eqC (c := 0) (T.scl (x := "Organ") 27) (q_Organ___eq__ T) (fx_ntf (T.c.fact 53 (f := .ntf "Organ" "list"))) (hr.mono (by decide))) (ex_call (c_read_organ T) (hr.mono (by decide)) tk (ea_cons (ex_call (c_write_organ T) (hr.mono (by decide)) tk (ea_cons (ex_var 3) (ea_nil))) (ea_nil))) (ex_var 3)))))) (es_one (es_ret (ex_bl))) (es_nil))
    (es_cons (es_set 5 hN (ex_join (ex_str) (ex_lc (own := [("_law_row", 8)]) rfl hN (ei_seq (ex_var 4)) (blkOk_by (N := ["_law_script", "_law_h", "_law_t", "_law_organ_here", "_law_rows", "_law_loose_here", "_law_one", "_law_part", "_law_row"]) (sc := defScope (top 41)) (by decide +kernel)) (by decide) (fun _ _ _ _ _ => eg_name 8 hN) (fun _ _ _ _ _ => ets_nil) (fun _ _ _ _ _ => ex_call (c__law_loose T) (hr.mono (by decide)) takes_W0 (ea_cons (ex_var 1) (ea_cons (ex_var 8) (ea_nil)))))))
    (es_one (es_ret (ex_cmp (m_eqC (c := 0) (T.scl (x := "Organ") 27) (q_Organ___eq__ T) (fx_ntf (T.c.fact 53 (f := .ntf "Organ" "list"))) (hr.mono (by decide))) (ex_call (c_read_organ T) (hr.mono (by decide)) tk (ea_cons (ex_var 5) (ea_nil))) (ex_var 3)))))))))))
theorem c_law (T : Fct K mg) : Cal P w K mg base (GmK K) 8 "law" ["_law_script"] f_law := let ⟨fd, FD⟩ := T.c.def_ 30 (d := d_law) rfl; ⟨⟨_, fd, k_law T FD, T.glo (x := "law") 74, FD.kp, FD.bindsN fun _ _ _ _ _ _ us hl => match us, hl with | [_], _ => rfl⟩⟩
end
end Wk
end
section
set_option maxRecDepth 100000
set_option maxHeartbeats 4000000
set_option autoImplicit false
namespace Wk
open PySem Mi
local macro_rules | `(tactic| walk_at "mi") => `(tactic| simp only [wX_fn, wS_seq, wS_set, wS_ret, wS_expr, wS_pass, wS_if, wS_put, wX_var, wX_c, wX_2, wX_3, wX_anil, wX_acons, wX_tup, wX_lst, wX_dict, wX_b, wX_meth, wX_call, wX_if, wX_t1, wX_and2, wX_or2, wX_not1, wX_true, wX_neg, wX_oN, wX_oS, wX_not, wX_and, wX_or, wX_is, wX_cut, wX_fld, wS_for, wX_ok, wX_no, wO_some, wO_none, wS_nx, wS_rt, List.map_cons, List.map_nil, List.cons_append, List.nil_append, List.append_nil, List.replicate_succ, List.replicate_zero, List.set_cons_zero, List.set_cons_succ, List.getElem?_cons_zero, List.getElem?_cons_succ, List.getElem?_nil, List.length_cons, List.length_nil, Nat.reduceSub, Nat.reduceAdd, Nat.zero_add, Nat.add_zero, if_true, if_false, ite_true, ite_false, reduceIte, Bool.false_eq_true, Bool.not_true, Bool.not_false, ← Nat.add_assoc, reduceCtorEq, List.length_append])
theorem g_mulA {i j : Int} {M : Hs} (h : inW j = true) : gMulA (.int i) (.int j) M = some (.int (i * j), M) := g_mul h
theorem isL {M : Hs} {n : Nat} {xs : List D} (h : M[n]? = some (.lst xs)) : isLst (.ref n) M = true ∧ hLst M n = some xs := by
  have e : hLst M n = some xs := by unfold hLst; rw [h]
  exact ⟨by unfold isLst; dsimp only; rw [e]; rfl, e⟩
theorem seq_lst {M : Hs} {n : Nat} {xs : List D} (h : M[n]? = some (.lst xs)) : hSeq M (.ref n) = some xs := by simp [hSeq, h]
/-- the generator's cells: 0 and 1 of the store -/
def Hd (M : Hs) : Prop := ∃ (s i : Int) (xs : List Int), M[1]? = some (.lst [.int s, .ref 0, .int i, .int 14]) ∧ M[0]? = some (.lst (xs.map D.int)) ∧ xs.length ≤ 63
def H2 : Nat → Prop := fun n => n < 2
theorem Hd.fr {M M' : Hs} (h : Hd M) (f : Fr No M M') : Hd M' := let ⟨s, i, xs, h1, h2, h3⟩ := h; ⟨s, i, xs, f.get h1 id, f.get h2 id, h3⟩
theorem g_putL {M : Hs} {n : Nat} {xs : List D} {k : Int} {v : D} (h : M[n]? = some (.lst xs)) (h0 : 0 ≤ k) (h1 : k < xs.length) : gPutA (.ref n) (.int k) v M = some (M.set n (.lst (xs.set k.toNat v))) := by
  have e : gPutA (.ref n) (.int k) v M = gPutL (.ref n) (.int k) v M := by simp [gPutA, hDct, h]
  rw [e]
  unfold gPutL
  dsimp only
  rw [(isL h).2]
  unfold L2.ixN
  dsimp only
  rw [if_pos h0, if_pos h1]
theorem g_catL {M : Hs} {m n : Nat} {xs ys : List D} (h : M[m]? = some (.lst xs)) (h2 : M[n]? = some (.lst ys)) (hl : (xs ++ ys).length ≤ sizeLine) : gAdd (.ref m) (.ref n) M = some (.ref M.length, M ++ [.lst (xs ++ ys)]) := by
  unfold gAdd newL
  dsimp only
  rw [h, h2]
  dsimp only
  rw [if_pos hl]
theorem g_lenL {M : Hs} {n : Nat} {xs : List D} (h : M[n]? = some (.lst xs)) : gLen [.ref n] M = some (.int xs.length, M) := by
  unfold gLen
  dsimp only
  rw [seq_lst h]
theorem law_mix_w (ns : List Int) (hl : ns.length ≤ 63) (seed : Int) : wX (f__law_mix [.klst (ns.map D.int), .int seed] []) fun d M => d = .ref 1 ∧ Hd M ∧ M.length = 2 := by
  unfold f__law_mix
  try walk_at "mi"
  unfold ySeq
  simp only [wX_bind]
  try walk_at "mi"
  refine wS_forN (I := fun i ζ M => (∃ (s : Int) (a : Option D), ζ = [some (.klst (ns.map D.int)), some (.int seed), some (.int s), a]) ∧ M = []) ns.length ?_ ?_ _ 0 _ _ (by simp) (Nat.zero_le _) ⟨⟨_, _, rfl⟩, rfl⟩
  · rintro i ζ M hi ⟨⟨s, a, rfl⟩, rfl⟩
    refine ⟨.int ns[i], [(3, .int ns[i])], by simp [hi], rfl, ?_⟩
    simp only [setAll]
    try walk_at "mi"
    simp only [g_mulA (show inW 48271 = true by decide), g_add, g_int, g_mod (show (0 : Int) < 2147483629 by decide), g_mod (show (0 : Int) < 2147483647 by decide), wO_some]
    exact ⟨⟨_, _, rfl⟩, trivial⟩
  · rintro ζ M ⟨⟨s, a, rfl⟩, rfl⟩
    refine ⟨by simp, ?_⟩
    try walk_at "mi"
    have e : gListA [.klst (ns.map D.int)] [] = some (.ref 0, [.lst (ns.map D.int)]) := rfl
    rw [e]
    try walk_at "mi"
    rw [if_pos (show 4 ≤ sizeLine by decide)]
    exact ⟨trivial, ⟨s, 0, ns, rfl, rfl, hl⟩, trivial⟩
theorem law_next_w {M : Hs} (hd : Hd M) (b : Int) (h0 : 0 < b) (h1 : b < 1073741824) : wX (f__law_next [.ref 1, .int b] M) fun d M' => ∃ r : Int, d = .int r ∧ 0 ≤ r ∧ r < b ∧ Hd M' ∧ Fr H2 M M' := by
  obtain ⟨s, i, xs, hm1, hm0, hl⟩ := hd
  have hlen := lt_of_get hm1
  have hsz := size1
  unfold f__law_next
  try walk_at "mi"
  have fr1 : Fr No M (M ++ [MO.lst [.int 0]]) := Fr.push M _
  rw [g_ixL (i := 1) hm1 rfl]
  try walk_at "mi"
  rw [if_pos (show 1 ≤ sizeLine by decide)]
  have h01 : (M ++ [MO.lst [.int 0]])[0]? = some (.lst (xs.map D.int)) := fr1.get hm0 id
  have h11 : (M ++ [MO.lst [.int 0]])[1]? = some (.lst [.int s, .ref 0, .int i, .int 14]) := fr1.get hm1 id
  have hz1 : (M ++ [MO.lst [.int 0]])[M.length]? = some (.lst [.int 0]) := get_push
  rw [g_catL h01 hz1 (by simp; omega)]
  try walk_at "mi"
  have fr2 : Fr No M (M ++ [MO.lst [.int 0]] ++ [MO.lst (xs.map D.int ++ [.int 0])]) := fr1.pushHi
  have hn2 : (M ++ [MO.lst [.int 0]] ++ [MO.lst (xs.map D.int ++ [.int 0])])[(M ++ [MO.lst [.int 0]]).length]? = some (.lst (xs.map D.int ++ [.int 0])) := get_push
  rw [List.length_append, List.length_singleton] at hn2
  generalize (M ++ [MO.lst [.int 0]] ++ [MO.lst (xs.map D.int ++ [.int 0])]) = M2 at fr2 hn2 ⊢
  have h02 : M2[0]? = some (.lst (xs.map D.int)) := fr2.get hm0 id
  have h12 : M2[1]? = some (.lst [.int s, .ref 0, .int i, .int 14]) := fr2.get hm1 id
  rw [g_ixL (i := 2) h12 rfl]
  try walk_at "mi"
  rw [g_int]
  try walk_at "mi"
  rw [g_ixL (i := 1) h12 rfl]
  try walk_at "mi"
  rw [g_lenL h02]
  try walk_at "mi"
  rw [g_max]
  try walk_at "mi"
  rw [List.length_map]
  have hmx : (0 : Int) < if (xs.length : Int) > 1 then (xs.length : Int) else 1 := by split <;> omega
  rw [g_mod hmx]
  try walk_at "mi"
  have hk : 0 ≤ i % (if (xs.length : Int) > 1 then (xs.length : Int) else 1) ∧ i % (if (xs.length : Int) > 1 then (xs.length : Int) else 1) < (if (xs.length : Int) > 1 then (xs.length : Int) else 1) := ⟨Int.emod_nonneg _ (by omega), Int.emod_lt_of_pos _ hmx⟩
  generalize hkk : i % (if (xs.length : Int) > 1 then (xs.length : Int) else 1) = k at hk ⊢
  have hcell : ∃ c : Int, (xs.map D.int ++ [D.int 0])[k.toNat]? = some (.int c) ∧ (xs = [] → c = 0) := by
    by_cases hx : k.toNat < xs.length
    · refine ⟨xs[k.toNat], ?_, fun h => by rw [h] at hx; simp at hx⟩
      rw [List.getElem?_append_left (by simpa using hx), List.getElem?_map, List.getElem?_eq_getElem hx]
      rfl
    · have hxe : xs.length = 0 := by split at hk <;> omega
      have hxn : xs = [] := List.eq_nil_of_length_eq_zero hxe
      subst hxn
      refine ⟨0, ?_, fun _ => rfl⟩
      have : k.toNat = 0 := by simp at hk; omega
      rw [this]; rfl
  obtain ⟨c, hc, hc0⟩ := hcell
  rw [g_ixL (i := k.toNat) hn2 hc (by omega)]
  try walk_at "mi"
  have hpw : gPow (.int 10) (.int 18) M2 = some (.int 1000000000000000000, M2) := rfl
  rw [hpw]
  try walk_at "mi"
  rw [g_ge]
  try walk_at "mi"
  by_cases hbig : 1000000000000000000 ≤ c
  · simp only [hbig, decide_true, if_true]
    have hxn : xs ≠ [] := fun h => by have := hc0 h; omega
    have hxl : 0 < xs.length := List.length_pos_iff.mpr hxn
    try walk_at "mi"
    rw [g_div h0 h1]
    try walk_at "mi"
    rw [g_ixL (i := 1) h12 rfl]
    try walk_at "mi"
    rw [g_ixL (i := 2) h12 rfl]
    try walk_at "mi"
    rw [g_int]
    try walk_at "mi"
    rw [g_ixL (i := 1) h12 rfl]
    try walk_at "mi"
    rw [g_lenL h02]
    try walk_at "mi"
    rw [List.length_map, g_mod (show (0 : Int) < (xs.length : Int) by omega)]
    try walk_at "mi"
    have hk2 : 0 ≤ i % (xs.length : Int) ∧ i % (xs.length : Int) < xs.length := ⟨Int.emod_nonneg _ (by omega), Int.emod_lt_of_pos _ (by omega)⟩
    rw [g_putL h02 hk2.1 (by simpa using hk2.2)]
    try walk_at "mi"
    rw [g_int]
    try walk_at "mi"
    rw [g_mod h0]
    try walk_at "mi"
    refine ⟨_, rfl, Int.emod_nonneg _ (by omega), Int.emod_lt_of_pos _ h0, ⟨s, i, xs.set (i % (xs.length : Int)).toNat (c / b), ?_, ?_, by simpa using hl⟩, (fr2.imp fun _ _ h => h.elim).trans (Fr.set (by unfold H2; omega))⟩
    · rw [List.getElem?_set_ne (by omega)]; exact h12
    · rw [List.map_set]; exact set_get h02
  · simp only [hbig, decide_false, Bool.false_eq_true, if_false]
    try walk_at "mi"
    rw [g_ixL (i := 0) h12 rfl]
    try walk_at "mi"
    simp only [g_mulA (show inW 48271 = true by decide), g_mulA (show inW 69621 = true by decide), g_add, g_int, g_mod (show (0 : Int) < 2147483647 by decide), wO_some]
    try walk_at "mi"
    rw [g_putL h12 (by decide) (by simp)]
    dsimp only [List.set, Int.toNat]
    have h13 := set_get (o := MO.lst [D.int ((s * 48271 + c * 69621 + 11) % 2147483647), .ref 0, .int i, .int 14]) h12
    have h03 : (M2.set 1 (MO.lst [D.int ((s * 48271 + c * 69621 + 11) % 2147483647), .ref 0, .int i, .int 14]))[0]? = some (.lst (xs.map D.int)) := by rw [List.getElem?_set_ne (by omega)]; exact h02
    have fr3 : Fr H2 M (M2.set 1 (MO.lst [D.int ((s * 48271 + c * 69621 + 11) % 2147483647), .ref 0, .int i, .int 14])) := (fr2.imp fun _ _ h => h.elim).trans (Fr.set (by unfold H2; omega))
    generalize (M2.set 1 (MO.lst [D.int ((s * 48271 + c * 69621 + 11) % 2147483647), .ref 0, .int i, .int 14])) = M3 at h13 h03 fr3 ⊢
    generalize ((s * 48271 + c * 69621 + 11) % 2147483647) = s2 at h13 ⊢
    rw [g_ixL (i := 2) h13 rfl]
    try walk_at "mi"
    rw [g_add]
    try walk_at "mi"
    rw [g_putL h13 (by decide) (by simp)]
    dsimp only [List.set, Int.toNat]
    have h14 := set_get (o := MO.lst [D.int s2, .ref 0, .int (i + 1), .int 14]) h13
    have h04 : (M3.set 1 (MO.lst [D.int s2, .ref 0, .int (i + 1), .int 14]))[0]? = some (.lst (xs.map D.int)) := by rw [List.getElem?_set_ne (by omega)]; exact h03
    have fr4 : Fr H2 M (M3.set 1 (MO.lst [D.int s2, .ref 0, .int (i + 1), .int 14])) := fr3.trans (Fr.set (by unfold H2; omega))
    generalize (M3.set 1 (MO.lst [D.int s2, .ref 0, .int (i + 1), .int 14])) = M4 at h14 h04 fr4 ⊢
    rw [g_ixL (i := 0) h14 rfl]
    try walk_at "mi"
    rw [g_div (by decide) (by decide)]
    try walk_at "mi"
    rw [g_int]
    try walk_at "mi"
    rw [g_mod h0]
    try walk_at "mi"
    exact ⟨_, rfl, Int.emod_nonneg _ (by omega), Int.emod_lt_of_pos _ h0, ⟨s2, i + 1, xs, h14, h04, hl⟩, fr4⟩
end Wk
end
section
set_option maxRecDepth 100000
set_option maxHeartbeats 4000000
set_option autoImplicit false
namespace Wk
open PySem Mi
local macro_rules | `(tactic| walk_at "mi") => `(tactic| simp only [wX_fn, wS_seq, wS_set, wS_ret, wS_expr, wS_pass, wS_if, wS_put, wX_var, wX_c, wX_2, wX_3, wX_anil, wX_acons, wX_tup, wX_lst, wX_dict, wX_b, wX_meth, wX_call, wX_if, wX_t1, wX_and2, wX_or2, wX_not1, wX_true, wX_neg, wX_oN, wX_oS, wX_not, wX_and, wX_or, wX_is, wX_cut, wX_fld, wS_for, wX_ok, wX_no, wO_some, wO_none, wS_nx, wS_rt, List.map_cons, List.map_nil, List.cons_append, List.nil_append, List.append_nil, List.replicate_succ, List.replicate_zero, List.set_cons_zero, List.set_cons_succ, List.getElem?_cons_zero, List.getElem?_cons_succ, List.getElem?_nil, List.length_cons, List.length_nil, Nat.reduceSub, Nat.reduceAdd, Nat.zero_add, Nat.add_zero, if_true, if_false, ite_true, ite_false, reduceIte, Bool.false_eq_true, Bool.not_true, Bool.not_false, ← Nat.add_assoc, reduceCtorEq, List.length_append])
def pdT (t : Tr3) : PyData := .tuple [.int t.1, .int t.2.1, .int t.2.2]
theorem pd_trDs (M : Hs) (n : Nat) : ∀ xs : List Tr3, mapO (toPD M (n + 2)) (xs.map trD) = some (xs.map pdT)
  | [] => rfl
  | x :: xs => by
    have e : toPD M (n + 2) (trD x) = some (pdT x) := by simp [trD, toPD, mapO, pdT]
    rw [List.map_cons, List.map_cons]
    unfold mapO
    rw [e, pd_trDs M n xs]
def vC (many : Int) (t : Tr3) : Bool := decide (0 ≤ t.1) && decide (t.1 < many) && decide (0 ≤ t.2.1) && decide (t.2.1 < many) && decide (-2 ≤ t.2.2) && decide (t.2.2 ≤ 2) && (decide (t.1 ≠ t.2.1) || decide (t.2.2 ≠ 0))
def vS (many : Int) (t : Tr3) : Bool := decide (0 ≤ t.1) && decide (t.1 < many) && decide (0 ≤ t.2.1) && decide (t.2.1 ≤ 2) && decide (-2 ≤ t.2.2) && decide (t.2.2 ≤ 2)
structure Parts (many : Int) (cs rs : List Tr3) (ch : Str) (oct : Int) : Prop where
  m : many = 1 ∨ many = 2
  cn : cs.Nodup
  cl : cs.length ≤ 5
  cv : ∀ t ∈ cs, vC many t = true
  rn : rs.Nodup
  r1 : 1 ≤ rs.length
  r4 : rs.length ≤ 4
  rv : ∀ t ∈ rs, vS many t = true
  c : ch = "all" ∨ ch = "pressed"
  o : oct = 0 ∨ oct = 2 ∨ oct = 3
theorem is_integer_w (v a b : Int) (M : Hs) : wX (f_is_integer [.int v, .int a, .int b] M) fun d M' => d = .bl (decide (a ≤ v) && decide (v ≤ b)) ∧ M' = M := by
  unfold f_is_integer
  try walk_at "mi"
  have e1 : kindOf (.int v) M = some "int" := rfl
  rw [e1]
  have e2 : isKind "int" "int" = true := by decide
  have e3 : isKind "int" "bool" = false := by decide
  dsimp only
  rw [e2, e3]
  try walk_at "mi"
  simp only [g_le, wO_some]
  by_cases h1 : a ≤ v <;> by_cases h2 : v ≤ b <;> simp [h1, h2]
theorem g_cut2 {a b c : D} {M : Hs} : gCut (.tup [a, b, c]) none (some 2) M = some (.tup [a, b], M) := rfl
theorem g_len3 {a b c : D} {M : Hs} : gLen [.tup [a, b, c]] M = some (.int 3, M) := rfl
theorem vC_at {many : Int} {t : Tr3} (h : vC many t = true) : (0 ≤ t.1 ∧ t.1 ≤ many - 1) ∧ (0 ≤ t.2.1 ∧ t.2.1 ≤ many - 1) ∧ (-2 ≤ t.2.2 ∧ t.2.2 ≤ 2) ∧ (t.1 ≠ t.2.1 ∨ t.2.2 ≠ 0) := by
  unfold vC at h
  simp only [Bool.and_eq_true, Bool.or_eq_true, decide_eq_true_eq] at h
  omega
theorem vS_at {many : Int} {t : Tr3} (h : vS many t = true) : (0 ≤ t.1 ∧ t.1 ≤ many - 1) ∧ (0 ≤ t.2.1 ∧ t.2.1 ≤ 2) ∧ (-2 ≤ t.2.2 ∧ t.2.2 ≤ 2) := by
  unfold vS at h
  simp only [Bool.and_eq_true, decide_eq_true_eq] at h
  omega
theorem int_in {v a b : Int} (h : a ≤ v ∧ v ≤ b) (M : Hs) : wX (f_is_integer [.int v, .int a, .int b] M) fun d M' => d = .bl true ∧ M' = M :=
  wX_mono (is_integer_w v a b M) fun d M' ⟨h1, h2⟩ => ⟨by rw [h1]; simp [h], h2⟩
theorem tup_kind (xs : List D) (M : Hs) : kindOf (.tup xs) M = some "tuple" := rfl
theorem tup_is : isKind "tuple" "tuple" = true := by decide
theorem is_coupler_w {many : Int} {t : Tr3} (h : vC many t = true) (M : Hs) : wX (f_is_coupler [trD t, .int many] M) fun d M' => d = .bl true ∧ Fr No M M' := by
  obtain ⟨h1, h2, h3, h4⟩ := vC_at h
  have hsz := size1
  unfold f_is_coupler
  have e0 : ∀ M', gIxA (trD t) (.int 0) M' = some (.int t.1, M') := fun M' => g_ixT (i := 0) rfl
  have e1 : ∀ M', gIxA (trD t) (.int 1) M' = some (.int t.2.1, M') := fun M' => g_ixT (i := 1) rfl
  have e2 : ∀ M', gIxA (trD t) (.int 2) M' = some (.int t.2.2, M') := fun M' => g_ixT (i := 2) rfl
  have ek : kindOf (trD t) M = some "tuple" := rfl
  have el : gLen [trD t] M = some (.int 3, M) := rfl
  have ec : gCut (trD t) none (some 2) M = some (.tup [.int t.1, .int t.2.1], M) := rfl
  try walk_at "mi"
  rw [ek]
  dsimp only
  rw [tup_is]
  try walk_at "mi"
  rw [el]
  try walk_at "mi"
  rw [g_neI]
  simp only [decide_true, Bool.not_true, wO_some, Bool.false_eq_true, if_false]
  try walk_at "mi"
  rw [wX_lc]
  unfold ySeq
  simp only [wX_bind]
  try walk_at "mi"
  rw [ec]
  try walk_at "mi"
  refine wX_lcN (I := fun i M' => Fr No M M' ∧ M'[M.length]? = some (.lst (List.replicate i (.bl true)))) 2 ?_ ?_ 3 0 _ (by omega) (by omega) ⟨Fr.push _ _, by simp⟩
  · rintro i M1 hi ⟨fr1, hm1⟩
    have hv : ∃ v : Int, [D.int t.1, D.int t.2.1][i]? = some (.int v) ∧ 0 ≤ v ∧ v ≤ many - 1 := by
      have : i = 0 ∨ i = 1 := by omega
      rcases this with rfl | rfl
      · exact ⟨_, rfl, h1⟩
      · exact ⟨_, rfl, h2⟩
    obtain ⟨v, hv, hv2⟩ := hv
    refine ⟨.int v, [(2, .int v)], by rw [hv], rfl, ?_⟩
    refine wX_lcB (c := true) (v := .bl true) (acc := List.replicate i (.bl true)) ?_
    simp only [wipeD, setAll]
    try walk_at "mi"
    rw [g_sub]
    try walk_at "mi"
    refine ⟨trivial, wX_mono (int_in hv2 M1) ?_⟩
    rintro d M2 ⟨rfl, hM⟩
    rw [hM]
    refine ⟨rfl, (isL hm1).2, by simp; omega, fr1.setHi (Nat.le_refl _), ?_⟩
    rw [← List.replicate_succ']
    exact set_get hm1
  · rintro M1 ⟨fr1, hm1⟩
    refine ⟨rfl, ?_⟩
    have ea : gAll [.ref M.length] M1 = some (.bl true, M1) := by
      unfold gAll gBools
      dsimp only
      rw [seq_lst hm1]
      rfl
    rw [ea]
    try walk_at "mi"
    rw [e2]
    try walk_at "mi"
    refine wX_mono (int_in h3 M1) ?_
    rintro d M2 ⟨rfl, rfl⟩
    try walk_at "mi"
    rw [e0, wO_some, e1, wO_some, g_neI, wO_some]
    by_cases hx : t.1 = t.2.1
    · have hy : t.2.2 ≠ 0 := by rcases h4 with h4 | h4 <;> omega
      simp only [hx, decide_true, Bool.not_true]
      rw [e2, wO_some, g_neI, wO_some]
      simp only [hy, decide_false, Bool.not_false]
      exact ⟨trivial, fr1⟩
    · simp only [hx, decide_false, Bool.not_false]
      exact ⟨trivial, fr1⟩
theorem pd_trD (M : Hs) (n : Nat) (x : Tr3) : toPD M (n + 2) (trD x) = some (pdT x) := by simp [trD, toPD, mapO, pdT]
theorem shaped_t (x : Tr3) : SeqAt.shaped (pdT x) = true := by
  unfold SeqAt.shaped
  simp [pdT, PyData.canLay0, PyData.canLayAll0, PyData.depth, PyData.depthAll]
theorem shaped_tt (xs : List Tr3) : SeqAt.shaped (.tuple (xs.map pdT)) = true := by
  have h1 : PyData.canLayAll0 (xs.map pdT) = true ∧ PyData.depthAll (xs.map pdT) ≤ 3 := by
    induction xs with
    | nil => simp [PyData.canLayAll0, PyData.depthAll]
    | cons x xs ih => simp [PyData.canLayAll0, PyData.canLay0, PyData.depthAll, PyData.depth, pdT, ih.1]; have := ih.2; omega
  unfold SeqAt.shaped
  simp [PyData.canLay0, PyData.depth, h1.1]
  have := h1.2
  omega
theorem g_inT (x : Tr3) (ys : List Tr3) (M : Hs) : gInA id (trD x) (.tup (ys.map trD)) M = some (.bl (decide (x ∈ ys)), M) := by
  have e : deep = 10 + 2 := rfl
  have e1 : toPD M deep (trD x) = some (pdT x) := by rw [e]; exact pd_trD M 10 x
  have e2 : toPD M deep (.tup (ys.map trD)) = some (.tuple (ys.map pdT)) := by
    have q : toPD M deep (.tup (ys.map trD)) = (match mapO (toPD M (9 + 2)) (ys.map trD) with
      | some ps => some (.tuple ps)
      | none => none) := rfl
    rw [q, pd_trDs M 9 ys]
  have e3 : ((ys.map pdT).any fun z => PyData.eqv z (pdT x)) = decide (x ∈ ys) := by
    induction ys with
    | nil => simp
    | cons y ys ih =>
      have ih := ih (by
        have q : toPD M deep (.tup (ys.map trD)) = (match mapO (toPD M (9 + 2)) (ys.map trD) with
          | some ps => some (.tuple ps)
          | none => none) := rfl
        rw [q, pd_trDs M 9 ys])
      rw [List.map_cons, List.any_cons, ih]
      obtain ⟨x1, x2, x3⟩ := x
      obtain ⟨y1, y2, y3⟩ := y
      have q : PyData.eqv (pdT (y1, y2, y3)) (pdT (x1, x2, x3)) = decide ((x1, x2, x3) = (y1, y2, y3)) := by
        by_cases hq : (x1, x2, x3) = (y1, y2, y3)
        · cases hq
          simp [PyData.eqv, PyData.eqvAll, pdT]
        · rw [decide_eq_false hq]
          cases hb : PyData.eqv (pdT (y1, y2, y3)) (pdT (x1, x2, x3)) with
          | false => rfl
          | true =>
            simp [PyData.eqv, PyData.eqvAll, pdT] at hb
            exact absurd (by simp [hb]) hq
      rw [q]
      simp
  show gInB id (trD x) (.tup (ys.map trD)) M = _
  unfold gInB
  rw [e1, e2]
  dsimp only
  rw [shaped_t, shaped_tt, e3]
  rfl
theorem g_cutT {xs : List D} {i : Nat} {M : Hs} (h : i ≤ xs.length) : gCut (.tup xs) none (some (i : Int)) M = some (.tup (xs.take i), M) := by
  have e : cutD xs none (some (i : Int)) = xs.take i := by
    unfold cutD
    rw [HT.sIx_none, HT.sIx_nat, Nat.min_eq_left h]
    simp
  show some (D.tup (cutD xs none (some (i : Int))), M) = _
  rw [e]
theorem not_take {xs : List Tr3} (nd : xs.Nodup) {i : Nat} (h : i < xs.length) : xs[i] ∉ xs.take i := by
  intro hm
  have nd2 : (xs.take i ++ xs.drop i).Nodup := by rw [List.take_append_drop]; exact nd
  exact (List.nodup_append.mp nd2).2.2 _ hm _ (by rw [List.drop_eq_getElem_cons h]; exact List.mem_cons_self) rfl
theorem look_c_w {many : Int} {cs : List Tr3} (nd : cs.Nodup) (hl : cs.length ≤ 5) (hv : ∀ t ∈ cs, vC many t = true) (M : Hs) : wX (f_look_at_couplers [.tup (cs.map trD), .int many] M) fun d M' => d = .non ∧ Fr No M M' := by
  unfold f_look_at_couplers
  have el : gLen [.tup (cs.map trD)] M = some (.int (cs.map trD).length, M) := rfl
  try walk_at "mi"
  rw [tup_kind]
  dsimp only
  rw [tup_is]
  try walk_at "mi"
  rw [el]
  try walk_at "mi"
  rw [g_gt]
  try walk_at "mi"
  have hg : decide ((5 : Int) < ((cs.map trD).length : Int)) = false := decide_eq_false (by rw [List.length_map]; omega)
  simp only [hg, Bool.false_eq_true, if_false]
  try walk_at "mi"
  unfold yEnum
  simp only [wX_bind]
  try walk_at "mi"
  refine wS_forN (I := fun i ζ M' => (∃ a b, ζ = [some (.tup (cs.map trD)), some (.int many), a, b]) ∧ Fr No M M') cs.length ?_ ?_ _ 0 _ _ (by simp) (Nat.zero_le _) ⟨⟨_, _, rfl⟩, Fr.refl _ _⟩
  · rintro i ζ M1 hi ⟨⟨a, b, rfl⟩, fr1⟩
    have ht : (cs.map trD)[i]? = some (trD cs[i]) := by rw [List.getElem?_map, List.getElem?_eq_getElem hi]; rfl
    refine ⟨_, [(2, .int (i : Int)), (3, trD cs[i])], by rw [ht], rfl, ?_⟩
    simp only [setAll]
    try walk_at "mi"
    refine wX_mono (is_coupler_w (hv _ (List.getElem_mem hi)) M1) ?_
    rintro d M2 ⟨rfl, fr2⟩
    try walk_at "mi"
    rw [g_cutT (by simp; omega)]
    try walk_at "mi"
    rw [← List.map_take, g_inT]
    try walk_at "mi"
    simp only [not_take nd hi, decide_false, Bool.false_eq_true, if_false]
    try walk_at "mi"
    exact ⟨⟨_, _, rfl⟩, fr1.trans fr2⟩
  · rintro ζ M1 ⟨⟨a, b, rfl⟩, fr1⟩
    exact ⟨by simp, trivial, fr1⟩
theorem is_stop_w {many : Int} {t : Tr3} (h : vS many t = true) (M : Hs) : wX (f_is_stop [trD t, .int many] M) fun d M' => d = .bl true ∧ M' = M := by
  obtain ⟨h1, h2, h3⟩ := vS_at h
  unfold f_is_stop
  have e0 : gIxA (trD t) (.int 0) M = some (.int t.1, M) := g_ixT (i := 0) rfl
  have e1 : gIxA (trD t) (.int 1) M = some (.int t.2.1, M) := g_ixT (i := 1) rfl
  have e2 : gIxA (trD t) (.int 2) M = some (.int t.2.2, M) := g_ixT (i := 2) rfl
  have ek : kindOf (trD t) M = some "tuple" := rfl
  have el : gLen [trD t] M = some (.int 3, M) := rfl
  try walk_at "mi"
  rw [ek]
  dsimp only
  rw [tup_is]
  try walk_at "mi"
  rw [el]
  try walk_at "mi"
  rw [g_neI]
  simp only [decide_true, Bool.not_true, wO_some, Bool.false_eq_true, if_false]
  rw [e0]
  try walk_at "mi"
  rw [g_sub]
  try walk_at "mi"
  refine wX_mono (int_in h1 M) ?_
  rintro d M1 ⟨rfl, rfl⟩
  try walk_at "mi"
  rw [e1]
  try walk_at "mi"
  refine wX_mono (int_in h2 M1) ?_
  rintro d M2 ⟨rfl, rfl⟩
  try walk_at "mi"
  rw [e2]
  try walk_at "mi"
  exact int_in h3 M2
theorem look_s_w {many : Int} {rs : List Tr3} (nd : rs.Nodup) (h1 : 1 ≤ rs.length) (h4 : rs.length ≤ 4) (hv : ∀ t ∈ rs, vS many t = true) (M : Hs) : wX (f_look_at_stops [.tup (rs.map trD), .int many] M) fun d M' => d = .non ∧ Fr No M M' := by
  unfold f_look_at_stops
  have el : gLen [.tup (rs.map trD)] M = some (.int (rs.map trD).length, M) := rfl
  try walk_at "mi"
  rw [tup_kind]
  dsimp only
  rw [tup_is]
  try walk_at "mi"
  rw [el]
  try walk_at "mi"
  have ha : decide ((1 : Int) ≤ ((rs.map trD).length : Int)) = true := decide_eq_true (by rw [List.length_map]; omega)
  have hb : decide (((rs.map trD).length : Int) ≤ 4) = true := decide_eq_true (by rw [List.length_map]; omega)
  simp only [g_le, wO_some, ha, hb]
  try walk_at "mi"
  unfold yEnum
  simp only [wX_bind]
  try walk_at "mi"
  refine wS_forN (I := fun i ζ M' => (∃ a b, ζ = [some (.tup (rs.map trD)), some (.int many), a, b]) ∧ Fr No M M') rs.length ?_ ?_ _ 0 _ _ (by simp) (Nat.zero_le _) ⟨⟨_, _, rfl⟩, Fr.refl _ _⟩
  · rintro i ζ M1 hi ⟨⟨a, b, rfl⟩, fr1⟩
    have ht : (rs.map trD)[i]? = some (trD rs[i]) := by rw [List.getElem?_map, List.getElem?_eq_getElem hi]; rfl
    refine ⟨_, [(2, .int (i : Int)), (3, trD rs[i])], by rw [ht], rfl, ?_⟩
    simp only [setAll]
    try walk_at "mi"
    refine wX_mono (is_stop_w (hv _ (List.getElem_mem hi)) M1) ?_
    rintro d M2 ⟨rfl, rfl⟩
    try walk_at "mi"
    rw [g_cutT (by simp; omega)]
    try walk_at "mi"
    rw [← List.map_take, g_inT]
    try walk_at "mi"
    simp only [not_take nd hi, decide_false, Bool.false_eq_true, if_false]
    try walk_at "mi"
    exact ⟨⟨_, _, rfl⟩, fr1⟩
  · rintro ζ M1 ⟨⟨a, b, rfl⟩, fr1⟩
    exact ⟨by simp, trivial, fr1⟩
theorem wS_fld {c k : Nat} {fo fv : MX} {ζ : Sl} {M : Hs} {N : Sl → Hs → Prop} {T : D → Hs → Prop} : wS (sFld c k fo fv ζ M) N T = wX (fv ζ M) fun y M => wX (fo ζ M) fun x M => match slAt c x M with
  | some (n, fs) => N ζ (M.set n (.slo c (putD k y fs)))
  | none => False := by
  unfold sFld
  rw [wS_of]
  congr
  funext y M1
  rw [wS_of]
  congr
  funext x M2
  cases slAt c x M2 with
  | none => rfl
  | some q => obtain ⟨n, fs⟩ := q; rfl
theorem wX_make {o : MO} {n : Nat} {F : MF} {ga : MA} {ζ : Sl} {M : Hs} {Q : D → Hs → Prop} : wX (xMake o n F ga ζ M) Q = wX (ga ζ M) fun ds M1 => if ds.length + 1 = n then wX (F (.ref M1.length :: ds) (M1 ++ [o])) fun v M2 => match v with
  | .non => Q (.ref M1.length) M2
  | _ => False else False := by
  unfold xMake
  rw [wX_bind]
  congr
  funext ds M1
  split
  · rw [wX_bind]
    congr
    funext v M2
    cases v <;> rfl
  · rfl
theorem g_inS2 {ch : Str} (h : ch = "all" ∨ ch = "pressed") (M : Hs) : gInA not (.str ch) (.tup [.str "all", .str "pressed"]) M = some (.bl false, M) := by
  have e1 : toPD M deep (.str ch) = some (.str ch) := rfl
  have e2 : toPD M deep (.tup [.str "all", .str "pressed"]) = some (.tuple [.str "all", .str "pressed"]) := rfl
  show gInB not (.str ch) (.tup [.str "all", .str "pressed"]) M = _
  unfold gInB
  rw [e1, e2]
  dsimp only
  have e3 : (SeqAt.shaped (.str ch) && SeqAt.shaped (.tuple [.str "all", .str "pressed"])) = true := by rcases h with rfl | rfl <;> decide +kernel
  have e4 : ([PyData.str "all", PyData.str "pressed"].any fun z => PyData.eqv z (.str ch)) = true := by rcases h with rfl | rfl <;> decide +kernel
  rw [e3, e4]
  rfl
theorem g_inI3 {o : Int} (h : o = 0 ∨ o = 2 ∨ o = 3) (M : Hs) : gInA not (.int o) (.tup [.int 0, .int 2, .int 3]) M = some (.bl false, M) := by
  have e1 : toPD M deep (.int o) = some (.int o) := rfl
  have e2 : toPD M deep (.tup [.int 0, .int 2, .int 3]) = some (.tuple [.int 0, .int 2, .int 3]) := rfl
  show gInB not (.int o) (.tup [.int 0, .int 2, .int 3]) M = _
  unfold gInB
  rw [e1, e2]
  dsimp only
  have e3 : (SeqAt.shaped (.int o) && SeqAt.shaped (.tuple [.int 0, .int 2, .int 3])) = true := by rcases h with rfl | rfl | rfl <;> decide +kernel
  have e4 : ([PyData.int 0, PyData.int 2, PyData.int 3].any fun z => PyData.eqv z (.int o)) = true := by rcases h with rfl | rfl | rfl <;> decide +kernel
  rw [e3, e4]
  rfl
theorem str_kind (x : Str) (M : Hs) : kindOf (.str x) M = some "str" := rfl
theorem str_is : isKind "str" "str" = true := by decide
theorem organ_init_w {M : Hs} {g : Nat} {many : Int} {cs rs : List Tr3} {ch : Str} {oct : Int} (p : Parts many cs rs ch oct) (hg : M[g]? = some (.slo 0 [])) :
    wX (f_Organ_init [.ref g, .int many, .tup (cs.map trD), .tup (rs.map trD), .str ch, .int oct] M) fun d M' => d = .non ∧ OgM M' g many cs rs ch oct ∧ Fr (fun n => n = g) M M' := by
  unfold f_Organ_init
  try walk_at "mi"
  refine wX_mono (int_in (v := many) (a := 1) (b := 2) (by rcases p.m with h | h <;> omega) M) ?_
  rintro d M1 ⟨rfl, rfl⟩
  try walk_at "mi"
  refine wX_mono (look_c_w p.cn p.cl p.cv M1) ?_
  rintro d M2 ⟨rfl, fr2⟩
  try walk_at "mi"
  refine wX_mono (look_s_w p.rn p.r1 p.r4 p.rv M2) ?_
  rintro d M3 ⟨rfl, fr3⟩
  try walk_at "mi"
  rw [str_kind]
  dsimp only
  rw [str_is]
  try walk_at "mi"
  rw [g_inS2 p.c]
  try walk_at "mi"
  refine wX_mono (int_in (v := oct) (a := 0) (b := 3) (by rcases p.o with h | h | h <;> omega) M3) ?_
  rintro d M4 ⟨rfl, rfl⟩
  try walk_at "mi"
  rw [g_inI3 p.o]
  have hg4 : M4[g]? = some (.slo 0 []) := (fr2.trans fr3).get hg id
  have fr4 : Fr (fun n => n = g) M1 M4 := (fr2.trans fr3).imp fun _ _ h => h.elim
  try walk_at "mi"
  rw [wS_fld]
  try walk_at "mi"
  rw [sl_at hg4]
  dsimp only
  have s1 := set_get (o := MO.slo 0 (putD 2 (.int many) [])) hg4
  rw [wS_fld]
  try walk_at "mi"
  rw [sl_at s1]
  dsimp only
  have s2 := set_get (o := MO.slo 0 (putD 1 (.tup (cs.map trD)) (putD 2 (.int many) []))) s1
  rw [wS_fld]
  try walk_at "mi"
  rw [sl_at s2]
  dsimp only
  have s3 := set_get (o := MO.slo 0 (putD 4 (.tup (rs.map trD)) (putD 1 (.tup (cs.map trD)) (putD 2 (.int many) [])))) s2
  rw [wS_fld]
  try walk_at "mi"
  rw [sl_at s3]
  dsimp only
  have s4 := set_get (o := MO.slo 0 (putD 3 (.str ch) (putD 4 (.tup (rs.map trD)) (putD 1 (.tup (cs.map trD)) (putD 2 (.int many) []))))) s3
  rw [wS_fld]
  try walk_at "mi"
  rw [sl_at s4]
  dsimp only
  have s5 := set_get (o := MO.slo 0 (putD 0 (.int oct) (putD 3 (.str ch) (putD 4 (.tup (rs.map trD)) (putD 1 (.tup (cs.map trD)) (putD 2 (.int many) [])))))) s4
  exact ⟨trivial, s5, ((((fr4.trans (Fr.set rfl)).trans (Fr.set rfl)).trans (Fr.set rfl)).trans (Fr.set rfl)).trans (Fr.set rfl)⟩
def Tt (M : Hs) (t : Nat) (many : Int) (cs rs : List Tr3) (ch : Str) (oct : Int) : Prop := M[t]? = some (.lst [.int many, .tup (cs.map trD), .tup (rs.map trD), .str ch, .int oct])
def Sq (M : Hs) (d : D) (xs : List D) : Prop := (∃ n, d = .ref n ∧ M[n]? = some (.lst xs)) ∨ d = .tup xs
theorem Sq.seq {M : Hs} {d : D} {xs : List D} (h : Sq M d xs) : hSeq M d = some xs := by
  rcases h with ⟨n, rfl, h⟩ | rfl
  · exact s_ref h
  · rfl
theorem Sq.fr {M M' : Hs} {d : D} {xs : List D} (h : Sq M d xs) (f : Fr No M M') : Sq M' d xs := by
  rcases h with ⟨n, rfl, h⟩ | rfl
  · exact .inl ⟨n, rfl, f.get h id⟩
  · exact .inr rfl
theorem Sq.len {M : Hs} {d : D} {xs : List D} (h : Sq M d xs) : gLen [d] M = some (.int xs.length, M) := by
  rcases h with ⟨n, rfl, h⟩ | rfl
  · exact g_lenD h
  · exact g_lenT
theorem Sq.list {M : Hs} {d : D} {xs : List D} (h : Sq M d xs) : gListA [d] M = some (.ref M.length, M ++ [.lst xs]) := by
  rcases h with ⟨n, rfl, h⟩ | rfl
  · exact g_listL h
  · exact g_listT
end Wk
end
section
set_option maxRecDepth 100000
set_option maxHeartbeats 4000000
set_option autoImplicit false
namespace Wk
open PySem Mi
local macro_rules | `(tactic| walk_at "mi") => `(tactic| simp only [wX_fn, wS_seq, wS_set, wS_ret, wS_expr, wS_pass, wS_if, wS_put, wX_var, wX_c, wX_2, wX_3, wX_anil, wX_acons, wX_tup, wX_lst, wX_dict, wX_b, wX_meth, wX_call, wX_if, wX_t1, wX_and2, wX_or2, wX_not1, wX_true, wX_neg, wX_oN, wX_oS, wX_not, wX_and, wX_or, wX_is, wX_cut, wX_fld, wS_for, wX_ok, wX_no, wO_some, wO_none, wS_nx, wS_rt, List.map_cons, List.map_nil, List.cons_append, List.nil_append, List.append_nil, List.replicate_succ, List.replicate_zero, List.set_cons_zero, List.set_cons_succ, List.getElem?_cons_zero, List.getElem?_cons_succ, List.getElem?_nil, List.length_cons, List.length_nil, Nat.reduceSub, Nat.reduceAdd, Nat.zero_add, Nat.add_zero, if_true, if_false, ite_true, ite_false, reduceIte, Bool.false_eq_true, Bool.not_true, Bool.not_false, ← Nat.add_assoc, reduceCtorEq, List.length_append])
def ledK (cs : List Tr3) (top oct : Int) (p : Sp2) : List Sp2 := cs.filterMap fun t => if t.1 = p.1 then (ledP p.2 t.2.2 top oct).map fun k => (t.2.1, k) else none
theorem ledK_snoc (cs : List Tr3) (t : Tr3) (top oct : Int) (p : Sp2) : ledK (cs ++ [t]) top oct p = ledK cs top oct p ++ ledK [t] top oct p := by unfold ledK; rw [List.filterMap_append]
theorem ledK_len (cs : List Tr3) (top oct : Int) (p : Sp2) : (ledK cs top oct p).length ≤ cs.length := List.length_filterMap_le _ _
inductive Rch (cs : List Tr3) (top oct : Int) (st : List Sp2) : Sp2 → Prop
  | base {p : Sp2} : p ∈ st → Rch cs top oct st p
  | step {p q : Sp2} : Rch cs top oct st p → q ∈ ledK cs top oct p → Rch cs top oct st q
def OnW (cs : List Tr3) (top oct : Int) (all : Bool) (st : List Sp2) (q : Sp2) : Prop := if all = true then Rch cs top oct st q else q ∈ st ∨ ∃ p ∈ st, q ∈ ledK cs top oct p
def univ (cs : List Tr3) (top oct : Int) (all : Bool) (st : List Sp2) : List Sp2 := st ++ if all = true then cs.flatMap fun t => (List.range (top + 1).toNat).map fun (k : Nat) => (t.2.1, (k : Int)) else st.flatMap (ledK cs top oct)
theorem flat_lenS {α β : Type} {G : α → List β} {k : Nat} (h : ∀ a, (G a).length ≤ k) (l : List α) : (l.flatMap G).length ≤ k * l.length := by
  induction l with
  | nil => simp
  | cons a l ih =>
    rw [List.flatMap_cons, List.length_append, List.length_cons, Nat.mul_add]
    have := h a
    omega
theorem led_range {p s t o k : Int} (h : ledP p s t o = some k) : 0 ≤ k ∧ k ≤ t := by
  have key : ∀ f : Int, (if 0 ≤ f ∧ f ≤ t then some f else none) = some k → 0 ≤ k ∧ k ≤ t := fun f hf => by
    split at hf
    · rename_i h1
      cases hf
      exact h1
    · cases hf
  exact key _ h
theorem led_univ {cs : List Tr3} {top oct : Int} {all : Bool} {st : List Sp2} {p q : Sp2} (hp : all = true ∨ p ∈ st) (h : q ∈ ledK cs top oct p) : q ∈ univ cs top oct all st := by
  cases all with
  | false =>
    rcases hp with hp | hp
    · cases hp
    · exact List.mem_append_right _ (List.mem_flatMap.mpr ⟨p, hp, h⟩)
  | true =>
  unfold ledK at h
  obtain ⟨t, ht, e⟩ := List.mem_filterMap.mp h
  split at e
  · cases hk : ledP p.2 t.2.2 top oct with
    | none => rw [hk] at e; cases e
    | some k =>
      rw [hk] at e
      cases e
      obtain ⟨h1, h2⟩ := led_range hk
      refine List.mem_append_right _ (List.mem_flatMap.mpr ⟨t, ht, List.mem_map.mpr ⟨k.toNat, List.mem_range.mpr (by omega), ?_⟩⟩)
      simp only [Prod.mk.injEq, true_and]
      omega
  · cases e
theorem nodup_le {α : Type} [DecidableEq α] : ∀ {xs ys : List α}, xs.Nodup → (∀ x ∈ xs, x ∈ ys) → xs.length ≤ ys.length
  | [], _, _, _ => Nat.zero_le _
  | x :: xs, ys, h, s => by
    obtain ⟨h1, h2⟩ := List.nodup_cons.mp h
    have hx := s x List.mem_cons_self
    have ih := nodup_le (ys := ys.erase x) h2 fun y hy => (List.mem_erase_of_ne (fun e => h1 (by rw [← e]; exact hy))).mpr (s y (List.mem_cons_of_mem _ hy))
    rw [List.length_erase_of_mem hx] at ih
    have := List.length_pos_of_mem hx
    simp only [List.length_cons]
    omega
theorem univ_len {cs : List Tr3} {top oct : Int} {all : Bool} {st : List Sp2} (h0 : 0 ≤ top) (h1 : all = true → top ≤ 1000) (hc : cs.length ≤ 100) (hs : st.length ≤ 1000) : (univ cs top oct all st).length ≤ 200000 := by
  unfold univ
  rw [List.length_append]
  cases all with
  | false =>
    rw [if_neg Bool.false_ne_true]
    have := flat_lenS (G := ledK cs top oct) (k := 100) (fun p => Nat.le_trans (ledK_len cs top oct p) hc) st
    omega
  | true =>
    rw [if_pos rfl]
    have h1 := h1 rfl
    have := flat_lenS (G := fun t : Tr3 => (List.range (top + 1).toNat).map fun (k : Nat) => (t.2.1, (k : Int))) (k := 1001) (fun t => by rw [List.length_map, List.length_range]; omega) cs
    omega
/-- what holds between two turns; act: the spots that have been, or still are to be, gone on from -/
structure Bet (cs : List Tr3) (top oct : Int) (all : Bool) (st fnd wt : List Sp2) : Prop where
  nd : fnd.Nodup
  un : ∀ q ∈ fnd, q ∈ univ cs top oct all st
  b1 : ∀ q ∈ st, q ∈ fnd
  b2 : ∀ q ∈ fnd, OnW cs top oct all st q
  b3 : ∀ q ∈ wt, if all = true then q ∈ fnd else q ∈ st
/-- .. ex: but for the spot ex -/
def Clo (cs : List Tr3) (top oct : Int) (all : Bool) (st fnd wt : List Sp2) (ex : Sp2 → Prop) : Prop := ∀ p, (if all = true then p ∈ fnd else p ∈ st) → ex p ∨ p ∈ wt ∨ ∀ q ∈ ledK cs top oct p, q ∈ fnd
section
variable {cs : List Tr3} {top oct : Int} {all : Bool} {st fnd wt : List Sp2}
theorem Bet.le (b : Bet cs top oct all st fnd wt) : fnd.length ≤ (univ cs top oct all st).length := nodup_le b.nd b.un
theorem Bet.last (b : Bet cs top oct all st fnd []) (c : Clo cs top oct all st fnd [] fun _ => False) : ∀ q, q ∈ fnd ↔ OnW cs top oct all st q := by
  intro q
  refine ⟨b.b2 q, fun h => ?_⟩
  unfold OnW at h
  unfold Clo at c
  cases all with
  | true =>
    rw [if_pos rfl] at h
    induction h with
    | base hp => exact b.b1 _ hp
    | step h1 h2 ih =>
      rcases c _ (by rw [if_pos rfl]; exact ih) with h3 | h3 | h3
      · exact h3.elim
      · cases h3
      · exact h3 _ h2
  | false =>
    rw [if_neg Bool.false_ne_true] at h
    rcases h with h | ⟨p, hp, h⟩
    · exact b.b1 _ h
    · rcases c p (by rw [if_neg Bool.false_ne_true]; exact hp) with h3 | h3 | h3
      · exact h3.elim
      · cases h3
      · exact h3 _ h
theorem OnW.base {q : Sp2} (h : q ∈ st) : OnW cs top oct all st q := by
  unfold OnW
  split
  · exact .base h
  · exact .inl h
/-- a spot led to from p is put in -/
theorem Bet.put {p q : Sp2} (b : Bet cs top oct all st fnd wt) (hp : if all = true then p ∈ fnd else p ∈ st) (hq : q ∈ ledK cs top oct p) (hn : q ∉ fnd) : Bet cs top oct all st (fnd ++ [q]) (if all = true then wt ++ [q] else wt) := by
  refine ⟨?_, ?_, fun r hr => List.mem_append_left _ (b.b1 r hr), ?_, ?_⟩
  · rw [List.nodup_append]
    exact ⟨b.nd, by simp, fun a ha c hc e => by simp at hc; subst hc; subst e; exact hn ha⟩
  · intro r hr
    rcases List.mem_append.mp hr with hr | hr
    · exact b.un r hr
    · simp at hr; subst hr; exact led_univ (by cases all with | true => exact .inl rfl | false => exact .inr (by rw [if_neg Bool.false_ne_true] at hp; exact hp)) hq
  · intro r hr
    rcases List.mem_append.mp hr with hr | hr
    · exact b.b2 r hr
    · simp at hr; subst hr
      unfold OnW
      cases all with
      | true =>
        rw [if_pos rfl] at hp ⊢
        have := b.b2 p hp
        unfold OnW at this
        rw [if_pos rfl] at this
        exact .step this hq
      | false =>
        rw [if_neg Bool.false_ne_true] at hp ⊢
        exact .inr ⟨p, hp, hq⟩
  · intro r hr
    cases all with
    | true =>
      rw [if_pos rfl] at hr ⊢
      rcases List.mem_append.mp hr with hr | hr
      · have := b.b3 r hr
        rw [if_pos rfl] at this
        exact List.mem_append_left _ this
      · exact List.mem_append_right _ hr
    | false =>
      rw [if_neg Bool.false_ne_true] at hr ⊢
      have := b.b3 r hr
      rw [if_neg Bool.false_ne_true] at this
      exact this
theorem Clo.put {p q : Sp2} (c : Clo cs top oct all st fnd wt (· = p)) : Clo cs top oct all st (fnd ++ [q]) (if all = true then wt ++ [q] else wt) (· = p) := by
  intro r hr
  cases all with
  | true =>
    rw [if_pos rfl] at hr ⊢
    rcases List.mem_append.mp hr with hr | hr
    · rcases c r (by rw [if_pos rfl]; exact hr) with h | h | h
      · exact .inl h
      · exact .inr (.inl (List.mem_append_left _ h))
      · exact .inr (.inr fun z hz => List.mem_append_left _ (h z hz))
    · exact .inr (.inl (List.mem_append_right _ hr))
  | false =>
    rw [if_neg Bool.false_ne_true] at hr ⊢
    rcases c r (by rw [if_neg Bool.false_ne_true]; exact hr) with h | h | h
    · exact .inl h
    · exact .inr (.inl h)
    · exact .inr (.inr fun z hz => List.mem_append_left _ (h z hz))
/-- the spot p is taken off -/
theorem Bet.pop {p : Sp2} {w : List Sp2} (b : Bet cs top oct all st fnd (w ++ [p])) : Bet cs top oct all st fnd w ∧ if all = true then p ∈ fnd else p ∈ st :=
  ⟨⟨b.nd, b.un, b.b1, b.b2, fun q hq => b.b3 q (List.mem_append_left _ hq)⟩, b.b3 p (List.mem_append_right _ List.mem_cons_self)⟩
theorem Clo.pop {p : Sp2} {w : List Sp2} (c : Clo cs top oct all st fnd (w ++ [p]) fun _ => False) : Clo cs top oct all st fnd w (· = p) := by
  intro r hr
  rcases c r hr with h | h | h
  · exact h.elim
  · rcases List.mem_append.mp h with h | h
    · exact .inr (.inl h)
    · simp at h; exact .inl h
  · exact .inr (.inr h)
/-- .. all that p leads to is in -/
theorem Clo.close {p : Sp2} (c : Clo cs top oct all st fnd wt (· = p)) (h : ∀ q ∈ ledK cs top oct p, q ∈ fnd) : Clo cs top oct all st fnd wt fun _ => False := by
  intro r hr
  rcases c r hr with e | h1 | h1
  · subst e; exact .inr (.inr h)
  · exact .inr (.inl h1)
  · exact .inr (.inr h1)
end
end Wk
end
section
set_option maxRecDepth 100000
set_option maxHeartbeats 4000000
set_option autoImplicit false
namespace Wk
open PySem Mi
local macro_rules | `(tactic| walk_at "mi") => `(tactic| simp only [wX_fn, wS_seq, wS_set, wS_ret, wS_expr, wS_pass, wS_if, wS_put, wX_var, wX_c, wX_2, wX_3, wX_anil, wX_acons, wX_tup, wX_lst, wX_dict, wX_b, wX_meth, wX_call, wX_if, wX_t1, wX_and2, wX_or2, wX_not1, wX_true, wX_neg, wX_oN, wX_oS, wX_not, wX_and, wX_or, wX_is, wX_cut, wX_fld, wS_for, wX_ok, wX_no, wO_some, wO_none, wS_nx, wS_rt, List.map_cons, List.map_nil, List.cons_append, List.nil_append, List.append_nil, List.replicate_succ, List.replicate_zero, List.set_cons_zero, List.set_cons_succ, List.getElem?_cons_zero, List.getElem?_cons_succ, List.getElem?_nil, List.length_cons, List.length_nil, Nat.reduceSub, Nat.reduceAdd, Nat.zero_add, Nat.add_zero, if_true, if_false, ite_true, ite_false, reduceIte, Bool.false_eq_true, Bool.not_true, Bool.not_false, ← Nat.add_assoc, reduceCtorEq, List.length_append])
theorem shaped_ts (xs : List Tr3) : SeqAt.shaped (.list (xs.map pdT)) = true := by
  have h1 : PyData.canLayAll0 (xs.map pdT) = true ∧ PyData.depthAll (xs.map pdT) ≤ 3 := by
    induction xs with
    | nil => simp [PyData.canLayAll0, PyData.depthAll]
    | cons x xs ih => simp [PyData.canLayAll0, PyData.canLay0, PyData.depthAll, PyData.depth, pdT, ih.1]; have := ih.2; omega
  unfold SeqAt.shaped
  simp [PyData.canLay0, PyData.depth, h1.1]
  have := h1.2
  omega
theorem g_neT {m n : Nat} {xs : List Tr3} {M : Hs} (h1 : M[m]? = some (.lst (xs.map trD))) (h2 : M[n]? = some (.lst [])) : gNe (.ref m) (.ref n) M = some (.bl (!decide (xs = [])), M) := by
  have e : deep = 11 + 1 := rfl
  have e1 : toPD M deep (.ref m) = some (.list (xs.map pdT)) := by rw [e, pd_ref M 11 m _ h1, pd_trDs M 9 xs]
  have e2 : toPD M deep (.ref n) = some (.list (([] : List Tr3).map pdT)) := by rw [e, pd_ref M 11 n _ h2]; rfl
  have e3 : PyData.eqv (.list (xs.map pdT)) (.list (([] : List Tr3).map pdT)) = decide (xs = []) := by cases xs <;> simp [PyData.eqv, PyData.eqvAll]
  unfold gNe gEqB
  rw [e1, e2]
  dsimp only
  rw [shaped_ts, shaped_ts, e3]
  rfl
theorem erase_map {α β : Type} (f : α → β) : ∀ (xs : List α) (i : Nat), (xs.map f).eraseIdx i = (xs.eraseIdx i).map f
  | [], _ => rfl
  | _ :: _, 0 => rfl
  | x :: xs, i + 1 => by
    simp only [List.map_cons, List.eraseIdx_cons_succ, erase_map f xs i]
theorem erase_perm {α : Type} : ∀ (xs : List α) (i : Nat) (h : i < xs.length), (xs[i] :: xs.eraseIdx i).Perm xs
  | [], _, h => by simp at h
  | _ :: _, 0, _ => .refl _
  | x :: xs, i + 1, h => by
    have ih := erase_perm xs i (by simpa using h)
    simp only [List.getElem_cons_succ, List.eraseIdx_cons_succ]
    exact (List.Perm.swap x _ _).trans (ih.cons x)
theorem law_some_w {M : Hs} (hd : Hd M) {t : Nat} {xs : List Tr3} (ht : 2 ≤ t) (hx : M[t]? = some (.lst (xs.map trD))) (nd : xs.Nodup) (hl : xs.length ≤ 1000) (m : Int) (hm : 0 ≤ m) (hm2 : m ≤ 1000) :
    wX (f__law_some [.ref 1, .ref t, .int m] M) fun d M' => ∃ ys : List Tr3, d = .tup (ys.map trD) ∧ ys.Nodup ∧ (∀ y ∈ ys, y ∈ xs) ∧ ys.length = min m.toNat xs.length ∧ Hd M' ∧ Fr H2 M M' := by
  have hsz := size1
  have hM2 : 2 ≤ M.length := Nat.le_of_lt (Nat.lt_of_le_of_lt ht (lt_of_get hx))
  unfold f__law_some
  try walk_at "mi"
  rw [g_listL hx]
  try walk_at "mi"
  rw [if_pos (Nat.zero_le _)]
  unfold yRg1
  simp only [wX_bind]
  try walk_at "mi"
  have hok : okRg m = true := okRg_mk (by omega) (by omega)
  rw [if_pos hok]
  dsimp only [wX_ok, yRg]
  have fr0 : Fr No M (M ++ [MO.lst (xs.map trD)] ++ [MO.lst []]) := (Fr.push M _).pushHi
  refine wS_forN (I := fun i ζ M' => ∃ (L F : List Tr3) (a : Option D), ζ = [some (.ref 1), some (.ref t), some (.int m), some (.ref M.length), some (.ref (M.length + 1)), a] ∧ Fr H2 M M' ∧ Hd M' ∧ M'[M.length]? = some (.lst (L.map trD)) ∧ M'[M.length + 1]? = some (.lst (F.map trD)) ∧
    (F ++ L).Nodup ∧ (∀ y ∈ F ++ L, y ∈ xs) ∧ F.length + L.length = xs.length ∧ F.length = min i xs.length) m.toNat ?_ ?_ _ 0 _ _ (by omega) (Nat.zero_le _) ⟨xs, [], _, rfl, fr0.imp fun _ _ h => h.elim, hd.fr fr0, by simp, by simp, by simpa using nd, by simp, by simp, by simp⟩
  · rintro i ζ M1 hi ⟨L, F, a, rfl, fr1, hd1, hL, hF, nd1, in1, ln1, lf1⟩
    refine ⟨.int (0 + (i : Int)), [(5, .int (0 + (i : Int)))], by rw [if_pos hi], rfl, ?_⟩
    simp only [setAll]
    try walk_at "mi"
    rw [if_pos (Nat.zero_le _)]
    have frn : Fr No M1 (M1 ++ [MO.lst []]) := Fr.push _ _
    have hL2 : (M1 ++ [MO.lst []])[M.length]? = some (.lst (L.map trD)) := frn.get hL id
    have hF2 : (M1 ++ [MO.lst []])[M.length + 1]? = some (.lst (F.map trD)) := frn.get hF id
    rw [g_neT hL2 get_push]
    try walk_at "mi"
    have fr2 : Fr H2 M (M1 ++ [MO.lst []]) := fr1.trans (Fr.push _ _)
    have hd2 := hd1.fr frn
    generalize (M1 ++ [MO.lst []]) = M2 at fr2 hd2 hL2 hF2 ⊢
    by_cases hLn : L = []
    · simp only [hLn, decide_true, Bool.not_true, Bool.false_eq_true, if_false]
      try walk_at "mi"
      subst hLn
      exact ⟨[], F, _, rfl, fr2, hd2, hL2, hF2, nd1, in1, ln1, by simp at ln1; omega⟩
    · simp only [hLn, decide_false, Bool.not_false, if_true]
      have hLp : 0 < L.length := List.length_pos_iff.mpr hLn
      try walk_at "mi"
      rw [if_pos (isL hF2).1, if_pos (isL hL2).1, g_lenL hL2]
      try walk_at "mi"
      refine wX_mono (law_next_w hd2 _ (by simp; omega) (by simp; omega)) ?_
      rintro d M3 ⟨r, rfl, hr0, hr1, hd3, fr3⟩
      rw [List.length_map] at hr1
      have hL3 : M3[M.length]? = some (.lst (L.map trD)) := fr3.get hL2 (by unfold H2; omega)
      have hF3 : M3[M.length + 1]? = some (.lst (F.map trD)) := fr3.get hF2 (by unfold H2; omega)
      have hrl : r.toNat < L.length := by omega
      have hpop : gPopAt (.ref M.length) [.int r] M3 = some (trD L[r.toNat], M3.set M.length (.lst ((L.eraseIdx r.toNat).map trD))) := by
        unfold gPopAt
        dsimp only
        rw [(isL hL3).2]
        dsimp only
        rw [if_pos hr0, List.getElem?_map, List.getElem?_eq_getElem hrl]
        dsimp only [Option.map]
        congr 3
        rw [erase_map]
      rw [hpop]
      try walk_at "mi"
      have hF4 : (M3.set M.length (MO.lst ((L.eraseIdx r.toNat).map trD)))[M.length + 1]? = some (.lst (F.map trD)) := by rw [List.getElem?_set_ne (by omega)]; exact hF3
      have hln : (F.map trD).length < sizeLine := by rw [List.length_map]; omega
      rw [g_app hF4 hln]
      try walk_at "mi"
      have hperm : (L[r.toNat] :: L.eraseIdx r.toNat).Perm L := erase_perm L _ hrl
      have hperm2 : ((F ++ [L[r.toNat]]) ++ L.eraseIdx r.toNat).Perm (F ++ L) := by
        rw [List.append_assoc]
        exact List.Perm.append_left F hperm
      have hel := hperm.length_eq
      simp only [List.length_cons] at hel
      refine ⟨L.eraseIdx r.toNat, F ++ [L[r.toNat]], _, rfl, ?_, ?_, ?_, ?_, hperm2.nodup_iff.mpr nd1, fun y hy => in1 y (hperm2.mem_iff.mp hy), ?_, ?_⟩
      · refine ((fr2.trans fr3).setHi (Nat.le_refl _)).setHi (Nat.le_succ _)
      · obtain ⟨s, j, zs, z1, z2, z3⟩ := hd3
        exact ⟨s, j, zs, by rw [List.getElem?_set_ne (by omega), List.getElem?_set_ne (by omega)]; exact z1, by rw [List.getElem?_set_ne (by omega), List.getElem?_set_ne (by omega)]; exact z2, z3⟩
      · rw [List.getElem?_set_ne (by omega)]; exact set_get hL3
      · rw [List.map_append]; exact set_get hF4
      · simp only [List.length_append, List.length_singleton]; omega
      · simp only [List.length_append, List.length_singleton]; omega
  · rintro ζ M1 ⟨L, F, a, rfl, fr1, hd1, hL, hF, nd1, in1, ln1, lf1⟩
    refine ⟨by rw [if_neg (by omega)], ?_⟩
    try walk_at "mi"
    have e : gTuple [.ref (M.length + 1)] M1 = some (.tup (F.map trD), M1) := by
      unfold gTuple
      dsimp only
      rw [seq_lst hF]
    rw [e]
    exact ⟨F, rfl, (List.nodup_append.mp nd1).1, fun y hy => in1 y (List.mem_append_left _ hy), lf1, hd1, fr1⟩
theorem okRg_small {k : Int} (h0 : 0 ≤ k) (h1 : k ≤ 1000) : okRg k = true := okRg_mk (by omega) (by omega)
def rowN (ok : Int → Bool) (a b : Int) (i : Nat) : List Tr3 := (List.range i).filterMap fun (k : Nat) => if ok (-2 + (k : Int)) = true then some (a, b, -2 + (k : Int)) else none
theorem rowN_succ (ok : Int → Bool) (a b : Int) (i : Nat) : rowN ok a b (i + 1) = rowN ok a b i ++ if ok (-2 + (i : Int)) = true then [(a, b, -2 + (i : Int))] else [] := by
  unfold rowN
  rw [List.range_succ, List.filterMap_append]
  congr 1
  by_cases h : ok (-2 + (i : Int)) = true <;> simp [h]
theorem rowN_len (ok : Int → Bool) (a b : Int) (i : Nat) : (rowN ok a b i).length ≤ i := by
  have := List.length_filterMap_le (fun k : Nat => if ok (-2 + (k : Int)) = true then some (a, b, -2 + (k : Int)) else none) (List.range i)
  rw [List.length_range] at this
  exact this
theorem y_m23 (ζ : Sl) (M : Hs) : yRg2 (xNeg (xC (.int 2))) (xC (.int 3)) ζ M = .ok (yRg (-2) 5) M := rfl
/-- a row of parts: for each shift that is allowed one -/
theorem row_w {ζ : Sl} {M : Hs} {v : Nat} {t : MT} {f : MX} {a b : Int} (ok : Int → Bool)
    (ht : ∀ (s : Int) (M' : Hs), wX (t ((wipeD ζ [v]).set v (some (.int s))) M') fun c M2 => c = ok s ∧ M2 = M') (hf : ∀ (s : Int) (M' : Hs), wX (f ((wipeD ζ [v]).set v (some (.int s))) M') fun d M2 => d = trD (a, b, s) ∧ M2 = M') :
    wX (xLc (yRg2 (xNeg (xC (.int 2))) (xC (.int 3))) [v] (.n v) t f ζ M) fun d M' => d = .ref M.length ∧ Fr No M M' ∧ M'[M.length]? = some (.lst ((rowN ok a b 5).map trD)) := by
  have hsz := size1
  rw [wX_lc, y_m23, wX_ok]
  dsimp only [yRg]
  refine wX_lcN (Q := fun M' => D.ref M.length = .ref M.length ∧ Fr No M M' ∧ M'[M.length]? = some (.lst ((rowN ok a b 5).map trD))) (I := fun i M' => Fr No M M' ∧ M'[M.length]? = some (.lst ((rowN ok a b i).map trD))) 5 ?_ ?_ 6 0 _ (by omega) (by omega) ⟨Fr.push _ _, by simp [rowN]⟩
  · rintro i M1 hi ⟨fr1, h1⟩
    refine ⟨.int (-2 + (i : Int)), [(v, .int (-2 + (i : Int)))], by rw [if_pos hi], rfl, ?_⟩
    have hl : ((rowN ok a b i).map trD).length < sizeLine := by
      have := rowN_len ok a b i
      rw [List.length_map]
      omega
    refine wX_lcB (c := ok (-2 + (i : Int))) (v := trD (a, b, -2 + (i : Int))) (acc := (rowN ok a b i).map trD) ?_
    refine wX_mono (ht (-2 + (i : Int)) M1) ?_
    rintro c M2 ⟨hc, hM⟩
    refine ⟨hc, ?_⟩
    rw [hM, rowN_succ]
    cases hk : ok (-2 + (i : Int)) with
    | false =>
      simp only [Bool.false_eq_true, if_false, List.append_nil]
      exact ⟨fr1, h1⟩
    | true =>
      simp only [if_true]
      refine wX_mono (hf (-2 + (i : Int)) M1) ?_
      rintro d M3 ⟨hd, hM3⟩
      rw [hM3]
      refine ⟨hd, (isL h1).2, hl, fr1.setHi (Nat.le_refl _), ?_⟩
      rw [List.map_append]
      exact set_get h1
  · rintro M1 ⟨fr1, h1⟩
    exact ⟨by simp, rfl, fr1, h1⟩
def cRow (a b : Int) : List Tr3 := rowN (fun s => decide (s ≠ 0) || decide (a ≠ b)) a b 5
def sRow (a b : Int) : List Tr3 := rowN (fun _ => true) a b 5
def grid (row : Int → Int → List Tr3) (m n : Nat) : List Tr3 := (List.range m).flatMap fun (a : Nat) => (List.range n).flatMap fun (b : Nat) => row a b
theorem fm_succ {α : Type} (f : Nat → List α) (i : Nat) : (List.range (i + 1)).flatMap f = (List.range i).flatMap f ++ f i := by rw [List.range_succ, List.flatMap_append]; simp
theorem law_couplers_w (M : Hs) (k : Int) (hk0 : 0 ≤ k) (hk2 : k ≤ 2) (m : Nat) (hm : m = k.toNat) : wX (f__law_couplers [.int k] M) fun d M' => ∃ n, d = .ref n ∧ M.length ≤ n ∧ M'[n]? = some (.lst ((grid cRow m m).map trD)) ∧ Fr No M M' := by
  have hsz := size1
  unfold f__law_couplers
  try walk_at "mi"
  rw [if_pos (Nat.zero_le _)]
  unfold yRg1
  simp only [wX_bind]
  try walk_at "mi"
  have hok : okRg k = true := okRg_small (by omega) (by omega)
  rw [if_pos hok]
  dsimp only [wX_ok, yRg]
  rw [← hm]
  refine wS_forN (I := fun i ζ M' => ∃ (n : Nat) (xs : List Tr3) (a b c : Option D), ζ = [some (.int k), some (.ref n), a, b, c] ∧ M.length ≤ n ∧ Fr No M M' ∧ M'[n]? = some (.lst (xs.map trD)) ∧ xs.length ≤ 10 * i ∧ xs = (List.range i).flatMap fun (a : Nat) => (List.range m).flatMap fun (b : Nat) => cRow a b)
    m ?_ ?_ _ 0 _ _ (by omega) (Nat.zero_le _) ⟨M.length, [], _, _, _, rfl, Nat.le_refl _, Fr.push _ _, by simp, by simp, by simp⟩
  · rintro i ζ M1 hi ⟨n, xs, a, b, c, rfl, hn, fr1, h1, hl1, e1⟩
    refine ⟨.int (0 + (i : Int)), [(2, .int (0 + (i : Int)))], by rw [if_pos hi], rfl, ?_⟩
    simp only [setAll]
    try walk_at "mi"
    simp only [wX_bind]
    try walk_at "mi"
    rw [if_pos hok]
    dsimp only [wX_ok, yRg]
    rw [← hm]
    refine wS_forN (I := fun j ζ M' => ∃ (n : Nat) (xs : List Tr3) (b c : Option D), ζ = [some (.int k), some (.ref n), some (.int (0 + (i : Int))), b, c] ∧ M.length ≤ n ∧ Fr No M M' ∧ M'[n]? = some (.lst (xs.map trD)) ∧ xs.length ≤ 10 * i + 5 * j ∧
      xs = ((List.range i).flatMap fun (a : Nat) => (List.range m).flatMap fun (b : Nat) => cRow a b) ++ (List.range j).flatMap fun (b : Nat) => cRow i b) m ?_ ?_ _ 0 _ _ (by omega) (Nat.zero_le _) ⟨n, xs, _, _, rfl, hn, fr1, h1, by omega, by rw [e1]; simp⟩
    · rintro j ζ M2 hj ⟨n2, ys, b, c, rfl, hn2, fr2, h2, hl2, e2⟩
      refine ⟨.int (0 + (j : Int)), [(3, .int (0 + (j : Int)))], by rw [if_pos hj], rfl, ?_⟩
      simp only [setAll]
      try walk_at "mi"
      rw [Int.zero_add, Int.zero_add]
      refine wX_mono (row_w (a := i) (b := j) (fun s => decide (s ≠ 0) || decide ((i : Int) ≠ (j : Int))) (fun s M' => ?_) (fun s M' => ?_)) ?_
      · simp only [wipeD]
        try walk_at "mi"
        simp only [g_neI, wO_some]
        by_cases hs : s = 0 <;> by_cases hij : (i : Int) = j <;> simp [hs, hij]
      · simp only [wipeD]
        try walk_at "mi"
        rw [if_pos (show 3 ≤ sizeLine by decide)]
        exact ⟨rfl, trivial⟩
      · rintro d M3 ⟨rfl, fr3, h3⟩
        have hrl : (cRow i j).length ≤ 5 := rowN_len _ _ _ _
        have hrow : rowN (fun s => decide (s ≠ 0) || decide ((i : Int) ≠ (j : Int))) i j 5 = cRow i j := by unfold cRow; rfl
        rw [hrow] at h3
        generalize hcr : cRow i j = row at h3 hrl
        have h23 : M3[n2]? = some (.lst (ys.map trD)) := fr3.get h2 id
        rw [g_catL h23 h3 (by rw [List.length_append, List.length_map, List.length_map]; omega)]
        try walk_at "mi"
        refine ⟨M3.length, ys ++ row, _, _, rfl, (fr2.trans fr3).1, (fr2.trans fr3).pushHi, by rw [List.map_append]; exact get_push, ?_, ?_⟩
        · rw [List.length_append]; omega
        · rw [e2, fm_succ, List.append_assoc, hcr]
    · rintro ζ M2 ⟨n2, ys, b, c, rfl, hn2, fr2, h2, hl2, e2⟩
      refine ⟨by rw [if_neg (by omega)], n2, ys, _, _, _, rfl, hn2, fr2, h2, by omega, ?_⟩
      rw [e2, fm_succ]
  · rintro ζ M1 ⟨n, xs, a, b, c, rfl, hn, fr1, h1, hl1, e1⟩
    refine ⟨by rw [if_neg (by omega)], ?_⟩
    try walk_at "mi"
    exact ⟨n, rfl, hn, by rw [h1, e1]; rfl, fr1⟩
theorem law_stops_w (M : Hs) (k : Int) (hk0 : 0 ≤ k) (hk2 : k ≤ 2) (m : Nat) (hm : m = k.toNat) (k' : Int) (hk0' : 0 ≤ k') (hk2' : k' ≤ 3) (m' : Nat) (hm' : m' = k'.toNat) : wX (f__law_stops [.int k, .int k'] M) fun d M' => ∃ n, d = .ref n ∧ M.length ≤ n ∧ M'[n]? = some (.lst ((grid sRow m m').map trD)) ∧ Fr No M M' := by
  have hsz := size1
  unfold f__law_stops
  try walk_at "mi"
  rw [if_pos (Nat.zero_le _)]
  unfold yRg1
  simp only [wX_bind]
  try walk_at "mi"
  have hok : okRg k = true := okRg_small (by omega) (by omega)
  have hok' : okRg k' = true := okRg_small (by omega) (by omega)
  rw [if_pos hok]
  dsimp only [wX_ok, yRg]
  rw [← hm]
  refine wS_forN (I := fun i ζ M' => ∃ (n : Nat) (xs : List Tr3) (a b c : Option D), ζ = [some (.int k), some (.int k'), some (.ref n), a, b, c] ∧ M.length ≤ n ∧ Fr No M M' ∧ M'[n]? = some (.lst (xs.map trD)) ∧ xs.length ≤ 15 * i ∧ xs = (List.range i).flatMap fun (a : Nat) => (List.range m').flatMap fun (b : Nat) => sRow a b)
    m ?_ ?_ _ 0 _ _ (by omega) (Nat.zero_le _) ⟨M.length, [], _, _, _, rfl, Nat.le_refl _, Fr.push _ _, by simp, by simp, by simp⟩
  · rintro i ζ M1 hi ⟨n, xs, a, b, c, rfl, hn, fr1, h1, hl1, e1⟩
    refine ⟨.int (0 + (i : Int)), [(3, .int (0 + (i : Int)))], by rw [if_pos hi], rfl, ?_⟩
    simp only [setAll]
    try walk_at "mi"
    simp only [wX_bind]
    try walk_at "mi"
    rw [if_pos hok']
    dsimp only [wX_ok, yRg]
    rw [← hm']
    refine wS_forN (I := fun j ζ M' => ∃ (n : Nat) (xs : List Tr3) (b c : Option D), ζ = [some (.int k), some (.int k'), some (.ref n), some (.int (0 + (i : Int))), b, c] ∧ M.length ≤ n ∧ Fr No M M' ∧ M'[n]? = some (.lst (xs.map trD)) ∧ xs.length ≤ 15 * i + 5 * j ∧
      xs = ((List.range i).flatMap fun (a : Nat) => (List.range m').flatMap fun (b : Nat) => sRow a b) ++ (List.range j).flatMap fun (b : Nat) => sRow i b) m' ?_ ?_ _ 0 _ _ (by omega) (Nat.zero_le _) ⟨n, xs, _, _, rfl, hn, fr1, h1, by omega, by rw [e1]; simp⟩
    · rintro j ζ M2 hj ⟨n2, ys, b, c, rfl, hn2, fr2, h2, hl2, e2⟩
      refine ⟨.int (0 + (j : Int)), [(4, .int (0 + (j : Int)))], by rw [if_pos hj], rfl, ?_⟩
      simp only [setAll]
      try walk_at "mi"
      rw [Int.zero_add, Int.zero_add]
      refine wX_mono (row_w (a := i) (b := j) (fun _ => true) (fun s M' => ?_) (fun s M' => ?_)) ?_
      · exact ⟨rfl, rfl⟩
      · simp only [wipeD]
        try walk_at "mi"
        rw [if_pos (show 3 ≤ sizeLine by decide)]
        exact ⟨rfl, trivial⟩
      · rintro d M3 ⟨rfl, fr3, h3⟩
        have hrl : (sRow i j).length ≤ 5 := rowN_len _ _ _ _
        have hrow : rowN (fun _ => true) i j 5 = sRow i j := by unfold sRow; rfl
        rw [hrow] at h3
        generalize hcr : sRow i j = row at h3 hrl
        have h23 : M3[n2]? = some (.lst (ys.map trD)) := fr3.get h2 id
        rw [g_catL h23 h3 (by rw [List.length_append, List.length_map, List.length_map]; omega)]
        try walk_at "mi"
        refine ⟨M3.length, ys ++ row, _, _, rfl, (fr2.trans fr3).1, (fr2.trans fr3).pushHi, by rw [List.map_append]; exact get_push, ?_, ?_⟩
        · rw [List.length_append]; omega
        · rw [e2, fm_succ, List.append_assoc, hcr]
    · rintro ζ M2 ⟨n2, ys, b, c, rfl, hn2, fr2, h2, hl2, e2⟩
      refine ⟨by rw [if_neg (by omega)], n2, ys, _, _, _, rfl, hn2, fr2, h2, by omega, ?_⟩
      rw [e2, fm_succ]
  · rintro ζ M1 ⟨n, xs, a, b, c, rfl, hn, fr1, h1, hl1, e1⟩
    refine ⟨by rw [if_neg (by omega)], ?_⟩
    try walk_at "mi"
    exact ⟨n, rfl, hn, by rw [h1, e1]; rfl, fr1⟩
theorem grid_c (m : Nat) (h : m = 1 ∨ m = 2) : (grid cRow m m).Nodup ∧ (grid cRow m m).length ≤ 100 ∧ ∀ t ∈ grid cRow m m, vC (m : Int) t = true := by
  rcases h with rfl | rfl <;> decide +kernel
theorem grid_s (m R : Nat) (h : m = 1 ∨ m = 2) (hR : R = 1 ∨ R = 2 ∨ R = 3) : (grid sRow m R).Nodup ∧ (grid sRow m R).length ≤ 100 ∧ 5 ≤ (grid sRow m R).length ∧ ∀ t ∈ grid sRow m R, vS (m : Int) t = true := by
  rcases h with rfl | rfl <;> rcases hR with rfl | rfl | rfl <;> decide +kernel
theorem law_organ_w {M : Hs} (hd : Hd M) (hM : 2 ≤ M.length) (L S R : Int) (hL0 : 0 ≤ L) (hL : L ≤ 5) (hS0 : 1 ≤ S) (hS : S ≤ 4) (hR : R = 1 ∨ R = 2 ∨ R = 3) : wX (f__law_organ [.ref 1, .int L, .int S, .int R] M) fun d M' => ∃ t many cs rs ch oct, d = .ref t ∧ 2 ≤ t ∧ Tt M' t many cs rs ch oct ∧ Parts many cs rs ch oct ∧ Hd M' ∧ Fr H2 M M' := by
  have hsz := size1
  unfold f__law_organ
  try walk_at "mi"
  refine wX_mono (law_next_w hd 3 (by decide) (by decide)) ?_
  rintro d M1 ⟨r, rfl, hr0, hr1, hd1, fr1⟩
  try walk_at "mi"
  rw [g_gt]
  try walk_at "mi"
  rw [g_intb]
  try walk_at "mi"
  rw [g_add]
  try walk_at "mi"
  obtain ⟨many, hmany, hm12⟩ : ∃ many : Int, many = 1 + (if decide (0 < r) = true then 1 else 0) ∧ (many = 1 ∨ many = 2) := ⟨_, rfl, by split <;> simp⟩
  rw [← hmany]
  rw [if_pos (show 3 ≤ sizeLine by decide)]
  have fr2 : Fr No M1 (M1 ++ [MO.lst [.str "all", .str "all", .str "pressed"]]) := Fr.push _ _
  refine wX_mono (law_next_w (hd1.fr fr2) 3 (by decide) (by decide)) ?_
  rintro d M3 ⟨r2, rfl, hr20, hr21, hd3, fr3⟩
  have hM1 : 2 ≤ M1.length := Nat.le_trans hM fr1.1
  have hch3 : M3[M1.length]? = some (.lst [.str "all", .str "all", .str "pressed"]) := fr3.get get_push (by unfold H2; omega)
  obtain ⟨ch, hch, hchv⟩ : ∃ ch : Str, [D.str "all", D.str "all", D.str "pressed"][r2.toNat]? = some (.str ch) ∧ (ch = "all" ∨ ch = "pressed") := by
    have : r2 = 0 ∨ r2 = 1 ∨ r2 = 2 := by omega
    rcases this with rfl | rfl | rfl
    · exact ⟨_, rfl, .inl rfl⟩
    · exact ⟨_, rfl, .inl rfl⟩
    · exact ⟨_, rfl, .inr rfl⟩
  rw [g_ixL (i := r2.toNat) hch3 hch (by omega)]
  try walk_at "mi"
  rw [if_pos (show 4 ≤ sizeLine by decide)]
  have fr4 : Fr No M3 (M3 ++ [MO.lst [.int 0, .int 0, .int 2, .int 3]]) := Fr.push _ _
  have hM3 : 2 ≤ M3.length := by have := fr2.1; have := fr3.1; omega
  refine wX_mono (law_next_w (hd3.fr fr4) 4 (by decide) (by decide)) ?_
  rintro d M5 ⟨r4, rfl, hr40, hr41, hd5, fr5⟩
  have hoc5 : M5[M3.length]? = some (.lst [.int 0, .int 0, .int 2, .int 3]) := fr5.get get_push (by unfold H2; omega)
  obtain ⟨oct, hoc, hocv⟩ : ∃ oct : Int, [D.int 0, D.int 0, D.int 2, D.int 3][r4.toNat]? = some (.int oct) ∧ (oct = 0 ∨ oct = 2 ∨ oct = 3) := by
    have : r4 = 0 ∨ r4 = 1 ∨ r4 = 2 ∨ r4 = 3 := by omega
    rcases this with rfl | rfl | rfl | rfl
    · exact ⟨_, rfl, by simp⟩
    · exact ⟨_, rfl, by simp⟩
    · exact ⟨_, rfl, by simp⟩
    · exact ⟨_, rfl, by simp⟩
  rw [g_ixL (i := r4.toNat) hoc5 hoc (by omega)]
  try walk_at "mi"
  have hM5 : 2 ≤ M5.length := by have := fr4.1; have := fr5.1; omega
  refine wX_mono (law_couplers_w M5 many (by omega) (by omega) many.toNat rfl) ?_
  rintro d M6 ⟨n6, rfl, hn6, hc6, fr6⟩
  try walk_at "mi"
  rw [g_add]
  try walk_at "mi"
  refine wX_mono (law_next_w (hd5.fr fr6) (L + 1) (by omega) (by omega)) ?_
  rintro d M7 ⟨r6, rfl, hr60, hr61, hd7, fr7⟩
  try walk_at "mi"
  have hmn : many.toNat = 1 ∨ many.toNat = 2 := by omega
  have hmc : ((many.toNat : Nat) : Int) = many := by omega
  obtain ⟨gc1, gc2, gc3⟩ := grid_c many.toNat hmn
  have hc7 : M7[n6]? = some (.lst ((grid cRow many.toNat many.toNat).map trD)) := fr7.get hc6 (by unfold H2; omega)
  refine wX_mono (law_some_w hd7 (by omega) hc7 gc1 (by omega) r6 hr60 (by omega)) ?_
  rintro d M8 ⟨cs, rfl, cn, cin, cln, hd8, fr8⟩
  try walk_at "mi"
  have hM8 : 2 ≤ M8.length := by have := fr6.1; have := fr7.1; have := fr8.1; omega
  refine wX_mono (law_stops_w M8 many (by omega) (by omega) many.toNat rfl R (by omega) (by omega) R.toNat rfl) ?_
  rintro d M9 ⟨n9, rfl, hn9, hc9, fr9⟩
  try walk_at "mi"
  refine wX_mono (law_next_w (hd8.fr fr9) S (by omega) (by omega)) ?_
  rintro d M10 ⟨r8, rfl, hr80, hr81, hd10, fr10⟩
  try walk_at "mi"
  rw [g_add]
  try walk_at "mi"
  obtain ⟨gs1, gs2, gs3, gs4⟩ := grid_s many.toNat R.toNat hmn (by omega)
  have hc10 : M10[n9]? = some (.lst ((grid sRow many.toNat R.toNat).map trD)) := fr10.get hc9 (by unfold H2; omega)
  refine wX_mono (law_some_w hd10 (by omega) hc10 gs1 (by omega) (1 + r8) (by omega) (by omega)) ?_
  rintro d M11 ⟨rs, rfl, rn, rin, rln, hd11, fr11⟩
  try walk_at "mi"
  rw [if_pos (show 5 ≤ sizeLine by decide)]
  have i2 : ∀ {A B : Hs}, Fr No A B → Fr H2 A B := fun f => f.imp fun _ _ h => h.elim
  have frA : Fr H2 M M11 := ((((((((((fr1.trans (i2 fr2)).trans fr3).trans (i2 fr4)).trans fr5).trans (i2 fr6)).trans fr7).trans fr8).trans (i2 fr9)).trans fr10).trans fr11)
  refine ⟨M11.length, many, cs, rs, ch, oct, rfl, by have := frA.1; omega, get_push, ⟨hm12, cn, by omega, fun t ht => by have := gc3 t (cin t ht); rw [hmc] at this; exact this, rn, by omega, by omega, fun t ht => by have := gs4 t (rin t ht); rw [hmc] at this; exact this, hchv, hocv⟩, hd11.fr (Fr.push _ _), frA.trans (Fr.push _ _)⟩
end Wk
end
section
set_option maxRecDepth 100000
set_option maxHeartbeats 4000000
set_option autoImplicit false
namespace Wk
open PySem Mi
local macro_rules | `(tactic| walk_at "mi") => `(tactic| simp only [wX_fn, wS_seq, wS_set, wS_ret, wS_expr, wS_pass, wS_if, wS_put, wX_var, wX_c, wX_2, wX_3, wX_anil, wX_acons, wX_tup, wX_lst, wX_dict, wX_b, wX_meth, wX_call, wX_if, wX_t1, wX_and2, wX_or2, wX_not1, wX_true, wX_neg, wX_oN, wX_oS, wX_not, wX_and, wX_or, wX_is, wX_cut, wX_fld, wS_for, wX_ok, wX_no, wO_some, wO_none, wS_nx, wS_rt, List.map_cons, List.map_nil, List.cons_append, List.nil_append, List.append_nil, List.replicate_succ, List.replicate_zero, List.set_cons_zero, List.set_cons_succ, List.getElem?_cons_zero, List.getElem?_cons_succ, List.getElem?_nil, List.length_cons, List.length_nil, Nat.reduceSub, Nat.reduceAdd, Nat.zero_add, Nat.add_zero, if_true, if_false, ite_true, ite_false, reduceIte, Bool.false_eq_true, Bool.not_true, Bool.not_false, ← Nat.add_assoc, reduceCtorEq, List.length_append])
theorem built_w {M : Hs} {t : Nat} {many : Int} {cs rs : List Tr3} {ch : Str} {oct : Int} (tt : Tt M t many cs rs ch oct) (p : Parts many cs rs ch oct) : wX (f__law_built [.ref t] M) fun d M' => ∃ g, d = .ref g ∧ M.length ≤ g ∧ OgM M' g many cs rs ch oct ∧ Fr No M M' := by
  have e0 : gIxA (.ref t) (.int 0) M = some (.int many, M) := g_ixL (i := 0) tt rfl
  have e1 : gIxA (.ref t) (.int 1) M = some (.tup (cs.map trD), M) := g_ixL (i := 1) tt rfl
  have e2 : gIxA (.ref t) (.int 2) M = some (.tup (rs.map trD), M) := g_ixL (i := 2) tt rfl
  have e3 : gIxA (.ref t) (.int 3) M = some (.str ch, M) := g_ixL (i := 3) tt rfl
  have e4 : gIxA (.ref t) (.int 4) M = some (.int oct, M) := g_ixL (i := 4) tt rfl
  have oi := organ_init_w p (M := M ++ [.slo 0 []]) (g := M.length) get_push
  unfold f__law_built
  generalize f_Organ_init = F at oi ⊢
  simp only [wX_fn, wS_ret, wX_make, wX_acons, wX_anil, wX_2, wX_var, wX_c, List.map_cons, List.map_nil, List.cons_append, List.nil_append, List.getElem?_cons_zero, e0, e1, e2, e3, e4, wO_some, List.length_cons, List.length_nil, Nat.zero_add, Nat.reduceAdd, if_true]
  refine wX_mono oi ?_
  rintro d M1 ⟨rfl, og, fr⟩
  refine ⟨M.length, rfl, Nat.le_refl _, og, ?_⟩
  have fr0 : Fr No M (M ++ [MO.slo 0 []]) := Fr.push _ _
  exact ⟨Nat.le_trans fr0.1 fr.1, fun n hn _ => (fr.2 n (Nat.lt_of_lt_of_le hn fr0.1) (Nat.ne_of_lt hn)).trans (fr0.2 n hn id)⟩
end Wk
end
section
set_option maxRecDepth 100000
set_option maxHeartbeats 4000000
set_option autoImplicit false
namespace Wk
open PySem PySem.Spec L2 Mi TL
local macro_rules | `(tactic| walk_at "tx") => `(tactic| simp only [wX_fn, wX_star, wS_asg, wS_par, wX_fldI, wX_join, wX_split, wX_fmt, wX_js0, wX_js1, wS_augI, wX_metI, wX_prpI, wX_lenI, wX_make, wS_fldI, setAll, wS_seq, wS_set, wS_ret, wS_expr, wS_pass, wS_if, wS_put, wX_var, wX_c, wX_2, wX_3, wX_anil, wX_acons, wX_tup, wX_lst, wX_dict, wX_b, wX_meth, wX_call, wX_if, wX_t1, wX_and2, wX_or2, wX_not1, wX_true, wX_neg, wX_oN, wX_oS, wX_not, wX_and, wX_or, wX_is, wX_cut, wX_fld, wX_ok, wX_no, wO_some, wO_none, wS_nx, wS_rt, List.map_cons, List.map_nil, List.cons_append, List.nil_append, List.append_nil, List.replicate_succ, List.replicate_zero, List.set_cons_zero, List.set_cons_succ, List.getElem?_cons_zero, List.getElem?_cons_succ, List.getElem?_nil, List.length_cons, List.length_nil, Nat.reduceSub, Nat.reduceAdd, Nat.zero_add, Nat.add_zero, if_true, if_false, ite_true, ite_false, reduceIte, Bool.false_eq_true, Bool.not_true, Bool.not_false, ← Nat.add_assoc, reduceCtorEq, List.length_append])
/-- a line: its number, its words, the place of the next one -/
structure Ln (M : Hs) (k : Nat) (n : Int) (ws : List Str) (pl : Nat) : Prop where
  h : ∃ pn, M[k]? = some (.ins 2 [.int n, .ref pn, .int pl]) ∧ M[pn]? = some (.lst (ws.map D.str))
def At2 (k : Nat) : Nat → Prop := fun n => n = k
section
variable {M M' : Hs} {k : Nat} {n : Int} {ws : List Str} {pl : Nat}
theorem Ln.fr {S : Nat → Prop} (h : Ln M k n ws pl) (f : Fr S M M') (hk : ¬ S k) (hs : ∀ pn, M[pn]? = some (.lst (ws.map D.str)) → ¬ S pn) : Ln M' k n ws pl := by
  obtain ⟨pn, h1, h2⟩ := h.h
  exact ⟨pn, f.get h1 hk, f.get h2 (hs pn h2)⟩
theorem Ln.frN (h : Ln M k n ws pl) (f : Fr No M M') : Ln M' k n ws pl := h.fr f id fun _ _ => id
theorem take_one_w {wd : D} {words : List Str} {w : Str} (h : Ln M k n ws pl) (hw : ws[pl]? = some w) (hin : w ∈ words) (hwd : w ∈ WD) (hwds : ∀ y ∈ words, y ∈ WD) (hd : (∃ j, wd = .ref j ∧ M[j]? = some (.lst (words.map D.str))) ∨ wd = .tup (words.map D.str)) :
    wX (f_Line_take_one [.ref k, wd] M) fun d M' => d = .str w ∧ Ln M' k n ws (pl + 1) ∧ Fr (At2 k) M M' := by
  obtain ⟨pn, h1, h2⟩ := h.h
  have hlt : pl < ws.length := (List.getElem?_eq_some_iff.mp hw).1
  unfold f_Line_take_one
  generalize f_Line_refuse = F1
  try walk_at "tx"
  rw [inAt_get h1]
  try walk_at "tx"
  try rw [inAt_get h1]
  try walk_at "tx"
  rw [g_lenD h2]
  try walk_at "tx"
  rw [g_eqI, decide_eq_false (show ¬ ((pl : Int) = ((ws.map D.str).length : Nat)) by rw [List.length_map]; omega)]
  try walk_at "tx"
  rw [inAt_get h1]
  try walk_at "tx"
  try rw [inAt_get h1]
  try walk_at "tx"
  have e1 : gIxA (.ref pn) (.int (pl : Nat)) M = some (.str w, M) := g_ixR h2 (by omega) (by rw [Int.toNat_natCast, List.getElem?_map, hw]; rfl)
  rw [e1]
  try walk_at "tx"
  rw [g_inW hwd hwds hd, decide_eq_true hin]
  try walk_at "tx"
  rw [inAt_get h1]
  try walk_at "tx"
  have h3 : (M.set k (.ins 2 [.int n, .ref pn, .int ((pl : Nat) + 1)]))[k]? = some (.ins 2 [.int n, .ref pn, .int ((pl : Nat) + 1)]) := set_get h1
  have hne : k ≠ pn := fun e => by
    subst e
    rw [h1] at h2
    cases h2
  have h4 : (M.set k (.ins 2 [.int n, .ref pn, .int ((pl : Nat) + 1)]))[pn]? = some (.lst (ws.map D.str)) := by rw [List.getElem?_set_ne hne]; exact h2
  have fr : Fr (At2 k) M (M.set k (.ins 2 [.int n, .ref pn, .int ((pl : Nat) + 1)])) := Fr.set rfl
  generalize (M.set k (.ins 2 [.int n, .ref pn, .int ((pl : Nat) + 1)])) = M2 at h3 h4 fr ⊢
  simp only [inAt_get h3]
  try walk_at "tx"
  rw [g_sub]
  try walk_at "tx"
  have e2 : gIxA (.ref pn) (.int ((pl : Int) + 1 - 1)) M2 = some (.str w, M2) := g_ixR h4 (by omega) (by rw [show ((pl : Int) + 1 - 1).toNat = pl by omega, List.getElem?_map, hw]; rfl)
  rw [e2]
  exact ⟨rfl, ⟨pn, by rw [h3]; rfl, h4⟩, fr⟩
theorem finish_w (h : Ln M k n ws ws.length) : wX (f_Line_finish [.ref k] M) fun d M' => d = .non ∧ M' = M := by
  obtain ⟨pn, h1, h2⟩ := h.h
  unfold f_Line_finish
  generalize f_Line_refuse = F1
  try walk_at "tx"
  rw [inAt_get h1]
  try walk_at "tx"
  try rw [inAt_get h1]
  try walk_at "tx"
  rw [g_lenD h2]
  try walk_at "tx"
  rw [g_lt, decide_eq_false (show ¬ ((ws.length : Int) < ((ws.map D.str).length : Nat)) by rw [List.length_map]; omega)]
  try walk_at "tx"
  exact ⟨trivial, trivial⟩
theorem take_number_w {j : Nat} {xs : List Int} {i : Int} (h : Ln M k n ws pl) (hx : M[j]? = some (.lst (xs.map D.int))) (hr : ∀ x ∈ xs, -2 ≤ x ∧ x ≤ 3) (hw : ws[pl]? = some (num i)) (hin : i ∈ xs) (hl : xs.length ≤ 1000) :
    wX (f_Line_take_number [.ref k, .ref j] M) fun d M' => d = .int i ∧ Ln M' k n ws (pl + 1) ∧ Fr (At2 k) M M' := by
  have hsz := size1
  have tw := @take_one_w
  unfold f_Line_take_number
  generalize f_Line_take_one = F1 at tw ⊢
  obtain ⟨pn, h1, h2⟩ := h.h
  try walk_at "tx"
  rw [inAt_get h1]
  try walk_at "tx"
  refine wX_mono (lc_ret D.int (fun _ => true) (fun x => D.str (num x)) (src_d (d := .ref j) (xs := xs.map D.int) (M1 := M) rfl (s_ref hx)) (Fr.refl _ _) (fun M' fr => s_ref (fr.get hx id)) (by omega) fun x hx' M' fr => ?_) ?_
  · refine ⟨[(2, .int x)], rfl, rfl, Fr.refl _ _, fun _ => ?_⟩
    simp only [wipeD, setAll, List.set_cons_succ, List.set_cons_zero]
    try walk_at "tx"
    have e : gStr [.int x] M' = some (.str (num x), M') := by
      unfold gStr
      dsimp only
      rw [if_pos (num_ok (hr x hx'))]
      rfl
    rw [e]
    exact ⟨rfl, Fr.refl _ _⟩
  rintro d M1 ⟨n1, rfl, hn1, hm1, fr1⟩
  have em : ((xs.filter fun _ => true).map fun x => D.str (num x)) = (xs.map num).map D.str := by rw [List.filter_eq_self.mpr (fun _ _ => rfl), List.map_map]; rfl
  rw [em] at hm1
  try walk_at "tx"
  refine wX_mono (tw (h.frN fr1) hw (words := xs.map num) (List.mem_map.mpr ⟨i, hin, rfl⟩) (num_wd (hr i hin)) (fun y hy => by
    obtain ⟨x, hx', rfl⟩ := List.mem_map.mp hy
    exact num_wd (hr x hx')) (.inl ⟨n1, rfl, hm1⟩)) ?_
  rintro d M2 ⟨rfl, ln2, fr2⟩
  try walk_at "tx"
  have e : gIntS [.str (num i)] M2 = some (.int i, M2) := by
    unfold gIntS
    dsimp only
    rw [(num_int (hr i hin)).1]
    dsimp only
    rw [if_pos (num_int (hr i hin)).2]
  rw [e]
  exact ⟨rfl, ln2, (fr1.imp fun _ _ h => h.elim).trans fr2⟩
theorem head_in_w {w0 w1 : Str} {wd : D} {words : List Str} (h : Ln M k n [w0, w1] 0) (h0 : w0 ∈ WD) (h1 : w1 ∈ words) (hws : ∀ y ∈ words, y ∈ WD) (hd : wd = .tup (words.map D.str)) :
    wX (f_head_in [.ref k, .str w0, wd] M) fun d M' => d = .str w1 ∧ Ln M' k n [w0, w1] 2 ∧ Fr (At2 k) M M' := by
  have hsz := size1
  have tw := @take_one_w
  have fw := @finish_w
  unfold f_head_in
  generalize f_Line_take_one = F1 at tw ⊢
  generalize f_Line_finish = F2 at fw ⊢
  obtain ⟨pn, g1, g2⟩ := h.h
  try walk_at "tx"
  rw [inAt_get g1]
  try walk_at "tx"
  rw [if_pos (show 1 ≤ sizeLine by omega)]
  refine wX_mono (tw h (w := w0) rfl (words := [w0]) (by simp) h0 (fun y hy => by rw [List.mem_singleton.mp hy]; exact h0) (.inr rfl)) ?_
  rintro d M1 ⟨rfl, ln1, fr1⟩
  try walk_at "tx"
  obtain ⟨pn1, g3, g4⟩ := ln1.h
  rw [inAt_get g3]
  try walk_at "tx"
  refine wX_mono (tw ln1 (w := w1) rfl h1 (hws w1 h1) hws (.inr hd)) ?_
  rintro d M2 ⟨rfl, ln2, fr2⟩
  try walk_at "tx"
  obtain ⟨pn2, g5, g6⟩ := ln2.h
  rw [inAt_get g5]
  try walk_at "tx"
  refine wX_mono (fw ln2) ?_
  rintro d M3 ⟨rfl, rfl⟩
  try walk_at "tx"
  exact ⟨trivial, ln2, fr1.trans fr2⟩
end
end Wk
end
section
set_option maxRecDepth 100000
set_option maxHeartbeats 4000000
set_option autoImplicit false
namespace Wk
open PySem PySem.Spec L2 Mi TL
local macro_rules | `(tactic| walk_at "tx") => `(tactic| simp only [wX_fn, wX_star, wS_asg, wS_par, wX_fldI, wX_join, wX_split, wX_fmt, wX_js0, wX_js1, wS_augI, wX_metI, wX_prpI, wX_lenI, wX_make, wS_fldI, setAll, wS_seq, wS_set, wS_ret, wS_expr, wS_pass, wS_if, wS_put, wX_var, wX_c, wX_2, wX_3, wX_anil, wX_acons, wX_tup, wX_lst, wX_dict, wX_b, wX_meth, wX_call, wX_if, wX_t1, wX_and2, wX_or2, wX_not1, wX_true, wX_neg, wX_oN, wX_oS, wX_not, wX_and, wX_or, wX_is, wX_cut, wX_fld, wX_ok, wX_no, wO_some, wO_none, wS_nx, wS_rt, List.map_cons, List.map_nil, List.cons_append, List.nil_append, List.append_nil, List.replicate_succ, List.replicate_zero, List.set_cons_zero, List.set_cons_succ, List.getElem?_cons_zero, List.getElem?_cons_succ, List.getElem?_nil, List.length_cons, List.length_nil, Nat.reduceSub, Nat.reduceAdd, Nat.zero_add, Nat.add_zero, if_true, if_false, ite_true, ite_false, reduceIte, Bool.false_eq_true, Bool.not_true, Bool.not_false, ← Nat.add_assoc, reduceCtorEq, List.length_append])
theorem g_listUp {k : Int} {M : Hs} (h0 : 0 ≤ k) (h1 : k ≤ 100) : gListRg [.int k] M = some (.ref M.length, M ++ [.lst ((Ga.upTo k).map D.int)]) := by
  unfold gListRg
  dsimp only
  rw [if_pos (okRgV_mk (by omega) (by omega))]
  unfold rgD Ga.upTo
  rw [List.map_map]
  simp
theorem g_eqT0 {m n : Nat} {xs : List Tr3} {M : Hs} (h1 : M[m]? = some (.lst (xs.map trD))) (h2 : M[n]? = some (.lst [])) : gEq (.ref m) (.ref n) M = some (.bl (decide (xs = [])), M) := by
  have e := g_neT h1 h2
  unfold gNe gEqB at e
  unfold gEq gEqB
  split at e
  · rename_i p q h3 h4
    split at e
    · rename_i hs
      rw [if_pos hs]
      have e1 := congrArg Prod.fst (Option.some.inj e)
      have e2 : (!p.eqv q) = !decide (xs = []) := D.bl.inj e1
      have e3 : p.eqv q = decide (xs = []) := by
        cases hp : p.eqv q <;> cases hd : decide (xs = []) <;> rw [hp, hd] at e2 <;> first | rfl | cases e2
      rw [← e3]
      rfl
    · cases e
  · cases e
theorem get_push2 {M : Hs} {a b : MO} : (M ++ [a] ++ [b])[M.length + 1]? = some b := by
  rw [show M.length + 1 = (M ++ [a]).length by simp]
  exact get_push
theorem src_rg2 {ζ : Sl} {M M1 M2 : Hs} {f g : MX} {i j : Int} (hf : f ζ M = .ok (.int i) M1) (hg : g ζ M1 = .ok (.int j) M2) (h : (okRg i && okRg j) = true) : Src (yRg2 f g) ζ M (((List.range (j - i).toNat).map fun (k : Nat) => i + (k : Int)).map D.int) M2 fun _ => True := by
  refine ⟨yRg i (j - i).toNat, ?_, ?_, fun M' _ k => ?_⟩
  · unfold yRg2
    rw [hf]
    show (g ζ M1).bind _ = _
    rw [hg]
    show (if (okRg i && okRg j) = true then R.ok (yRg i (j - i).toNat) M2 else .no) = _
    rw [if_pos h]
  · simp [yRg]
  · unfold yRg
    dsimp only
    rw [List.map_map, List.getElem?_map]
    by_cases hk : k < (j - i).toNat
    · rw [if_pos hk, List.getElem?_range hk]
      rfl
    · rw [if_neg hk, List.getElem?_eq_none (by simpa using hk)]
      rfl
def wC (c : Tr3) : List Str := ["coupler", num c.1, num c.2.1, num c.2.2]
def wS' (c : Tr3) : List Str := ["stop", num c.1, num c.2.1, num c.2.2]
def kinds (a b : Nat) : List Str := (if b = 0 ∧ a < 5 then [("coupler" : Str)] else []) ++ (if b < 4 then [("stop" : Str)] else [])
section
variable {M M' : Hs} {k : Nat} {n : Int}
theorem kinds_w {nl nr : Nat} {L K : List Tr3} (hl : M[nl]? = some (.lst (L.map trD))) (hr : M[nr]? = some (.lst (K.map trD))) : wX (f_kinds_of [.ref nl, .ref nr] M) fun d M' => ∃ j, d = .ref j ∧ M'[j]? = some (.lst ((kinds L.length K.length).map D.str)) ∧ Fr No M M' := by
  have hsz := size1
  unfold f_kinds_of
  try walk_at "tx"
  rw [if_pos (Nat.zero_le _)]
  have fr1 : Fr No M (M ++ [MO.lst []] ++ [MO.lst []]) := (Fr.push M _).pushHi
  have hf1 : (M ++ [MO.lst []] ++ [MO.lst []])[M.length]? = some (.lst (([] : List Str).map D.str)) := get_app get_push
  have hn1 : (M ++ [MO.lst []] ++ [MO.lst []])[M.length + 1]? = some (.lst []) := get_push2
  have hl1 := fr1.get hl id
  have hr1 := fr1.get hr id
  have hnr : M.length ≠ nr := by have := lt_of_get hr; omega
  have hnl : M.length ≠ nl := by have := lt_of_get hl; omega
  have step : ∀ {N : Hs} {xs : List Str} {y : Str}, Fr No M N → N[M.length]? = some (.lst (xs.map D.str)) → xs.length ≤ 10 → isLst (.ref M.length) N = true ∧ gAppend (.ref M.length) [.str y] N = some (.non, N.set M.length (.lst ((xs ++ [y]).map D.str))) ∧ Fr No M (N.set M.length (.lst ((xs ++ [y]).map D.str))) ∧ (N.set M.length (.lst ((xs ++ [y]).map D.str)))[M.length]? = some (.lst ((xs ++ [y]).map D.str)) := fun {N xs y} fr h hl => by
    refine ⟨(isL h).1, ?_, fr.setHi (Nat.le_refl _), set_get h⟩
    rw [g_app h (by rw [List.length_map]; omega), List.map_append]
    rfl
  rw [if_pos (Nat.zero_le _), g_eqT0 hr1 hn1]
  generalize (M ++ [MO.lst []] ++ [MO.lst []]) = N1 at fr1 hf1 hn1 hl1 hr1 ⊢
  have hK : K = [] ↔ K.length = 0 := List.length_eq_zero_iff.symm
  -- the stop's word
  have fin : ∀ (N : Hs) (xs : List Str), Fr No M N → N[M.length]? = some (.lst (xs.map D.str)) → xs.length ≤ 10 → N[nr]? = some (.lst (K.map trD)) → xs = (if K.length = 0 ∧ L.length < 5 then [("coupler" : Str)] else []) → wX (xB gLen (aCons (xVar 1) aNil) [some (.ref nl), some (.ref nr), some (.ref M.length)] N) (fun x M_4 => wO (gLt x (.int 4) M_4) fun x M_5 => match x with
      | .bl k => if k = true then (if isLst (.ref M.length) M_5 = true then wO (gAppend (.ref M.length) [.str "stop"] M_5) fun x M_6 => ∃ j, D.ref M.length = .ref j ∧ M_6[j]? = some (.lst ((kinds L.length K.length).map D.str)) ∧ Fr No M M_6 else False)
        else ∃ j, D.ref M.length = .ref j ∧ M_5[j]? = some (.lst ((kinds L.length K.length).map D.str)) ∧ Fr No M M_5
      | _ => False) := by
    intro N xs fr h hl' hr' ex
    try walk_at "tx"
    rw [g_lenD hr', wO_some, g_lt, wO_some, List.length_map]
    by_cases h4 : K.length < 4
    · have h4' : (K.length : Int) < 4 := by omega
      rw [decide_eq_true h4']
      dsimp only
      rw [if_pos rfl]
      obtain ⟨s1, s2, s3, s4⟩ := step (y := "stop") fr h hl'
      rw [if_pos s1, s2, wO_some]
      refine ⟨_, rfl, ?_, s3⟩
      rw [s4, ex]
      unfold kinds
      rw [if_pos h4]
    · have h4' : ¬ (K.length : Int) < 4 := by omega
      rw [decide_eq_false h4']
      dsimp only
      rw [if_neg Bool.false_ne_true]
      refine ⟨_, rfl, ?_, fr⟩
      rw [h, ex]
      unfold kinds
      rw [if_neg h4, List.append_nil]
  have fin2 : ∀ (N : Hs) (xs : List Str), Fr No M N → N[M.length]? = some (.lst (xs.map D.str)) → xs.length ≤ 10 → N[nr]? = some (.lst (K.map trD)) → xs = (if K.length = 0 ∧ L.length < 5 then [("coupler" : Str)] else []) → wO (gLen [.ref nr] N) (fun x M_4 => wO (gLt x (.int 4) M_4) fun x M_5 => match x with
      | .bl k => if k = true then (if isLst (.ref M.length) M_5 = true then wO (gAppend (.ref M.length) [.str "stop"] M_5) fun x M_6 => ∃ j, D.ref M.length = .ref j ∧ M_6[j]? = some (.lst ((kinds L.length K.length).map D.str)) ∧ Fr No M M_6 else False)
        else ∃ j, D.ref M.length = .ref j ∧ M_5[j]? = some (.lst ((kinds L.length K.length).map D.str)) ∧ Fr No M M_5
      | _ => False) := fun N xs a b c d e => by
    have := fin N xs a b c d e
    simp only [wX_b, wX_acons, wX_anil, wX_var, List.getElem?_cons_zero, List.getElem?_cons_succ] at this
    exact this
  rw [wO_some]
  by_cases h0 : K = []
  · rw [decide_eq_true h0]
    simp only [if_true]
    rw [g_lenD hl1, wO_some, g_lt, wO_some, List.length_map]
    by_cases h5 : L.length < 5
    · have h5' : (L.length : Int) < 5 := by omega
      rw [decide_eq_true h5']
      dsimp only
      rw [if_pos rfl]
      obtain ⟨s1, s2, s3, s4⟩ := step (y := "coupler") fr1 hf1 (by simp)
      rw [if_pos s1, s2, wO_some]
      exact fin2 _ [("coupler" : Str)] s3 s4 (by simp) (by rw [List.getElem?_set_ne hnr]; exact hr1) (by rw [if_pos ⟨hK.mp h0, h5⟩])
    · have h5' : ¬ (L.length : Int) < 5 := by omega
      rw [decide_eq_false h5']
      dsimp only
      rw [if_neg Bool.false_ne_true]
      exact fin2 _ [] fr1 hf1 (by simp) hr1 (by rw [if_neg (fun h => h5 h.2)])
  · rw [decide_eq_false h0]
    simp only [Bool.false_eq_true, if_false]
    exact fin2 _ [] fr1 hf1 (by simp) hr1 (by rw [if_neg (fun h => h0 (hK.mpr h.1))])
theorem coupler_in_w {kn : Nat} {many : Int} {c : Tr3} {K : List Tr3} (h : Ln M k n (wC c) 1) (hm : many = 1 ∨ many = 2) (hv : vC many c = true) (hK : M[kn]? = some (.lst (K.map trD))) (hc : c ∉ K) :
    wX (f_coupler_in [.ref k, .int many, .ref kn] M) fun d M' => d = trD c ∧ Ln M' k n (wC c) 4 ∧ Fr (At2 k) M M' := by
  have hsz := size1
  obtain ⟨v1, v2, v3, v4⟩ := vC_at hv
  have tn := @take_number_w
  have fw := @finish_w
  unfold f_coupler_in
  generalize f_Line_take_number = F1 at tn ⊢
  generalize f_Line_finish = F2 at fw ⊢
  obtain ⟨pn, g1, g2⟩ := h.h
  try walk_at "tx"
  rw [inAt_get g1]
  try walk_at "tx"
  have fr1 : Fr No M (M ++ [MO.lst ((Ga.upTo many).map D.int)]) := Fr.push _ _
  rw [g_listUp (by omega) (by omega)]
  try walk_at "tx"
  have rng : ∀ x ∈ Ga.upTo many, -2 ≤ x ∧ x ≤ 3 := fun x hx => by have := Ga.mem_upTo.mp hx; omega
  have hul : (Ga.upTo many).length ≤ 1000 := by simp [Ga.upTo]; omega
  refine wX_mono (tn (h.frN fr1) get_push rng (i := c.1) rfl (Ga.mem_upTo.mpr (by omega)) hul) ?_
  rintro d M1 ⟨rfl, ln1, fr2⟩
  obtain ⟨pn1, g3, g4⟩ := ln1.h
  rw [inAt_get g3]
  try walk_at "tx"
  rw [g_listUp (by omega) (by omega)]
  try walk_at "tx"
  have fr3 : Fr No M1 (M1 ++ [MO.lst ((Ga.upTo many).map D.int)]) := Fr.push _ _
  refine wX_mono (tn (ln1.frN fr3) get_push rng (i := c.2.1) rfl (Ga.mem_upTo.mpr (by omega)) hul) ?_
  rintro d M2 ⟨rfl, ln2, fr4⟩
  try walk_at "tx"
  rw [if_pos (show 2 ≤ sizeLine by omega), show bindP (.t [.n 3, .n 4]) (.tup [.int c.1, .int c.2.1]) = some [(3, .int c.1), (4, .int c.2.1)] from rfl]
  simp only [setAll, List.set_cons_succ, List.set_cons_zero]
  -- the shifts
  have frA : Fr (At2 k) M M2 := (((fr1.imp fun _ _ h => h.elim).trans fr2).trans (fr3.imp fun _ _ h => h.elim)).trans fr4
  have hK2 : M2[kn]? = some (.lst (K.map trD)) := frA.get hK (fun e => by
    have e : kn = k := e
    subst e
    rw [g1] at hK
    cases hK)
  refine wX_mono (lc_ret D.int (fun s => !decide (((c.1, c.2.1, s) : T3) ∈ K)) (fun s => D.int s) (as := (List.range ((3 : Int) - (-2)).toNat).map fun (k : Nat) => (-2 : Int) + (k : Int)) (src_rg2 (i := -2) (j := 3) (f := xNeg (xC (.int 2))) (g := x2 gAdd (xC (.int 2)) (xC (.int 1))) (M := M2) (M1 := M2) (M2 := M2) rfl rfl (by decide)) (Fr.refl _ _) (fun _ _ => trivial) (by simp; omega) fun s hs M' fr => ?_) ?_
  · refine ⟨[(7, .int s)], rfl, ?_⟩
    simp only [wipeD, setAll, List.set_cons_succ, List.set_cons_zero]
    try walk_at "tx"
    rw [if_pos (show 3 ≤ sizeLine by omega)]
    have e0 := eqk_t3.gIn (k := not) (a := ((c.1, c.2.1, s) : T3)) (xs := K) (.inl ⟨kn, rfl, fr.get hK2 id⟩)
    have e : gInA not (.tup [.int c.1, .int c.2.1, .int s]) (.ref kn) M' = some (.bl (!decide (((c.1, c.2.1, s) : T3) ∈ K)), M') := by
      refine Eq.trans e0 ?_
      congr
    rw [e, wO_some]
    exact ⟨rfl, Fr.refl _ _, fun _ => ⟨trivial, Fr.refl _ _⟩⟩
  rintro d M3 ⟨n3, rfl, hn3, hm3, fr5⟩
  have hcin : c.2.2 ∈ ((List.range ((3 : Int) - (-2)).toNat).map fun (k : Nat) => (-2 : Int) + (k : Int)).filter fun s => !decide (((c.1, c.2.1, s) : T3) ∈ K) := by
    refine List.mem_filter.mpr ⟨List.mem_map.mpr ⟨(c.2.2 + 2).toNat, List.mem_range.mpr (by omega), by omega⟩, ?_⟩
    have : ((c.1, c.2.1, c.2.2) : T3) ∉ K := hc
    rw [decide_eq_false this]
    rfl
  have hrS : ∀ x ∈ ((List.range ((3 : Int) - (-2)).toNat).map fun (k : Nat) => (-2 : Int) + (k : Int)).filter fun s => !decide (((c.1, c.2.1, s) : T3) ∈ K), -2 ≤ x ∧ x ≤ 3 := fun x hx => by
    obtain ⟨q, hq, rfl⟩ := List.mem_map.mp (List.mem_filter.mp hx).1
    have := List.mem_range.mp hq
    omega
  have hlS : (((List.range ((3 : Int) - (-2)).toNat).map fun (k : Nat) => (-2 : Int) + (k : Int)).filter fun s => !decide (((c.1, c.2.1, s) : T3) ∈ K)).length ≤ 5 := by
    refine Nat.le_trans (List.length_filter_le _ _) ?_
    simp
  generalize (((List.range ((3 : Int) - (-2)).toNat).map fun (k : Nat) => (-2 : Int) + (k : Int)).filter fun s => !decide (((c.1, c.2.1, s) : T3) ∈ K)) = S at hm3 hcin hrS hlS
  have ln3 := ln2.frN fr5
  simp only [List.getElem?_cons_succ, List.getElem?_cons_zero, List.set_cons_succ, List.set_cons_zero]
  rw [g_eqI]
  try walk_at "tx"
  have last : ∀ (M5 : Hs) (n5 : Nat) (S5 : List Int), Fr No M3 M5 → M5[n5]? = some (.lst (S5.map D.int)) → c.2.2 ∈ S5 → (∀ x ∈ S5, -2 ≤ x ∧ x ≤ 3) → S5.length ≤ 5 → wX (F1 [.ref k, .ref n5] M5) fun d M' => d = .int c.2.2 ∧ Ln M' k n (wC c) 4 ∧ Fr (At2 k) M M' := fun M5 n5 S5 fr h1 h2 h3 h4 => by
    refine wX_mono (tn (ln3.frN fr) h1 h3 (i := c.2.2) rfl h2 (by omega)) ?_
    rintro d M6 ⟨rfl, ln6, fr6⟩
    exact ⟨rfl, ln6, (frA.trans ((fr5.trans fr).imp fun _ _ h => h.elim)).trans fr6⟩
  have fin : ∀ (M6 : Hs), Ln M6 k n (wC c) 4 → Fr (At2 k) M M6 → (match inAt 2 (.ref k) M6 with
      | some _ => wX (F2 [.ref k] M6) fun _ M_3 => D.tup [.int c.1, .int c.2.1, .int c.2.2] = trD c ∧ Ln M_3 k n (wC c) 4 ∧ Fr (At2 k) M M_3
      | none => False) := fun M6 ln6 fr6 => by
    obtain ⟨pn6, g5, g6⟩ := ln6.h
    rw [inAt_get g5]
    dsimp only
    refine wX_mono (fw ln6) ?_
    rintro d M7 ⟨rfl, rfl⟩
    exact ⟨rfl, ln6, fr6⟩
  by_cases hcc : c.1 = c.2.1
  · rw [decide_eq_true hcc]
    simp only [if_true]
    refine wX_mono (lc_ret D.int (fun s => !decide (s = 0)) (fun s => D.int s) (as := S) (src_d (d := .ref n3) (M1 := M3) rfl (s_ref hm3)) (Fr.refl _ _) (fun M' fr => s_ref (fr.get hm3 id)) (by omega) fun s hs M' fr => ?_) ?_
    · refine ⟨[(7, .int s)], rfl, ?_⟩
      simp only [wipeD, setAll, List.set_cons_succ, List.set_cons_zero]
      try walk_at "tx"
      rw [g_neI, wO_some]
      exact ⟨rfl, Fr.refl _ _, fun _ => ⟨trivial, Fr.refl _ _⟩⟩
    rintro d M4 ⟨n4, rfl, hn4, hm4, fr6⟩
    obtain ⟨pn4, g5, g6⟩ := (ln3.frN fr6).h
    rw [inAt_get g5]
    dsimp only
    have hne : c.2.2 ≠ 0 := by
      rcases v4 with h | h
      · exact absurd hcc h
      · exact h
    refine wX_mono (last M4 n4 _ fr6 hm4 (List.mem_filter.mpr ⟨hcin, by rw [decide_eq_false hne]; rfl⟩) (fun x hx => hrS x (List.mem_filter.mp hx).1) (Nat.le_trans (List.length_filter_le _ _) hlS)) ?_
    rintro d M6 ⟨rfl, ln6, fr7⟩
    rw [if_pos (show 3 ≤ sizeLine by omega)]
    exact fin M6 ln6 fr7
  · rw [decide_eq_false hcc]
    simp only [Bool.false_eq_true, if_false]
    obtain ⟨pn4, g5, g6⟩ := ln3.h
    rw [inAt_get g5]
    dsimp only
    refine wX_mono (last M3 n3 S (Fr.refl _ _) hm3 hcin hrS hlS) ?_
    rintro d M6 ⟨rfl, ln6, fr7⟩
    rw [if_pos (show 3 ≤ sizeLine by omega)]
    exact fin M6 ln6 fr7
theorem stop_in_w {kn : Nat} {many : Int} {c : Tr3} {K : List Tr3} (h : Ln M k n (wS' c) 1) (hm : many = 1 ∨ many = 2) (hv : vS many c = true) (hK : M[kn]? = some (.lst (K.map trD))) (hc : c ∉ K) :
    wX (f_stop_in [.ref k, .int many, .ref kn] M) fun d M' => d = trD c ∧ Ln M' k n (wS' c) 4 ∧ Fr (At2 k) M M' := by
  have hsz := size1
  obtain ⟨v1, v2, v3⟩ := vS_at hv
  have tn := @take_number_w
  have fw := @finish_w
  unfold f_stop_in
  generalize f_Line_take_number = F1 at tn ⊢
  generalize f_Line_finish = F2 at fw ⊢
  obtain ⟨pn, g1, g2⟩ := h.h
  try walk_at "tx"
  rw [inAt_get g1]
  try walk_at "tx"
  have fr1 : Fr No M (M ++ [MO.lst ((Ga.upTo many).map D.int)]) := Fr.push _ _
  rw [g_listUp (by omega) (by omega)]
  try walk_at "tx"
  have rng : ∀ x ∈ Ga.upTo many, -2 ≤ x ∧ x ≤ 3 := fun x hx => by have := Ga.mem_upTo.mp hx; omega
  have hul : (Ga.upTo many).length ≤ 1000 := by simp [Ga.upTo]; omega
  refine wX_mono (tn (h.frN fr1) get_push rng (i := c.1) rfl (Ga.mem_upTo.mpr (by omega)) hul) ?_
  rintro d M1 ⟨rfl, ln1, fr2⟩
  obtain ⟨pn1, g3, g4⟩ := ln1.h
  rw [inAt_get g3]
  try walk_at "tx"
  rw [show Mi.gAdd (.int 2) (.int 1) M1 = some (.int 3, M1) from rfl]
  try walk_at "tx"
  rw [g_listUp (by omega) (by omega)]
  try walk_at "tx"
  have fr3 : Fr No M1 (M1 ++ [MO.lst ((Ga.upTo 3).map D.int)]) := Fr.push _ _
  refine wX_mono (tn (ln1.frN fr3) get_push (fun x hx => by have := Ga.mem_upTo.mp hx; omega) (i := c.2.1) rfl (Ga.mem_upTo.mpr (by omega)) (by simp [Ga.upTo])) ?_
  rintro d M2 ⟨rfl, ln2, fr4⟩
  try walk_at "tx"
  rw [if_pos (show 2 ≤ sizeLine by omega), show bindP (.t [.n 3, .n 4]) (.tup [.int c.1, .int c.2.1]) = some [(3, .int c.1), (4, .int c.2.1)] from rfl]
  simp only [setAll, List.set_cons_succ, List.set_cons_zero]
  -- the shifts
  have frA : Fr (At2 k) M M2 := (((fr1.imp fun _ _ h => h.elim).trans fr2).trans (fr3.imp fun _ _ h => h.elim)).trans fr4
  have hK2 : M2[kn]? = some (.lst (K.map trD)) := frA.get hK (fun e => by
    have e : kn = k := e
    subst e
    rw [g1] at hK
    cases hK)
  refine wX_mono (lc_ret D.int (fun s => !decide (((c.1, c.2.1, s) : T3) ∈ K)) (fun s => D.int s) (as := (List.range ((3 : Int) - (-2)).toNat).map fun (k : Nat) => (-2 : Int) + (k : Int)) (src_rg2 (i := -2) (j := 3) (f := xNeg (xC (.int 2))) (g := x2 gAdd (xC (.int 2)) (xC (.int 1))) (M := M2) (M1 := M2) (M2 := M2) rfl rfl (by decide)) (Fr.refl _ _) (fun _ _ => trivial) (by simp; omega) fun s hs M' fr => ?_) ?_
  · refine ⟨[(7, .int s)], rfl, ?_⟩
    simp only [wipeD, setAll, List.set_cons_succ, List.set_cons_zero]
    try walk_at "tx"
    rw [if_pos (show 3 ≤ sizeLine by omega)]
    have e0 := eqk_t3.gIn (k := not) (a := ((c.1, c.2.1, s) : T3)) (xs := K) (.inl ⟨kn, rfl, fr.get hK2 id⟩)
    have e : gInA not (.tup [.int c.1, .int c.2.1, .int s]) (.ref kn) M' = some (.bl (!decide (((c.1, c.2.1, s) : T3) ∈ K)), M') := by
      refine Eq.trans e0 ?_
      congr
    rw [e, wO_some]
    exact ⟨rfl, Fr.refl _ _, fun _ => ⟨trivial, Fr.refl _ _⟩⟩
  rintro d M3 ⟨n3, rfl, hn3, hm3, fr5⟩
  have hcin : c.2.2 ∈ ((List.range ((3 : Int) - (-2)).toNat).map fun (k : Nat) => (-2 : Int) + (k : Int)).filter fun s => !decide (((c.1, c.2.1, s) : T3) ∈ K) := by
    refine List.mem_filter.mpr ⟨List.mem_map.mpr ⟨(c.2.2 + 2).toNat, List.mem_range.mpr (by omega), by omega⟩, ?_⟩
    have : ((c.1, c.2.1, c.2.2) : T3) ∉ K := hc
    rw [decide_eq_false this]
    rfl
  have hrS : ∀ x ∈ ((List.range ((3 : Int) - (-2)).toNat).map fun (k : Nat) => (-2 : Int) + (k : Int)).filter fun s => !decide (((c.1, c.2.1, s) : T3) ∈ K), -2 ≤ x ∧ x ≤ 3 := fun x hx => by
    obtain ⟨q, hq, rfl⟩ := List.mem_map.mp (List.mem_filter.mp hx).1
    have := List.mem_range.mp hq
    omega
  have hlS : (((List.range ((3 : Int) - (-2)).toNat).map fun (k : Nat) => (-2 : Int) + (k : Int)).filter fun s => !decide (((c.1, c.2.1, s) : T3) ∈ K)).length ≤ 5 := by
    refine Nat.le_trans (List.length_filter_le _ _) ?_
    simp
  generalize (((List.range ((3 : Int) - (-2)).toNat).map fun (k : Nat) => (-2 : Int) + (k : Int)).filter fun s => !decide (((c.1, c.2.1, s) : T3) ∈ K)) = S at hm3 hcin hrS hlS
  have ln3 := ln2.frN fr5
  simp only [List.getElem?_cons_succ, List.getElem?_cons_zero, List.set_cons_succ, List.set_cons_zero]
  have last : ∀ (M5 : Hs) (n5 : Nat) (S5 : List Int), Fr No M3 M5 → M5[n5]? = some (.lst (S5.map D.int)) → c.2.2 ∈ S5 → (∀ x ∈ S5, -2 ≤ x ∧ x ≤ 3) → S5.length ≤ 5 → wX (F1 [.ref k, .ref n5] M5) fun d M' => d = .int c.2.2 ∧ Ln M' k n (wS' c) 4 ∧ Fr (At2 k) M M' := fun M5 n5 S5 fr h1 h2 h3 h4 => by
    refine wX_mono (tn (ln3.frN fr) h1 h3 (i := c.2.2) rfl h2 (by omega)) ?_
    rintro d M6 ⟨rfl, ln6, fr6⟩
    exact ⟨rfl, ln6, (frA.trans ((fr5.trans fr).imp fun _ _ h => h.elim)).trans fr6⟩
  have fin : ∀ (M6 : Hs), Ln M6 k n (wS' c) 4 → Fr (At2 k) M M6 → (match inAt 2 (.ref k) M6 with
      | some _ => wX (F2 [.ref k] M6) fun _ M_3 => D.tup [.int c.1, .int c.2.1, .int c.2.2] = trD c ∧ Ln M_3 k n (wS' c) 4 ∧ Fr (At2 k) M M_3
      | none => False) := fun M6 ln6 fr6 => by
    obtain ⟨pn6, g5, g6⟩ := ln6.h
    rw [inAt_get g5]
    dsimp only
    refine wX_mono (fw ln6) ?_
    rintro d M7 ⟨rfl, rfl⟩
    exact ⟨rfl, ln6, fr6⟩
  try walk_at "tx"
  obtain ⟨pn4, g5, g6⟩ := ln3.h
  rw [inAt_get g5]
  try walk_at "tx"
  refine wX_mono (last M3 n3 S (Fr.refl _ _) hm3 hcin hrS hlS) ?_
  rintro d M6 ⟨rfl, ln6, fr7⟩
  try walk_at "tx"
  rw [if_pos (show 3 ≤ sizeLine by omega)]
  try walk_at "tx"
  exact fin M6 ln6 fr7
end
end Wk
end
section
set_option maxRecDepth 100000
set_option maxHeartbeats 4000000
set_option autoImplicit false
namespace Wk
open PySem PySem.Spec L2 Mi TL
local macro_rules | `(tactic| walk_at "tx") => `(tactic| simp only [wX_fn, wX_star, wS_asg, wS_par, wX_fldI, wX_join, wX_split, wX_fmt, wX_js0, wX_js1, wS_augI, wX_metI, wX_prpI, wX_lenI, wX_make, wS_fldI, setAll, wS_seq, wS_set, wS_ret, wS_expr, wS_pass, wS_if, wS_put, wX_var, wX_c, wX_2, wX_3, wX_anil, wX_acons, wX_tup, wX_lst, wX_dict, wX_b, wX_meth, wX_call, wX_if, wX_t1, wX_and2, wX_or2, wX_not1, wX_true, wX_neg, wX_oN, wX_oS, wX_not, wX_and, wX_or, wX_is, wX_cut, wX_fld, wX_ok, wX_no, wO_some, wO_none, wS_nx, wS_rt, List.map_cons, List.map_nil, List.cons_append, List.nil_append, List.append_nil, List.replicate_succ, List.replicate_zero, List.set_cons_zero, List.set_cons_succ, List.getElem?_cons_zero, List.getElem?_cons_succ, List.getElem?_nil, List.length_cons, List.length_nil, Nat.reduceSub, Nat.reduceAdd, Nat.zero_add, Nat.add_zero, if_true, if_false, ite_true, ite_false, reduceIte, Bool.false_eq_true, Bool.not_true, Bool.not_false, ← Nat.add_assoc, reduceCtorEq, List.length_append])
/-- [f a for a in as]: a comprehension that makes things -/
theorem lc_rel {α : Type} {ζ : Sl} {M M1 : Hs} {s : MY} {vs : List Nat} {p : Pt} {f : MX} (e : α → D) {as : List α} {K : Hs → Prop} (S : Src s ζ M (as.map e) M1 K) (hM : Fr No M M1) (I : List α → List D → Hs → Prop) (hk : ∀ M', Fr No M1 M' → K M') (hl : as.length < sizeLine)
    (h0 : I [] [] (M1 ++ [.lst []])) (stab : ∀ dn ds M' xs, I dn ds M' → I dn ds (M'.set M1.length (.lst xs)))
    (go : ∀ dn a rest ds M', as = dn ++ a :: rest → Fr No M1 M' → M1.length < M'.length → I dn ds M' → ∃ l, bindP p (e a) = some l ∧ wX (f (setAll (wipeD ζ vs) l) M') fun d M2 => Fr No M' M2 ∧ I (dn ++ [a]) (ds ++ [d]) M2) :
    wX (xLc s vs p tTrue f ζ M) fun d M' => ∃ ds, d = .ref M1.length ∧ M'[M1.length]? = some (.lst ds) ∧ ds.length = as.length ∧ I as ds M' ∧ Fr No M M' := by
  obtain ⟨yd, h1, h2, h3⟩ := S
  rw [wX_lc, h1, wX_ok]
  refine wX_mono (wX_lcN (Q := fun M' => ∃ ds, Fr No M1 M' ∧ M'[M1.length]? = some (.lst ds) ∧ ds.length = as.length ∧ I as ds M') (fun i M' => ∃ ds, Fr No M1 M' ∧ M'[M1.length]? = some (.lst ds) ∧ ds.length = i ∧ I (as.take i) ds M') as.length (fun i M' hi ⟨ds, h4, h5, h6, h7⟩ => ?_) (fun M' ⟨ds, h4, h5, h6, h7⟩ => ?_) yd.fuel 0 (M1 ++ [.lst []]) (by simpa using h2) (Nat.zero_le _) ⟨[], Fr.push _ _, get_push, rfl, by rw [List.take_zero]; exact h0⟩) fun _ M2 ⟨ds, h4, h5, h6, h7⟩ => ⟨ds, rfl, h5, h6, h7, hM.trans h4⟩
  · obtain ⟨l, h8, h9⟩ := go (as.take i) as[i] (as.drop (i + 1)) ds M' (by simp) h4 (lt_of_get h5) h7
    refine ⟨e as[i], l, ?_, h8, ?_⟩
    · rw [h3 M' (hk _ h4) i]
      simp [hi]
    · obtain ⟨d, M2, e2, f2, h10⟩ := wX_get h9
      unfold lcB tTrue
      dsimp only
      rw [e2]
      dsimp only
      have h11 := fr_lt f2 h5
      unfold lput
      rw [hLst_at h11]
      dsimp only
      rw [if_pos (by omega)]
      refine ⟨ds ++ [d], (h4.trans f2).setHi (Nat.le_refl _), set_get h11, by rw [List.length_append, List.length_singleton]; omega, ?_⟩
      rw [take_sn hi]
      exact stab _ _ _ _ h10
  · refine ⟨?_, ds, h4, h5, h6, ?_⟩
    · rw [h3 M' (hk _ h4)]
      simp
    · rw [List.take_length] at h7
      exact h7
theorem src_enL {ζ : Sl} {M M1 : Hs} {f : MX} {m : Nat} {xs : List D} (hf : f ζ M = .ok (.ref m) M1) (hx : hSeq M1 (.ref m) = some xs) : Src (yEnum f) ζ M (xs.zipIdx.map fun p => .tup [.int (p.2 : Nat), p.1]) M1 fun M' => hSeq M' (.ref m) = some xs := by
  unfold Src yEnum
  rw [hf]
  show ∃ yd, (match hSeq M1 (.ref m) with
    | some xs => R.ok (Yd.mk (fun i M => match hSeq M (.ref m) with
      | some ys => some (match ys[i]? with | some x => some (.tup [.int (i : Nat), x]) | none => none)
      | none => none) (xs.length + 1)) M1
    | none => .no) = _ ∧ _
  rw [hx]
  refine ⟨_, rfl, by simp, fun M' hk i => ?_⟩
  dsimp only
  rw [hk]
  dsimp only
  rw [List.getElem?_map, List.getElem?_zipIdx]
  cases xs[i]? with
  | none => rfl
  | some x => simp
/-- a line of a text: its words -/
structure Lk (x : Str) (ws : List Str) : Prop where
  mem : ∀ q ∈ Txt.split x sp, q = Str.empty ∨ q ∈ WD
  fil : ((Txt.split x sp).filter fun q => decide (q ≠ Str.empty)) = ws
  len : x.length ≤ 1000
  nnl : 10 ∉ tl x
theorem Lo.lk {x : Str} {ws : List Str} (h : Lo x ws) (hl : x.length ≤ 1000) : Lk x ws := by
  obtain ⟨qs, h1, h2, h3⟩ := h.p
  have hp : ∀ p ∈ qs ++ [Str.empty], p = Str.empty ∨ p ∈ WD := fun p hp => by
    rcases List.mem_append.mp hp with hp | hp
    · exact h2 p hp
    · exact .inl (List.mem_singleton.mp hp)
  refine ⟨?_, h.split.1, hl, h.split.2⟩
  have ex : x = Txt.join sp (qs ++ [Str.empty]) := ext_tl (by rw [h1, jn, tl_sp])
  rw [ex, split_join tl_sp (by decide +kernel) (by simp) fun p hp' => ?_]
  · exact hp
  · rcases hp p hp' with rfl | hw
    · simp [tl_e]
    · exact (wd_ok p hw).2.1
theorem tight_lk {ws : List Str} (hne : ws ≠ []) (hw : ∀ w ∈ ws, w ∈ WD) (hl : (Txt.join sp ws).length ≤ 1000) : Lk (Txt.join sp ws) ws := by
  obtain ⟨h1, h2, h3⟩ := tight hne hw
  exact ⟨by rw [h1]; exact fun q hq => .inr (hw q hq), h2, hl, h3⟩
theorem sh_e : SeqAt.shaped (.str Str.empty) = true := by decide +kernel
theorem g_neS {x y : Str} (hx : SeqAt.shaped (.str x) = true) (hy : SeqAt.shaped (.str y) = true) (M : Hs) : gNe (.str x) (.str y) M = some (.bl (!decide (x = y)), M) := by
  unfold gNe gEqB
  have e1 : toPD M deep (.str x) = some (.str x) := rfl
  have e2 : toPD M deep (.str y) = some (.str y) := rfl
  rw [e1, e2]
  dsimp only
  rw [hx, hy, eqv_str]
  rfl
def LnB (b : Nat) (M : Hs) (k : Nat) (n : Int) (ws : List Str) (pl : Nat) : Prop := ∃ pn, b < pn ∧ M[k]? = some (.ins 2 [.int n, .ref pn, .int pl]) ∧ M[pn]? = some (.lst (ws.map D.str))
theorem LnB.ln {b : Nat} {M : Hs} {k : Nat} {n : Int} {ws : List Str} {pl : Nat} (h : LnB b M k n ws pl) : Ln M k n ws pl := let ⟨pn, _, h1, h2⟩ := h; ⟨pn, h1, h2⟩
section
variable {M : Hs}
theorem line_init_w {x : Nat} {t : Str} {ws : List Str} {n : Int} (lk : Lk t ws) (hx : M[x]? = some (.ins 2 [])) :
    wX (f_Line_init [.ref x, .str t, .int n] M) fun d M' => d = .non ∧ LnB (x) M' x n ws 0 ∧ Fr (At2 x) M M' := by
  have hsz := size1
  have hz : sizeLine = 16777216 := rfl
  have hxl := lt_of_get hx
  unfold f_Line_init
  try walk_at "tx"
  rw [inAt_get hx]
  have p1 : putI 0 (.int n) [] = some [.int n] := rfl
  dsimp only
  rw [p1]
  dsimp only
  have hx1 : (M.set x (.ins 2 [.int n]))[x]? = some (.ins 2 [.int n]) := set_get hx
  have fr1 : Fr (At2 x) M (M.set x (.ins 2 [.int n])) := Fr.set rfl
  generalize (M.set x (.ins 2 [.int n])) = M1 at hx1 fr1 ⊢
  have hsp : wX (xSplit (xVar 1) (xC (.str " ")) [some (.ref x), some (.str t), some (.int n), none] M1) fun d M2 => d = .ref M1.length ∧ M2 = M1 ++ [.lst ((Txt.split t sp).map D.str)] := by
    try walk_at "tx"
    rw [splitQ_at (by decide +kernel) (by have := lk.len; omega)]
    exact ⟨rfl, rfl⟩
  obtain ⟨d, M2, e2, rfl, rfl⟩ := wX_get hsp
  have h2 : (M1 ++ [MO.lst ((Txt.split t sp).map D.str)])[M1.length]? = some (.lst ((Txt.split t sp).map D.str)) := get_push
  have hpl : (Txt.split t sp).length < sizeLine := by
    have := PyProof.Rows.split_le t sp
    have := lk.len
    omega
  refine wX_mono (lc_ret D.str (fun q => !decide (q = Str.empty)) D.str (src_d e2 (s_ref h2)) (Fr.push _ _) (fun M' fr => s_ref (fr.get h2 id)) hpl fun q hq M' fr => ?_) ?_
  · refine ⟨[(3, .str q)], rfl, ?_⟩
    simp only [wipeD, setAll, List.set_cons_succ, List.set_cons_zero]
    try walk_at "tx"
    have hq2 : SeqAt.shaped (.str q) = true := by
      rcases lk.mem q hq with rfl | hw
      · exact sh_e
      · exact (wd_ok q hw).1
    have e : gNe (.str q) (.str "") M' = some (.bl (!decide (q = Str.empty)), M') := g_neS hq2 sh_e M'
    rw [e, wO_some]
    exact ⟨rfl, Fr.refl _ _, fun _ => ⟨trivial, Fr.refl _ _⟩⟩
  rintro d M3 ⟨n3, rfl, hn3, hm3, fr3⟩
  have ef : ((Txt.split t sp).filter fun q => !decide (q = Str.empty)) = ws := by
    rw [← lk.fil]
    refine List.filter_congr fun q _ => ?_
    simp
  rw [ef] at hm3
  have hx3 := fr3.get hx1 id
  rw [inAt_get hx3]
  have p2 : putI 1 (.ref n3) [.int n] = some [.int n, .ref n3] := rfl
  dsimp only
  rw [p2]
  dsimp only
  have hx4 : (M3.set x (.ins 2 [.int n, .ref n3]))[x]? = some (.ins 2 [.int n, .ref n3]) := set_get hx3
  rw [inAt_get hx4]
  have p3 : putI 2 (.int 0) [.int n, .ref n3] = some [.int n, .ref n3, .int 0] := rfl
  dsimp only
  rw [p3]
  dsimp only
  have hxl1 := fr1.1
  refine ⟨trivial, ⟨n3, by omega, set_get hx4, ?_⟩, ((fr1.trans (fr3.imp fun _ _ h => h.elim)).trans (Fr.set rfl)).trans (Fr.set rfl)⟩
  rw [List.getElem?_set_ne (by omega), List.getElem?_set_ne (by omega)]
  exact hm3
end
end Wk
end
section
set_option maxRecDepth 100000
set_option maxHeartbeats 8000000
set_option autoImplicit false
namespace Wk
open PySem PySem.Spec L2 Mi TL
local macro_rules | `(tactic| walk_at "tx") => `(tactic| simp only [wX_fn, wX_star, wS_asg, wS_par, wX_fldI, wX_join, wX_split, wX_fmt, wX_js0, wX_js1, wS_augI, wX_metI, wX_prpI, wX_lenI, wX_make, wS_fldI, setAll, wS_seq, wS_set, wS_ret, wS_expr, wS_pass, wS_if, wS_put, wX_var, wX_c, wX_2, wX_3, wX_anil, wX_acons, wX_tup, wX_lst, wX_dict, wX_b, wX_meth, wX_call, wX_if, wX_t1, wX_and2, wX_or2, wX_not1, wX_true, wX_neg, wX_oN, wX_oS, wX_not, wX_and, wX_or, wX_is, wX_cut, wX_fld, wX_ok, wX_no, wO_some, wO_none, wS_nx, wS_rt, List.map_cons, List.map_nil, List.cons_append, List.nil_append, List.append_nil, List.replicate_succ, List.replicate_zero, List.set_cons_zero, List.set_cons_succ, List.getElem?_cons_zero, List.getElem?_cons_succ, List.getElem?_nil, List.length_cons, List.length_nil, Nat.reduceSub, Nat.reduceAdd, Nat.zero_add, Nat.add_zero, if_true, if_false, ite_true, ite_false, reduceIte, Bool.false_eq_true, Bool.not_true, Bool.not_false, ← Nat.add_assoc, reduceCtorEq, List.length_append])
def rowsW (many : Int) (cs rs : List Tr3) (ch : Str) (oct : Int) : List (List Str) := [[("manuals" : Str), num many], [("chain" : Str), ch], [("octave" : Str), num oct]] ++ (cs.map wC ++ rs.map wS')
def LnC (B : Nat) (M : Hs) (k : Nat) (n : Int) (ws : List Str) (pl : Nat) : Prop := ∃ pn, pn < B ∧ k < B ∧ M[k]? = some (.ins 2 [.int n, .ref pn, .int pl]) ∧ M[pn]? = some (.lst (ws.map D.str))
theorem LnC.ln {B : Nat} {M : Hs} {k : Nat} {n : Int} {ws : List Str} {pl : Nat} (h : LnC B M k n ws pl) : Ln M k n ws pl := let ⟨pn, _, _, h1, h2⟩ := h; ⟨pn, h1, h2⟩
theorem LnC.fr {B : Nat} {M M' : Hs} {k : Nat} {n : Int} {ws : List Str} {pl : Nat} {S : Nat → Prop} (h : LnC B M k n ws pl) (f : Fr S M M') (hS : ∀ j, S j → B ≤ j ∨ (j ≠ k ∧ ∃ fs, M[j]? = some (.ins 2 fs))) : LnC B M' k n ws pl := by
  obtain ⟨pn, h1, h2, h3, h4⟩ := h
  refine ⟨pn, h1, h2, f.get h3 fun s => ?_, f.get h4 fun s => ?_⟩
  · rcases hS k s with h | ⟨h, _⟩
    · omega
    · exact h rfl
  · rcases hS pn s with h | ⟨_, fs, h⟩
    · omega
    · rw [h] at h4
      cases h4
/-- the lines that have been made -/
def LI (rows : List (List Str)) (b : Nat) (i : Nat) (ds : List D) (M : Hs) : Prop := ∃ ks : List Nat, ds = ks.map D.ref ∧ ks.Nodup ∧ (∀ k ∈ ks, b < k ∧ k < M.length) ∧ ks.length = i ∧ ∀ (j k : Nat) (ws : List Str), ks[j]? = some k → rows[j]? = some ws → LnB b M k ((j : Nat) + 1) ws 0
theorem zipIdx_str (xs : List Str) : (xs.map D.str).zipIdx = xs.zipIdx.map fun p => (D.str p.1, p.2) := by
  rw [List.zipIdx_map]
  rfl
section
variable {M : Hs} {many : Int} {cs rs : List Tr3} {ch : Str} {oct : Int}
theorem lines_w {ζ : Sl} {nr : Nat} {lines : List Str} {rows : List (List Str)} (h1 : ζ[1]? = some (some (.ref nr))) (hz : ζ.length = 14) (hr : M[nr]? = some (.lst (lines.map D.str))) (hlen : lines.length = rows.length) (hlk : ∀ (i : Nat) (t : Str) (ws : List Str), lines[i]? = some t → rows[i]? = some ws → Lk t ws) (hl : lines.length ≤ 1000) :
    wX (xLc (yEnum (xVar 1)) [11, 12] (.t [.n 11, .n 12]) tTrue (xMake (.ins 2 []) 3 f_Line_init (aCons (xVar 12) (aCons (x2 gAdd (xVar 11) (xC (.int 1))) aNil))) ζ M) fun d M' => ∃ ds, d = .ref M.length ∧ M'[M.length]? = some (.lst ds) ∧ LI rows M.length rows.length ds M' ∧ Fr No M M' := by
  have hsz := size1
  have li := @line_init_w
  generalize f_Line_init = F1 at li ⊢
  have S := src_enL (ζ := ζ) (f := xVar 1) (M := M) (M1 := M) (m := nr) (xs := lines.map D.str) (by unfold xVar; rw [h1]) (s_ref hr)
  rw [zipIdx_str, List.map_map] at S
  have hzl : lines.zipIdx.length = lines.length := by simp
  refine wX_mono (lc_rel (α := Str × Nat) (fun p => .tup [.int (p.2 : Nat), .str p.1]) S (Fr.refl _ _) (fun dn ds M' => LI rows M.length dn.length ds M') (fun M' fr => s_ref (fr.get hr id)) (by omega) ⟨[], rfl, List.nodup_nil, fun _ h => (by cases h), rfl, fun _ _ _ h => (by simp at h)⟩ ?_ ?_) ?_
  · rintro dn ds M' xs ⟨ks, e1, e2, e3, e4, e5⟩
    refine ⟨ks, e1, e2, fun k hk => ?_, e4, fun j k ws hk hw => ?_⟩
    · have := e3 k hk
      rw [List.length_set]
      exact this
    · obtain ⟨pn, g1, g2, g3⟩ := e5 j k ws hk hw
      have := e3 k (List.mem_of_getElem? hk)
      refine ⟨pn, g1, ?_, ?_⟩
      · rw [List.getElem?_set_ne (by omega)]; exact g2
      · rw [List.getElem?_set_ne (by omega)]; exact g3
  · rintro dn ⟨t, i⟩ rest ds M' hdn fr hlt ⟨ks, e1, e2, e3, e4, e5⟩
    have hi : lines[dn.length]? = some t ∧ i = dn.length := by
      have : lines.zipIdx[dn.length]? = some (t, i) := by rw [hdn]; simp
      rw [List.getElem?_zipIdx] at this
      cases hq : lines[dn.length]? with
      | none => rw [hq] at this; cases this
      | some z =>
        rw [hq] at this
        simp at this
        exact ⟨by rw [this.1], this.2.symm⟩
    obtain ⟨hi1, rfl⟩ := hi
    have hil : dn.length < lines.length := (List.getElem?_eq_some_iff.mp hi1).1
    obtain ⟨ws, hws⟩ : ∃ ws, rows[dn.length]? = some ws := ⟨rows[dn.length]'(by omega), List.getElem?_eq_getElem _⟩
    refine ⟨[(11, .int (dn.length : Nat)), (12, .str t)], rfl, ?_⟩
    have ev : ∀ M2, xVar 12 (setAll (wipeD ζ [11, 12]) [(11, .int (dn.length : Nat)), (12, .str t)]) M2 = .ok (.str t) M2 ∧ xVar 11 (setAll (wipeD ζ [11, 12]) [(11, .int (dn.length : Nat)), (12, .str t)]) M2 = .ok (.int (dn.length : Nat)) M2 := fun M2 => by
      unfold xVar
      simp only [sa_n, sa_c, wipeD]
      constructor
      · rw [List.getElem?_set_self (by simp [hz])]
      · rw [List.getElem?_set_ne (by decide), List.getElem?_set_self (by simp [hz])]
    rw [wX_make, wX_acons, (ev M').1, wX_ok, wX_acons, wX_2, (ev M').2, wX_ok, wX_c, g_add, wO_some, wX_anil, if_pos (show [D.str t, D.int ((dn.length : Nat) + 1)].length + 1 = 3 from rfl)]
    refine wX_mono (li (x := M'.length) (n := (dn.length : Nat) + 1) (hlk _ _ _ hi1 hws) get_push) ?_
    rintro d M2 ⟨rfl, ln, fr2⟩
    have fr3 : Fr No M' M2 := by
      have f0 : Fr No M' (M' ++ [MO.ins 2 []]) := Fr.push _ _
      exact ⟨Nat.le_trans f0.1 fr2.1, fun n hn _ => (fr2.2 n (Nat.lt_of_lt_of_le hn f0.1) (fun e => by have e : n = M'.length := e; omega)).trans (f0.2 n hn id)⟩
    have hM2 : M'.length < M2.length := by
      have := fr2.1
      rw [List.length_append, List.length_singleton] at this
      omega
    refine ⟨fr3, ks ++ [M'.length], ?_, ?_, fun k hk => ?_, ?_, fun j k ws' hk hw => ?_⟩
    · rw [e1, List.map_append]; rfl
    · rw [List.nodup_append]
      refine ⟨e2, by simp, fun a ha b hb e => ?_⟩
      have := e3 a ha
      rw [List.mem_singleton.mp hb] at e
      omega
    · rcases List.mem_append.mp hk with hk | hk
      · have := e3 k hk
        omega
      · rw [List.mem_singleton.mp hk]
        omega
    · rw [List.length_append, List.length_append, e4, List.length_singleton, List.length_singleton]
    · by_cases hj : j < ks.length
      · rw [List.getElem?_append_left hj] at hk
        obtain ⟨pn, g1, g2, g3⟩ := e5 j k ws' hk hw
        exact ⟨pn, g1, fr3.get g2 id, fr3.get g3 id⟩
      · have hj2 : j = ks.length := by
          have := (List.getElem?_eq_some_iff.mp hk).1
          rw [List.length_append, List.length_singleton] at this
          omega
        subst hj2
        rw [List.getElem?_append_right (Nat.le_refl _), Nat.sub_self] at hk
        have hk : M'.length = k := by simpa using hk
        subst hk
        rw [e4] at hw ⊢
        rw [hws] at hw
        cases hw
        obtain ⟨pn, g1, g2, g3⟩ := ln
        exact ⟨pn, by omega, g2, g3⟩
  · rintro d M' ⟨ds, rfl, h2, h3, h4, fr⟩
    refine ⟨ds, rfl, h2, ?_, fr⟩
    rw [hzl, hlen] at h4
    exact h4
end
end Wk
end
section
set_option maxRecDepth 100000
set_option maxHeartbeats 8000000
set_option autoImplicit false
namespace Wk
open PySem PySem.Spec L2 Mi TL
local macro_rules | `(tactic| walk_at "tx") => `(tactic| simp only [wX_fn, wX_star, wS_asg, wS_par, wX_fldI, wX_join, wX_split, wX_fmt, wX_js0, wX_js1, wS_augI, wX_metI, wX_prpI, wX_lenI, wX_make, wS_fldI, setAll, wS_seq, wS_set, wS_ret, wS_expr, wS_pass, wS_if, wS_put, wX_var, wX_c, wX_2, wX_3, wX_anil, wX_acons, wX_tup, wX_lst, wX_dict, wX_b, wX_meth, wX_call, wX_if, wX_t1, wX_and2, wX_or2, wX_not1, wX_true, wX_neg, wX_oN, wX_oS, wX_not, wX_and, wX_or, wX_is, wX_cut, wX_fld, wX_ok, wX_no, wO_some, wO_none, wS_nx, wS_rt, List.map_cons, List.map_nil, List.cons_append, List.nil_append, List.append_nil, List.replicate_succ, List.replicate_zero, List.set_cons_zero, List.set_cons_succ, List.getElem?_cons_zero, List.getElem?_cons_succ, List.getElem?_nil, List.length_cons, List.length_nil, Nat.reduceSub, Nat.reduceAdd, Nat.zero_add, Nat.add_zero, if_true, if_false, ite_true, ite_false, reduceIte, Bool.false_eq_true, Bool.not_true, Bool.not_false, ← Nat.add_assoc, reduceCtorEq, List.length_append])
def hv (many : Int) (ch : Str) (oct : Int) : List Str := [num many, ch, num oct]
def hw : List (Str × List Str) := [("manuals", ["1", "2"]), ("chain", ["all", "pressed"]), ("octave", [num 0, num 2, num 3])]
def hwD (p : Str × List Str) : D := .tup [.str p.1, .tup (p.2.map D.str)]
theorem hw_wd : ∀ p ∈ hw, p.1 ∈ WD ∧ ∀ y ∈ p.2, y ∈ WD := by decide +kernel
theorem rows_len {many : Int} {cs rs : List Tr3} {ch : Str} {oct : Int} : (rowsW many cs rs ch oct).length = 3 + (cs.length + rs.length) := by
  unfold rowsW
  simp
  omega
theorem hrow {many : Int} {cs rs : List Tr3} {ch : Str} {oct : Int} (p : Parts many cs rs ch oct) {i : Nat} {w0 : Str} {words : List Str} (h : hw[i]? = some (w0, words)) : ∃ w1, (hv many ch oct)[i]? = some w1 ∧ w1 ∈ words ∧ (rowsW many cs rs ch oct)[i]? = some [w0, w1] := by
  have e1 : num 1 = "1" := by decide +kernel
  have e2 : num 2 = "2" := by decide +kernel
  match i, h with
  | 0, h =>
    cases h
    refine ⟨_, rfl, ?_, rfl⟩
    rcases p.m with rfl | rfl
    · rw [e1]; simp
    · rw [e2]; simp
  | 1, h =>
    cases h
    refine ⟨_, rfl, ?_, rfl⟩
    rcases p.c with rfl | rfl <;> simp
  | 2, h =>
    cases h
    refine ⟨_, rfl, ?_, rfl⟩
    rcases p.o with rfl | rfl | rfl <;> simp
  | n + 3, h => simp [hw] at h
theorem g_eqW {x y : Str} (hx : x ∈ WD) (hy : y ∈ WD) (M : Hs) : gEq (.str x) (.str y) M = some (.bl (decide (x = y)), M) := by
  unfold gEq gEqB
  have e1 : toPD M deep (.str x) = some (.str x) := rfl
  have e2 : toPD M deep (.str y) = some (.str y) := rfl
  rw [e1, e2]
  dsimp only
  rw [(wd_ok x hx).1, (wd_ok y hy).1, eqv_str]
  rfl
theorem cut_3 {M : Hs} {n : Nat} {xs : List D} (h : M[n]? = some (.lst xs)) (hl : 3 ≤ xs.length) : gCut (.ref n) (some 3) none M = some (.ref M.length, M ++ [.lst (xs.drop 3)]) := by
  have e : cutD xs (some 3) none = xs.drop 3 := by
    unfold cutD HT.sIx
    simp
    rw [Nat.min_eq_left hl]
    exact List.take_of_length_le (by simp)
  unfold gCut
  dsimp only
  rw [s_ref h]
  dsimp only
  rw [e]
theorem rows_at {many : Int} {cs rs : List Tr3} {ch : Str} {oct : Int} {i : Nat} : (i < cs.length → ∃ c, cs[i]? = some c ∧ (rowsW many cs rs ch oct)[3 + i]? = some (wC c)) ∧ (cs.length ≤ i → i < cs.length + rs.length → ∃ c, rs[i - cs.length]? = some c ∧ (rowsW many cs rs ch oct)[3 + i]? = some (wS' c)) := by
  have e : (rowsW many cs rs ch oct)[3 + i]? = (cs.map wC ++ rs.map wS')[i]? := by
    unfold rowsW
    rw [List.getElem?_append_right (by simp)]
    congr 1
    simp
  rw [e]
  constructor
  · intro h
    refine ⟨cs[i], List.getElem?_eq_getElem h, ?_⟩
    rw [List.getElem?_append_left (by rw [List.length_map]; exact h), List.getElem?_map, List.getElem?_eq_getElem h]
    rfl
  · intro h1 h2
    have h3 : i - cs.length < rs.length := by omega
    refine ⟨rs[i - cs.length], List.getElem?_eq_getElem h3, ?_⟩
    rw [List.getElem?_append_right (by rw [List.length_map]; exact h1), List.length_map, List.getElem?_map, List.getElem?_eq_getElem h3]
    rfl
theorem kinds_wd (a b : Nat) : ∀ y ∈ kinds a b, y ∈ WD := fun y hy => by
  unfold kinds at hy
  rcases List.mem_append.mp hy with h | h
  · split at h
    · rw [List.mem_singleton.mp h]; simp [WD]
    · cases h
  · split at h
    · rw [List.mem_singleton.mp h]; simp [WD]
    · cases h
theorem nd_take {α : Type} {xs : List α} (nd : xs.Nodup) {i : Nat} {a : α} (h : xs[i]? = some a) : a ∉ xs.take i ∧ xs.take i ++ [a] = xs.take (i + 1) := by
  refine ⟨fun hm => ?_, ?_⟩
  · obtain ⟨j, hj⟩ := List.mem_iff_getElem?.mp hm
    have hjl := (List.getElem?_eq_some_iff.mp hj).1
    rw [List.length_take] at hjl
    rw [List.getElem?_take_of_lt (by omega)] at hj
    have := (List.getElem?_inj (List.getElem?_eq_some_iff.mp h).1 nd).mp (h.trans hj.symm)
    omega
  · rw [List.take_succ, h]
    rfl
theorem frHi {S : Nat → Prop} {M M1 M2 : Hs} (f1 : Fr No M M1) (f2 : Fr S M1 M2) (h : ∀ j, S j → M.length ≤ j) : Fr No M M2 :=
  ⟨Nat.le_trans f1.1 f2.1, fun n hn _ => (f2.2 n (Nat.lt_of_lt_of_le hn f1.1) fun s => by have := h n s; omega).trans (f1.2 n hn id)⟩
section
variable {M : Hs} {many : Int} {cs rs : List Tr3} {ch : Str} {oct : Int}
theorem read_w (p : Parts many cs rs ch oct) {x : Str} {lines : List Str} (hx : Txt.split x nl = lines) (hlen : lines.length = (rowsW many cs rs ch oct).length) (hlk : ∀ (i : Nat) (t : Str) (ws : List Str), lines[i]? = some t → (rowsW many cs rs ch oct)[i]? = some ws → Lk t ws) (hxl : x.length ≤ 1000000) :
    wX (f_read_organ [.str x] M) fun d M' => ∃ g, d = .ref g ∧ M.length ≤ g ∧ OgM M' g many cs rs ch oct ∧ Fr No M M' := by
  have hsz := size1
  have hz : sizeLine = 16777216 := rfl
  have hcl := p.cl
  have hrl := p.r4
  have hm := p.m
  have lw := @lines_w
  have hw_ := @head_in_w
  have tw := @take_one_w
  have kw := @kinds_w
  have cw := @coupler_in_w
  have sw := @stop_in_w
  have oi := @organ_init_w
  unfold f_read_organ
  generalize f_Line_init = F0 at lw ⊢
  generalize f_head_in = F1 at hw_ ⊢
  generalize f_Line_take_one = F2 at tw ⊢
  generalize f_kinds_of = F3 at kw ⊢
  generalize f_coupler_in = F4 at cw ⊢
  generalize f_stop_in = F5 at sw ⊢
  generalize f_Organ_init = F6 at oi ⊢
  rw [wX_fn]
  try walk_at "tx"
  rw [show Str.ofString "\n" = nl from rfl, splitQ_at (by decide +kernel) (by omega), hx]
  have fr1 : Fr No M (M ++ [MO.lst (lines.map D.str)]) := Fr.push _ _
  have hr1 : (M ++ [MO.lst (lines.map D.str)])[M.length]? = some (.lst (lines.map D.str)) := get_push
  have hll : lines.length ≤ 12 := by rw [hlen, rows_len]; omega
  refine wX_mono (lw (nr := M.length) (rows := rowsW many cs rs ch oct) rfl rfl hr1 hlen hlk (by omega)) ?_
  generalize (M ++ [MO.lst (lines.map D.str)]) = M1 at fr1 hr1 ⊢
  rintro d M2 ⟨ds, rfl, hl2, ⟨ks, rfl, ksn, ksb, ksl, kln⟩, fr2⟩
  have klnC : ∀ (j k : Nat) (ws : List Str), ks[j]? = some k → (rowsW many cs rs ch oct)[j]? = some ws → LnC M2.length M2 k ((j : Nat) + 1) ws 0 := fun j k ws h1 h2 => by
    obtain ⟨pn, g1, g2, g3⟩ := kln j k ws h1 h2
    exact ⟨pn, lt_of_get g3, lt_of_get g2, g2, g3⟩
  have hnlB : M1.length < M2.length := lt_of_get hl2
  have hM1 := fr1.1
  have frM2 : Fr No M M2 := fr1.trans fr2
  simp only [if_pos (show 0 ≤ sizeLine by omega), if_pos (show 2 ≤ sizeLine by omega), if_pos (show 3 ≤ sizeLine by omega)]
  -- the words
  have fr3 : Fr No M2 (M2 ++ [MO.lst []]) := Fr.push _ _
  have hh3 : (M2 ++ [MO.lst []])[M2.length]? = some (.lst (([] : List Str).map D.str)) := get_push
  have hl3 := fr3.get hl2 id
  generalize hB : M2.length = B at hh3 klnC hnlB ⊢
  have kln3 : ∀ (j k : Nat) (ws : List Str), ks[j]? = some k → (rowsW many cs rs ch oct)[j]? = some ws → LnC B (M2 ++ [MO.lst []]) k ((j : Nat) + 1) ws 0 := fun j k ws h1 h2 => (klnC j k ws h1 h2).fr fr3 fun j h => h.elim
  have hM3l : (M2 ++ [MO.lst []]).length = B + 1 := by rw [List.length_append, List.length_singleton, hB]
  have frM3 := frM2.trans fr3
  generalize (M2 ++ [MO.lst []]) = M3 at fr3 hh3 hl3 kln3 hM3l frM3 ⊢
  clear kln klnC fr2 hr1 fr1
  refine wX_mono (lc_ret D.int (fun _ => true) (fun i => D.str (num i)) (as := [0, 2, 3]) (src_d (d := .tup [.int 0, .int 2, .int 3]) (xs := [.int 0, .int 2, .int 3]) (M1 := M3) rfl rfl) (Fr.refl _ _) (fun _ _ => rfl) (by show 3 < sizeLine; omega) fun i hi M' fr => ?_) ?_
  · refine ⟨[(13, .int i)], rfl, rfl, Fr.refl _ _, fun _ => ?_⟩
    simp only [wipeD, setAll, List.set_cons_succ, List.set_cons_zero]
    try walk_at "tx"
    have e : gStr [.int i] M' = some (.str (num i), M') := by
      unfold gStr
      dsimp only
      rw [if_pos (num_ok (by simp at hi; omega))]
      rfl
    rw [e]
    exact ⟨rfl, Fr.refl _ _⟩
  rintro d M4 ⟨n4, rfl, hn4, hm4, fr4⟩
  have et : gTuple [.ref n4] M4 = some (.tup ([num 0, num 2, num 3].map D.str), M4) := g_tupD (s_ref hm4)
  rw [et, wO_some]
  have hh4 := fr4.get hh3 id
  have hl4 := fr4.get hl3 id
  have kln4 : ∀ (j k : Nat) (ws : List Str), ks[j]? = some k → (rowsW many cs rs ch oct)[j]? = some ws → LnC B M4 k ((j : Nat) + 1) ws 0 := fun j k ws h1 h2 => (kln3 j k ws h1 h2).fr fr4 fun j h => h.elim
  have eW : (MO.lst [D.tup [.str "manuals", .tup [.str "1", .str "2"]], .tup [.str "chain", .tup [.str "all", .str "pressed"]], .tup [.str "octave", .tup ([num 0, num 2, num 3].map D.str)]]) = MO.lst (hw.map hwD) := rfl
  rw [eW]
  have fr5 : Fr No M4 (M4 ++ [MO.lst (hw.map hwD)]) := Fr.push _ _
  have hw5 : (M4 ++ [MO.lst (hw.map hwD)])[M4.length]? = some (.lst (hw.map hwD)) := get_push
  have hh5 := fr5.get hh4 id
  have hl5 := fr5.get hl4 id
  have kln5 : ∀ (j k : Nat) (ws : List Str), ks[j]? = some k → (rowsW many cs rs ch oct)[j]? = some ws → LnC B (M4 ++ [MO.lst (hw.map hwD)]) k ((j : Nat) + 1) ws 0 := fun j k ws h1 h2 => (kln4 j k ws h1 h2).fr fr5 fun j h => h.elim
  have frM5 := (frM3.trans fr4).trans fr5
  have hnwB : B < M4.length := by have := fr4.1; omega
  generalize M4.length = nw at hw5 hnwB ⊢
  generalize (M4 ++ [MO.lst (hw.map hwD)]) = M5 at hw5 hh5 hl5 kln5 frM5 ⊢
  clear kln4 hh4 hl4 fr4 kln3 hh3 hl3 fr3
  have nodup_ne : ∀ {i j k k' : Nat}, ks[i]? = some k → ks[j]? = some k' → i ≠ j → k' ≠ k := fun {i j k k'} h1 h2 hne e => by
    subst e
    exact hne ((List.getElem?_inj (List.getElem?_eq_some_iff.mp h1).1 ksn).mp (h1.trans h2.symm))
  have ksM : ∀ {i k : Nat}, ks[i]? = some k → M.length ≤ k := fun {i k} h => by
    have := ksb k (List.mem_of_getElem? h)
    omega
  have S := src_zip (ζ := [some (.str x), some (.ref M.length), some (.ref M1.length), some (.ref B), some (.ref nw), none, none, none, none, none, none, none, none, none]) (f := xVar 2) (g := xVar 4) (M := M5) (M1 := M5) (M2 := M5) (m := M1.length) (n := nw) (xs := ks.map D.ref) (ys := hw.map hwD) rfl rfl (s_ref hl5) (s_ref hw5)
  have eS : List.zipWith (fun x y => D.tup [x, y]) (ks.map D.ref) (hw.map hwD) = (List.zip ks hw).map fun p => D.tup [.ref p.1, hwD p.2] := by
    rw [List.zipWith_map, List.zip, List.map_zipWith]
  rw [eS] at S
  refine for_list (fun p : Nat × (Str × List Str) => D.tup [.ref p.1, hwD p.2]) S (fun dn ζ M' => (∃ a5 a6 a7, ζ = [some (.str x), some (.ref M.length), some (.ref M1.length), some (.ref B), some (.ref nw), a5, a6, a7, none, none, none, none, none, none]) ∧ Fr No M M' ∧ M'[M1.length]? = some (.lst (ks.map D.ref)) ∧ M'[nw]? = some (.lst (hw.map hwD)) ∧ M'[B]? = some (.lst (((hv many ch oct).take dn.length).map D.str)) ∧
    ∀ (j k : Nat) (ws : List Str), dn.length ≤ j → ks[j]? = some k → (rowsW many cs rs ch oct)[j]? = some ws → LnC B M' k ((j : Nat) + 1) ws 0) ⟨⟨_, _, _, rfl⟩, frM5, hl5, hw5, hh5, fun j k ws _ h1 h2 => kln5 j k ws h1 h2⟩ (fun dn ζ M' h => ⟨s_ref h.2.2.1, s_ref h.2.2.2.1⟩) ?_ ?_
  · rintro dn ⟨k, w0, words⟩ rest ζ N hdn ⟨⟨a5, a6, a7, rfl⟩, frN, hlN, hwN, hhN, klnN⟩
    have hzi : (List.zip ks hw)[dn.length]? = some (k, (w0, words)) := by rw [hdn]; simp
    obtain ⟨hk, hwi⟩ : ks[dn.length]? = some k ∧ hw[dn.length]? = some (w0, words) := by
      rw [List.getElem?_zip_eq_some] at hzi
      exact hzi
    obtain ⟨w1, hv1, hin, hrow⟩ := hrow p hwi
    have hwd := hw_wd _ (List.mem_of_getElem? hwi)
    have lnc := klnN dn.length k _ (Nat.le_refl _) hk hrow
    have lnk := lnc
    obtain ⟨pn, q1, q2, q3, q4⟩ := lnk
    refine ⟨[(5, .ref k), (6, .str w0), (7, .tup (words.map D.str))], rfl, ?_⟩
    simp only [setAll, List.set_cons_succ, List.set_cons_zero]
    try walk_at "tx"
    rw [if_pos (isL hhN).1]
    refine wX_mono (hw_ lnc.ln hwd.1 hin hwd.2 rfl) ?_
    rintro d N1 ⟨rfl, ln1, fr6⟩
    have notk : ∀ {j : Nat} {xs : List D}, N[j]? = some (.lst xs) → ¬ At2 k j := fun {j xs} h e => by
      have e : j = k := e
      subst e
      rw [q3] at h
      cases h
    have hh6 := fr6.get hhN (notk hhN)
    have hl6 := fr6.get hlN (notk hlN)
    have hw6 := fr6.get hwN (notk hwN)
    have fr6' : Fr No M N1 := frHi frN fr6 fun j e => by rw [show j = k from e]; exact ksM hk
    rw [g_app hh6 (by rw [List.length_map, List.length_take]; have : (hv many ch oct).length = 3 := rfl; omega), wO_some]
    refine ⟨⟨_, _, _, rfl⟩, fr6'.setHi (by have := frM5.1; have := frM2.1; omega), ?_, ?_, ?_, fun j k' ws hj h1 h2 => ?_⟩
    · rw [List.getElem?_set_ne (by omega)]; exact hl6
    · rw [List.getElem?_set_ne (by omega)]; exact hw6
    · rw [set_get hh6]
      congr 2
      rw [List.take_succ, hv1, List.map_append]
      rfl
    · have hj : dn.length + 1 ≤ j := hj
      have l1 := (klnN j k' ws (by omega) h1 h2).fr fr6 fun j' e => .inr (by
        have e : j' = k := e
        subst e
        exact ⟨fun e => nodup_ne hk h1 (by omega) e.symm, _, q3⟩)
      exact l1.fr (S := fun n => n = B) (Fr.set rfl) fun j' e => .inl (by rw [e]; exact Nat.le_refl _)
  · rintro ζ N ⟨⟨a5, a6, a7, rfl⟩, frN, hlN, hwN, hhN, klnN⟩
    have hrl3 := rows_len (many := many) (cs := cs) (rs := rs) (ch := ch) (oct := oct)
    have hr1 := p.r1
    have hzl : (List.zip ks hw).length = 3 := by
      rw [List.length_zip]
      have : hw.length = 3 := rfl
      omega
    rw [hzl] at hhN klnN
    have ehv : (hv many ch oct).take 3 = hv many ch oct := rfl
    rw [ehv] at hhN
    clear S eS kln5 hh5 hw5 hl5
    simp only [List.getElem?_cons_succ, List.getElem?_cons_zero]
    rw [g_lenD hhN, wO_some, g_lt, wO_some, decide_eq_false (show ¬ ((((hv many ch oct).map D.str).length : Nat) : Int) < 3 by rw [List.length_map]; show ¬ ((3 : Nat) : Int) < 3; omega)]
    simp only [Bool.false_eq_true, if_false]
    try walk_at "tx"
    rw [g_ixR (d := .str (num many)) hhN (by decide) rfl, wO_some]
    have emany : gIntS [.str (num many)] N = some (.int many, N) := by
      unfold gIntS
      dsimp only
      rw [(num_int (show -2 ≤ many ∧ many ≤ 3 by omega)).1]
      dsimp only
      rw [if_pos (num_int (show -2 ≤ many ∧ many ≤ 3 by omega)).2]
    rw [emany, wO_some]
    have fr7 : Fr No N (N ++ [MO.lst []] ++ [MO.lst []]) := (Fr.push N _).pushHi
    have hL7 : (N ++ [MO.lst []] ++ [MO.lst []])[N.length]? = some (.lst (([] : List Tr3).map trD)) := get_app get_push
    have hR7 : (N ++ [MO.lst []] ++ [MO.lst []])[N.length + 1]? = some (.lst (([] : List Tr3).map trD)) := get_push2
    have hl7 := fr7.get hlN id
    have hh7 := fr7.get hhN id
    have hNB : B < N.length := lt_of_get hhN
    generalize hnL : N.length = nL at hL7 hR7 hNB ⊢
    have kln7 : ∀ (j k : Nat) (ws : List Str), 3 ≤ j → ks[j]? = some k → (rowsW many cs rs ch oct)[j]? = some ws → LnC B (N ++ [MO.lst []] ++ [MO.lst []]) k ((j : Nat) + 1) ws 0 := fun j k ws h0 h1 h2 => (klnN j k ws h0 h1 h2).fr fr7 fun j h => h.elim
    have frN7 := frN.trans fr7
    generalize (N ++ [MO.lst []] ++ [MO.lst []]) = N7 at fr7 hL7 hR7 hl7 hh7 kln7 frN7 ⊢
    clear klnN hwN hhN hlN
    -- the other lines
    have hsrc : wX (xCut (xVar 2) (oSome (xC (.int 3))) oNone [some (.str x), some (.ref M.length), some (.ref M1.length), some (.ref B), some (.ref nw), a5, a6, a7, some (.int many), some (.ref nL), some (.ref (nL + 1)), none, none, none] N7) fun d M' => d = .ref N7.length ∧ M' = N7 ++ [.lst ((ks.drop 3).map D.ref)] := by
      try walk_at "tx"
      rw [cut_3 hl7 (by rw [List.length_map]; omega), wO_some, List.map_drop]
      exact ⟨rfl, rfl⟩
    obtain ⟨d8, N8, e8, rfl, rfl⟩ := wX_get hsrc
    have hc8 : (N7 ++ [MO.lst ((ks.drop 3).map D.ref)])[N7.length]? = some (.lst ((ks.drop 3).map D.ref)) := get_push
    have fr8 : Fr No N7 (N7 ++ [MO.lst ((ks.drop 3).map D.ref)]) := Fr.push _ _
    have hcB : nL + 1 < N7.length := lt_of_get hR7
    have S2 := src_d (ζ := [some (.str x), some (.ref M.length), some (.ref M1.length), some (.ref B), some (.ref nw), a5, a6, a7, some (.int many), some (.ref nL), some (.ref (nL + 1)), none, none, none]) e8 (s_ref hc8)
    generalize N7.length = nc at hc8 hcB S2
    have hL8 := fr8.get hL7 id
    have hR8 := fr8.get hR7 id
    have hh8 := fr8.get hh7 id
    have kln8 : ∀ (j k : Nat) (ws : List Str), 3 ≤ j → ks[j]? = some k → (rowsW many cs rs ch oct)[j]? = some ws → LnC B (N7 ++ [MO.lst ((ks.drop 3).map D.ref)]) k ((j : Nat) + 1) ws 0 := fun j k ws h0 h1 h2 => (kln7 j k ws h0 h1 h2).fr fr8 fun j h => h.elim
    have frN8 := frN7.trans fr8
    have hMB : M.length < B := by omega
    refine for_list D.ref (as := ks.drop 3) S2 (fun dn ζ M' => (∃ a5, ζ = [some (.str x), some (.ref M.length), some (.ref M1.length), some (.ref B), some (.ref nw), a5, a6, a7, some (.int many), some (.ref nL), some (.ref (nL + 1)), none, none, none]) ∧ Fr No M M' ∧ M'[nc]? = some (.lst ((ks.drop 3).map D.ref)) ∧ M'[B]? = some (.lst ((hv many ch oct).map D.str)) ∧ M'[nL]? = some (.lst ((cs.take dn.length).map trD)) ∧ M'[nL + 1]? = some (.lst ((rs.take (dn.length - cs.length)).map trD)) ∧
      ∀ (j k : Nat) (ws : List Str), 3 + dn.length ≤ j → ks[j]? = some k → (rowsW many cs rs ch oct)[j]? = some ws → LnC B M' k ((j : Nat) + 1) ws 0) ⟨⟨_, rfl⟩, frN8, hc8, hh8, hL8, by simpa using hR8, fun j k ws h0 h1 h2 => kln8 j k ws (by simpa using h0) h1 h2⟩ (fun dn ζ M' h => s_ref h.2.2.1) ?_ ?_
    · rintro dn k rest ζ N9 hdn ⟨⟨a5', rfl⟩, fr9, hc9, hh9, hL9, hR9, kln9⟩
      have hdl : dn.length < cs.length + rs.length := by
        have := congrArg List.length hdn
        rw [List.length_drop, List.length_append, List.length_cons] at this
        omega
      have hk : ks[3 + dn.length]? = some k := by
        have : (ks.drop 3)[dn.length]? = some k := by rw [hdn]; simp
        rw [List.getElem?_drop] at this
        exact this
      refine ⟨[(5, .ref k)], rfl, ?_⟩
      simp only [setAll, List.set_cons_succ, List.set_cons_zero]
      have ra := rows_at (many := many) (cs := cs) (rs := rs) (ch := ch) (oct := oct) (i := dn.length)
      -- what stays while line k is read
      rw [wS_if]
      try walk_at "tx"
      -- what stays while line k is read
      obtain ⟨q3k, q3⟩ : ∃ fs, N9[k]? = some (.ins 2 fs) := by
        rcases Nat.lt_or_ge dn.length cs.length with h | h
        · obtain ⟨c, _, hrow⟩ := ra.1 h
          obtain ⟨pn, _, _, q, _⟩ := kln9 _ k _ (Nat.le_refl _) hk hrow
          exact ⟨_, q⟩
        · obtain ⟨c, _, hrow⟩ := ra.2 h hdl
          obtain ⟨pn, _, _, q, _⟩ := kln9 _ k _ (Nat.le_refl _) hk hrow
          exact ⟨_, q⟩
      have notk : ∀ {j : Nat} {xs : List D}, N9[j]? = some (.lst xs) → ¬ At2 k j := fun {j xs} h e => by
        have e : j = k := e
        subst e
        rw [q3] at h
        cases h
      have stay : ∀ {N' : Hs}, Fr (At2 k) N9 N' → Fr No M N' ∧ N'[nc]? = some (.lst ((ks.drop 3).map D.ref)) ∧ N'[B]? = some (.lst ((hv many ch oct).map D.str)) ∧ N'[nL]? = some (.lst ((cs.take dn.length).map trD)) ∧ N'[nL + 1]? = some (.lst ((rs.take (dn.length - cs.length)).map trD)) ∧
          ∀ (j k' : Nat) (ws : List Str), 3 + dn.length + 1 ≤ j → ks[j]? = some k' → (rowsW many cs rs ch oct)[j]? = some ws → LnC B N' k' ((j : Nat) + 1) ws 0 := fun {N'} f =>
        ⟨frHi fr9 f fun j e => by rw [show j = k from e]; exact ksM hk, f.get hc9 (notk hc9), f.get hh9 (notk hh9), f.get hL9 (notk hL9), f.get hR9 (notk hR9), fun j k' ws hj h1 h2 => (kln9 j k' ws (by omega) h1 h2).fr f fun j' e => .inr (by
          have e : j' = k := e
          subst e
          exact ⟨fun e => nodup_ne hk h1 (by omega) e.symm, _, q3⟩)⟩
      rcases Nat.lt_or_ge dn.length cs.length with h | h
      · obtain ⟨c, hc1, hrow⟩ := ra.1 h
        have lnc := kln9 _ k _ (Nat.le_refl _) hk hrow
        obtain ⟨nd1, nd2⟩ := nd_take p.cn hc1
        obtain ⟨pn, _, _, q, _⟩ := lnc
        rw [inAt_get q]
        dsimp only
        refine wX_mono (kw hL9 hR9) ?_
        rintro d N10 ⟨j, rfl, hj, fr10⟩
        have lnc := kln9 _ k _ (Nat.le_refl _) hk hrow
        have ek : ("coupler" : Str) ∈ kinds (cs.take dn.length).length (rs.take (dn.length - cs.length)).length := by
          unfold kinds
          rw [List.length_take, List.length_take, if_pos ⟨by omega, by omega⟩]
          simp
        refine wX_mono (tw (lnc.ln.frN fr10) (w := "coupler") rfl ek (by simp [WD]) (kinds_wd _ _) (.inl ⟨j, rfl, hj⟩)) ?_
        rintro d N11 ⟨rfl, ln11, fr11⟩
        rw [g_eqW (by simp [WD]) (by simp [WD]), wO_some]
        simp only [decide_true, if_true]
        have f11 : Fr (At2 k) N9 N11 := (fr10.imp fun _ _ h => h.elim).trans fr11
        obtain ⟨s1, s2, s3, s4, s5, s6⟩ := stay f11
        rw [if_pos (isL s4).1]
        refine wX_mono (cw ln11 hm (p.cv c (List.mem_of_getElem? hc1)) s4 nd1) ?_
        rintro d N12 ⟨rfl, ln12, fr12⟩
        obtain ⟨s1, s2, s3, s4, s5, s6⟩ := stay (f11.trans fr12)
        rw [g_app s4 (by rw [List.length_map, List.length_take]; omega), wO_some]
        have eapp : (cs.take dn.length).map trD ++ [trD c] = (cs.take (dn.length + 1)).map trD := by rw [← nd2, List.map_append]; rfl
        rw [eapp]
        refine ⟨⟨_, rfl⟩, s1.setHi (by omega), ?_, ?_, set_get s4, ?_, fun j' k' ws hj' h1 h2 => ?_⟩
        · rw [List.getElem?_set_ne (by omega)]; exact s2
        · rw [List.getElem?_set_ne (by omega)]; exact s3
        · rw [List.getElem?_set_ne (by omega), s5, show dn.length + 1 - cs.length = dn.length - cs.length by omega]
        · exact (s6 j' k' ws hj' h1 h2).fr (S := fun n => n = nL) (Fr.set rfl) fun j' e => .inl (by rw [e]; omega)
      · obtain ⟨c, hc1, hrow⟩ := ra.2 h hdl
        have lnc := kln9 _ k _ (Nat.le_refl _) hk hrow
        obtain ⟨nd1, nd2⟩ := nd_take p.rn hc1
        obtain ⟨pn, _, _, q, _⟩ := lnc
        rw [inAt_get q]
        dsimp only
        refine wX_mono (kw hL9 hR9) ?_
        rintro d N10 ⟨j, rfl, hj, fr10⟩
        have lnc := kln9 _ k _ (Nat.le_refl _) hk hrow
        have ek : ("stop" : Str) ∈ kinds (cs.take dn.length).length (rs.take (dn.length - cs.length)).length := by
          unfold kinds
          rw [List.length_take, List.length_take]
          refine List.mem_append_right _ ?_
          rw [if_pos (by omega)]
          simp
        refine wX_mono (tw (lnc.ln.frN fr10) (w := "stop") rfl ek (by simp [WD]) (kinds_wd _ _) (.inl ⟨j, rfl, hj⟩)) ?_
        rintro d N11 ⟨rfl, ln11, fr11⟩
        rw [g_eqW (by simp [WD]) (by simp [WD]), wO_some, show decide (("stop" : Str) = "coupler") = false by decide +kernel]
        simp only [Bool.false_eq_true, if_false]
        have f11 : Fr (At2 k) N9 N11 := (fr10.imp fun _ _ h => h.elim).trans fr11
        obtain ⟨s1, s2, s3, s4, s5, s6⟩ := stay f11
        rw [if_pos (isL s5).1]
        refine wX_mono (sw ln11 hm (p.rv c (List.mem_of_getElem? hc1)) s5 nd1) ?_
        rintro d N12 ⟨rfl, ln12, fr12⟩
        obtain ⟨s1, s2, s3, s4, s5, s6⟩ := stay (f11.trans fr12)
        rw [g_app s5 (by rw [List.length_map, List.length_take]; omega), wO_some]
        have eapp : (rs.take (dn.length - cs.length)).map trD ++ [trD c] = (rs.take (dn.length + 1 - cs.length)).map trD := by rw [show dn.length + 1 - cs.length = dn.length - cs.length + 1 by omega, ← nd2, List.map_append]; rfl
        rw [eapp]
        refine ⟨⟨_, rfl⟩, s1.setHi (by omega), ?_, ?_, ?_, set_get s5, fun j' k' ws hj' h1 h2 => ?_⟩
        · rw [List.getElem?_set_ne (by omega)]; exact s2
        · rw [List.getElem?_set_ne (by omega)]; exact s3
        · rw [List.getElem?_set_ne (by omega), s4, List.take_of_length_le (by omega), List.take_of_length_le (by omega)]
        · exact (s6 j' k' ws hj' h1 h2).fr (S := fun n => n = nL + 1) (Fr.set rfl) fun j' e => .inl (by rw [e]; omega)
    · rintro ζ N9 ⟨⟨a5', rfl⟩, fr9, hc9, hh9, hL9, hR9, _⟩
      have hdl : (ks.drop 3).length = cs.length + rs.length := by rw [List.length_drop]; omega
      rw [hdl] at hL9 hR9
      rw [List.take_of_length_le (by omega)] at hL9 hR9
      simp only [List.getElem?_cons_succ, List.getElem?_cons_zero]
      have fr10 : Fr No N9 (N9 ++ [MO.lst []]) := Fr.push _ _
      have hne : rs ≠ [] := fun e => by rw [e] at hr1; simp at hr1
      rw [g_eqT0 (fr10.get hR9 id) get_push, wO_some, decide_eq_false hne]
      simp only [Bool.false_eq_true, if_false]
      try walk_at "tx"
      have hL10 := fr10.get hL9 id
      have hR10 := fr10.get hR9 id
      have hh10 := fr10.get hh9 id
      generalize (N9 ++ [MO.lst []]) = N10 at fr10 hL10 hR10 hh10 ⊢
      rw [g_tupD (s_ref hL10), wO_some, g_tupD (s_ref hR10), wO_some, g_ixR (d := .str ch) hh10 (by decide) rfl, wO_some, g_ixR (d := .str (num oct)) hh10 (by decide) rfl, wO_some]
      have ho : -2 ≤ oct ∧ oct ≤ 3 := by have := p.o; omega
      have eoct : gIntS [.str (num oct)] N10 = some (.int oct, N10) := by
        unfold gIntS
        dsimp only
        rw [(num_int ho).1]
        dsimp only
        rw [if_pos (num_int ho).2]
      rw [eoct, wO_some]
      refine wX_mono (oi p get_push) ?_
      rintro d N11 ⟨rfl, og, fr11⟩
      have f0 : Fr No N10 (N10 ++ [MO.slo 0 []]) := Fr.push _ _
      have frX := fr9.trans fr10
      exact ⟨_, rfl, frX.1, og, frHi (frX.trans f0) fr11 fun j e => by rw [show j = N10.length from e]; exact frX.1⟩
end
end Wk
end
section
set_option maxRecDepth 100000
set_option maxHeartbeats 8000000
set_option autoImplicit false
namespace Wk
open PySem PySem.Spec L2 Mi TL
local macro_rules | `(tactic| walk_at "tx") => `(tactic| simp only [wX_fn, wX_star, wS_asg, wS_par, wX_fldI, wX_join, wX_split, wX_fmt, wX_js0, wX_js1, wS_augI, wX_metI, wX_prpI, wX_lenI, wX_make, wS_fldI, setAll, wS_seq, wS_set, wS_ret, wS_expr, wS_pass, wS_if, wS_put, wX_var, wX_c, wX_2, wX_3, wX_anil, wX_acons, wX_tup, wX_lst, wX_dict, wX_b, wX_meth, wX_call, wX_if, wX_t1, wX_and2, wX_or2, wX_not1, wX_true, wX_neg, wX_oN, wX_oS, wX_not, wX_and, wX_or, wX_is, wX_cut, wX_fld, wX_ok, wX_no, wO_some, wO_none, wS_nx, wS_rt, List.map_cons, List.map_nil, List.cons_append, List.nil_append, List.append_nil, List.replicate_succ, List.replicate_zero, List.set_cons_zero, List.set_cons_succ, List.getElem?_cons_zero, List.getElem?_cons_succ, List.getElem?_nil, List.length_cons, List.length_nil, Nat.reduceSub, Nat.reduceAdd, Nat.zero_add, Nat.add_zero, if_true, if_false, ite_true, ite_false, reduceIte, Bool.false_eq_true, Bool.not_true, Bool.not_false, ← Nat.add_assoc, reduceCtorEq, List.length_append])
theorem num_len {i : Int} (h : -2 ≤ i ∧ i ≤ 3) : (num i).length ≤ 2 := by
  have : i = -2 ∨ i = -1 ∨ i = 0 ∨ i = 1 ∨ i = 2 ∨ i = 3 := by omega
  rcases this with rfl | rfl | rfl | rfl | rfl | rfl <;> decide +kernel
theorem g_str {i : Int} (h : -2 ≤ i ∧ i ≤ 3) (M : Hs) : gStr [.int i] M = some (.str (num i), M) := by
  unfold gStr
  dsimp only
  rw [if_pos (num_ok h)]
  rfl
def t3l (c : Tr3) : List Int := [c.1, c.2.1, c.2.2]
/-- the text of an organ -/
def lineT (ws : List Str) : Str := Txt.join sp ws
section
variable {M : Hs} {many : Int} {cs rs : List Tr3} {ch : Str} {oct : Int}
/-- [str(part) for part in one] -/
theorem strs_w {ζ : Sl} {i j : Nat} {c : Tr3} (hv : ∀ M', xVar i ζ M' = .ok (trD c) M') (hj : ∀ d M', xVar j (setAll (wipeD ζ [j]) [(j, d)]) M' = .ok d M') (hc : ∀ x ∈ t3l c, -2 ≤ x ∧ x ≤ 3) :
    wX (xLc (ySeq (xVar i)) [j] (.n j) tTrue (xB gStr (aCons (xVar j) aNil)) ζ M) fun d M' => RL d M M' (((t3l c).map num).map D.str) := by
  have hsz := size1
  have := lc_ret (ζ := ζ) (M := M) (vs := [j]) (p := .n j) (t := tTrue) (f := xB gStr (aCons (xVar j) aNil)) D.int (fun _ => true) (fun x => D.str (num x)) (as := t3l c) (src_d (f := xVar i) (d := trD c) (xs := (t3l c).map D.int) (M1 := M) (hv M) rfl) (Fr.refl _ _) (fun _ _ => rfl) (by show 3 < sizeLine; omega) fun x hx M' fr => by
    refine ⟨[(j, .int x)], bp_n, rfl, Fr.refl _ _, fun _ => ?_⟩
    rw [wX_b, wX_acons, hj, wX_ok, wX_anil, g_str (hc x hx), wO_some]
    exact ⟨rfl, Fr.refl _ _⟩
  refine wX_mono this ?_
  rintro d M' ⟨n, rfl, hn, hm, fr⟩
  refine ⟨n, rfl, hn, ?_, fr⟩
  rw [hm, List.filter_eq_self.mpr (fun _ _ => rfl), List.map_map]
  rfl
end
end Wk
end
section
set_option maxRecDepth 100000
set_option maxHeartbeats 8000000
set_option autoImplicit false
namespace Wk
open PySem PySem.Spec L2 Mi TL
local macro_rules | `(tactic| walk_at "tx") => `(tactic| simp only [wX_fn, wX_star, wS_asg, wS_par, wX_fldI, wX_join, wX_split, wX_fmt, wX_js0, wX_js1, wS_augI, wX_metI, wX_prpI, wX_lenI, wX_make, wS_fldI, setAll, wS_seq, wS_set, wS_ret, wS_expr, wS_pass, wS_if, wS_put, wX_var, wX_c, wX_2, wX_3, wX_anil, wX_acons, wX_tup, wX_lst, wX_dict, wX_b, wX_meth, wX_call, wX_if, wX_t1, wX_and2, wX_or2, wX_not1, wX_true, wX_neg, wX_oN, wX_oS, wX_not, wX_and, wX_or, wX_is, wX_cut, wX_fld, wX_ok, wX_no, wO_some, wO_none, wS_nx, wS_rt, List.map_cons, List.map_nil, List.cons_append, List.nil_append, List.append_nil, List.replicate_succ, List.replicate_zero, List.set_cons_zero, List.set_cons_succ, List.getElem?_cons_zero, List.getElem?_cons_succ, List.getElem?_nil, List.length_cons, List.length_nil, Nat.reduceSub, Nat.reduceAdd, Nat.zero_add, Nat.add_zero, if_true, if_false, ite_true, ite_false, reduceIte, Bool.false_eq_true, Bool.not_true, Bool.not_false, ← Nat.add_assoc, reduceCtorEq, List.length_append])
theorem lay_trs (xs : List Tr3) : PyData.canLayAll0 (xs.map pdT) = true ∧ PyData.depthAll (xs.map pdT) ≤ 3 := by
  induction xs with
  | nil => simp [PyData.canLayAll0, PyData.depthAll]
  | cons x xs ih => simp [PyData.canLayAll0, PyData.canLay0, PyData.depthAll, PyData.depth, pdT, ih.1]; have := ih.2; omega
def orgP (many : Int) (cs rs : List Tr3) (ch : Str) (oct : Int) : PyData := .tuple [.int many, .tuple (cs.map pdT), .tuple (rs.map pdT), .str ch, .int oct]
def orgD (many : Int) (cs rs : List Tr3) (ch : Str) (oct : Int) : D := .tup [.int many, .tup (cs.map trD), .tup (rs.map trD), .str ch, .int oct]
theorem org_pd (M : Hs) (many : Int) (cs rs : List Tr3) (ch : Str) (oct : Int) : toPD M deep (orgD many cs rs ch oct) = some (orgP many cs rs ch oct) := by
  have e : deep = 9 + 3 := rfl
  rw [e]
  unfold orgD orgP
  have e1 : toPD M (9 + 2) (.tup (cs.map trD)) = some (.tuple (cs.map pdT)) := by
    show (match mapO (toPD M (8 + 2)) (cs.map trD) with | some ps => some (PyData.tuple ps) | none => none) = _
    rw [pd_trDs]
  have e2 : toPD M (9 + 2) (.tup (rs.map trD)) = some (.tuple (rs.map pdT)) := by
    show (match mapO (toPD M (8 + 2)) (rs.map trD) with | some ps => some (PyData.tuple ps) | none => none) = _
    rw [pd_trDs]
  show (match mapO (toPD M (9 + 2)) [.int many, .tup (cs.map trD), .tup (rs.map trD), .str ch, .int oct] with | some ps => some (PyData.tuple ps) | none => none) = _
  simp only [mapO, e1, e2]
  rfl
theorem org_sh {many : Int} {cs rs : List Tr3} {ch : Str} {oct : Int} (hc : ch = "all" ∨ ch = "pressed") : SeqAt.shaped (orgP many cs rs ch oct) = true ∧ (orgP many cs rs ch oct).canLay0 = true := by
  obtain ⟨a1, a2⟩ := lay_trs cs
  obtain ⟨b1, b2⟩ := lay_trs rs
  have hs : PyData.strOk ch = true := by rcases hc with rfl | rfl <;> decide +kernel
  have hl : (orgP many cs rs ch oct).canLay0 = true := by
    simp [orgP, PyData.canLay0, PyData.canLayAll0, a1, b1, hs]
  refine ⟨?_, hl⟩
  unfold SeqAt.shaped
  rw [hl, Bool.true_and, decide_eq_true_eq]
  simp only [orgP, PyData.depth, PyData.depthAll]
  omega
section
variable {M : Hs} {many : Int} {cs rs : List Tr3} {ch : Str} {oct : Int} {g g' : Nat}
theorem parts_w (og : OgM M g many cs rs ch oct) : wX (f_parts_of [.ref g] M) fun d M' => d = orgD many cs rs ch oct ∧ M' = M := by
  unfold f_parts_of
  try walk_at "tx"
  rw [sl_at og]
  try walk_at "tx"
  rw [if_pos (show 5 ≤ sizeLine by decide)]
  exact ⟨rfl, trivial⟩
theorem eq_own (h : ch = "all" ∨ ch = "pressed") (og : OgM M g many cs rs ch oct) (og' : OgM M g' many cs rs ch oct) : gEqC 0 f_Organ___eq__ (.ref g) (.ref g') M = some (.bl true, M) := by
  have hw : wX (f_Organ___eq__ [.ref g, .ref g'] M) fun d M' => d = .bl true ∧ M' = M := by
    have p1 := parts_w og
    have p2 := parts_w og'
    unfold f_Organ___eq__
    generalize f_parts_of = F at p1 p2 ⊢
    try walk_at "tx"
    rw [wX_isC]
    try walk_at "tx"
    rw [sl_at og']
    dsimp only [Option.isSome]
    try walk_at "tx"
    refine wX_mono p1 ?_
    rintro d M1 ⟨rfl, rfl⟩
    refine wX_mono p2 ?_
    rintro d M2 ⟨rfl, rfl⟩
    have e : gEq (orgD many cs rs ch oct) (orgD many cs rs ch oct) M2 = some (.bl true, M2) := by
      unfold gEq gEqB
      rw [org_pd]
      dsimp only
      rw [(org_sh h).1, SeqAt.eqv_refl _ (org_sh h).2]
      rfl
    rw [e]
    exact ⟨rfl, rfl⟩
  obtain ⟨d, M', e, h1, h2⟩ := wX_get hw
  unfold gEqC
  rw [sl_at og, sl_at og']
  dsimp only [Option.isSome]
  rw [if_pos (Bool.true_or _), e, h1, h2]
  rfl
end
theorem len_tl (x : Str) : x.length = (tl x).length := rfl
theorem joinL_len (S : List Nat) (k : Nat) : ∀ ps : List (List Nat), (∀ p ∈ ps, p.length ≤ k) → (joinL S ps).length ≤ ps.length * (k + S.length)
  | [], _ => Nat.zero_le _
  | [p], h => by
    have := h p List.mem_cons_self
    show p.length ≤ 1 * (k + S.length)
    omega
  | p :: q :: r, h => by
    have h1 := h p List.mem_cons_self
    have h2 := joinL_len S k (q :: r) fun x hx => h x (List.mem_cons_of_mem _ hx)
    show (p ++ (S ++ joinL S (q :: r))).length ≤ _
    rw [List.length_append, List.length_append, List.length_cons (a := p), Nat.succ_mul]
    omega
theorem join_len {y : Str} {k : Nat} {ps : List Str} (h : ∀ p ∈ ps, p.length ≤ k) : (Txt.join y ps).length ≤ ps.length * (k + y.length) := by
  have := joinL_len (tl y) k (ps.map tl) fun p hp => by
    obtain ⟨q, hq, rfl⟩ := List.mem_map.mp hp
    exact h q hq
  rw [List.length_map] at this
  rw [len_tl, jn]
  exact this
theorem sum_len {k : Nat} : ∀ {ps : List Str}, (∀ p ∈ ps, p.length ≤ k) → (ps.map (·.length)).sum ≤ ps.length * k
  | [], _ => Nat.zero_le _
  | p :: ps, h => by
    have h1 := h p List.mem_cons_self
    have h2 := sum_len (ps := ps) fun q hq => h q (List.mem_cons_of_mem _ hq)
    rw [List.map_cons, List.sum_cons, List.length_cons, Nat.succ_mul]
    omega
theorem jn_ok {y : Str} {k : Nat} {ps : List Str} (h : ∀ p ∈ ps, p.length ≤ k) (hl : ps.length * k + ps.length * y.length ≤ 16777216) : jnOk y ps = true := by
  unfold jnOk
  rw [decide_eq_true_eq]
  have := sum_len h
  omega
/-- signs that a text may hold -/
theorem strOk_join {S : List Nat} (hS : ∀ c ∈ S, c < 0x110000) : ∀ ps : List (List Nat), (∀ p ∈ ps, ∀ c ∈ p, c < 0x110000) → ∀ c ∈ joinL S ps, c < 0x110000
  | [], _, c, hc => by cases hc
  | [p], h, c, hc => h p List.mem_cons_self c hc
  | p :: q :: r, h, c, hc => by
    have hc : c ∈ p ++ (S ++ joinL S (q :: r)) := hc
    rcases List.mem_append.mp hc with h1 | h1
    · exact h p List.mem_cons_self c h1
    · rcases List.mem_append.mp h1 with h2 | h2
      · exact hS c h2
      · exact strOk_join hS (q :: r) (fun x hx => h x (List.mem_cons_of_mem _ hx)) c h2
theorem strOk_tl {x : Str} : PyData.strOk x = true ↔ ∀ c ∈ tl x, c < 0x110000 := by
  unfold PyData.strOk
  rw [Array.all_eq_true_iff_forall_mem]
  constructor
  · intro h c hc
    have := h c (Array.mem_toList_iff.mp hc)
    simpa using this
  · intro h c hc
    have := h c (Array.mem_toList_iff.mpr hc)
    simpa using this
theorem strOk_jn {y : Str} {ps : List Str} (hy : PyData.strOk y = true) (h : ∀ p ∈ ps, PyData.strOk p = true) : PyData.strOk (Txt.join y ps) = true := by
  rw [strOk_tl, jn]
  refine strOk_join (strOk_tl.mp hy) _ fun p hp => ?_
  obtain ⟨q, hq, rfl⟩ := List.mem_map.mp hp
  exact strOk_tl.mp (h q hq)
theorem str_sh {x : Str} (h : PyData.strOk x = true) : SeqAt.shaped (.str x) = true := by
  unfold SeqAt.shaped
  simp [PyData.canLay0, PyData.depth, h]
theorem tr_c {many : Int} {c : Tr3} (hm : many = 1 ∨ many = 2) (h : vC many c = true) : ∀ x ∈ t3l c, -2 ≤ x ∧ x ≤ 3 := by
  obtain ⟨a, b, d⟩ := c
  simp only [vC, Bool.and_eq_true, Bool.or_eq_true, decide_eq_true_eq] at h
  intro x hx
  simp only [t3l, List.mem_cons, List.not_mem_nil, or_false] at hx
  omega
theorem tr_s {many : Int} {c : Tr3} (hm : many = 1 ∨ many = 2) (h : vS many c = true) : ∀ x ∈ t3l c, -2 ≤ x ∧ x ≤ 3 := by
  obtain ⟨a, b, d⟩ := c
  simp only [vS, Bool.and_eq_true, Bool.or_eq_true, decide_eq_true_eq] at h
  intro x hx
  simp only [t3l, List.mem_cons, List.not_mem_nil, or_false] at hx
  omega
theorem wC_e (c : Tr3) : wC c = ("coupler" : Str) :: (t3l c).map num := rfl
theorem wS_e (c : Tr3) : wS' c = ("stop" : Str) :: (t3l c).map num := rfl
theorem rows_wd {many : Int} {cs rs : List Tr3} {ch : Str} {oct : Int} (p : Parts many cs rs ch oct) : ∀ ws ∈ rowsW many cs rs ch oct, ws ≠ [] ∧ (∀ w ∈ ws, w ∈ WD) ∧ ws.length ≤ 4 := by
  have hm := p.m
  have ho := p.o
  intro ws h
  unfold rowsW at h
  rcases List.mem_append.mp h with h | h
  · simp only [List.mem_cons, List.not_mem_nil, or_false] at h
    rcases h with rfl | rfl | rfl
    · refine ⟨by simp, fun w hw => ?_, by simp⟩
      simp only [List.mem_cons, List.not_mem_nil, or_false] at hw
      rcases hw with rfl | rfl
      · simp [WD]
      · exact num_wd (by omega)
    · refine ⟨by simp, fun w hw => ?_, by simp⟩
      simp only [List.mem_cons, List.not_mem_nil, or_false] at hw
      rcases hw with rfl | rfl
      · simp [WD]
      · rcases p.c with rfl | rfl <;> simp [WD]
    · refine ⟨by simp, fun w hw => ?_, by simp⟩
      simp only [List.mem_cons, List.not_mem_nil, or_false] at hw
      rcases hw with rfl | rfl
      · simp [WD]
      · exact num_wd (by omega)
  · rcases List.mem_append.mp h with h | h
    · obtain ⟨c, hc, rfl⟩ := List.mem_map.mp h
      refine ⟨by simp [wC], fun w hw => ?_, by simp [wC]⟩
      rw [wC_e] at hw
      rcases List.mem_cons.mp hw with rfl | hw
      · simp [WD]
      · obtain ⟨x, hx, rfl⟩ := List.mem_map.mp hw
        exact num_wd (tr_c hm (p.cv c hc) x hx)
    · obtain ⟨c, hc, rfl⟩ := List.mem_map.mp h
      refine ⟨by simp [wS'], fun w hw => ?_, by simp [wS']⟩
      rw [wS_e] at hw
      rcases List.mem_cons.mp hw with rfl | hw
      · simp [WD]
      · obtain ⟨x, hx, rfl⟩ := List.mem_map.mp hw
        exact num_wd (tr_s hm (p.rv c hc) x hx)
theorem wd_len {w : Str} (h : w ∈ WD) : w.length ≤ 7 := (wd_ok w h).2.2.2.1
theorem sp_len : sp.length = 1 ∧ nl.length = 1 := by decide +kernel
theorem line_len {ws : List Str} (h : ∀ w ∈ ws, w ∈ WD) (hl : ws.length ≤ 4) : (lineT ws).length ≤ 32 := by
  have := join_len (y := sp) (k := 7) fun w hw => wd_len (h w hw)
  rw [sp_len.1] at this
  unfold lineT
  omega
/-- the lines of the text -/
def rowsT (many : Int) (cs rs : List Tr3) (ch : Str) (oct : Int) : List Str := (rowsW many cs rs ch oct).map lineT
def textT (many : Int) (cs rs : List Tr3) (ch : Str) (oct : Int) : Str := Txt.join nl (rowsT many cs rs ch oct)
theorem rowsT_len {many : Int} {cs rs : List Tr3} {ch : Str} {oct : Int} (p : Parts many cs rs ch oct) : ∀ t ∈ rowsT many cs rs ch oct, t.length ≤ 32 := fun t ht => by
  obtain ⟨ws, h1, rfl⟩ := List.mem_map.mp ht
  obtain ⟨_, h2, h3⟩ := rows_wd p ws h1
  exact line_len h2 h3
theorem rowsT_n {many : Int} {cs rs : List Tr3} {ch : Str} {oct : Int} (p : Parts many cs rs ch oct) : (rowsT many cs rs ch oct).length ≤ 12 := by
  have := p.cl
  have := p.r4
  unfold rowsT
  rw [List.length_map, rows_len]
  omega
theorem rowsT_jn {many : Int} {cs rs : List Tr3} {ch : Str} {oct : Int} (p : Parts many cs rs ch oct) : jnOk nl (rowsT many cs rs ch oct) = true :=
  jn_ok (rowsT_len p) (by have := rowsT_n p; rw [sp_len.2]; omega)
theorem textT_len {many : Int} {cs rs : List Tr3} {ch : Str} {oct : Int} (p : Parts many cs rs ch oct) : (textT many cs rs ch oct).length ≤ 1000 := by
  have h1 := join_len (y := nl) (rowsT_len p)
  have h2 := rowsT_n p
  rw [sp_len.2] at h1
  unfold textT
  omega
theorem textT_sh {many : Int} {cs rs : List Tr3} {ch : Str} {oct : Int} (p : Parts many cs rs ch oct) : SeqAt.shaped (.str (textT many cs rs ch oct)) = true := by
  refine str_sh (strOk_jn (by decide +kernel) fun t ht => ?_)
  obtain ⟨ws, h1, rfl⟩ := List.mem_map.mp ht
  exact strOk_jn (by decide +kernel) fun w hw => wd_str w ((rows_wd p ws h1).2.1 w hw)
theorem textT_split {many : Int} {cs rs : List Tr3} {ch : Str} {oct : Int} (p : Parts many cs rs ch oct) : Txt.split (textT many cs rs ch oct) nl = rowsT many cs rs ch oct := by
  refine split_join tl_nl (by decide +kernel) (by unfold rowsT rowsW; simp) fun t ht => ?_
  obtain ⟨ws, h1, rfl⟩ := List.mem_map.mp ht
  obtain ⟨h2, h3, _⟩ := rows_wd p ws h1
  exact (tight h2 h3).2.2
theorem textT_lk {many : Int} {cs rs : List Tr3} {ch : Str} {oct : Int} (p : Parts many cs rs ch oct) : ∀ (i : Nat) (t : Str) (ws : List Str), (rowsT many cs rs ch oct)[i]? = some t → (rowsW many cs rs ch oct)[i]? = some ws → Lk t ws := by
  intro i t ws h1 h2
  unfold rowsT at h1
  rw [List.getElem?_map, h2] at h1
  cases h1
  obtain ⟨h3, h4, h5⟩ := rows_wd p ws (List.mem_of_getElem? h2)
  exact tight_lk h3 h4 (by have := line_len h4 h5; unfold lineT at this; omega)
theorem two_line (a b : Str) (x : Str) (hx : tl x = tl a ++ [32]) : x ++ b = lineT [a, b] := ext_tl (by
  unfold lineT
  rw [tl_append, jn, tl_sp, hx, List.append_assoc]
  rfl)
theorem two_lines (b : Str) : ((Str.ofString "manuals ") : Str) ++ b = lineT ["manuals", b] ∧ ((Str.ofString "chain ") : Str) ++ b = lineT ["chain", b] ∧ ((Str.ofString "octave ") : Str) ++ b = lineT ["octave", b] :=
  ⟨two_line _ _ _ (by decide +kernel), two_line _ _ _ (by decide +kernel), two_line _ _ _ (by decide +kernel)⟩
end Wk
end
section
set_option maxRecDepth 100000
set_option maxHeartbeats 8000000
set_option autoImplicit false
namespace Wk
open PySem PySem.Spec L2 Mi TL
local macro_rules | `(tactic| walk_at "tx") => `(tactic| simp only [wX_fn, wX_star, wS_asg, wS_par, wX_fldI, wX_join, wX_split, wX_fmt, wX_js0, wX_js1, wS_augI, wX_metI, wX_prpI, wX_lenI, wX_make, wS_fldI, setAll, wS_seq, wS_set, wS_ret, wS_expr, wS_pass, wS_if, wS_put, wX_var, wX_c, wX_2, wX_3, wX_anil, wX_acons, wX_tup, wX_lst, wX_dict, wX_b, wX_meth, wX_call, wX_if, wX_t1, wX_and2, wX_or2, wX_not1, wX_true, wX_neg, wX_oN, wX_oS, wX_not, wX_and, wX_or, wX_is, wX_cut, wX_fld, wX_ok, wX_no, wO_some, wO_none, wS_nx, wS_rt, List.map_cons, List.map_nil, List.cons_append, List.nil_append, List.append_nil, List.replicate_succ, List.replicate_zero, List.set_cons_zero, List.set_cons_succ, List.getElem?_cons_zero, List.getElem?_cons_succ, List.getElem?_nil, List.length_cons, List.length_nil, Nat.reduceSub, Nat.reduceAdd, Nat.zero_add, Nat.add_zero, if_true, if_false, ite_true, ite_false, reduceIte, Bool.false_eq_true, Bool.not_true, Bool.not_false, ← Nat.add_assoc, reduceCtorEq, List.length_append])
abbrev strsC (i j : Nat) : MX := xLc (ySeq (xVar i)) [j] (.n j) tTrue (xB gStr (aCons (xVar j) aNil))
theorem sp_of : (Str.ofString " ") = sp ∧ (Str.ofString "\n") = nl := ⟨rfl, rfl⟩
section
variable {M : Hs}
theorem words_wd {k : Str} {c : Tr3} (hk : k ∈ WD) (hc : ∀ x ∈ t3l c, -2 ≤ x ∧ x ≤ 3) : (∀ w ∈ k :: (t3l c).map num, w ∈ WD) ∧ (k :: (t3l c).map num).length = 4 := by
  refine ⟨fun w hw => ?_, rfl⟩
  rcases List.mem_cons.mp hw with rfl | hw
  · exact hk
  · obtain ⟨x, hx, rfl⟩ := List.mem_map.mp hw
    exact num_wd (hc x hx)
theorem jn_words {k : Str} {c : Tr3} (hk : k ∈ WD) (hc : ∀ x ∈ t3l c, -2 ≤ x ∧ x ≤ 3) : jnOk sp (k :: (t3l c).map num) = true := by
  obtain ⟨h1, h2⟩ := words_wd hk hc
  exact jn_ok (k := 7) (fun w hw => wd_len (h1 w hw)) (by rw [h2, sp_len.1]; omega)
theorem line_star {ζ : Sl} {i j : Nat} {c : Tr3} {k : Str} (hk : k ∈ WD) (hv : ∀ M', xVar i ζ M' = .ok (trD c) M') (hj : ∀ d M', xVar j (setAll (wipeD ζ [j]) [(j, d)]) M' = .ok d M') (hc : ∀ x ∈ t3l c, -2 ≤ x ∧ x ≤ 3) :
    wX (xJoin (xC (.str sp)) (xLst (aCons (xC (.str k)) (aStar (strsC i j) aNil))) ζ M) fun d M' => d = .str (lineT (k :: (t3l c).map num)) ∧ Fr No M M' := by
  have hsz := size1
  rw [wX_join, wX_c]
  dsimp only
  rw [wX_lst, wX_acons, wX_c, wX_star]
  refine wX_mono (strs_w hv hj hc) ?_
  rintro d M1 ⟨n, rfl, hn, hm, fr⟩
  rw [s_ref hm]
  dsimp only
  rw [wX_anil]
  have e : (D.str k :: (((t3l c).map num).map D.str ++ [])) = (k :: (t3l c).map num).map D.str := by rw [List.append_nil]; rfl
  rw [e, if_pos (by rw [List.length_map]; show 4 ≤ sizeLine; omega), joinQ_at get_push (jn_words hk hc)]
  exact ⟨rfl, fr.pushHi⟩
theorem line_add {ζ : Sl} {i j : Nat} {c : Tr3} {k : Str} (hk : k ∈ WD) (hv : ∀ M', xVar i ζ M' = .ok (trD c) M') (hj : ∀ d M', xVar j (setAll (wipeD ζ [j]) [(j, d)]) M' = .ok d M') (hc : ∀ x ∈ t3l c, -2 ≤ x ∧ x ≤ 3) :
    wX (xJoin (xC (.str sp)) (x2 gAdd (xLst (aCons (xC (.str k)) aNil)) (strsC i j)) ζ M) fun d M' => d = .str (lineT (k :: (t3l c).map num)) ∧ Fr No M M' := by
  have hsz := size1
  rw [wX_join, wX_c]
  dsimp only
  rw [wX_2, wX_lst, wX_acons, wX_c, wX_anil, if_pos (show [D.str k].length ≤ sizeLine from by show 1 ≤ sizeLine; omega)]
  have f1 : Fr No M (M ++ [MO.lst [D.str k]]) := Fr.push _ _
  have hx : (M ++ [MO.lst [D.str k]])[M.length]? = some (.lst [D.str k]) := get_push
  generalize M ++ [MO.lst [D.str k]] = M1 at f1 hx ⊢
  generalize M.length = nk at hx ⊢
  refine wX_mono (strs_w hv hj hc) ?_
  rintro d M2 ⟨n, rfl, hn, hm, fr⟩
  have e : [D.str k] ++ ((t3l c).map num).map D.str = (k :: (t3l c).map num).map D.str := rfl
  rw [g_catL (fr.get hx id) hm (by rw [e, List.length_map]; show 4 ≤ sizeLine; omega), wO_some, e, joinQ_at get_push (jn_words hk hc)]
  exact ⟨rfl, (f1.trans fr).pushHi⟩
theorem fld_at {ζ : Sl} {g i : Nat} {fs : List (Option D)} {d : D} (h : M[g]? = some (.slo 0 fs)) (hi : fs[i]? = some (some d)) : xFld 0 i (xVar 0) (some (.ref g) :: ζ) M = .ok d M := by
  have hw : wX (xFld 0 i (xVar 0) (some (.ref g) :: ζ) M) fun x M' => x = d ∧ M' = M := by
    rw [wX_fld, wX_var]
    simp only [List.getElem?_cons_zero]
    rw [sl_at h]
    dsimp only
    rw [hi]
    exact ⟨rfl, trivial⟩
  obtain ⟨x, M', e, h1, h2⟩ := wX_get hw
  rw [e, h1, h2]
/-- the lines of couplers, of stops -/
theorem lines_of {ζ : Sl} {i : Nat} {g : MX} {as : List Tr3} {k : Str} {b : MX} (hg : g ζ M = .ok (.tup (as.map trD)) M) (hl : as.length ≤ 5)
    (hb : ∀ c ∈ as, ∀ M', wX (b (setAll (wipeD ζ [i]) [(i, trD c)]) M') fun d M2 => d = .str (lineT (k :: (t3l c).map num)) ∧ Fr No M' M2) :
    wX (xLc (ySeq g) [i] (.n i) tTrue b ζ M) fun d M' => RL d M M' ((as.map fun c => lineT (k :: (t3l c).map num)).map D.str) := by
  have hsz := size1
  have := lc_ret (ζ := ζ) (M := M) (vs := [i]) (p := .n i) (t := tTrue) (f := b) trD (fun _ => true) (fun c => D.str (lineT (k :: (t3l c).map num))) (as := as) (src_d (f := g) (d := .tup (as.map trD)) (xs := as.map trD) (M1 := M) hg rfl) (Fr.refl _ _) (fun _ _ => rfl) (by omega) fun c hc M' fr =>
    ⟨[(i, trD c)], bp_n, rfl, Fr.refl _ _, fun _ => hb c hc M'⟩
  refine wX_mono this ?_
  rintro d M' ⟨n, rfl, hn, hm, fr⟩
  refine ⟨n, rfl, hn, ?_, fr⟩
  rw [hm, List.filter_eq_self.mpr (fun _ _ => rfl), List.map_map]
  rfl
end
section
variable {M : Hs} {many : Int} {cs rs : List Tr3} {ch : Str} {oct : Int} {g : Nat}
theorem rowsT_e : rowsT many cs rs ch oct = [lineT ["manuals", num many], lineT ["chain", ch], lineT ["octave", num oct]] ++ (cs.map fun c => lineT (("coupler" : Str) :: (t3l c).map num)) ++ (rs.map fun c => lineT (("stop" : Str) :: (t3l c).map num)) := by
  unfold rowsT rowsW
  rw [List.map_append, List.map_append, List.map_map, List.map_map, List.append_assoc]
  rfl
theorem write_w (p : Parts many cs rs ch oct) (og : OgM M g many cs rs ch oct) : wX (f_write_organ [.ref g] M) fun d M' => d = .str (textT many cs rs ch oct) ∧ Fr No M M' := by
  have hsz := size1
  have hz : sizeLine = 16777216 := rfl
  have hm := p.m
  have ho : -2 ≤ oct ∧ oct ≤ 3 := by have := p.o; omega
  have hm2 : -2 ≤ many ∧ many ≤ 3 := by omega
  have hcl := p.cl
  have hrl := p.r4
  have h3 := rows_wd p
  unfold f_write_organ
  rw [wX_fn, wS_seq, wS_set, wX_lst]
  have el : ∀ (a b : Str), (lineT [a, b] ∈ rowsT many cs rs ch oct) → (lineT [a, b]).length ≤ sizeLine := fun a b h => by
    have := rowsT_len p _ h
    omega
  rw [rowsT_e] at el
  have t1 := two_lines (num many)
  have t2 := two_lines ch
  have t3 := two_lines (num oct)
  have hcl2 : ch.length ≤ sizeLine := by rcases p.c with rfl | rfl <;> exact Nat.le_trans (show _ ≤ 10 by decide +kernel) (by omega)
  have l1 : (Str.empty ++ Str.ofString "manuals ").length ≤ sizeLine := Nat.le_trans (show _ ≤ 10 by decide +kernel) (by omega)
  have l2 : (Str.empty ++ Str.ofString "chain ").length ≤ sizeLine := Nat.le_trans (show _ ≤ 10 by decide +kernel) (by omega)
  have l3 : (Str.empty ++ Str.ofString "octave ").length ≤ sizeLine := Nat.le_trans (show _ ≤ 10 by decide +kernel) (by omega)
  have e0 : ∀ x : Str, Str.empty ++ x = x := fun x => ext_tl (by rw [tl_append, tl_e, List.nil_append])
  have sl := sl_at og
  simp only [wX_acons, wX_anil, wX_js0, wX_js1, wX_fmt, wX_fld, wX_c, wX_var, List.map_cons, List.map_nil, List.cons_append, List.nil_append, List.replicate_succ, List.replicate_zero, Nat.reduceSub, List.getElem?_cons_zero, sl, List.getElem?_cons_succ]
  have en : ∀ i : Int, Str.ofString (toString i) = num i := fun _ => rfl
  rw [if_pos l1, if_pos (num_ok hm2), if_pos l2, if_pos hcl2, if_pos l3, if_pos (num_ok ho)]
  simp only [en, e0]
  rw [t1.1, t2.2.1, t3.2.2, if_pos (el _ _ (by simp)), if_pos (el _ _ (by simp)), if_pos (el _ _ (by simp)), if_pos (show [D.str (lineT ["manuals", num many]), D.str (lineT ["chain", ch]), D.str (lineT ["octave", num oct])].length ≤ sizeLine from by show 3 ≤ sizeLine; omega)]
  have fr1 : Fr No M (M ++ [MO.lst ([lineT ["manuals", num many], lineT ["chain", ch], lineT ["octave", num oct]].map D.str)]) := Fr.push _ _
  have hx1 : (M ++ [MO.lst ([lineT ["manuals", num many], lineT ["chain", ch], lineT ["octave", num oct]].map D.str)])[M.length]? = some (.lst ([lineT ["manuals", num many], lineT ["chain", ch], lineT ["octave", num oct]].map D.str)) := get_push
  have ea : [D.str (lineT ["manuals", num many]), D.str (lineT ["chain", ch]), D.str (lineT ["octave", num oct])] = [lineT ["manuals", num many], lineT ["chain", ch], lineT ["octave", num oct]].map D.str := rfl
  rw [ea]
  generalize (M ++ [MO.lst ([lineT ["manuals", num many], lineT ["chain", ch], lineT ["octave", num oct]].map D.str)]) = M1 at fr1 hx1 ⊢
  have hlt := lt_of_get hx1
  generalize hB : M.length = B at hx1 hlt ⊢
  have og1 : OgM M1 g many cs rs ch oct := fr1.get og id
  simp only [List.set_cons_succ, List.set_cons_zero]
  -- the couplers
  rw [wS_seq, wS_expr, wX_meth]
  simp only [wX_var, List.getElem?_cons_succ, List.getElem?_cons_zero]
  rw [if_pos (isL hx1).1, wX_acons]
  refine wX_mono (lines_of (k := "coupler") (i := 2) (as := cs) (fld_at og1 rfl) (by omega) fun c hc M' => line_star (by simp [WD]) (fun _ => rfl) (fun _ _ => rfl) (tr_c hm (p.cv c hc))) ?_
  rintro d M2 ⟨n2, rfl, hn2, hm2', fr2⟩
  have hx2 := fr2.get hx1 id
  rw [wX_anil, g_ext hx2 hm2' (by simp; omega), wO_some]
  have og2 : OgM M2 g many cs rs ch oct := fr2.get og1 id
  have frB : Fr No M M2 := fr1.trans fr2
  rw [← List.map_append]
  have hgB : g ≠ B := fun e => by subst e; rw [hB.symm] at og; exact absurd (lt_of_get og) (by omega)
  have fr3 : Fr No M (M2.set B (.lst (([lineT ["manuals", num many], lineT ["chain", ch], lineT ["octave", num oct]] ++ (cs.map fun c => lineT (("coupler" : Str) :: (t3l c).map num))).map D.str))) := frB.setHi (by omega)
  have hx3 : (M2.set B (.lst (([lineT ["manuals", num many], lineT ["chain", ch], lineT ["octave", num oct]] ++ (cs.map fun c => lineT (("coupler" : Str) :: (t3l c).map num))).map D.str)))[B]? = some (.lst (([lineT ["manuals", num many], lineT ["chain", ch], lineT ["octave", num oct]] ++ (cs.map fun c => lineT (("coupler" : Str) :: (t3l c).map num))).map D.str)) := set_get hx2
  have og3 : OgM (M2.set B (.lst (([lineT ["manuals", num many], lineT ["chain", ch], lineT ["octave", num oct]] ++ (cs.map fun c => lineT (("coupler" : Str) :: (t3l c).map num))).map D.str))) g many cs rs ch oct := by
    unfold OgM
    rw [List.getElem?_set_ne (by omega)]
    exact og2
  generalize (M2.set B (.lst (([lineT ["manuals", num many], lineT ["chain", ch], lineT ["octave", num oct]] ++ (cs.map fun c => lineT (("coupler" : Str) :: (t3l c).map num))).map D.str))) = M3 at fr3 hx3 og3 ⊢
  -- the stops
  rw [wS_seq, wS_expr, wX_meth]
  simp only [wX_var, List.getElem?_cons_succ, List.getElem?_cons_zero]
  rw [if_pos (isL hx3).1, wX_acons]
  refine wX_mono (lines_of (k := "stop") (i := 2) (as := rs) (fld_at og3 rfl) (by omega) fun c hc M' => line_star (by simp [WD]) (fun _ => rfl) (fun _ _ => rfl) (tr_s hm (p.rv c hc))) ?_
  rintro d M4 ⟨n4, rfl, hn4, hm4, fr4⟩
  have hx4 := fr4.get hx3 id
  rw [wX_anil, g_ext hx4 hm4 (by simp; omega), wO_some, ← List.map_append, ← rowsT_e]
  rw [wS_ret, wX_join, wX_c]
  simp only [wX_var, List.getElem?_cons_succ, List.getElem?_cons_zero]
  rw [show Str.ofString "\n" = nl from rfl, joinQ_at (set_get hx4) (rowsT_jn p)]
  exact ⟨rfl, (fr3.trans fr4).setHi (by omega)⟩
end
end Wk
end
section
set_option maxRecDepth 100000
set_option maxHeartbeats 8000000
set_option autoImplicit false
namespace Wk
open PySem PySem.Spec L2 Mi TL
local macro_rules | `(tactic| walk_at "tx") => `(tactic| simp only [wX_fn, wX_star, wS_asg, wS_par, wX_fldI, wX_join, wX_split, wX_fmt, wX_js0, wX_js1, wS_augI, wX_metI, wX_prpI, wX_lenI, wX_make, wS_fldI, setAll, wS_seq, wS_set, wS_ret, wS_expr, wS_pass, wS_if, wS_put, wX_var, wX_c, wX_2, wX_3, wX_anil, wX_acons, wX_tup, wX_lst, wX_dict, wX_b, wX_meth, wX_call, wX_if, wX_t1, wX_and2, wX_or2, wX_not1, wX_true, wX_neg, wX_oN, wX_oS, wX_not, wX_and, wX_or, wX_is, wX_cut, wX_fld, wX_ok, wX_no, wO_some, wO_none, wS_nx, wS_rt, List.map_cons, List.map_nil, List.cons_append, List.nil_append, List.append_nil, List.replicate_succ, List.replicate_zero, List.set_cons_zero, List.set_cons_succ, List.getElem?_cons_zero, List.getElem?_cons_succ, List.getElem?_nil, List.length_cons, List.length_nil, Nat.reduceSub, Nat.reduceAdd, Nat.zero_add, Nat.add_zero, if_true, if_false, ite_true, ite_false, reduceIte, Bool.false_eq_true, Bool.not_true, Bool.not_false, ← Nat.add_assoc, reduceCtorEq, List.length_append])
theorem mul_at {n : Int} (h0 : 0 ≤ n) (h1 : n ≤ 1000) (M : Hs) : gMulS (.str sp) (.int n) M = some (.str (Txt.mul sp n), M) ∧ tl (Txt.mul sp n) = List.replicate n.toNat 32 := by
  constructor
  · unfold gMulS
    dsimp only
    rw [if_pos ⟨h1, h0, sp_len.1⟩]
  · have := tl_mul n.toNat
    rw [Int.toNat_of_nonneg h0] at this
    exact this
theorem g_addS {x y : Str} (h : x.length + y.length ≤ sizeLine) (M : Hs) : gAdd (.str x) (.str y) M = some (.str (x ++ y), M) := by
  unfold gAdd
  dsimp only
  rw [if_pos h]
theorem frNo {S : Nat → Prop} {M M' : Hs} (f : Fr No M M') : Fr S M M' := f.imp fun _ _ h => h.elim
section
variable {M : Hs}
theorem loose_w {ws : List Str} (hne : ws ≠ []) (hw : ∀ w ∈ ws, w ∈ WD) (hl : ws.length ≤ 4) (hd : Hd M) (hM : 2 ≤ M.length) : wX (f__law_loose [.ref 1, .str (lineT ws)] M) fun d M' => ∃ x, d = .str x ∧ Lo x ws ∧ x.length ≤ 45 ∧ Hd M' ∧ Fr H2 M M' := by
  have hsz := size1
  have hz : sizeLine = 16777216 := rfl
  have ln := @law_next_w
  unfold f__law_loose
  generalize f__law_next = F0 at ln ⊢
  rw [wX_fn, wS_seq, wS_set, wX_2, wX_c, wX_call]
  simp only [wX_acons, wX_anil, wX_c, wX_var, List.map_cons, List.map_nil, List.cons_append, List.nil_append, List.replicate_succ, List.replicate_zero, Nat.reduceSub, List.getElem?_cons_zero, List.length_cons, List.length_nil, Nat.zero_add, Nat.reduceAdd, if_true]
  refine wX_mono (ln hd 3 (by decide) (by decide)) ?_
  rintro d M1 ⟨r, rfl, hr0, hr1, hd1, fr1⟩
  have e1 := mul_at hr0 (show r ≤ 1000 by omega) M1
  rw [show Str.ofString " " = sp from rfl, e1.1, wO_some]
  have lo1 : Lo (Txt.mul sp r) [] := Lo.blanks r.toNat Lo.zero (by rw [e1.2]; rfl)
  have len1 : (Txt.mul sp r).length ≤ 2 := by rw [len_tl, e1.2, List.length_replicate]; omega
  generalize (Txt.mul sp r) = x1 at lo1 len1 ⊢
  simp only [List.set_cons_succ, List.set_cons_zero]
  have hsp := tight hne hw
  have hll := line_len hw hl
  have S : Src (ySeq (xSplit (xVar 1) (xC (.str sp)))) [some (.ref 1), some (.str (lineT ws)), some (.str x1), none] M1 (ws.map D.str) (M1 ++ [MO.lst (ws.map D.str)]) fun M' => hSeq M' (.ref M1.length) = some (ws.map D.str) := by
    have hx : wX (xSplit (xVar 1) (xC (.str sp)) [some (.ref 1), some (.str (lineT ws)), some (.str x1), none] M1) fun d M' => d = .ref M1.length ∧ M' = M1 ++ [MO.lst (ws.map D.str)] := by
      rw [wX_split, wX_var]
      simp only [List.getElem?_cons_succ, List.getElem?_cons_zero]
      rw [wX_c, splitQ_at (by decide +kernel) (by omega)]
      unfold lineT
      rw [hsp.1]
      exact ⟨rfl, rfl⟩
    obtain ⟨d, M', e, h1, h2⟩ := wX_get hx
    subst h1 h2
    exact src_d e (s_ref get_push)
  have hn1 : 2 ≤ M1.length := by have := fr1.1; omega
  rw [wS_seq]
  refine for_list D.str S (fun dn ζ M' => (∃ y a, ζ = [some (.ref 1), some (.str (lineT ws)), some (.str y), a] ∧ Lo y dn ∧ y.length ≤ 2 + 10 * dn.length) ∧ Hd M' ∧ Fr H2 M M' ∧ M'[M1.length]? = some (.lst (ws.map D.str))) ⟨⟨x1, _, rfl, lo1, len1⟩, hd1.fr (Fr.push _ _), fr1.trans (frNo (Fr.push _ _)), get_push⟩ (fun dn ζ M' h => s_ref h.2.2.2) ?_ ?_
  · rintro dn w rest ζ M2 hdn ⟨⟨y, a, rfl, lo, hy⟩, hd2, fr2, hc⟩
    refine ⟨_, bp_n, ?_⟩
    have hwm : w ∈ WD := hw w (by rw [hdn]; simp)
    have hwl := wd_len hwm
    have hdl : dn.length < 4 := by
      have := congrArg List.length hdn
      rw [List.length_append, List.length_cons] at this
      omega
    simp only [setAll, List.set_cons_succ, List.set_cons_zero]
    rw [wS_set, wX_2, wX_2]
    simp only [wX_var, List.getElem?_cons_succ, List.getElem?_cons_zero]
    rw [g_addS (by omega), wO_some, wX_2, wX_c, wX_2, wX_c, wX_call]
    simp only [wX_acons, wX_anil, wX_c, wX_var, List.getElem?_cons_zero, List.length_cons, List.length_nil, Nat.zero_add, Nat.reduceAdd, if_true]
    refine wX_mono (ln hd2 3 (by decide) (by decide)) ?_
    rintro d M3 ⟨q, rfl, hq0, hq1, hd3, fr3⟩
    have e2 := mul_at (show 0 ≤ 1 + q by omega) (show 1 + q ≤ 1000 by omega) M3
    have hm1 : (Txt.mul sp (1 + q)).length = q.toNat + 1 := by rw [len_tl, e2.2, List.length_replicate]; omega
    have hyw : (y ++ w).length = y.length + w.length := by rw [len_tl, tl_append, List.length_append]; rfl
    rw [g_add, wO_some, e2.1, wO_some, g_addS (by omega), wO_some]
    have lo2 : Lo ⟨(tl y ++ tl w ++ [32]).toArray⟩ (dn ++ [w]) := lo.word hwm (tl_mk _)
    have lo3 : Lo (y ++ w ++ Txt.mul sp (1 + q)) (dn ++ [w]) := Lo.blanks q.toNat lo2 (by
      rw [tl_mk (tl y ++ tl w ++ [32]), tl_append, tl_append, e2.2, show (1 + q).toNat = q.toNat + 1 by omega, List.replicate_succ, List.append_assoc (tl y ++ tl w)]
      rfl)
    refine ⟨⟨_, _, rfl, lo3, ?_⟩, hd3, fr2.trans fr3, fr3.get hc (by unfold H2; omega)⟩
    have : (y ++ w ++ Txt.mul sp (1 + q)).length = (y ++ w).length + (Txt.mul sp (1 + q)).length := by rw [len_tl, tl_append, List.length_append]; rfl
    rw [List.length_append, List.length_singleton]
    omega
  · rintro ζ M2 ⟨⟨y, a, rfl, lo, hy⟩, hd2, fr2, hc⟩
    rw [wS_ret]
    simp only [wX_var, List.getElem?_cons_succ, List.getElem?_cons_zero]
    exact ⟨y, rfl, lo, by omega, hd2, fr2⟩
end
end Wk
end
section
set_option maxRecDepth 100000
set_option maxHeartbeats 8000000
set_option autoImplicit false
namespace Wk
open PySem PySem.Spec L2 Mi TL
local macro_rules | `(tactic| walk_at "tx") => `(tactic| simp only [wX_fn, wX_star, wS_asg, wS_par, wX_fldI, wX_join, wX_split, wX_fmt, wX_js0, wX_js1, wS_augI, wX_metI, wX_prpI, wX_lenI, wX_make, wS_fldI, setAll, wS_seq, wS_set, wS_ret, wS_expr, wS_pass, wS_if, wS_put, wX_var, wX_c, wX_2, wX_3, wX_anil, wX_acons, wX_tup, wX_lst, wX_dict, wX_b, wX_meth, wX_call, wX_if, wX_t1, wX_and2, wX_or2, wX_not1, wX_true, wX_neg, wX_oN, wX_oS, wX_not, wX_and, wX_or, wX_is, wX_cut, wX_fld, wX_ok, wX_no, wO_some, wO_none, wS_nx, wS_rt, List.map_cons, List.map_nil, List.cons_append, List.nil_append, List.append_nil, List.replicate_succ, List.replicate_zero, List.set_cons_zero, List.set_cons_succ, List.getElem?_cons_zero, List.getElem?_cons_succ, List.getElem?_nil, List.length_cons, List.length_nil, Nat.reduceSub, Nat.reduceAdd, Nat.zero_add, Nat.add_zero, if_true, if_false, ite_true, ite_false, reduceIte, Bool.false_eq_true, Bool.not_true, Bool.not_false, ← Nat.add_assoc, reduceCtorEq, List.length_append])
theorem lc_relS {α : Type} {S : Nat → Prop} {ζ : Sl} {M M1 : Hs} {s : MY} {vs : List Nat} {p : Pt} {f : MX} (e : α → D) {as : List α} {K : Hs → Prop} (Sr : Src s ζ M (as.map e) M1 K) (hM : Fr S M M1) (hS : ¬ S M1.length) (I : List α → List D → Hs → Prop) (hk : ∀ M', Fr S M1 M' → K M') (hl : as.length < sizeLine)
    (h0 : I [] [] (M1 ++ [.lst []])) (stab : ∀ dn ds M' xs, I dn ds M' → I dn ds (M'.set M1.length (.lst xs)))
    (go : ∀ dn a rest ds M', as = dn ++ a :: rest → Fr S M1 M' → M1.length < M'.length → I dn ds M' → ∃ l, bindP p (e a) = some l ∧ wX (f (setAll (wipeD ζ vs) l) M') fun d M2 => Fr S M' M2 ∧ I (dn ++ [a]) (ds ++ [d]) M2) :
    wX (xLc s vs p tTrue f ζ M) fun d M' => ∃ ds, d = .ref M1.length ∧ M'[M1.length]? = some (.lst ds) ∧ ds.length = as.length ∧ I as ds M' ∧ Fr S M M' := by
  obtain ⟨yd, h1, h2, h3⟩ := Sr
  rw [wX_lc, h1, wX_ok]
  refine wX_mono (wX_lcN (Q := fun M' => ∃ ds, Fr S M1 M' ∧ M'[M1.length]? = some (.lst ds) ∧ ds.length = as.length ∧ I as ds M') (fun i M' => ∃ ds, Fr S M1 M' ∧ M'[M1.length]? = some (.lst ds) ∧ ds.length = i ∧ I (as.take i) ds M') as.length (fun i M' hi ⟨ds, h4, h5, h6, h7⟩ => ?_) (fun M' ⟨ds, h4, h5, h6, h7⟩ => ?_) yd.fuel 0 (M1 ++ [.lst []]) (by simpa using h2) (Nat.zero_le _) ⟨[], Fr.push _ _, get_push, rfl, by rw [List.take_zero]; exact h0⟩) fun _ M2 ⟨ds, h4, h5, h6, h7⟩ => ⟨ds, rfl, h5, h6, h7, hM.trans h4⟩
  · obtain ⟨l, h8, h9⟩ := go (as.take i) as[i] (as.drop (i + 1)) ds M' (by simp) h4 (lt_of_get h5) h7
    refine ⟨e as[i], l, ?_, h8, ?_⟩
    · rw [h3 M' (hk _ h4) i]
      simp [hi]
    · obtain ⟨d, M2, e2, f2, h10⟩ := wX_get h9
      unfold lcB tTrue
      dsimp only
      rw [e2]
      dsimp only
      have h11 := f2.get h5 hS
      unfold lput
      rw [hLst_at h11]
      dsimp only
      rw [if_pos (by omega)]
      refine ⟨ds ++ [d], (h4.trans f2).setHi (Nat.le_refl _), set_get h11, by rw [List.length_append, List.length_singleton]; omega, ?_⟩
      rw [take_sn hi]
      exact stab _ _ _ _ h10
  · refine ⟨?_, ds, h4, h5, h6, ?_⟩
    · rw [h3 M' (hk _ h4)]
      simp
    · rw [List.take_length] at h7
      exact h7
section
variable {M : Hs} {many : Int} {cs rs : List Tr3} {ch : Str} {oct : Int}
/-- the text, loosely -/
theorem loose_text {ys : List Str} {wss : List (List Str)} (hn : wss ≠ []) (hl : ys.length = wss.length) (h : ∀ (i : Nat) (y : Str) (ws : List Str), ys[i]? = some y → wss[i]? = some ws → Lo y ws ∧ y.length ≤ 45) : Txt.split (Txt.join nl ys) nl = ys ∧ ∀ y ∈ ys, y.length ≤ 45 := by
  have key : ∀ y ∈ ys, ∃ ws, Lo y ws ∧ y.length ≤ 45 := fun y hy => by
    obtain ⟨i, hi⟩ := List.mem_iff_getElem?.mp hy
    have hlt := (List.getElem?_eq_some_iff.mp hi).1
    exact ⟨_, h i y (wss[i]'(by omega)) hi (List.getElem?_eq_getElem _)⟩
  refine ⟨split_join tl_nl (by decide +kernel) (fun e => hn ?_) fun y hy => ?_, fun y hy => (key y hy).choose_spec.2⟩
  · rw [e] at hl
    exact List.length_eq_zero_iff.mp hl.symm
  · obtain ⟨ws, h1, _⟩ := key y hy
    exact h1.split.2
theorem law_w (ns : List Int) (hl : ns.length ≤ 63) : wX (f_law [.klst (ns.map D.int)] []) fun d _ => d = .bl true := by
  have hsz := size1
  have hz : sizeLine = 16777216 := rfl
  have mw := law_mix_w ns hl 10
  have ow : ∀ M, Hd M → 2 ≤ M.length → _ := fun M hd hM => law_organ_w (M := M) hd hM 5 4 3 (by decide) (by decide) (by decide) (by decide) (by decide)
  have bw := @built_w
  have ww := @write_w
  have rw_ := @read_w
  have lw := @loose_w
  have eq := @eq_own
  unfold f_law
  generalize f__law_mix = F1 at mw ⊢
  generalize f__law_organ = F2 at ow ⊢
  generalize f__law_built = F3 at bw ⊢
  generalize f_write_organ = F4 at ww ⊢
  generalize f_read_organ = F5 at rw_ ⊢
  generalize f__law_loose = F6 at lw ⊢
  generalize f_Organ___eq__ = F7 at eq ⊢
  rw [wX_fn]
  simp only [List.length_cons, List.length_nil, Nat.zero_add, Nat.reduceSub, List.map_cons, List.map_nil, List.replicate_succ, List.replicate_zero, List.cons_append, List.nil_append, if_true]
  rw [wS_seq, wS_set, wX_call, wX_acons, wX_var]
  simp only [List.getElem?_cons_zero, wX_acons, wX_anil, wX_c, List.length_cons, List.length_nil, Nat.zero_add, Nat.reduceAdd, if_true]
  refine wX_mono mw ?_
  rintro d M0 ⟨rfl, hd0, hM0⟩
  simp only [List.set_cons_succ, List.set_cons_zero]
  rw [wS_seq, wS_set, wX_call]
  simp only [List.getElem?_cons_zero, List.getElem?_cons_succ, wX_var, wX_acons, wX_anil, wX_c, List.length_cons, List.length_nil, Nat.zero_add, Nat.reduceAdd, if_true]
  refine wX_mono (ow M0 hd0 (by omega)) ?_
  rintro d M1 ⟨t, many, cs, rs, ch, oct, rfl, ht2, tt1, p, hd1, fr1⟩
  simp only [List.set_cons_succ, List.set_cons_zero]
  rw [wS_seq, wS_set, wX_call]
  simp only [List.getElem?_cons_zero, List.getElem?_cons_succ, wX_var, wX_acons, wX_anil, wX_c, List.length_cons, List.length_nil, Nat.zero_add, Nat.reduceAdd, if_true]
  refine wX_mono (bw tt1 p) ?_
  rintro d M2 ⟨g, rfl, hg, og2, fr2⟩
  simp only [List.set_cons_succ, List.set_cons_zero]
  have hlt := lt_of_get tt1
  have hlt2 := lt_of_get og2
  have hm := p.m
  have ho : -2 ≤ oct ∧ oct ≤ 3 := by have := p.o; omega
  have hm2 : -2 ≤ many ∧ many ≤ 3 := by omega
  have hcl := p.cl
  have hrl := p.r4
  have tt2 : Tt M2 t many cs rs ch oct := fr2.get tt1 id
  have hd2 := hd1.fr fr2
  have hg2 : 2 ≤ g := by omega
  have ea : ∀ {M : Hs}, Tt M t many cs rs ch oct → gIxA (.ref t) (.int 0) M = some (.int many, M) ∧ gIxA (.ref t) (.int 1) M = some (.tup (cs.map trD), M) ∧ gIxA (.ref t) (.int 2) M = some (.tup (rs.map trD), M) ∧ gIxA (.ref t) (.int 3) M = some (.str ch, M) ∧ gIxA (.ref t) (.int 4) M = some (.int oct, M) := fun {M} tt =>
    ⟨g_ixL (i := 0) tt rfl, g_ixL (i := 1) tt rfl, g_ixL (i := 2) tt rfl, g_ixL (i := 3) tt rfl, g_ixL (i := 4) tt rfl⟩
  -- the rows
  have t1 := (two_lines (num many)).1
  have t2 := (two_lines ch).2.1
  have t3 := (two_lines (num oct)).2.2
  have hcl2 : ch.length ≤ 7 := by rcases p.c with rfl | rfl <;> decide +kernel
  have nl1 := num_len hm2
  have nl2 := num_len ho
  have la : (Str.ofString "manuals ").length ≤ 10 ∧ (Str.ofString "chain ").length ≤ 10 ∧ (Str.ofString "octave ").length ≤ 10 := by decide +kernel
  rw [wS_seq, wS_set, wX_lst]
  obtain ⟨e0, e1, e2, e3, e4⟩ := ea tt2
  simp only [wX_acons, wX_anil, wX_2, wX_b, wX_c, wX_var, List.getElem?_cons_zero, List.getElem?_cons_succ, e0, e3, e4, wO_some, g_str hm2, g_str ho]
  rw [g_addS (by omega), wO_some, e3, wO_some, g_addS (by omega), wO_some, e4, wO_some, g_str ho, wO_some, g_addS (by omega), wO_some, t1, t2, t3, if_pos (show [D.str (lineT ["manuals", num many]), D.str (lineT ["chain", ch]), D.str (lineT ["octave", num oct])].length ≤ sizeLine from by show 3 ≤ sizeLine; omega)]
  have ea3 : [D.str (lineT ["manuals", num many]), D.str (lineT ["chain", ch]), D.str (lineT ["octave", num oct])] = [lineT ["manuals", num many], lineT ["chain", ch], lineT ["octave", num oct]].map D.str := rfl
  rw [ea3]
  have fr3 : Fr No M2 (M2 ++ [MO.lst ([lineT ["manuals", num many], lineT ["chain", ch], lineT ["octave", num oct]].map D.str)]) := Fr.push _ _
  have hx3 : (M2 ++ [MO.lst ([lineT ["manuals", num many], lineT ["chain", ch], lineT ["octave", num oct]].map D.str)])[M2.length]? = some (.lst ([lineT ["manuals", num many], lineT ["chain", ch], lineT ["octave", num oct]].map D.str)) := get_push
  generalize (M2 ++ [MO.lst ([lineT ["manuals", num many], lineT ["chain", ch], lineT ["octave", num oct]].map D.str)]) = M3 at fr3 hx3 ⊢
  generalize M2.length = n3 at hx3 ⊢
  simp only [List.set_cons_succ, List.set_cons_zero]
  have tt3 : Tt M3 t many cs rs ch oct := fr3.get tt2 id
  -- couplers
  rw [wS_seq, wS_set, wX_2, wX_var]
  simp only [List.getElem?_cons_zero, List.getElem?_cons_succ]
  have ec : x2 gIxA (xVar 2) (xC (.int 1)) [some (.klst (ns.map D.int)), some (.ref 1), some (.ref t), some (.ref g), some (.ref n3), none, none, none, none] M3 = .ok (.tup (cs.map trD)) M3 := by
    obtain ⟨d, M', e, h1, h2⟩ := wX_get (Q := fun d M' => d = .tup (cs.map trD) ∧ M' = M3) (show wX (x2 gIxA (xVar 2) (xC (.int 1)) [some (.klst (ns.map D.int)), some (.ref 1), some (.ref t), some (.ref g), some (.ref n3), none, none, none, none] M3) _ by
      rw [wX_2, wX_var]
      simp only [List.getElem?_cons_zero, List.getElem?_cons_succ]
      rw [wX_c, (ea tt3).2.1]
      exact ⟨rfl, rfl⟩)
    rw [e, h1, h2]
  refine wX_mono (lines_of (k := "coupler") (i := 6) (as := cs) ec (by omega) fun c hc M' => line_add (by simp [WD]) (fun _ => rfl) (fun _ _ => rfl) (tr_c hm (p.cv c hc))) ?_
  rintro d M4 ⟨n4, rfl, hn4, hm4, fr4⟩
  have hx4 := fr4.get hx3 id
  rw [g_catL hx4 hm4 (by simp; omega), wO_some, ← List.map_append]
  have fr5 : Fr No M3 (M4 ++ [MO.lst (([lineT ["manuals", num many], lineT ["chain", ch], lineT ["octave", num oct]] ++ (cs.map fun c => lineT (("coupler" : Str) :: (t3l c).map num))).map D.str)]) := fr4.pushHi
  have hx5 : (M4 ++ [MO.lst (([lineT ["manuals", num many], lineT ["chain", ch], lineT ["octave", num oct]] ++ (cs.map fun c => lineT (("coupler" : Str) :: (t3l c).map num))).map D.str)])[M4.length]? = some (.lst (([lineT ["manuals", num many], lineT ["chain", ch], lineT ["octave", num oct]] ++ (cs.map fun c => lineT (("coupler" : Str) :: (t3l c).map num))).map D.str)) := get_push
  generalize (M4 ++ [MO.lst (([lineT ["manuals", num many], lineT ["chain", ch], lineT ["octave", num oct]] ++ (cs.map fun c => lineT (("coupler" : Str) :: (t3l c).map num))).map D.str)]) = M5 at fr5 hx5 ⊢
  generalize M4.length = n5 at hx5 ⊢
  simp only [List.set_cons_succ, List.set_cons_zero]
  have tt5 : Tt M5 t many cs rs ch oct := fr5.get tt3 id
  -- stops
  rw [wS_seq, wS_set, wX_2, wX_var]
  simp only [List.getElem?_cons_zero, List.getElem?_cons_succ]
  have es : x2 gIxA (xVar 2) (xC (.int 2)) [some (.klst (ns.map D.int)), some (.ref 1), some (.ref t), some (.ref g), some (.ref n5), none, none, none, none] M5 = .ok (.tup (rs.map trD)) M5 := by
    obtain ⟨d, M', e, h1, h2⟩ := wX_get (Q := fun d M' => d = .tup (rs.map trD) ∧ M' = M5) (show wX (x2 gIxA (xVar 2) (xC (.int 2)) [some (.klst (ns.map D.int)), some (.ref 1), some (.ref t), some (.ref g), some (.ref n5), none, none, none, none] M5) _ by
      rw [wX_2, wX_var]
      simp only [List.getElem?_cons_zero, List.getElem?_cons_succ]
      rw [wX_c, (ea tt5).2.2.1]
      exact ⟨rfl, rfl⟩)
    rw [e, h1, h2]
  refine wX_mono (lines_of (k := "stop") (i := 6) (as := rs) es (by omega) fun c hc M' => line_add (by simp [WD]) (fun _ => rfl) (fun _ _ => rfl) (tr_s hm (p.rv c hc))) ?_
  rintro d M6 ⟨n6, rfl, hn6, hm6, fr6⟩
  have hx6 := fr6.get hx5 id
  rw [g_catL hx6 hm6 (by simp; omega), wO_some, ← List.map_append, ← rowsT_e]
  have fr7 : Fr No M5 (M6 ++ [MO.lst ((rowsT many cs rs ch oct).map D.str)]) := fr6.pushHi
  have hx7 : (M6 ++ [MO.lst ((rowsT many cs rs ch oct).map D.str)])[M6.length]? = some (.lst ((rowsT many cs rs ch oct).map D.str)) := get_push
  generalize (M6 ++ [MO.lst ((rowsT many cs rs ch oct).map D.str)]) = M7 at fr7 hx7 ⊢
  have hn72 : 2 ≤ M6.length := by
    have := fr3.1
    have := fr5.1
    have := fr6.1
    omega
  generalize M6.length = n7 at hx7 hn72 ⊢
  simp only [List.set_cons_succ, List.set_cons_zero]
  have fr27 := (fr3.trans fr5).trans fr7
  have og7 : OgM M7 g many cs rs ch oct := fr27.get og2 id
  have hd7 := hd2.fr fr27
  have fr27l := fr27.1
  have hn7 := lt_of_get hx7
  -- what is written; what is read
  rw [wS_seq, wS_if]
  have c1 : wX (tOr2 (tB1 (x2 gNe (xCall 1 F4 (aCons (xVar 3) (aNil))) (xJoin (xC (.str "\n")) (xVar 4)))) (tNot1 (tB1 (x2 (gEqC 0 F7) (xCall 1 F5 (aCons (xCall 1 F4 (aCons (xVar 3) (aNil))) (aNil))) (xVar 3)))) [some (.klst (ns.map D.int)), some (.ref 1), some (.ref t), some (.ref g), some (.ref n7), none, none, none, none] M7) fun c M' => c = false ∧ Fr No M7 M' := by
    rw [wX_or2, wX_t1, wX_2, wX_call]
    simp only [wX_acons, wX_anil, wX_var, List.getElem?_cons_zero, List.getElem?_cons_succ, List.length_cons, List.length_nil, Nat.zero_add, Nat.reduceAdd, if_true]
    refine wX_mono (ww p og7) ?_
    rintro d M8 ⟨rfl, fr8⟩
    rw [wX_join, wX_c]
    simp only [wX_var, List.getElem?_cons_zero, List.getElem?_cons_succ]
    rw [show Str.ofString "\n" = nl from rfl, joinQ_at (fr8.get hx7 id) (rowsT_jn p)]
    have og8 : OgM M8 g many cs rs ch oct := fr8.get og7 id
    rw [show Txt.join nl (rowsT many cs rs ch oct) = textT many cs rs ch oct from rfl, g_neS (textT_sh p) (textT_sh p), wO_some]
    simp only [decide_true, Bool.not_true, Bool.false_eq_true, if_false]
    rw [wX_not1, wX_t1, wX_2, wX_call, wX_acons, wX_call]
    simp only [wX_acons, wX_anil, wX_var, List.getElem?_cons_zero, List.getElem?_cons_succ, List.length_cons, List.length_nil, Nat.zero_add, Nat.reduceAdd, if_true]
    refine wX_mono (ww p og8) ?_
    rintro d M9 ⟨rfl, fr9⟩
    have h3 := textT_len p
    refine wX_mono (rw_ p (textT_split p) (by unfold rowsT; rw [List.length_map]) (textT_lk p) (by omega)) ?_
    rintro d M10 ⟨g', rfl, hg', og10, fr10⟩
    rw [eq p.c og10 (fr10.get (fr9.get og8 id) id), wO_some]
    exact ⟨rfl, (fr8.trans fr9).trans fr10⟩
  refine wX_mono c1 ?_
  rintro c M8 ⟨rfl, fr8⟩
  clear c1
  rw [if_neg Bool.false_ne_true, wS_pass]
  have og8 : OgM M8 g many cs rs ch oct := fr8.get og7 id
  have hd8 := hd7.fr fr8
  have hx8 := fr8.get hx7 id
  have hM8 : 2 ≤ M8.length := by have := fr8.1; omega
  -- loosely
  rw [wS_seq, wS_set, wX_join, wX_c]
  dsimp only
  refine wX_mono (lc_relS (S := H2) (α := List Str) (as := rowsW many cs rs ch oct) (fun ws => D.str (lineT ws)) (M1 := M8) (K := fun M' => hSeq M' (.ref n7) = some ((rowsT many cs rs ch oct).map D.str)) ?_ (Fr.refl _ _) (by unfold H2; omega) (fun dn ds M' => Hd M' ∧ ∃ ys : List Str, ds = ys.map D.str ∧ ys.length = dn.length ∧ ∀ (i : Nat) (y : Str) (ws : List Str), ys[i]? = some y → dn[i]? = some ws → Lo y ws ∧ y.length ≤ 45) (fun M' f => s_ref (f.get hx8 (by unfold H2; omega))) (by rw [rows_len]; omega) ⟨hd8.fr (Fr.push _ _), [], rfl, rfl, fun _ _ _ h => (by simp at h)⟩ ?_ ?_) ?_
  · have := src_d (f := xVar 4) (ζ := [some (.klst (ns.map D.int)), some (.ref 1), some (.ref t), some (.ref g), some (.ref n7), none, none, none, none]) (M := M8) (M1 := M8) (d := .ref n7) (xs := (rowsT many cs rs ch oct).map D.str) rfl (s_ref hx8)
    have e : (rowsW many cs rs ch oct).map (fun ws => D.str (lineT ws)) = (rowsT many cs rs ch oct).map D.str := by unfold rowsT; rw [List.map_map]; rfl
    rw [e]
    exact this
  · rintro dn ds M' xs ⟨h, ys, h1, h2, h3⟩
    refine ⟨?_, ys, h1, h2, h3⟩
    obtain ⟨s, i, zs, q1, q2, q3⟩ := h
    exact ⟨s, i, zs, by rw [List.getElem?_set_ne (by omega)]; exact q1, by rw [List.getElem?_set_ne (by omega)]; exact q2, q3⟩
  · rintro dn ws rest ds M' hdn fr hlt ⟨hd', ys, rfl, hyl, hys⟩
    obtain ⟨w1, w2, w3⟩ := rows_wd p ws (by rw [hdn]; simp)
    refine ⟨_, bp_n, ?_⟩
    simp only [wipeD, setAll, List.set_cons_succ, List.set_cons_zero]
    rw [wX_call]
    simp only [wX_acons, wX_anil, wX_var, List.getElem?_cons_zero, List.getElem?_cons_succ, List.length_cons, List.length_nil, Nat.zero_add, Nat.reduceAdd, if_true]
    refine wX_mono (lw w1 w2 w3 hd' (by omega)) ?_
    rintro d M2' ⟨x, rfl, lo, lx, hd2', fr2'⟩
    refine ⟨fr2', hd2', ys ++ [x], by rw [List.map_append]; rfl, by simp [hyl], fun i y ws' h1 h2 => ?_⟩
    by_cases hi : i < ys.length
    · rw [List.getElem?_append_left hi] at h1
      rw [List.getElem?_append_left (by omega)] at h2
      exact hys i y ws' h1 h2
    · have hi2 : i = ys.length := by
        have := (List.getElem?_eq_some_iff.mp h1).1
        rw [List.length_append, List.length_singleton] at this
        omega
      subst hi2
      rw [List.getElem?_append_right (Nat.le_refl _), Nat.sub_self] at h1
      rw [hyl, List.getElem?_append_right (Nat.le_refl _), Nat.sub_self] at h2
      cases h1
      cases h2
      exact ⟨lo, lx⟩
  · rintro d M9 ⟨ds, rfl, hds, hdl, ⟨hd9, ys, rfl, hyl, hys⟩, fr9⟩
    have hrn := rowsT_n p
    have hrl : (rowsW many cs rs ch oct).length = (rowsT many cs rs ch oct).length := by unfold rowsT; rw [List.length_map]
    have hne : rowsW many cs rs ch oct ≠ [] := by unfold rowsW; simp
    obtain ⟨sp1, ly⟩ := loose_text hne hyl hys
    have hjl := join_len (y := nl) ly
    rw [sp_len.2] at hjl
    rw [show Str.ofString "\n" = nl from rfl, joinQ_at hds (jn_ok ly (by rw [sp_len.2]; omega))]
    simp only [List.set_cons_succ, List.set_cons_zero]
    have og9 : OgM M9 g many cs rs ch oct := fr9.get og8 (by unfold H2; omega)
    rw [wS_ret, wX_2, wX_call]
    simp only [wX_acons, wX_anil, wX_var, List.getElem?_cons_zero, List.getElem?_cons_succ, List.length_cons, List.length_nil, Nat.zero_add, Nat.reduceAdd, if_true]
    refine wX_mono (rw_ p sp1 hyl (fun i y ws h1 h2 => (hys i y ws h1 h2).1.lk (by have := (hys i y ws h1 h2).2; omega)) (by omega)) ?_
    rintro d M10 ⟨g', rfl, hg', og10, fr10⟩
    rw [eq p.c og10 (fr10.get og9 id), wO_some]
end
theorem pure (ns : List Int) (hl : ns.length ≤ 63) : ∃ M, f_law [.klst (ns.map .int)] [] = .ok (.bl true) M := by
  obtain ⟨d, M, e, h⟩ := wX_get (law_w ns hl)
  exact ⟨M, by rw [e, h]⟩
end Wk
end
section
set_option maxRecDepth 1000000
set_option maxHeartbeats 0
set_option autoImplicit false
namespace Wk
open PySem PySem.Spec PyProof.Rows L2 Mi
abbrev Rw : PySem.W.OpenRow := PySem.W.OpenLaw.row PySem.Challenge.rw_couplerreach_k10_organs_written
abbrev hk : PySem.W.Hook := hookM 6 fa fn
def ob (s : PySem.W.SharedT) : He.AlD := obsMG 6 fa fn (HandSHeadRun.getT s)
theorem ob_eq (s : PySem.W.SharedT) : ob s = hk.obs s.abs := obsMG_eq (HandSHeadRun.getT_eq s)
def loose0 : List Str := ["_wall", "OrganError", "InvalidManuals", "InvalidCoupler", "InvalidStop", "InvalidChain", "InvalidOctave", "InvalidText", "CHAINS", "OCTAVES", "MOST_COUPLERS", "MOST_STOPS", "MOST_RANK", "MOST_SHIFT", "is_integer", "is_coupler", "is_stop", "look_at_couplers", "look_at_stops", "Organ", "parts_of", "HEADS", "write_organ", "Line", "head_in", "coupler_in", "stop_in", "kinds_of", "read_organ", "_law_mix"]
def loose1 : List Str := ["_law_next", "_law_some", "_law_couplers", "_law_stops", "_law_organ", "_law_built", "_law_loose"]
abbrev loose : List Str := loose0 ++ loose1
theorem run (w : World) : HandSHeadRun.RunEq Rw (PySem.W.view Rw.prog [41]) hk ob 12000 loose w := by
  intro os
  kernel_rfl
/-- the pure law -/
def Pure : Prop := ∀ ns : List Int, ns.length ≤ 63 → ∃ M, f_law [.klst (ns.map .int)] [] = .ok (.bl true) M
theorem only_rel {K : PySem.W.Frag} {H : Hp} {a : Addr} {ns : List Int} (ho : Only H) (h : SqL K H a (ns.map V.int)) : RV K H [] (.klst (ns.map D.int)) (.ref a) := by
  refine .kls (SqK.of h fun e => ?_) (RVs.ints ns)
  rcases ho a with z | ⟨o, xs, z⟩
  · rw [z] at e; cases e
  · rw [z] at e; cases e
theorem law_ok (pure : Pure) {P : Program} {w : World} {K : PySem.W.Frag} {H : Hp} {a : Addr} {ns : List Int} (hl : ns.length ≤ 63) (ho : Only H) (h : SqL K H a (ns.map V.int)) : spF P w K (GmK K) 1 f_law [.ref a] H (fun v _ => v = .bl true) fun _ _ _ => False := by
  obtain ⟨M, e⟩ := pure ns hl
  refine ⟨[.klst (ns.map D.int)], [], [], ⟨rfl, .nil, fun n o b h => by simp at h⟩, .cons (only_rel ho h) .nil, rfl, ?_⟩
  rw [e]
  intro v H' μ' _ _ r
  cases r
  rfl
end Wk
open PySem PySem.W PySem.Calls PyProof.Rows
theorem holds_of (pure : Wk.Pure) : PySem.Challenge.rw_couplerreach_k10_organs_written.Holds := by
  w_on; o_law
  refine HandSHeadRun.head_any (r := OpenLaw.row PySem.Challenge.rw_couplerreach_k10_organs_written) (q := view (OpenLaw.row PySem.Challenge.rw_couplerreach_k10_organs_written).prog [41]) (H := Wk.hk) (ob := Wk.ob) (M := 12000) (loose := Wk.loose) (d := HandSHeadRun.topDef (OpenLaw.row PySem.Challenge.rw_couplerreach_k10_organs_written).prog 41) (kwd := []) Wk.ob_eq
    (by kernel_rfl) (fun s => by kernel_rfl) Wk.run (by kernel_rfl) (by kernel_rfl) (by kernel_rfl) (by rfl) (by first | assumption | decide +kernel) (by decide +kernel) ⟨rfl, rfl, rfl, rfl, rfl, by decide +kernel⟩ ?hw ?hc
  case hw => w_witness2
  case hc =>
    refine Mi.walk_at (l := PySem.Challenge.rw_couplerreach_k10_organs_written) (n := 63) (k := 8) (x := "_law_script") rfl (by decide) (by kernel_rfl) ⟨rfl, by decide, by decide⟩ ?T
    intro w mg fa h Y G hmg0
    obtain ⟨K, KX, c⟩ := Y
    have hmg : mg ("law" : PySem.Str) = some (.ref fa) := by
      have e : (HandSHeadRun.topDef (OpenLaw.row PySem.Challenge.rw_couplerreach_k10_organs_written).prog 41).name = ("law" : PySem.Str) := by kernel_rfl
      rw [← e]
      exact hmg0
    have FT : Wk.Fct K mg := ⟨⟨h, KX, G⟩, c⟩
    have e := hmg.symm.trans (FT.glo (x := "law") 74)
    cases e
    obtain ⟨fd, FD⟩ := FT.c.def_ 30 (d := Wk.d_law) rfl
    have b := L2.FunD.bindsA (ps := ["_law_script"]) FD fun _ _ _ _ _ _ us hl => match us, hl with | [_], _ => rfl
    refine ⟨K, fd, Mi.spF PySem.Challenge.rw_couplerreach_k10_organs_written.prog w K (Wk.GmK K) 1 Wk.f_law, KX, fun s v => b s [v] rfl, fun H a ns hl ho hS => Wk.law_ok pure hl ho hS, fun base => ?_⟩
    exact Wk.k_law (P := PySem.Challenge.rw_couplerreach_k10_organs_written.prog) (w := w) (base := base) FT FD
end
set_option maxRecDepth 100000 in
theorem PySem.Challenge.cw_couplerreach_k10_organs_written_holds : PySem.Challenge.rw_couplerreach_k10_organs_written.Holds := by
  exact holds_of fun ns hl => Wk.pure ns hl
