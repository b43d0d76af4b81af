import PyProof.Rows.All
import HandS.ForMost
import HandS.ForExc
import HandS.More
import HandS.Star
import HandS.CallSlots
import HandS.Slots
import HandS.SlotsOwn
import HandS.Property
import HandS.TryMany
import KE.KDictKeyed
import KE.KDictWalk
import KE.GoesDict
import HandS.Deep
import HandS.TupAny
import HandS.TupMul
import HandS.Conv
import HandS.Style
import HandS.IsInst
import HandS.WordsExc
import HandS.Comp
import HandS.Iter
import KE.GoesEnum
import HandS.Defaults
import HandS.Dict
import HandS.Small
import HandS.ExcInit
import HandS.ExcIs
import HandS.ExcField
import KE.KExcIs
import HandS.SortInts
import HandS.SortRule
import KE.KDictCopyH
import KE.KDictSum
import PyProof.TupleOfSeq
import HandS.HeadHook2
import HandS.HeadEnd
import HandS.Head2
import HandS.TupSets
import HandS.SetFor
import HandS.Strs
import HandS.DictComp
import KE.SortData
import OpenK.KOps
import KE.KUnpack
import KE.KDictDisplayH
import HandS.DictSubView
import PySem.Challenge.RW_couplerreach_k06_whole_silent_pipes
set_option Elab.async false
set_option linter.all false
section
set_option maxRecDepth 100000
set_option maxHeartbeats 2000000
set_option autoImplicit false
namespace Mi
open PySem PySem.Spec PyProof.Rows L2

inductive D where
  | non | bl (b : Bool) | int (i : Int) | str (x : Str) | tup (xs : List D) | ref (n : Nat) | klst (xs : List D) | exc (a : Addr) (d : Option Addr) (c : Nat) (ns : List Str) (fs : List D)

/-- what stands at a number -/
inductive MO where
  | lst (xs : List D)
  | ro (xs : List D)
  | dct (kvs : List (D × D))
  | fdc (kvs : List (D × D))
  | dks (kvs : List (Key × D))
  | ins (c : Nat) (fs : List D)
  | slo (c : Nat) (fs : List (Option D))

abbrev Sl := List (Option D)
abbrev Hs := List MO

inductive R (α : Type) where
  | ok (a : α) (M : Hs)
  | ex (c : Nat) (fs : List D) (M : Hs)
  | no

def R.bind {α β : Type} (r : R α) (k : α → Hs → R β) : R β := match r with
  | .ok a M => k a M
  | .ex c fs M => .ex c fs M
  | .no => .no

/-- a statement's end -/
inductive RS where
  | nx (ζ : Sl) (M : Hs)
  | rt (d : D) (M : Hs)
  | bk (ζ : Sl) (M : Hs)
  | ct (ζ : Sl) (M : Hs)
  | ex (c : Nat) (fs : List D) (ζ : Sl) (M : Hs)
  | no

abbrev MX := Sl → Hs → R D
abbrev MT := Sl → Hs → R Bool
abbrev MA := Sl → Hs → R (List D)
abbrev MS := Sl → Hs → RS
abbrev MF := List D → Hs → R D

/-- the classes of the program by numbers: where they stand, their fields' names -/
structure Gm where
  cA : Nat → Addr
  cN : Nat → List Str

/-- a list that nothing writes: the script, a list of the module -/
def SqK (K : PySem.W.Frag) (H : Hp) (a : Addr) (xs : List V) : Prop := (∃ o, H a = some (.frz o (.lst xs))) ∨
  ∃ (o : Obj) (its : Array Value) (n : Nat), K.lookup a = some o ∧ o.cls = .type "list" ∧ o.dict = none ∧ o.data = .seq its n ∧ its.size ≤ sizeLine ∧ Vals xs its.toList
theorem SqK.sq {K : PySem.W.Frag} {H : Hp} {a : Addr} {xs : List V} (h : SqK K H a xs) : SqL K H a xs := h.imp (fun h => .inr h) id
theorem SqK.of {K : PySem.W.Frag} {H : Hp} {a : Addr} {xs : List V} (h : SqL K H a xs) (n : H a ≠ some (.lst xs)) : SqK K H a xs := by
  rcases h with (h | h) | h
  · exact absurd h n
  · exact .inl h
  · exact .inr h
mutual
inductive RV (K : PySem.W.Frag) (H : Hp) (μ : List Addr) : D → V → Prop
  | non : RV K H μ .non .non
  | bl (b : Bool) : RV K H μ (.bl b) (.bl b)
  | int (i : Int) : RV K H μ (.int i) (.int i)
  | str (x : Str) : RV K H μ (.str x) (.str x)
  | tup {a : Addr} {vs : List V} {ds : List D} : SqT K H a vs → RVs K H μ ds vs → RV K H μ (.tup ds) (.ref a)
  | ref {n : Nat} {a : Addr} : μ[n]? = some a → RV K H μ (.ref n) (.ref a)
  | kls {a : Addr} {vs : List V} {ds : List D} : SqK K H a vs → RVs K H μ ds vs → RV K H μ (.klst ds) (.ref a)
  | excN {a : Addr} {c : Nat} {ns : List Str} : RV K H μ (.exc a none c ns []) (.ref a)
  | excD {a d : Addr} {c : Nat} {ns : List Str} {fs : List D} {vs : List V} : H d = some (.xd (ns.zip vs)) → fs.length = ns.length → RVs K H μ fs vs → RV K H μ (.exc a (some d) c ns fs) (.ref a)
inductive RVs (K : PySem.W.Frag) (H : Hp) (μ : List Addr) : List D → List V → Prop
  | nil : RVs K H μ [] []
  | cons {d : D} {v : V} {ds : List D} {vs : List V} : RV K H μ d v → RVs K H μ ds vs → RVs K H μ (d :: ds) (v :: vs)
end

/-- from (μ, H) to (μ', H') nothing that is by value has changed -/
structure Nx (μ : List Addr) (H : Hp) (μ' : List Addr) (H' : Hp) : Prop where
  pre : ∀ (n : Nat) (a : Addr), μ[n]? = some a → μ'[n]? = some a
  tup : ∀ a xs, Rd H a (.tup xs) → Rd H' a (.tup xs)
  frz : ∀ a o u, H a = some (.frz o u) → H' a = some (.frz o u)
  xd : ∀ a fs, H a = some (.xd fs) → H' a = some (.xd fs)
theorem Nx.refl (μ : List Addr) (H : Hp) : Nx μ H μ H := ⟨fun _ _ e => e, fun _ _ e => e, fun _ _ _ e => e, fun _ _ e => e⟩
theorem Nx.trans {μ μ1 μ2 : List Addr} {H H1 H2 : Hp} (x : Nx μ H μ1 H1) (y : Nx μ1 H1 μ2 H2) : Nx μ H μ2 H2 :=
  ⟨fun n a e => y.pre n a (x.pre n a e), fun a xs e => y.tup a xs (x.tup a xs e), fun a o u e => y.frz a o u (x.frz a o u e), fun a fs e => y.xd a fs (x.xd a fs e)⟩
section
variable {K : PySem.W.Frag} {H H' : Hp} {μ μ' : List Addr}
theorem Nx.sqT (x : Nx μ H μ' H') {a : Addr} {xs : List V} (h : SqT K H a xs) : SqT K H' a xs := h.imp (x.tup a xs) id
mutual
theorem RV.mono (x : Nx μ H μ' H') : ∀ {d : D} {v : V}, RV K H μ d v → RV K H' μ' d v
  | _, _, .non => .non
  | _, _, .bl b => .bl b
  | _, _, .int i => .int i
  | _, _, .str z => .str z
  | _, _, .tup h r => .tup (x.sqT h) (RVs.mono x r)
  | _, _, .ref e => .ref (x.pre _ _ e)
  | _, _, .kls h r => .kls (h.imp (fun ⟨o, h⟩ => ⟨o, x.frz _ _ _ h⟩) id) (RVs.mono x r)
  | _, _, .excN => .excN
  | _, _, .excD h l r => .excD (x.xd _ _ h) l (RVs.mono x r)
theorem RVs.mono (x : Nx μ H μ' H') : ∀ {ds : List D} {vs : List V}, RVs K H μ ds vs → RVs K H' μ' ds vs
  | _, _, .nil => .nil
  | _, _, .cons r t => .cons (RV.mono x r) (RVs.mono x t)
end
theorem RVs.length : ∀ {ds : List D} {vs : List V}, RVs K H μ ds vs → ds.length = vs.length
  | _, _, .nil => rfl
  | _, _, .cons _ t => congrArg (· + 1) (RVs.length t)
theorem RVs.get : ∀ {ds : List D} {vs : List V} {i : Nat} {d : D}, RVs K H μ ds vs → ds[i]? = some d → ∃ v, vs[i]? = some v ∧ RV K H μ d v
  | _, _, _, _, .nil, e => by simp at e
  | _, _, 0, _, .cons r _, e => by simp at e; subst e; exact ⟨_, rfl, r⟩
  | _, _, i + 1, d, .cons _ t, e => by
    obtain ⟨v, h1, h2⟩ := RVs.get (i := i) (d := d) t (by simpa using e)
    exact ⟨v, by simpa using h1, h2⟩
theorem RVs.got : ∀ {ds : List D} {vs : List V} {i : Nat} {v : V}, RVs K H μ ds vs → vs[i]? = some v → ∃ d, ds[i]? = some d ∧ RV K H μ d v
  | _, _, _, _, .nil, e => by simp at e
  | _, _, 0, _, .cons r _, e => by simp at e; subst e; exact ⟨_, rfl, r⟩
  | _, _, i + 1, d, .cons _ t, e => by
    obtain ⟨v, h1, h2⟩ := RVs.got (i := i) t (by simpa using e)
    exact ⟨v, by simpa using h1, h2⟩
theorem RVs.append : ∀ {ds es : List D} {vs us : List V}, RVs K H μ ds vs → RVs K H μ es us → RVs K H μ (ds ++ es) (vs ++ us)
  | _, _, _, _, .nil, s => s
  | _, _, _, _, .cons r t, s => .cons r (RVs.append t s)
theorem RVs.take : ∀ {ds : List D} {vs : List V} (n : Nat), RVs K H μ ds vs → RVs K H μ (ds.take n) (vs.take n)
  | _, _, 0, _ => .nil
  | _, _, _ + 1, .nil => .nil
  | _, _, n + 1, .cons r t => .cons r (RVs.take n t)
theorem RVs.drop : ∀ {ds : List D} {vs : List V} (n : Nat), RVs K H μ ds vs → RVs K H μ (ds.drop n) (vs.drop n)
  | _, _, 0, r => r
  | _, _, _ + 1, .nil => .nil
  | _, _, n + 1, .cons _ t => RVs.drop n t
theorem RVs.set {d : D} {v : V} (r : RV K H μ d v) : ∀ {ds : List D} {vs : List V} (i : Nat), RVs K H μ ds vs → RVs K H μ (ds.set i d) (vs.set i v)
  | _, _, _, .nil => .nil
  | _, _, 0, .cons _ t => .cons r t
  | _, _, i + 1, .cons q t => .cons q (RVs.set r i t)
theorem RVs.eraseIdx : ∀ {ds : List D} {vs : List V} (i : Nat), RVs K H μ ds vs → RVs K H μ (ds.eraseIdx i) (vs.eraseIdx i)
  | _, _, _, .nil => .nil
  | _, _, 0, .cons _ t => t
  | _, _, i + 1, .cons r t => .cons r (RVs.eraseIdx i t)
theorem RVs.dropLast {ds : List D} {vs : List V} (r : RVs K H μ ds vs) : RVs K H μ ds.dropLast vs.dropLast := by
  rw [List.dropLast_eq_take, List.dropLast_eq_take, r.length]
  exact r.take _
theorem RVs.reverse : ∀ {ds : List D} {vs : List V}, RVs K H μ ds vs → RVs K H μ ds.reverse vs.reverse
  | _, _, .nil => .nil
  | _, _, .cons r t => by
    rw [List.reverse_cons, List.reverse_cons]
    exact (RVs.reverse t).append (.cons r .nil)
theorem RVs.map {α : Type} (f : α → D) (g : α → V) (h : ∀ a, RV K H μ (f a) (g a)) : ∀ xs : List α, RVs K H μ (xs.map f) (xs.map g)
  | [] => .nil
  | a :: xs => .cons (h a) (RVs.map f g h xs)
theorem RVs.ints (ns : List Int) : RVs K H μ (ns.map D.int) (ns.map V.int) := RVs.map _ _ (fun i => .int i) ns
end

mutual
def nkey : D → Option NestedKey
  | .non => some NestedKey.none
  | .bl b => some (.num (if b = true then 1 else 0))
  | .int i => some (.num i)
  | .str x => some (.text x)
  | .tup xs => (nkeys xs).map .tup
  | .ref _ => none
  | .klst _ => none
  | .exc .. => none
def nkeys : List D → Option (List NestedKey)
  | [] => some []
  | x :: xs => match nkey x, nkeys xs with
    | some k, some ks => some (k :: ks)
    | _, _ => none
end

/-- the dict at d: its entries, keys known by where they stand -/
def dObj (P : Program) (w : World) (d : Addr) (es : List (NestedKey × Addr × V)) (h : Heap) : Prop :=
  ∃ xs : List (NestedKey × Addr × Value), Paired (fun (p : NestedKey × Addr × V) (q : NestedKey × Addr × Value) => p.1 = q.1 ∧ p.2.1 = q.2.1 ∧ RelV p.2.2 q.2.2) es xs ∧
    ∃ o ds ep, h.get? d = some o ∧ o.ExactDict ∧ o.data = .dict ds ep ∧ ds.toList = xs.map (entryOfKey (nestedKind P w)) ∧ (xs.map (·.1)).Nodup ∧ (d == sysModules) = false ∧ xs.length ≤ sizeLine
def dHO (P : Program) (w : World) (d : Addr) (es : List (NestedKey × Addr × V)) : HO := .ext (dObj P w d es)

section
variable (P : Program) (w : World) (K : PySem.W.Frag) (Γ : Gm)
/-- one entry of a dict -/
def REn (K : PySem.W.Frag) (H : Hp) (μ : List Addr) (p : D × D) (q : NestedKey × Addr × V) : Prop := nkey p.1 = some q.1 ∧ q.1.depth ≤ 8 ∧ RV K H μ p.1 (.ref q.2.1) ∧ RV K H μ p.2 q.2.2
def RO (H : Hp) (μ : List Addr) (a : Addr) : MO → Prop
  | .lst xs => ∃ vs, H a = some (.lst vs) ∧ RVs K H μ xs vs
  | .ro xs => ∃ vs, (∃ o, H a = some (.frz o (.lst vs))) ∧ RVs K H μ xs vs
  | .dct kvs => ∃ es, H a = some (dHO P w a es) ∧ Paired (REn K H μ) kvs es
  | .fdc kvs => ∃ es, (∃ o, H a = some (.frz o (dHO P w a es))) ∧ Paired (REn K H μ) kvs es
  | .dks kvs => ∃ vs, H a = some (.dK vs) ∧ Paired (fun (p : Key × D) (q : Key × V) => p.1 = q.1 ∧ RV K H μ p.2 q.2) kvs vs ∧ (kvs.map (·.1)).Nodup
  | .ins c fs => ∃ dx vs, RVs K H μ fs vs ∧ H a = some (.ins (Γ.cA c) dx ((Γ.cN c).zip vs)) ∧ vs.length ≤ (Γ.cN c).length
  | .slo c fs => ∃ (dx : Addr) (vs : List (Option V)), SlX.Slt H a (Γ.cA c) dx vs ∧ dx ≠ a ∧ (H dx = some (.own a) ∨ H dx = some (.xd [])) ∧ ∀ (i : Nat) (d : D), fs[i]? = some (some d) → ∃ v, vs[i]? = some (some v) ∧ RV K H μ d v
/-- the numbers' world lies in the heap -/
structure RH (μ : List Addr) (M : Hs) (H : Hp) : Prop where
  len : M.length = μ.length
  nd : μ.Nodup
  at_ : ∀ (n : Nat) (o : MO) (a : Addr), M[n]? = some o → μ[n]? = some a → RO P w K Γ H μ a o
end
/-- the slots -/
structure RSl (K : PySem.W.Frag) (H : Hp) (μ : List Addr) (ζ : Sl) (σ : L2.St) : Prop where
  len : ζ.length = σ.length
  at_ : ∀ (i : Nat) (d : D), ζ[i]? = some (some d) → ∃ v, σ[i]? = some (some v) ∧ RV K H μ d v
theorem RSl.mono {K : PySem.W.Frag} {H H' : Hp} {μ μ' : List Addr} {ζ : Sl} {σ : L2.St} (r : RSl K H μ ζ σ) (x : Nx μ H μ' H') : RSl K H' μ' ζ σ :=
  ⟨r.len, fun i d e => let ⟨v, h1, h2⟩ := r.at_ i d e; ⟨v, h1, h2.mono x⟩⟩
theorem RSl.set {K : PySem.W.Frag} {H : Hp} {μ : List Addr} {ζ : Sl} {σ : L2.St} (r : RSl K H μ ζ σ) {d : D} {v : V} (rv : RV K H μ d v) (i : Nat) : RSl K H μ (ζ.set i (some d)) (σ.set i (some v)) := by
  refine ⟨by simp [r.len], fun j e h => ?_⟩
  by_cases hj : i = j
  · subst hj
    by_cases hl : i < ζ.length
    · rw [List.getElem?_set_self hl] at h
      cases h
      exact ⟨v, List.getElem?_set_self (by rw [← r.len]; exact hl), rv⟩
    · rw [List.getElem?_eq_none (by simpa using hl)] at h
      cases h
  · rw [List.getElem?_set_ne hj] at h ⊢
    exact r.at_ j e h

section
variable (P : Program) (w : World) (K : PySem.W.Frag) (Γ : Gm)
/-- an exception of the class c with the fields fs -/
def RX (H : Hp) (μ : List Addr) (c : Nat) (fs : List D) (cls : Value) (dd : Option Addr) : Prop :=
  cls = .ref (Γ.cA c) ∧ (fs = [] ∧ dd = none ∨ fs ≠ [] ∧ ∃ d vs, dd = some d ∧ H d = some (.xd ((Γ.cN c).zip vs)) ∧ fs.length = (Γ.cN c).length ∧ RVs K H μ fs vs)
def Pst {α β : Type} (rel : Hp → List Addr → α → β → Prop) (W : WX) (σ : L2.St) (μ : List Addr) (H : Hp) (r : R α) (Q : β → Hp → Prop) : Prop := match r with
  | .ok d M' => ∀ v H' μ', Nx μ H μ' H' → RH P w K Γ μ' M' H' → rel H' μ' d v → Q v H'
  | .ex c fs M' => ∀ cls dd H' μ', Nx μ H μ' H' → RH P w K Γ μ' M' H' → RX K Γ H' μ' c fs cls dd → W cls dd σ H'
  | .no => False
abbrev relV (H : Hp) (μ : List Addr) (d : D) (v : V) : Prop := RV K H μ d v
abbrev relA (H : Hp) (μ : List Addr) (ds : List D) (vs : List V) : Prop := RVs K H μ ds vs
abbrev relB (_ : Hp) (_ : List Addr) (b : Bool) (c : Bool) : Prop := b = c
def PstS (W : WX) (μ : List Addr) (H : Hp) (r : RS) (E : Ends) : Prop := match r with
  | .nx ζ M' => ∀ σ' H' μ', Nx μ H μ' H' → RH P w K Γ μ' M' H' → RSl K H' μ' ζ σ' → E.nx σ' H'
  | .rt d M' => ∀ v H' μ', Nx μ H μ' H' → RH P w K Γ μ' M' H' → RV K H' μ' d v → E.rt v H'
  | .bk ζ M' => ∀ σ' H' μ', Nx μ H μ' H' → RH P w K Γ μ' M' H' → RSl K H' μ' ζ σ' → E.bk σ' H'
  | .ct ζ M' => ∀ σ' H' μ', Nx μ H μ' H' → RH P w K Γ μ' M' H' → RSl K H' μ' ζ σ' → E.ct σ' H'
  | .ex c fs ζ M' => ∀ cls dd σ' H' μ', Nx μ H μ' H' → RH P w K Γ μ' M' H' → RSl K H' μ' ζ σ' → RX K Γ H' μ' c fs cls dd → W cls dd σ' H'
  | .no => False
/-- the state -/
structure RR (μ : List Addr) (H : Hp) (ζ : Sl) (M : Hs) (σ : L2.St) : Prop where
  sl : RSl K H μ ζ σ
  hp : RH P w K Γ μ M H
def tX (W : WX) (f : MX) : TE := fun σ H Q => ∃ ζ M μ, RR P w K Γ μ H ζ M σ ∧ Pst P w K Γ (relV K) W σ μ H (f ζ M) Q
def tT (W : WX) (f : MT) : TT := fun σ H Q => ∃ ζ M μ, RR P w K Γ μ H ζ M σ ∧ Pst P w K Γ relB W σ μ H (f ζ M) Q
def tA (W : WX) (f : MA) : TA := fun σ H Q => ∃ ζ M μ, RR P w K Γ μ H ζ M σ ∧ Pst P w K Γ (relA K) W σ μ H (f ζ M) Q
def tS (W : WX) (f : MS) : TS := fun E σ H => ∃ ζ M μ, RR P w K Γ μ H ζ M σ ∧ PstS P w K Γ W μ H (f ζ M) E
end
section
variable {P : Program} {w : World} {K : PySem.W.Frag} {Γ : Gm} {W : WX} {σ : L2.St} {μ μ1 : List Addr} {H H1 : Hp}
theorem Pst.mono {α β : Type} {rel : Hp → List Addr → α → β → Prop} {r : R α} {Q : β → Hp → Prop} (h : Pst P w K Γ rel W σ μ H r Q) (x : Nx μ H μ1 H1) : Pst P w K Γ rel W σ μ1 H1 r Q := by
  cases r with
  | ok d M => exact fun v H' μ' y rh rv => h v H' μ' (x.trans y) rh rv
  | ex c fs M => exact fun cls dd H' μ' y rh rx => h cls dd H' μ' (x.trans y) rh rx
  | no => exact h
theorem PstS.mono {r : RS} {E : Ends} (h : PstS P w K Γ W μ H r E) (x : Nx μ H μ1 H1) : PstS P w K Γ W μ1 H1 r E := by
  cases r with
  | nx ζ M => exact fun σ' H' μ' y => h σ' H' μ' (x.trans y)
  | bk ζ M => exact fun σ' H' μ' y => h σ' H' μ' (x.trans y)
  | ct ζ M => exact fun σ' H' μ' y => h σ' H' μ' (x.trans y)
  | rt d M => exact fun v H' μ' y => h v H' μ' (x.trans y)
  | ex c fs ζ M => exact fun cls dd σ' H' μ' y => h cls dd σ' H' μ' (x.trans y)
  | no => exact h
theorem Pst.bind {α β γ δ : Type} {rel : Hp → List Addr → α → β → Prop} {rel' : Hp → List Addr → γ → δ → Prop} {r : R α} {k : α → Hs → R γ} {Q : δ → Hp → Prop} (h : Pst P w K Γ rel' W σ μ H (r.bind k) Q) :
    Pst P w K Γ rel W σ μ H r fun v H1 => ∃ d M1 μ1, Nx μ H μ1 H1 ∧ RH P w K Γ μ1 M1 H1 ∧ rel H1 μ1 d v ∧ Pst P w K Γ rel' W σ μ1 H1 (k d M1) Q := by
  cases r with
  | ok d M => exact fun v H' μ' y rh rv => ⟨d, M, μ', y, rh, rv, Pst.mono h y⟩
  | ex c fs M => exact h
  | no => exact h
end
/-- weaker readings -/
theorem PE.imp {X : Cx} {e : Expr} {t t' : TE} (h : PE X e t) (i : ∀ σ H Q, t' σ H Q → t σ H Q) : PE X e t' := ⟨fun pins s σ H Q I q => h.run pins s σ H Q I (i _ _ _ q)⟩
theorem PT.imp {X : Cx} {e : Expr} {t t' : TT} (h : PT X e t) (i : ∀ σ H Q, t' σ H Q → t σ H Q) : PT X e t' := ⟨fun pins s σ H Q I q => h.run pins s σ H Q I (i _ _ _ q)⟩
theorem PA.imp {X : Cx} {e : List Expr} {t t' : TA} (h : PA X e t) (i : ∀ σ H Q, t' σ H Q → t σ H Q) : PA X e t' := ⟨fun pos pins s σ H Q I q => h.run pos pins s σ H Q I (i _ _ _ q)⟩
theorem PS.imp {X : Cx} {e : Stmt} {t t' : TS} (h : PS X e t) (i : ∀ E σ H, t' E σ H → t E σ H) : PS X e t' := ⟨fun pins s σ H E I q => h.run pins s σ H E I (i _ _ _ q)⟩
theorem PSs.imp {X : Cx} {e : List Stmt} {t t' : TS} (h : PSs X e t) (i : ∀ E σ H, t' E σ H → t E σ H) : PSs X e t' := ⟨fun pins s σ H E I q => h.run pins s σ H E I (i _ _ _ q)⟩
end Mi
end
section
set_option maxRecDepth 100000
set_option maxHeartbeats 2000000
set_option autoImplicit false
namespace Mi
open PySem PySem.Spec PyProof.Rows L2

section
variable {P : Program} {w : World} {K : PySem.W.Frag} {Γ : Gm} {W : WX} {σ : L2.St} {μ μ' : List Addr} {H H' : Hp} {M : Hs}
theorem Paired.imp {α β : Type} {F G : α → β → Prop} : ∀ {l₁ : List α} {l₂ : List β}, Paired F l₁ l₂ → (∀ a b, F a b → G a b) → Paired G l₁ l₂
  | _, _, .nil, _ => .nil
  | _, _, .cons r t, f => .cons (f _ _ r) (Paired.imp t f)
theorem REn.mono (x : Nx μ H μ' H') {p : D × D} {q : NestedKey × Addr × V} (h : REn K H μ p q) : REn K H' μ' p q := ⟨h.1, h.2.1, h.2.2.1.mono x, h.2.2.2.mono x⟩
theorem RO.keep {a : Addr} {o : MO} (h : RO P w K Γ H μ a o) (x : Nx μ H μ' H') (e : ∀ u, H a = some u → H' a = some u) (eo : ∀ b, H b = some (.own a) → H' b = some (.own a)) (ed : ∀ b, H b = some (.xd []) → H' b = some (.xd [])) : RO P w K Γ H' μ' a o := by
  cases o with
  | lst xs => obtain ⟨vs, h1, r⟩ := h; exact ⟨vs, e _ h1, r.mono x⟩
  | ro xs => obtain ⟨vs, ⟨o, h1⟩, r⟩ := h; exact ⟨vs, ⟨o, e _ h1⟩, r.mono x⟩
  | dct kvs => obtain ⟨es, h1, r⟩ := h; exact ⟨es, e _ h1, Paired.imp r fun _ _ => REn.mono x⟩
  | fdc kvs => obtain ⟨es, ⟨o, h1⟩, r⟩ := h; exact ⟨es, ⟨o, e _ h1⟩, Paired.imp r fun _ _ => REn.mono x⟩
  | dks kvs => obtain ⟨vs, h1, r, nd⟩ := h; exact ⟨vs, e _ h1, Paired.imp r fun _ _ q => ⟨q.1, q.2.mono x⟩, nd⟩
  | ins c fs => obtain ⟨dx, vs, r, h1, h2⟩ := h; exact ⟨dx, vs, r.mono x, e _ h1, h2⟩
  | slo c fs =>
    obtain ⟨dx, vs, h1, h2, h3, h4⟩ := h
    refine ⟨dx, vs, ?_, h2, h3.imp (eo _) (ed _), fun i d q => let ⟨v, q1, q2⟩ := h4 i d q; ⟨v, q1, q2.mono x⟩⟩
    rcases h1 with ⟨h1, h5⟩ | ⟨h1, h5⟩
    · exact .inl ⟨e _ h1, h5⟩
    · exact .inr ⟨e _ h1, ed _ h5⟩
theorem RO.some {a : Addr} {o : MO} (h : RO P w K Γ H μ a o) : ∃ u, H a = some u := by
  cases o with
  | lst xs => obtain ⟨vs, h1, r⟩ := h; exact ⟨_, h1⟩
  | ro xs => obtain ⟨vs, ⟨o, h1⟩, r⟩ := h; exact ⟨_, h1⟩
  | dct kvs => obtain ⟨es, h1, r⟩ := h; exact ⟨_, h1⟩
  | fdc kvs => obtain ⟨es, ⟨o, h1⟩, r⟩ := h; exact ⟨_, h1⟩
  | dks kvs => obtain ⟨vs, h1, r, nd⟩ := h; exact ⟨_, h1⟩
  | ins c fs => obtain ⟨dx, vs, r, h1, h2⟩ := h; exact ⟨_, h1⟩
  | slo c fs =>
    obtain ⟨dx, vs, h1 | h1, h2⟩ := h
    · exact ⟨_, h1.1⟩
    · exact ⟨_, h1.1⟩
theorem Nx.fresh {p : Addr} {u : HO} (hp : H p = none) (l : List Addr) : Nx μ H (μ ++ l) (upd H p u) := by
  refine ⟨fun n a e => ?_, fun a xs e => ?_, fun a o v e => by rw [upd_ne (ne_of_none e hp)]; exact e, fun a fs e => by rw [upd_ne (ne_of_none e hp)]; exact e⟩
  · rw [List.getElem?_append_left (List.getElem?_eq_some_iff.mp e).1]
    exact e
  · rcases e with e | ⟨o, e⟩
    · exact .inl (by rw [upd_ne (ne_of_none e hp)]; exact e)
    · exact .inr ⟨o, by rw [upd_ne (ne_of_none e hp)]; exact e⟩
theorem Nx.fresh0 {p : Addr} {u : HO} (hp : H p = none) : Nx μ H μ (upd H p u) := by
  have := Nx.fresh (μ := μ) (u := u) hp []
  rwa [List.append_nil] at this
theorem RH.fresh {p : Addr} {u : HO} (rh : RH P w K Γ μ M H) (hp : H p = none) : RH P w K Γ μ M (upd H p u) :=
  ⟨rh.len, rh.nd, fun n o a h1 h2 => (rh.at_ n o a h1 h2).keep (Nx.fresh0 hp) (fun v e => by rw [upd_ne (ne_of_none e hp)]; exact e) (fun b e => by rw [upd_ne (ne_of_none e hp)]; exact e) fun b e => by rw [upd_ne (ne_of_none e hp)]; exact e⟩
theorem RH.alloc {p : Addr} {u : HO} {o : MO} (rh : RH P w K Γ μ M H) (hp : H p = none) (new : RO P w K Γ (upd H p u) (μ ++ [p]) p o) : RH P w K Γ (μ ++ [p]) (M ++ [o]) (upd H p u) := by
  have hpm : p ∉ μ := fun hm => by
    obtain ⟨n, hn⟩ := List.mem_iff_getElem?.mp hm
    have hl : n < M.length := by rw [rh.len]; exact (List.getElem?_eq_some_iff.mp hn).1
    obtain ⟨v, hv⟩ := (rh.at_ n _ p (List.getElem?_eq_getElem hl) hn).some
    rw [hp] at hv; cases hv
  refine ⟨by simp [rh.len], ?_, fun n o' a h1 h2 => ?_⟩
  · rw [List.nodup_append]
    exact ⟨rh.nd, by simp, fun a ha b hb e => by simp at hb; subst hb; subst e; exact hpm ha⟩
  · by_cases hn : n < M.length
    · rw [List.getElem?_append_left hn] at h1
      rw [List.getElem?_append_left (by rw [← rh.len]; exact hn)] at h2
      exact (rh.at_ n o' a h1 h2).keep (Nx.fresh hp [p]) (fun v e => by rw [upd_ne (ne_of_none e hp)]; exact e) (fun b e => by rw [upd_ne (ne_of_none e hp)]; exact e) fun b e => by rw [upd_ne (ne_of_none e hp)]; exact e
    · rw [List.getElem?_append_right (by omega)] at h1
      rw [List.getElem?_append_right (by rw [← rh.len]; omega)] at h2
      have e1 : n - M.length = 0 := by
        by_cases z : n - M.length = 0
        · exact z
        · rw [List.getElem?_eq_none (by simp; omega)] at h1; cases h1
      rw [e1] at h1
      rw [← rh.len, e1] at h2
      simp at h1 h2
      subst h1; subst h2
      exact new
theorem mutNe {a b : Addr} {u : HO} (hm : Mut (H a)) (e : H b = some u) (nm : ¬ Mut (some u)) : b ≠ a := fun z => by
  subst z
  rw [e] at hm
  exact nm hm
theorem Nx.write {a : Addr} {u : HO} (hm : Mut (H a)) : Nx μ H μ (upd H a u) := by
  refine ⟨fun n a e => e, fun b xs e => ?_, fun b o v e => by rw [upd_ne (mutNe hm e (fun z => z))]; exact e, fun b fs e => by rw [upd_ne (mutNe hm e (fun z => z))]; exact e⟩
  rcases e with e | ⟨o, e⟩
  · exact .inl (by rw [upd_ne (mutNe hm e (fun z => z))]; exact e)
  · exact .inr ⟨o, by rw [upd_ne (mutNe hm e (fun z => z))]; exact e⟩
theorem RH.write {n : Nat} {a : Addr} {u : HO} {o : MO} (rh : RH P w K Γ μ M H) (hn : μ[n]? = some a) (hm : Mut (H a)) (new : RO P w K Γ (upd H a u) μ a o) : RH P w K Γ μ (M.set n o) (upd H a u) := by
  refine ⟨by simp [rh.len], rh.nd, fun m o' b h1 h2 => ?_⟩
  by_cases hmn : n = m
  · subst hmn
    rw [hn] at h2; cases h2
    by_cases hl : n < M.length
    · rw [List.getElem?_set_self hl] at h1; cases h1
      exact new
    · rw [List.getElem?_eq_none (by simpa using hl)] at h1; cases h1
  · rw [List.getElem?_set_ne hmn] at h1
    have hba : b ≠ a := fun z => by
      subst z
      exact hmn ((List.getElem?_inj (List.getElem?_eq_some_iff.mp hn).1 rh.nd).mp (hn.trans h2.symm))
    exact (rh.at_ m o' b h1 h2).keep (Nx.write hm) (fun v e => by rw [upd_ne hba]; exact e) (fun c e => by rw [upd_ne (mutNe hm e (fun z => z))]; exact e) fun c e => by rw [upd_ne (mutNe hm e (fun z => z))]; exact e
theorem RH.addr {n : Nat} {o : MO} (rh : RH P w K Γ μ M H) (h : M[n]? = some o) : ∃ a, μ[n]? = some a ∧ RO P w K Γ H μ a o := by
  have hl : n < μ.length := by rw [← rh.len]; exact (List.getElem?_eq_some_iff.mp h).1
  exact ⟨_, List.getElem?_eq_getElem hl, rh.at_ n o _ h (List.getElem?_eq_getElem hl)⟩
theorem RH.last {p : Addr} (rh : RH P w K Γ μ M H) : (μ ++ [p])[M.length]? = some p := by
  rw [rh.len]
  simp

def R.of {α : Type} : Option (α × Hs) → R α
  | some (a, M) => .ok a M
  | none => .no
variable (P w K Γ) in
def Pk {α β : Type} (rel : Hp → List Addr → α → β → Prop) (μ : List Addr) (H : Hp) (r : Option (α × Hs)) (Q : β → Hp → Prop) : Prop := match r with
  | some (d, M') => ∀ v H' μ', Nx μ H μ' H' → RH P w K Γ μ' M' H' → rel H' μ' d v → Q v H'
  | none => False
theorem Pst.of {α β : Type} {rel : Hp → List Addr → α → β → Prop} {r : Option (α × Hs)} {Q : β → Hp → Prop} (h : Pst P w K Γ rel W σ μ H (R.of r) Q) : Pk P w K Γ rel μ H r Q := by
  cases r with
  | none => exact h
  | some p => exact h
theorem Pst.imp {α β : Type} {rel : Hp → List Addr → α → β → Prop} {r : R α} {Q Q' : β → Hp → Prop} (h : Pst P w K Γ rel W σ μ H r Q) (i : ∀ v H', Q v H' → Q' v H') : Pst P w K Γ rel W σ μ H r Q' := by
  cases r with
  | ok d M => exact fun v H' μ' x rh rv => i _ _ (h v H' μ' x rh rv)
  | ex c fs M => exact h
  | no => exact h
theorem Pst.then {α β γ δ : Type} {rel : Hp → List Addr → α → β → Prop} {rel' : Hp → List Addr → γ → δ → Prop} {r : R α} {k : α → Hs → R γ} {Q : δ → Hp → Prop} {Q' : β → Hp → Prop} (h : Pst P w K Γ rel' W σ μ H (r.bind k) Q)
    (i : ∀ v H1 d M1 μ1, Nx μ H μ1 H1 → RH P w K Γ μ1 M1 H1 → rel H1 μ1 d v → Pst P w K Γ rel' W σ μ1 H1 (k d M1) Q → Q' v H1) : Pst P w K Γ rel W σ μ H r Q' :=
  Pst.imp (Pst.bind h) fun v H1 ⟨d, M1, μ1, a, b, c, e⟩ => i v H1 d M1 μ1 a b c e
theorem Pk.new {Q : VK} {o : MO} {p : Addr} {u : HO} (rh : RH P w K Γ μ M H) (h : Pk P w K Γ (relV K) μ H (some (.ref M.length, M ++ [o])) Q) (hp : H p = none) (new : RO P w K Γ (upd H p u) (μ ++ [p]) p o) : Q (.ref p) (upd H p u) :=
  h _ _ _ (Nx.fresh hp [p]) (rh.alloc hp new) (.ref rh.last)
theorem Pk.tup {Q : VK} {ds : List D} {vs : List V} {p : Addr} (rh : RH P w K Γ μ M H) (h : Pk P w K Γ (relV K) μ H (some (.tup ds, M)) Q) (hp : H p = none) (r : RVs K H μ ds vs) : Q (.ref p) (upd H p (.tup vs)) :=
  h _ _ _ (Nx.fresh0 hp) (rh.fresh hp) (.tup (SqT.of upd_same) (r.mono (Nx.fresh0 hp)))
theorem Pk.here {α β : Type} {rel : Hp → List Addr → α → β → Prop} {Q : β → Hp → Prop} {d : α} {v : β} (rh : RH P w K Γ μ M H) (h : Pk P w K Γ rel μ H (some (d, M)) Q) (r : rel H μ d v) : Q v H := h _ _ _ (Nx.refl _ _) rh r
theorem nlst (rh : RH P w K Γ μ M H) {n : Nat} {a : Addr} {xs : List D} (h : M[n]? = some (.lst xs)) (e : μ[n]? = some a) : ∃ vs, H a = some (.lst vs) ∧ RVs K H μ xs vs := rh.at_ n _ a h e
end

abbrev EX (X : Cx) (Γ : Gm) (W : WX) (e : Expr) (f : MX) : Prop := PE X e (tX X.prog X.w X.K Γ W f)
abbrev ET (X : Cx) (Γ : Gm) (W : WX) (e : Expr) (f : MT) : Prop := PT X e (tT X.prog X.w X.K Γ W f)
abbrev EW (X : Cx) (Γ : Gm) (W : WX) (e : Expr) (f : MT) : Prop := PW X e (tT X.prog X.w X.K Γ W f)
abbrev EA (X : Cx) (Γ : Gm) (W : WX) (es : List Expr) (f : MA) : Prop := PA X es (tA X.prog X.w X.K Γ W f)
abbrev ES (X : Cx) (Γ : Gm) (W : WX) (st : Stmt) (f : MS) : Prop := PS X st (tS X.prog X.w X.K Γ W f)
abbrev ESs (X : Cx) (Γ : Gm) (W : WX) (st : List Stmt) (f : MS) : Prop := PSs X st (tS X.prog X.w X.K Γ W f)

section
variable {X : Cx} {Γ : Gm} {W : WX} {a b c : Expr} {fa fb fc : MX} {pos : Pos}
def xVar (i : Nat) : MX := fun ζ M => match ζ[i]? with
  | some (some d) => .ok d M
  | _ => .no
def xC (d : D) : MX := fun _ M => .ok d M
theorem ex_var (i : Nat) {x : Str} (hN : X.N[i]? = some x := by rfl) (hv : Vis X.env.scope x := by first | exact Or.inl rfl | exact Or.inr (Or.inl rfl) | exact Or.inr (Or.inr rfl)) (hd : (x == ("__debug__" : Str)) = false := by decide)
    (hcd : (x == ("__classdict__" : Str)) = false := by decide) : EX X Γ W (.Name x pos) (xVar i) := PE.imp (pe_var hN hv hd hcd) fun σ H Q ⟨ζ, M, μ, rr, h⟩ => by
  unfold xVar at h
  cases e : ζ[i]? with
  | none => rw [e] at h; exact h.elim
  | some o =>
    cases o with
    | none => rw [e] at h; exact h.elim
    | some d =>
      rw [e] at h
      obtain ⟨v, h1, h2⟩ := rr.sl.at_ i d e
      exact ⟨v, h1, h _ _ _ (Nx.refl _ _) rr.hp h2⟩
theorem ex_const {e : Expr} {d : D} {v : V} (h : PE X e (tC v)) (r : ∀ H μ, RV X.K H μ d v) : EX X Γ W e (xC d) := PE.imp h fun σ H Q ⟨ζ, M, μ, rr, h⟩ => h _ _ _ (Nx.refl _ _) rr.hp (r _ _)
theorem ex_int {i : Int} {j} : EX X Γ W (.Constant (.int i) j pos) (xC (.int i)) := ex_const pe_int fun _ _ => .int i
theorem ex_bl {i : Bool} {j} : EX X Γ W (.Constant (.bool i) j pos) (xC (.bl i)) := ex_const pe_bl fun _ _ => .bl i
theorem ex_non {j} : EX X Γ W (.Constant .none j pos) (xC .non) := ex_const pe_non fun _ _ => .non
theorem ex_str {x : Str} {j} : EX X Γ W (.Constant (.str x) j pos) (xC (.str x)) := ex_const pe_str fun _ _ => .str x
/-- a module's constant -/
def CstOk (K : PySem.W.Frag) (mg : Str → Option Value) (x : Str) (d : D) : Prop := ∃ u v, mg x = some u ∧ RelV v u ∧ ∀ H μ, RV K H μ d v
theorem ex_glob {x : Str} {d : D} (h : CstOk X.K X.mg x d) (hg : Gl X x := by rfl) (hd : (x == ("__debug__" : Str)) = false := by decide) : EX X Γ W (.Name x pos) (xC d) := by
  obtain ⟨u, v, h1, h2, h3⟩ := h
  exact ex_const (pe_glob hg h1 h2 hd) h3

def x2 (g : D → D → Hs → Option (D × Hs)) (fa fb : MX) : MX := fun ζ M => (fa ζ M).bind fun x M1 => (fb ζ M1).bind fun y M2 => R.of (g x y M2)
def r2 (P : Program) (w : World) (K : PySem.W.Frag) (Γ : Gm) (g : D → D → Hs → Option (D × Hs)) : R2 := fun x y H Q => ∃ d e M μ, RH P w K Γ μ M H ∧ RV K H μ d x ∧ RV K H μ e y ∧ Pk P w K Γ (relV K) μ H (g d e M) Q
abbrev Op2 (X : Cx) (Γ : Gm) (f : Value → Value → Sem Value) (g : D → D → Hs → Option (D × Hs)) : Prop := OpR X f (r2 X.prog X.w X.K Γ g)
theorem tOp_of {g : D → D → Hs → Option (D × Hs)} {σ : L2.St} {H : Hp} {Q : VK} (h : tX X.prog X.w X.K Γ W (x2 g fa fb) σ H Q) : tOp (r2 X.prog X.w X.K Γ g) (tX X.prog X.w X.K Γ W fa) (tX X.prog X.w X.K Γ W fb) σ H Q := by
  obtain ⟨ζ, M, μ, rr, h⟩ := h
  exact ⟨ζ, M, μ, rr, Pst.then h fun v H1 d M1 μ1 nx rh rv h1 => ⟨ζ, M1, μ1, ⟨rr.sl.mono nx, rh⟩, Pst.then h1 fun v2 H2 e M2 μ2 nx2 rh2 rv2 h2 => ⟨d, e, M2, μ2, rh2, rv.mono nx2, rv2, h2.of⟩⟩⟩
theorem ex_op {op : Operator} {g : D → D → Hs → Option (D × Hs)} (ho : Op2 X Γ (binaryOp op) g) (ha : EX X Γ W a fa) (hb : EX X Γ W b fb) : EX X Γ W (.BinOp a op b pos) (x2 g fa fb) :=
  PE.imp (pe_op ho ha hb) fun _ _ _ h => tOp_of h
theorem ex_cmp {op : CmpOp} {g : D → D → Hs → Option (D × Hs)} (ho : Op2 X Γ (compareOp op) g) (ha : EX X Γ W a fa) (hb : EX X Γ W b fb) (hm : behindInMarks op b = false := by rfl) : EX X Γ W (.Compare a [op] [b] pos) (x2 g fa fb) :=
  PE.imp (pe_cmpR ho ha hb hm) fun _ _ _ h => tOp_of h
/-- a value that is a truth value, as a test -/
def tB1 (f : MX) : MT := fun ζ M => (f ζ M).bind fun x M1 => match x with
  | .bl k => .ok k M1
  | _ => .no
theorem tTest_of {f : MX} {t : TE} {σ : L2.St} {H : Hp} {Q : Bool → Hp → Prop} (i : ∀ Q, tX X.prog X.w X.K Γ W f σ H Q → t σ H Q) (h : tT X.prog X.w X.K Γ W (tB1 f) σ H Q) : tTest t σ H Q := by
  obtain ⟨ζ, M, μ, rr, h⟩ := h
  refine i _ ⟨ζ, M, μ, rr, Pst.then h fun v H1 d M1 μ1 nx rh rv h1 => ?_⟩
  cases d with
  | bl k => cases rv; exact ⟨k, rfl, h1 _ _ _ (Nx.refl _ _) rh rfl⟩
  | _ => exact h1.elim
theorem et_cmp {op : CmpOp} {g : D → D → Hs → Option (D × Hs)} (ho : Op2 X Γ (compareOp op) g) (ha : EX X Γ W a fa) (hb : EX X Γ W b fb) (hm : behindInMarks op b = false := by rfl) : ET X Γ W (.Compare a [op] [b] pos) (tB1 (x2 g fa fb)) :=
  PT.imp (pt_cmpR ho ha hb hm) fun _ _ _ h => tTest_of (fun _ => tOp_of) h
theorem et_val (ha : EX X Γ W a fa) (he : ∀ whole, isTrue a X.env whole = (do let v ← whole; standAt a.pos; holding [v] (truthy v)) := by intro _; rfl) : ET X Γ W a (tB1 fa) :=
  PT.imp (pt_val ha he) fun _ _ _ h => tTest_of (fun _ h => h) h
/-- a < b < c -/
def x3 (g g' : D → D → Hs → Option (D × Hs)) (fa fb fc : MX) : MX := fun ζ M => (fa ζ M).bind fun x M1 => (fb ζ M1).bind fun y M2 => (R.of (g x y M2)).bind fun z M3 => match z with
  | .bl true => (fc ζ M3).bind fun u M4 => R.of (g' y u M4)
  | .bl false => .ok (.bl false) M3
  | _ => .no
end

def hLst (M : Hs) (n : Nat) : Option (List D) := match M[n]? with
  | some (.lst xs) => some xs
  | _ => none
def hSeq (M : Hs) : D → Option (List D)
  | .tup xs => some xs
  | .klst xs => some xs
  | .ref n => match M[n]? with
    | some (.lst xs) => some xs
    | some (.ro xs) => some xs
    | _ => none
  | _ => none
def newL (xs : List D) (M : Hs) : Option (D × Hs) := if xs.length ≤ sizeLine then some (.ref M.length, M ++ [.lst xs]) else none
def gAdd (x y : D) (M : Hs) : Option (D × Hs) := match x, y with
  | .int i, .int j => some (.int (i + j), M)
  | .str x, .str y => if x.length + y.length ≤ sizeLine then some (.str (x ++ y), M) else none
  | .tup xs, .tup ys => if xs.length + ys.length ≤ sizeLine then some (.tup (xs ++ ys), M) else none
  | .ref m, .ref n => match M[m]?, M[n]? with
    | some (.lst xs), some (.lst ys) => newL (xs ++ ys) M
    | _, _ => none
  | _, _ => none
def gI (C : Int → Int → Bool) (g : Int → Int → D) (x y : D) (M : Hs) : Option (D × Hs) := match x, y with
  | .int i, .int j => if C i j = true then some (g i j, M) else none
  | _, _ => none
def gSub : D → D → Hs → Option (D × Hs) := gI (fun _ _ => true) fun i j => .int (i - j)
def inW (i : Int) : Bool := decide (-(2 ^ 64) < i) && decide (i < 2 ^ 64)
def gMul : D → D → Hs → Option (D × Hs) := gI (fun i j => inW i || inW j) fun i j => .int (i * j)
def gDiv : D → D → Hs → Option (D × Hs) := gI (fun _ j => decide (0 < j) && decide (j < 1073741824)) fun i j => .int (i / j)
def gMod : D → D → Hs → Option (D × Hs) := gI (fun _ j => decide (0 < j)) fun i j => .int (i % j)
def gPow : D → D → Hs → Option (D × Hs) := gI (fun i j => decide (0 ≤ j) && decide (j ≤ 1000000) && decide (i.natAbs < 2 ^ 64)) fun i j => .int (i ^ j.toNat)
def gLt : D → D → Hs → Option (D × Hs) := gI (fun _ _ => true) fun i j => .bl (decide (i < j))
def gLe : D → D → Hs → Option (D × Hs) := gI (fun _ _ => true) fun i j => .bl (decide (i ≤ j))
def gGt : D → D → Hs → Option (D × Hs) := gI (fun _ _ => true) fun i j => .bl (decide (j < i))
def gGe : D → D → Hs → Option (D × Hs) := gI (fun _ _ => true) fun i j => .bl (decide (j ≤ i))
section
variable {X : Cx} {Γ : Gm}
theorem gI_ok {f : Value → Value → Sem Value} {C : Int → Int → Bool} {g : Int → Int → D} {gv : Int → Int → V} {C' : Int → Int → Prop} (h : OpR X f (rI C' gv)) (hc : ∀ i j, C i j = true → C' i j) (hg : ∀ H μ i j, RV X.K H μ (g i j) (gv i j)) : Op2 X Γ f (gI C g) := by
  intro pins s σ H x y v u Q I rx ry hq
  obtain ⟨d, e, M, μ, rh, rd, re, hq⟩ := hq
  unfold gI at hq
  cases d with
  | int i =>
    cases e with
    | int j =>
      cases rd; cases re
      simp only at hq
      split at hq
      · rename_i hcc
        exact h pins s σ H _ _ v u Q I rx ry ⟨i, j, rfl, rfl, hc i j hcc, Pk.here rh hq (hg _ _ _ _)⟩
      · exact hq.elim
    | _ => exact hq.elim
  | _ => exact hq.elim
theorem gI_ok0 {f : Value → Value → Sem Value} {g : Int → Int → D} {gv : Int → Int → V} (h : OpR X f (rI0 gv)) (hg : ∀ H μ i j, RV X.K H μ (g i j) (gv i j)) : Op2 X Γ f (gI (fun _ _ => true) g) :=
  gI_ok (C' := fun _ _ => True) (gv := gv) (fun pins s σ H x y v u Q I rx ry ⟨i, j, e1, e2, _, q⟩ => h pins s σ H x y v u Q I rx ry ⟨i, j, e1, e2, q⟩) (fun _ _ _ => trivial) hg
theorem m_sub : Op2 X Γ (binaryOp .Sub) gSub := gI_ok0 op_sub fun _ _ _ _ => .int _
theorem inW_ok {i : Int} (h : inW i = true) : -(2 ^ 64) < i ∧ i < 2 ^ 64 := by
  unfold inW at h
  rw [Bool.and_eq_true, decide_eq_true_eq, decide_eq_true_eq] at h
  exact h
theorem m_mul : Op2 X Γ (binaryOp .Mult) gMul := gI_ok op_mul (fun i j h => by
  rw [Bool.or_eq_true] at h
  exact h.imp inW_ok inW_ok) fun _ _ _ _ => .int _
theorem m_div : Op2 X Γ (binaryOp .FloorDiv) gDiv := gI_ok op_fdiv (fun i j h => by
  rw [Bool.and_eq_true, decide_eq_true_eq, decide_eq_true_eq] at h
  exact h) fun _ _ _ _ => .int _
theorem m_mod : Op2 X Γ (binaryOp .Mod) gMod := gI_ok op_mod (fun i j h => of_decide_eq_true h) fun _ _ _ _ => .int _
theorem m_pow : Op2 X Γ (binaryOp .Pow) gPow := gI_ok op_pow (fun i j h => by
  rw [Bool.and_eq_true, Bool.and_eq_true, decide_eq_true_eq, decide_eq_true_eq, decide_eq_true_eq] at h
  exact ⟨h.1.1, h.1.2, h.2⟩) fun _ _ _ _ => .int _
theorem m_lt : Op2 X Γ (compareOp .Lt) gLt := gI_ok0 op_lt fun _ _ _ _ => .bl _
theorem m_le : Op2 X Γ (compareOp .LtE) gLe := gI_ok0 op_le fun _ _ _ _ => .bl _
theorem m_gt : Op2 X Γ (compareOp .Gt) gGt := gI_ok0 op_gt fun _ _ _ _ => .bl _
theorem m_ge : Op2 X Γ (compareOp .GtE) gGe := gI_ok0 op_ge fun _ _ _ _ => .bl _
theorem m_add : Op2 X Γ (binaryOp .Add) gAdd := by
  intro pins s σ H x y v u Q I rx ry hq
  obtain ⟨d, e, M, μ, rh, rd, re, hq⟩ := hq
  unfold gAdd at hq
  split at hq
  · cases rd; cases re
    exact op_add pins s σ H _ _ v u Q I rx ry ⟨_, _, rfl, rfl, Pk.here rh hq (.int _)⟩
  · cases rd; cases re
    split at hq
    · rename_i hl
      exact op_add_str pins s σ H _ _ v u Q I rx ry ⟨_, _, rfl, rfl, hl, Pk.here rh hq (.str _)⟩
    · exact hq.elim
  · cases rd with
    | tup h1 r1 =>
      cases re with
      | tup h2 r2 =>
        split at hq
        · rename_i hl
          refine op_catA pins s σ H _ _ v u Q I rx ry ⟨_, _, _, _, rfl, rfl, h1, h2, by rw [← r1.length, ← r2.length]; exact hl, fun e => ?_, fun _ e => ?_, fun _ _ p hp => Pk.tup rh hq hp (r1.append r2)⟩
          · subst e
            cases r1
            exact Pk.here rh hq (.tup h2 r2)
          · subst e
            cases r2
            rw [List.append_nil] at hq
            exact Pk.here rh hq (.tup h1 r1)
        · exact hq.elim
  · cases rd with
    | ref e1 =>
      cases re with
      | ref e2 =>
        split at hq
        · rename_i xs ys h1 h2
          obtain ⟨vs1, g1, r1⟩ := nlst rh h1 e1
          obtain ⟨vs2, g2, r2⟩ := nlst rh h2 e2
          unfold newL at hq
          split at hq
          · rename_i hl
            rw [List.length_append] at hl
            refine op_cat pins s σ H _ _ v u Q I rx ry ⟨_, _, _, _, rfl, rfl, g1, g2, by rw [← r1.length, ← r2.length]; exact hl, fun p hp => ?_⟩
            exact Pk.new rh hq hp ⟨_, upd_same, (r1.append r2).mono (Nx.fresh hp _)⟩
          · exact hq.elim
        · exact hq.elim
  · exact hq.elim
end
end Mi
end
section
set_option maxRecDepth 100000
set_option maxHeartbeats 2000000
set_option autoImplicit false
namespace Mi
open PySem PySem.Spec PyProof.Rows L2

def mapO {α β : Type} (f : α → Option β) : List α → Option (List β)
  | [] => some []
  | x :: xs => match f x, mapO f xs with
    | some y, some ys => some (y :: ys)
    | _, _ => none
/-- data as a whole -/
def toPD (M : Hs) : Nat → D → Option PyData
  | 0, _ => none
  | n + 1, d => match d with
    | .non => some .none
    | .bl b => some (.bool b)
    | .int i => some (.int i)
    | .str x => some (.str x)
    | .tup xs => match mapO (toPD M n) xs with
      | some ps => some (.tuple ps)
      | none => none
    | .ref m => match M[m]? with
      | some (.lst xs) => (match mapO (toPD M n) xs with
        | some ps => some (.list ps)
        | none => none)
      | some (.ro xs) => (match mapO (toPD M n) xs with
        | some ps => some (.list ps)
        | none => none)
      | _ => none
    | .klst _ => none
    | .exc .. => none
section
variable {P : Program} {w : World} {K : PySem.W.Frag} {Γ : Gm} {W : WX} {σ : L2.St} {μ μ' : List Addr} {H H' : Hp} {M : Hs}
theorem dpAll_of {n : Nat} (ih : ∀ d p v, toPD M n d = some p → RV K H μ d v → Dp K H v p) : ∀ {xs : List D} {ps : List PyData} {vs : List V}, mapO (toPD M n) xs = some ps → RVs K H μ xs vs → DpAll K H vs ps
  | [], ps, vs, h, r => by
    cases r
    cases h
    exact .nil
  | x :: xs, ps, vs, h, r => by
    unfold mapO at h
    split at h
    · rename_i y ys h1 h2
      cases h
      cases r with
      | cons r1 r2 => exact .cons (ih _ _ _ h1 r1) (dpAll_of ih h2 r2)
    · cases h
theorem dp_of (rh : RH P w K Γ μ M H) : ∀ (n : Nat) (d : D) (p : PyData) (v : V), toPD M n d = some p → RV K H μ d v → Dp K H v p
  | 0, _, _, _, h, _ => by cases h
  | n + 1, d, p, v, h, r => by
    have ih := dp_of rh n
    cases r with
    | non => cases h; exact .non
    | bl b => cases h; exact .bl b
    | int i => cases h; exact .int i
    | str x => cases h; exact .str x
    | kls => cases h
    | excN => cases h
    | excD => cases h
    | tup h1 r1 =>
      simp only [toPD] at h
      split at h
      · rename_i ps h2
        cases h
        exact .tup h1 (dpAll_of ih h2 r1)
      · cases h
    | ref e =>
      simp only [toPD] at h
      split at h
      · rename_i xs h3
        split at h
        · rename_i ps h2
          cases h
          obtain ⟨vs, g, r1⟩ := rh.at_ _ _ _ h3 e
          exact .lst (SqL.of g) (dpAll_of ih h2 r1)
        · cases h
      · rename_i xs h3
        split at h
        · rename_i ps h2
          cases h
          obtain ⟨vs, ⟨o, g⟩, r1⟩ := rh.at_ _ _ _ h3 e
          exact .lst (.inl (.inr ⟨o, g⟩)) (dpAll_of ih h2 r1)
        · cases h
      · cases h
end
/-- how deep data may lie -/
def deep : Nat := 12
def gEqB (k : Bool → Bool) (x y : D) (M : Hs) : Option (D × Hs) := match toPD M deep x, toPD M deep y with
  | some p, some q => if (SeqAt.shaped p && SeqAt.shaped q) = true then some (.bl (k (PyData.eqv p q)), M) else none
  | _, _ => none
def gEq : D → D → Hs → Option (D × Hs) := gEqB id
def gNe : D → D → Hs → Option (D × Hs) := gEqB not
def gInB (k : Bool → Bool) (x y : D) (M : Hs) : Option (D × Hs) := match toPD M deep x, toPD M deep y with
  | some p, some (.list qs) => if (SeqAt.shaped p && SeqAt.shaped (.list qs)) = true then some (.bl (k (qs.any fun z => PyData.eqv z p)), M) else none
  | some p, some (.tuple qs) => if (SeqAt.shaped p && SeqAt.shaped (.tuple qs)) = true then some (.bl (k (qs.any fun z => PyData.eqv z p)), M) else none
  | _, _ => none
def gIn : D → D → Hs → Option (D × Hs) := gInB id
def gNotIn : D → D → Hs → Option (D × Hs) := gInB not
def isNon : D → Bool
  | .non => true
  | _ => false
def gIsN (k : Bool → Bool) (x y : D) (M : Hs) : Option (D × Hs) := match y with
  | .non => some (.bl (k (isNon x)), M)
  | _ => none
def gIs : D → D → Hs → Option (D × Hs) := gIsN id
def gIsNot : D → D → Hs → Option (D × Hs) := gIsN not
section
variable {X : Cx} {Γ : Gm}
theorem m_eq (hu : X.A.units + 64 < cLine) : Op2 X Γ (compareOp .Eq) gEq := by
  intro pins s σ H x y v u Q I rx ry hq
  obtain ⟨d, e, M, μ, rh, rd, re, hq⟩ := hq
  unfold gEq gEqB at hq
  split at hq
  · rename_i p q h1 h2
    split at hq
    · rename_i hs
      rw [Bool.and_eq_true] at hs
      exact op_eqD hu pins s σ H _ _ v u Q I rx ry ⟨p, q, dp_of rh _ _ _ _ h1 rd, dp_of rh _ _ _ _ h2 re, hs.1, hs.2, Pk.here rh hq (.bl _)⟩
    · exact hq.elim
  · exact hq.elim
theorem m_ne (hu : X.A.units + 64 < cLine) : Op2 X Γ (compareOp .NotEq) gNe := by
  intro pins s σ H x y v u Q I rx ry hq
  obtain ⟨d, e, M, μ, rh, rd, re, hq⟩ := hq
  unfold gNe gEqB at hq
  split at hq
  · rename_i p q h1 h2
    split at hq
    · rename_i hs
      rw [Bool.and_eq_true] at hs
      exact op_neD hu pins s σ H _ _ v u Q I rx ry ⟨p, q, dp_of rh _ _ _ _ h1 rd, dp_of rh _ _ _ _ h2 re, hs.1, hs.2, Pk.here rh hq (.bl _)⟩
    · exact hq.elim
  · exact hq.elim
theorem m_in (hu : X.A.units + 65 < cLine) : Op2 X Γ (compareOp .In) gIn := by
  intro pins s σ H x y v u Q I rx ry hq
  obtain ⟨d, e, M, μ, rh, rd, re, hq⟩ := hq
  unfold gIn gInB at hq
  split at hq
  · rename_i p qs h1 h2
    split at hq
    · rename_i hs
      rw [Bool.and_eq_true] at hs
      exact op_inD hu pins s σ H _ _ v u Q I rx ry ⟨p, qs, dp_of rh _ _ _ _ h1 rd, dp_of rh _ _ _ _ h2 re, hs.1, hs.2, Pk.here rh hq (.bl _)⟩
    · exact hq.elim
  · rename_i p qs h1 h2
    split at hq
    · rename_i hs
      rw [Bool.and_eq_true] at hs
      obtain ⟨as, r1⟩ := Dp.reads I p x v (dp_of rh _ _ _ _ h1 rd) rx
      obtain ⟨bs, r2⟩ := Dp.reads I (.tuple qs) y u (dp_of rh _ _ _ _ h2 re) ry
      exact SeqAt.in_tuple_reads r2 r1 (SeqAt.canLay_of_shaped hs.2) (SeqAt.canLay_of_shaped hs.1) (room_in_shaped hs.1 hu) ⟨.bl _, H, I, rfl, Pk.here rh hq (.bl _)⟩
    · exact hq.elim
  · exact hq.elim
theorem m_notIn (hu : X.A.units + 65 < cLine) : Op2 X Γ (compareOp .NotIn) gNotIn := by
  intro pins s σ H x y v u Q I rx ry hq
  obtain ⟨d, e, M, μ, rh, rd, re, hq⟩ := hq
  unfold gNotIn gInB at hq
  split at hq
  · rename_i p qs h1 h2
    split at hq
    · rename_i hs
      rw [Bool.and_eq_true] at hs
      exact op_notInD hu pins s σ H _ _ v u Q I rx ry ⟨p, qs, dp_of rh _ _ _ _ h1 rd, dp_of rh _ _ _ _ h2 re, hs.1, hs.2, Pk.here rh hq (.bl _)⟩
    · exact hq.elim
  · rename_i p qs h1 h2
    split at hq
    · rename_i hs
      rw [Bool.and_eq_true] at hs
      obtain ⟨as, r1⟩ := Dp.reads I p x v (dp_of rh _ _ _ _ h1 rd) rx
      obtain ⟨bs, r2⟩ := Dp.reads I (.tuple qs) y u (dp_of rh _ _ _ _ h2 re) ry
      exact SeqAt.notIn_tuple_reads r2 r1 (SeqAt.canLay_of_shaped hs.2) (SeqAt.canLay_of_shaped hs.1) (room_in_shaped hs.1 hu) ⟨.bl _, H, I, rfl, Pk.here rh hq (.bl _)⟩
    · exact hq.elim
  · exact hq.elim
theorem isN_of {K : PySem.W.Frag} {H : Hp} {μ : List Addr} {d : D} {x : V} (r : RV K H μ d x) : decide (x = .non) = isNon d := by
  cases r <;> first | rfl | exact decide_eq_false (fun e => by cases e)
theorem m_is : Op2 X Γ (compareOp .Is) gIs := by
  intro pins s σ H x y v u Q I rx ry hq
  obtain ⟨d, e, M, μ, rh, rd, re, hq⟩ := hq
  unfold gIs gIsN at hq
  split at hq
  · cases re
    exact op_isN pins s σ H _ _ v u Q I rx ry ⟨rfl, by rw [isN_of rd]; exact Pk.here rh hq (.bl _)⟩
  · exact hq.elim
theorem m_isNot : Op2 X Γ (compareOp .IsNot) gIsNot := by
  intro pins s σ H x y v u Q I rx ry hq
  obtain ⟨d, e, M, μ, rh, rd, re, hq⟩ := hq
  unfold gIsNot gIsN at hq
  split at hq
  · cases re
    exact op_notN pins s σ H _ _ v u Q I rx ry ⟨rfl, by rw [isN_of rd]; exact Pk.here rh hq (.bl _)⟩
  · exact hq.elim
end

def tAnd2 (f g : MT) : MT := fun ζ M => (f ζ M).bind fun c M1 => if c = true then g ζ M1 else .ok false M1
def tOr2 (f g : MT) : MT := fun ζ M => (f ζ M).bind fun c M1 => if c = true then .ok true M1 else g ζ M1
def tNot1 (f : MT) : MT := fun ζ M => (f ζ M).bind fun c M1 => .ok (!c) M1
def xAnd (f g : MX) : MX := fun ζ M => (f ζ M).bind fun x M1 => match x with
  | .bl true => g ζ M1
  | .bl false => .ok (.bl false) M1
  | _ => .no
def xOr (f g : MX) : MX := fun ζ M => (f ζ M).bind fun x M1 => match x with
  | .bl true => .ok (.bl true) M1
  | .bl false => g ζ M1
  | _ => .no
def xNot (f : MX) : MX := fun ζ M => (f ζ M).bind fun x M1 => match x with
  | .bl k => .ok (.bl (!k)) M1
  | _ => .no
def xIf (t : MT) (f g : MX) : MX := fun ζ M => (t ζ M).bind fun c M1 => if c = true then f ζ M1 else g ζ M1
def xNeg (f : MX) : MX := fun ζ M => (f ζ M).bind fun x M1 => match x with
  | .int i => .ok (.int (-i)) M1
  | _ => .no
section
variable {X : Cx} {Γ : Gm} {W : WX} {a b c : Expr} {rest : List Expr} {fa fb fc : MX} {ta tb : MT} {pos : Pos}
theorem PW.imp {e : Expr} {t t' : TT} (h : PW X e t) (i : ∀ σ H Q, t' σ H Q → t σ H Q) : PW X e t' := ⟨fun wh pins s σ H Q I q => h.run wh pins s σ H Q I (i _ _ _ q)⟩
theorem et_and1 (ha : ET X Γ W a ta) : EW X Γ W (.BoolOp .And [a] pos) ta := pw_and1 ha
theorem et_or1 (ha : ET X Γ W a ta) : EW X Γ W (.BoolOp .Or [a] pos) ta := pw_or1 ha
theorem et_and (ha : ET X Γ W a ta) (hb : EW X Γ W (.BoolOp .And (b :: rest) pos) tb) : EW X Γ W (.BoolOp .And (a :: b :: rest) pos) (tAnd2 ta tb) :=
  PW.imp (pw_and ha hb) fun σ H Q ⟨ζ, M, μ, rr, h⟩ => ⟨ζ, M, μ, rr, Pst.then h fun v H1 d M1 μ1 nx rh rv h1 => by
    have rv : d = v := rv
    subst rv
    cases d with
    | true => exact ⟨ζ, M1, μ1, ⟨rr.sl.mono nx, rh⟩, h1⟩
    | false => exact h1 _ _ _ (Nx.refl _ _) rh rfl⟩
theorem et_or (ha : ET X Γ W a ta) (hb : EW X Γ W (.BoolOp .Or (b :: rest) pos) tb) : EW X Γ W (.BoolOp .Or (a :: b :: rest) pos) (tOr2 ta tb) :=
  PW.imp (pw_or ha hb) fun σ H Q ⟨ζ, M, μ, rr, h⟩ => ⟨ζ, M, μ, rr, Pst.then h fun v H1 d M1 μ1 nx rh rv h1 => by
    have rv : d = v := rv
    subst rv
    cases d with
    | false => exact ⟨ζ, M1, μ1, ⟨rr.sl.mono nx, rh⟩, h1⟩
    | true => exact h1 _ _ _ (Nx.refl _ _) rh rfl⟩
theorem et_w (h : EW X Γ W a ta) : ET X Γ W a ta := PW.pt h
theorem et_not (ha : ET X Γ W a ta) : ET X Γ W (.UnaryOp .Not a pos) (tNot1 ta) :=
  PT.imp (pt_not ha) fun σ H Q ⟨ζ, M, μ, rr, h⟩ => ⟨ζ, M, μ, rr, Pst.then h fun v H1 d M1 μ1 nx rh rv h1 => by
    cases rv
    exact h1 _ _ _ (Nx.refl _ _) rh rfl⟩
theorem ex_one {op} (h : EX X Γ W a fa) : EX X Γ W (.BoolOp op [a] pos) fa := pe_one h
theorem ex_and (ha : EX X Γ W a fa) (hb : EX X Γ W (.BoolOp .And (b :: rest) pos) fb) : EX X Γ W (.BoolOp .And (a :: b :: rest) pos) (xAnd fa fb) :=
  PE.imp (pe_and ha hb) fun σ H Q ⟨ζ, M, μ, rr, h⟩ => ⟨ζ, M, μ, rr, Pst.then h fun v H1 d M1 μ1 nx rh rv h1 => by
    cases d with
    | bl k =>
      cases rv
      refine ⟨k, rfl, ?_⟩
      cases k with
      | true => exact ⟨ζ, M1, μ1, ⟨rr.sl.mono nx, rh⟩, h1⟩
      | false => exact h1 _ _ _ (Nx.refl _ _) rh (.bl _)
    | _ => exact h1.elim⟩
theorem ex_or (ha : EX X Γ W a fa) (hb : EX X Γ W (.BoolOp .Or (b :: rest) pos) fb) : EX X Γ W (.BoolOp .Or (a :: b :: rest) pos) (xOr fa fb) :=
  PE.imp (pe_or ha hb) fun σ H Q ⟨ζ, M, μ, rr, h⟩ => ⟨ζ, M, μ, rr, Pst.then h fun v H1 d M1 μ1 nx rh rv h1 => by
    cases d with
    | bl k =>
      cases rv
      refine ⟨k, rfl, ?_⟩
      cases k with
      | false => exact ⟨ζ, M1, μ1, ⟨rr.sl.mono nx, rh⟩, h1⟩
      | true => exact h1 _ _ _ (Nx.refl _ _) rh (.bl _)
    | _ => exact h1.elim⟩
theorem ex_not (ha : EX X Γ W a fa) : EX X Γ W (.UnaryOp .Not a pos) (xNot fa) :=
  PE.imp (pe_not ha) fun σ H Q ⟨ζ, M, μ, rr, h⟩ => ⟨ζ, M, μ, rr, Pst.then h fun v H1 d M1 μ1 nx rh rv h1 => by
    cases d with
    | bl k =>
      cases rv
      exact ⟨k, rfl, h1 _ _ _ (Nx.refl _ _) rh (.bl _)⟩
    | _ => exact h1.elim⟩
theorem ex_if (hc : ET X Γ W c ta) (ha : EX X Γ W a fa) (hb : EX X Γ W b fb) : EX X Γ W (.IfExp c a b pos) (xIf ta fa fb) :=
  PE.imp (pe_ifExp hc ha hb) fun σ H Q ⟨ζ, M, μ, rr, h⟩ => ⟨ζ, M, μ, rr, Pst.then h fun v H1 d M1 μ1 nx rh rv h1 => by
    have rv : d = v := rv
    subst rv
    cases d with
    | true => exact ⟨ζ, M1, μ1, ⟨rr.sl.mono nx, rh⟩, h1⟩
    | false => exact ⟨ζ, M1, μ1, ⟨rr.sl.mono nx, rh⟩, h1⟩⟩
theorem ex_neg (ha : EX X Γ W a fa) : EX X Γ W (.UnaryOp .USub a pos) (xNeg fa) :=
  PE.imp (pe_un un_neg ha) fun σ H Q ⟨ζ, M, μ, rr, h⟩ => ⟨ζ, M, μ, rr, Pst.then h fun v H1 d M1 μ1 nx rh rv h1 => by
    cases d with
    | int i =>
      cases rv
      exact ⟨i, rfl, h1 _ _ _ (Nx.refl _ _) rh (.int _)⟩
    | _ => exact h1.elim⟩
theorem tChain_of {g g' : D → D → Hs → Option (D × Hs)} {σ : L2.St} {H : Hp} {Q : VK} (h : tX X.prog X.w X.K Γ W (x3 g g' fa fb fc) σ H Q) :
    tChain (r2 X.prog X.w X.K Γ g) (r2 X.prog X.w X.K Γ g') (tX X.prog X.w X.K Γ W fa) (tX X.prog X.w X.K Γ W fb) (tX X.prog X.w X.K Γ W fc) σ H Q := by
  obtain ⟨ζ, M, μ, rr, h⟩ := h
  refine ⟨ζ, M, μ, rr, Pst.then h fun v H1 d M1 μ1 nx rh rv h1 => ⟨ζ, M1, μ1, ⟨rr.sl.mono nx, rh⟩, Pst.then h1 fun v2 H2 e M2 μ2 nx2 rh2 rv2 h2 => ⟨d, e, M2, μ2, rh2, rv.mono nx2, rv2, ?_⟩⟩⟩
  cases hg : g d e M2 with
  | none => rw [hg] at h2; exact h2.elim
  | some p =>
    rw [hg] at h2
    obtain ⟨z, M3⟩ := p
    intro v3 H3 μ3 nx3 rh3 rv3
    have h3 := Pst.mono h2 nx3
    cases z with
    | bl k =>
      cases rv3
      refine ⟨k, rfl, ?_⟩
      cases k with
      | true =>
        rw [if_pos rfl]
        exact ⟨ζ, M3, μ3, ⟨(rr.sl.mono nx).mono (nx2.trans nx3), rh3⟩, Pst.then h3 fun v4 H4 u M4 μ4 nx4 rh4 rv4 h4 => ⟨e, u, M4, μ4, rh4, (rv2.mono nx3).mono nx4, rv4, h4.of⟩⟩
      | false =>
        rw [if_neg Bool.false_ne_true]
        exact h3 _ _ _ (Nx.refl _ _) rh3 (.bl _)
    | _ => exact h3.elim
theorem ex_chain {op op' : CmpOp} {g g' : D → D → Hs → Option (D × Hs)} (ho : Op2 X Γ (compareOp op) g) (ho' : Op2 X Γ (compareOp op') g') (ha : EX X Γ W a fa) (hb : EX X Γ W b fb) (hc : EX X Γ W c fc)
    (hm : lastMarks [op, op'] [b, c] = false := by with_unfolding_all rfl) : EX X Γ W (.Compare a [op, op'] [b, c] pos) (x3 g g' fa fb fc) := PE.imp (pe_chain ho ho' ha hb hc hm) fun _ _ _ h => tChain_of h
theorem et_chain {op op' : CmpOp} {g g' : D → D → Hs → Option (D × Hs)} (ho : Op2 X Γ (compareOp op) g) (ho' : Op2 X Γ (compareOp op') g') (ha : EX X Γ W a fa) (hb : EX X Γ W b fb) (hc : EX X Γ W c fc)
    (hm : lastMarks [op, op'] [b, c] = false := by with_unfolding_all rfl) : ET X Γ W (.Compare a [op, op'] [b, c] pos) (tB1 (x3 g g' fa fb fc)) := PT.imp (pt_chain ho ho' ha hb hc hm) fun _ _ _ h => tTest_of (fun _ => tChain_of) h
end
end Mi
end
section
set_option maxRecDepth 100000
set_option maxHeartbeats 2000000
set_option autoImplicit false
namespace Mi
open PySem PySem.Spec PyProof.Rows L2

def aNil : MA := fun _ M => .ok [] M
def aCons (f : MX) (g : MA) : MA := fun ζ M => (f ζ M).bind fun x M1 => (g ζ M1).bind fun xs M2 => .ok (x :: xs) M2
def aStar (f : MX) (g : MA) : MA := fun ζ M => (f ζ M).bind fun x M1 => match hSeq M1 x with
  | some ys => (g ζ M1).bind fun xs M2 => .ok (ys ++ xs) M2
  | none => .no
def xTup (g : MA) : MX := fun ζ M => (g ζ M).bind fun ds M1 => if ds.length ≤ sizeLine then .ok (.tup ds) M1 else .no
def xLst (g : MA) : MX := fun ζ M => (g ζ M).bind fun ds M1 => R.of (newL ds M1)
section
variable {X : Cx} {Γ : Gm} {W : WX} {a b c e : Expr} {es : List Expr} {fa fb fc fe : MX} {ga : MA} {pos p : Pos}
theorem ea_nil : EA X Γ W [] aNil := PA.imp pa_nil fun σ H Q ⟨ζ, M, μ, rr, h⟩ => h _ _ _ (Nx.refl _ _) rr.hp .nil
theorem ea_cons (he : EX X Γ W e fe) (hr : EA X Γ W es ga) (hs : starEach (e :: es) X.env = (false, eval e X.env) :: starEach es X.env := by rfl) : EA X Γ W (e :: es) (aCons fe ga) :=
  PA.imp (pa_cons he hr hs) fun σ H Q ⟨ζ, M, μ, rr, h⟩ => ⟨ζ, M, μ, rr, Pst.then h fun v H1 d M1 μ1 nx rh rv h1 => ⟨ζ, M1, μ1, ⟨rr.sl.mono nx, rh⟩, Pst.then h1 fun vs H2 ds M2 μ2 nx2 rh2 rvs h2 =>
    h2 _ _ _ (Nx.refl _ _) rh2 (.cons (rv.mono nx2) rvs)⟩⟩
theorem hSeq_ok {P : Program} {w : World} {K : PySem.W.Frag} {μ : List Addr} {M : Hs} {H : Hp} {d : D} {v : V} {xs : List D} (rh : RH P w K Γ μ M H) (h : hSeq M d = some xs) (r : RV K H μ d v) : ∃ a vs, v = .ref a ∧ (SqL K H a vs ∨ SqT K H a vs) ∧ RVs K H μ xs vs := by
  cases r with
  | tup h1 r1 => cases h; exact ⟨_, _, rfl, .inr h1, r1⟩
  | kls h1 r1 => cases h; exact ⟨_, _, rfl, .inl h1.sq, r1⟩
  | ref e1 =>
    simp only [hSeq] at h
    split at h
    · rename_i ys h2
      cases h
      obtain ⟨vs, g, r1⟩ := rh.at_ _ _ _ h2 e1
      exact ⟨_, vs, rfl, .inl (SqL.of g), r1⟩
    · rename_i ys h2
      cases h
      obtain ⟨vs, ⟨o, g⟩, r1⟩ := rh.at_ _ _ _ h2 e1
      exact ⟨_, vs, rfl, .inl (.inl (.inr ⟨o, g⟩)), r1⟩
    · cases h
  | _ => cases h
theorem hRef_ok {P : Program} {w : World} {K : PySem.W.Frag} {μ : List Addr} {M : Hs} {H : Hp} {n : Nat} {v : V} {xs : List D} (rh : RH P w K Γ μ M H) (h : hSeq M (.ref n) = some xs) (r : RV K H μ (.ref n) v) : ∃ a vs, v = .ref a ∧ SqL K H a vs ∧ RVs K H μ xs vs := by
  cases r with
  | ref e1 =>
    simp only [hSeq] at h
    split at h
    · rename_i ys h2
      cases h
      obtain ⟨vs, g, r1⟩ := rh.at_ _ _ _ h2 e1
      exact ⟨_, vs, rfl, SqL.of g, r1⟩
    · rename_i ys h2
      cases h
      obtain ⟨vs, ⟨o, g⟩, r1⟩ := rh.at_ _ _ _ h2 e1
      exact ⟨_, vs, rfl, (.inl (.inr ⟨o, g⟩)), r1⟩
    · cases h
theorem ea_star (he : EX X Γ W e fe) (hr : EA X Γ W es ga) (hs : starEach (.Starred e p :: es) X.env = (true, eval e X.env) :: starEach es X.env := by rfl) : EA X Γ W (.Starred e p :: es) (aStar fe ga) :=
  PA.imp (StX.pa_star he hr hs) fun σ H Q ⟨ζ, M, μ, rr, h⟩ => ⟨ζ, M, μ, rr, Pst.then h fun v H1 d M1 μ1 nx rh rv h1 => by
    cases hq : hSeq M1 d with
    | none => rw [hq] at h1; exact h1.elim
    | some ys =>
      rw [hq] at h1
      obtain ⟨a, vs, rfl, hs, r⟩ := hSeq_ok rh hq rv
      exact ⟨a, vs, rfl, hs.symm, ⟨ζ, M1, μ1, ⟨rr.sl.mono nx, rh⟩, Pst.then h1 fun ws H2 ds M2 μ2 nx2 rh2 rvs h2 => h2 _ _ _ (Nx.refl _ _) rh2 ((r.mono nx2).append rvs)⟩⟩⟩
theorem ex_tup {k} (ha : EA X Γ W es ga) : EX X Γ W (.Tuple es k pos) (xTup ga) :=
  PE.imp (pe_tup ha) fun σ H Q ⟨ζ, M, μ, rr, h⟩ => ⟨ζ, M, μ, rr, Pst.then h fun vs H1 ds M1 μ1 nx rh rv h1 => by
    split at h1
    · rename_i hl
      exact ⟨by rw [← RVs.length rv]; exact hl, fun p hp => h1 _ _ _ (Nx.fresh0 hp) (rh.fresh hp) (.tup (SqT.of upd_same) (RVs.mono (Nx.fresh0 hp) rv))⟩
    · exact h1.elim⟩
theorem ex_lst (ha : EA X Γ W es ga) : EX X Γ W (.List es pos) (xLst ga) :=
  PE.imp (pe_lst ha) fun σ H Q ⟨ζ, M, μ, rr, h⟩ => ⟨ζ, M, μ, rr, Pst.then h fun vs H1 ds M1 μ1 nx rh rv h1 => by
    unfold newL at h1
    split at h1
    · rename_i hl
      exact ⟨by rw [← RVs.length rv]; exact hl, fun p hp => Pk.new rh h1 hp ⟨_, upd_same, RVs.mono (Nx.fresh hp _) rv⟩⟩
    · exact h1.elim⟩

def gIx (x y : D) (M : Hs) : Option (D × Hs) := match hSeq M x, y with
  | some xs, .int i => match atI xs i with
    | some d => some (d, M)
    | none => none
  | _, _ => none
theorem atI_rel {K : PySem.W.Frag} {H : Hp} {μ : List Addr} {xs : List D} {vs : List V} {i : Int} {d : D} (r : RVs K H μ xs vs) (h : atI xs i = some d) : ∃ v, atI vs i = some v ∧ RV K H μ d v := by
  unfold atI at h ⊢
  rw [← r.length]
  cases e : ixN xs.length i with
  | none => rw [e] at h; cases h
  | some j =>
    rw [e] at h
    exact r.get h
theorem ix_any : IxR X (fun x y H Q => rIxL X.K x y H Q ∨ rIxT X.K x y H Q) := ix_list.or ix_tup
theorem ex_ix (ha : EX X Γ W a fa) (hb : EX X Γ W b fb) (hs : PlainIx b := by intro _ _; rfl) : EX X Γ W (.Subscript a b pos) (x2 gIx fa fb) :=
  PE.imp (pe_ix ix_any ha hb hs) fun σ H Q ⟨ζ, M, μ, rr, h⟩ => ⟨ζ, M, μ, rr, Pst.then h fun v H1 d M1 μ1 nx rh rv h1 => ⟨ζ, M1, μ1, ⟨rr.sl.mono nx, rh⟩, Pst.then h1 fun v2 H2 e M2 μ2 nx2 rh2 rv2 h2 => by
    replace h2 := h2.of
    unfold gIx at h2
    split at h2
    · rename_i xs i hq
      cases rv2
      split at h2
      · rename_i z hz
        obtain ⟨a, vs, rfl, hs, r⟩ := hSeq_ok rh2 hq (RV.mono nx2 rv)
        obtain ⟨u, g1, g2⟩ := atI_rel r hz
        rcases hs with hs | hs
        · exact .inl ⟨_, _, _, _, rfl, rfl, hs, g1, Pk.here rh2 h2 g2⟩
        · exact .inr ⟨_, _, _, _, rfl, rfl, hs, g1, Pk.here rh2 h2 g2⟩
      · exact h2.elim
    · exact h2.elim⟩⟩
abbrev MO' := Sl → Hs → R (Option Int)
def oNone : MO' := fun _ M => .ok none M
def oSome (f : MX) : MO' := fun ζ M => (f ζ M).bind fun x M1 => match x with
  | .int i => .ok (some i) M1
  | _ => .no
abbrev EO (X : Cx) (Γ : Gm) (W : WX) (e : Option Expr) (f : MO') : Prop := PO X e (fun σ H Q => ∃ ζ M μ, RR X.prog X.w X.K Γ μ H ζ M σ ∧ Pst X.prog X.w X.K Γ (fun _ _ a b => a = b) W σ μ H (f ζ M) Q)
theorem PO.imp {e : Option Expr} {t t' : TO} (h : PO X e t) (i : ∀ σ H Q, t' σ H Q → t σ H Q) : PO X e t' := ⟨fun pins s σ H Q I q => h.run pins s σ H Q I (i _ _ _ q)⟩
theorem eo_none : EO X Γ W none oNone := PO.imp po_none fun σ H Q ⟨ζ, M, μ, rr, h⟩ => h _ _ _ (Nx.refl _ _) rr.hp rfl
theorem eo_some (ha : EX X Γ W a fa) : EO X Γ W (some a) (oSome fa) := PO.imp (po_some ha) fun σ H Q ⟨ζ, M, μ, rr, h⟩ => ⟨ζ, M, μ, rr, Pst.then h fun v H1 d M1 μ1 nx rh rv h1 => by
  cases d with
  | int i => cases rv; exact ⟨i, rfl, h1 _ _ _ (Nx.refl _ _) rh rfl⟩
  | _ => exact h1.elim⟩
def cutD {α : Type} (xs : List α) (lo hi : Option Int) : List α := (xs.drop (HT.sIx xs.length 0 lo)).take (HT.sIx xs.length xs.length hi - HT.sIx xs.length 0 lo)
theorem cut_rel {K : PySem.W.Frag} {H : Hp} {μ : List Addr} {xs : List D} {vs : List V} (r : RVs K H μ xs vs) (lo hi : Option Int) : RVs K H μ (cutD xs lo hi) (cutV vs lo hi) := by
  unfold cutD cutV
  rw [← r.length]
  exact (r.drop _).take _
theorem cutV_whole {vs : List V} {lo hi : Option Int} (h : HT.sIx vs.length 0 lo = 0 ∧ HT.sIx vs.length vs.length hi = vs.length) : cutV vs lo hi = vs := by
  unfold cutV
  rw [h.1, h.2]
  simp
def gCut (x : D) (lo hi : Option Int) (M : Hs) : Option (D × Hs) := match x with
  | .tup xs => some (.tup (cutD xs lo hi), M)
  | .ref n => match hSeq M (.ref n) with
    | some xs => some (.ref M.length, M ++ [.lst (cutD xs lo hi)])
    | none => none
  | _ => none
def xCut (f : MX) (l h : MO') : MX := fun ζ M => (f ζ M).bind fun x M1 => (l ζ M1).bind fun i M2 => (h ζ M2).bind fun j M3 => R.of (gCut x i j M3)
theorem sl_any : L2.SlR X (fun x lo hi H Q => rSlL X.K x lo hi H Q ∨ rSlA X.K x lo hi H Q) := sl_list.or sl_tupA
theorem ex_cut {lo hi : Option Expr} {fl fh : MO'} {p2 : Pos} (ha : EX X Γ W a fa) (hl : EO X Γ W lo fl) (hh : EO X Γ W hi fh) : EX X Γ W (.Subscript a (.Slice lo hi none p2) pos) (xCut fa fl fh) :=
  PE.imp (pe_slice sl_any ha hl hh) fun σ H Q ⟨ζ, M, μ, rr, h⟩ => ⟨ζ, M, μ, rr, Pst.then h fun v H1 d M1 μ1 nx rh rv h1 => ⟨ζ, M1, μ1, ⟨rr.sl.mono nx, rh⟩, Pst.then h1 fun v2 H2 i M2 μ2 nx2 rh2 rv2 h2 =>
    ⟨ζ, M2, μ2, ⟨(rr.sl.mono nx).mono nx2, rh2⟩, Pst.then h2 fun v3 H3 j M3 μ3 nx3 rh3 rv3 h3 => by
    replace h3 := h3.of
    replace rv2 : i = v2 := rv2
    replace rv3 : j = v3 := rv3
    subst rv2 rv3
    replace rv := (RV.mono nx2 rv).mono nx3
    unfold gCut at h3
    split at h3
    · cases rv with
      | tup g r =>
        refine .inr ⟨_, _, rfl, g, fun hw => ?_, fun hw p hp => Pk.tup rh3 h3 hp (cut_rel r _ _)⟩
        refine Pk.here rh3 h3 (.tup g ?_)
        have := cut_rel r i j
        rwa [cutV_whole hw] at this
    · split at h3
      · rename_i n xs hq
        obtain ⟨a, vs, rfl, hs, r⟩ := hRef_ok rh3 hq rv
        exact .inl ⟨_, _, rfl, hs, fun p hp => Pk.new rh3 h3 hp ⟨_, upd_same, (cut_rel r _ _).mono (Nx.fresh hp _)⟩⟩
      · exact h3.elim
    · exact h3.elim⟩⟩⟩
def gRevL (x : D) (M : Hs) : Option (D × Hs) := match x with
  | .ref n => match hSeq M (.ref n) with
    | some xs => some (.ref M.length, M ++ [.lst xs.reverse])
    | none => none
  | _ => none
end
end Mi
end
section
set_option maxRecDepth 100000
set_option maxHeartbeats 2000000
set_option autoImplicit false
namespace Mi
open PySem PySem.Spec PyProof.Rows L2

abbrev GL := List D → Hs → Option (D × Hs)
def xB (g : GL) (fas : MA) : MX := fun ζ M => (fas ζ M).bind fun ds M1 => R.of (g ds M1)
def rC (P : Program) (w : World) (K : PySem.W.Frag) (Γ : Gm) (g : GL) : List V → Hp → VK → Prop := fun xs H Q => ∃ ds M μ, RH P w K Γ μ M H ∧ RVs K H μ ds xs ∧ Pk P w K Γ (relV K) μ H (g ds M) Q
abbrev CB (X : Cx) (Γ : Gm) (f : Value) (g : GL) : Prop := CallR X f (rC X.prog X.w X.K Γ g)
abbrev GM := D → List D → Hs → Option (D × Hs)
def xMeth (ok : D → Hs → Bool) (g : GM) (fo : MX) (fas : MA) : MX := fun ζ M => (fo ζ M).bind fun x M1 => if ok x M1 = true then (fas ζ M1).bind fun ds M2 => R.of (g x ds M2) else .no
def rM (P : Program) (w : World) (K : PySem.W.Frag) (Γ : Gm) (g : GM) : V → List V → Hp → VK → Prop := fun x xs H Q => ∃ d ds M μ, RH P w K Γ μ M H ∧ RV K H μ d x ∧ RVs K H μ ds xs ∧ Pk P w K Γ (relV K) μ H (g d ds M) Q
abbrev CM (X : Cx) (Γ : Gm) (id : String) (g : GM) : Prop := MtR X id (rM X.prog X.w X.K Γ g)
def isLst (d : D) (M : Hs) : Bool := match d with
  | .ref n => (hLst M n).isSome
  | _ => false
def isStr (d : D) (_ : Hs) : Bool := match d with
  | .str _ => true
  | _ => false
/-- of which built-in type a value is told -/
def TyOk (T : String) (ok : D → Hs → Bool) : Prop := ∀ {P : Program} {w : World} {K : PySem.W.Frag} {Γ : Gm} {μ : List Addr} {M : Hs} {H : Hp} {d : D} {v : V}, RH P w K Γ μ M H → RV K H μ d v → ok d M = true → tyV K T v H
theorem hLst_ok {P : Program} {w : World} {K : PySem.W.Frag} {Γ : Gm} {μ : List Addr} {M : Hs} {H : Hp} {n : Nat} {xs : List D} (rh : RH P w K Γ μ M H) (h : hLst M n = some xs) : M[n]? = some (.lst xs) := by
  unfold hLst at h
  split at h
  · rename_i ys e
    cases h
    exact e
  · cases h
theorem ty_lst : TyOk "list" isLst := by
  intro P w K Γ μ M H d v rh r h
  unfold isLst at h
  split at h
  · rename_i n
    cases r with
    | ref e =>
      obtain ⟨xs, hx⟩ := Option.isSome_iff_exists.mp h
      obtain ⟨vs, g, _⟩ := nlst rh (hLst_ok rh hx) e
      exact .inl ⟨rfl, vs, SqL.of g⟩
  · cases h
theorem ty_str : TyOk "str" isStr := by
  intro P w K Γ μ M H d v rh r h
  unfold isStr at h
  split at h
  · cases r
    rfl
  · cases h
section
variable {X : Cx} {Γ : Gm} {W : WX} {a b c e o : Expr} {es : List Expr} {fa fb fc fe fo : MX} {ga : MA} {pos p apos cpos : Pos} {x name : Str} {id T : String}
theorem tCB_of {g : GL} {σ : L2.St} {H : Hp} {Q : VK} (h : tX X.prog X.w X.K Γ W (xB g ga) σ H Q) : tCB (rC X.prog X.w X.K Γ g) (tA X.prog X.w X.K Γ W ga) σ H Q := by
  obtain ⟨ζ, M, μ, rr, h⟩ := h
  exact ⟨ζ, M, μ, rr, Pst.then h fun vs H1 ds M1 μ1 nx rh rv h1 => ⟨ds, M1, μ1, rh, rv, h1.of⟩⟩
theorem ex_callB {g : GL} (hc : CB X Γ (.builtin id) g) (hm : X.mg x = none) (hv : bootBuiltins x = some (.builtin id)) (ha : EA X Γ W (e :: es) ga) (hg : Gl X x := by rfl) (hn : x ≠ "__name__" := by decide) (hdb : (x == ("__debug__" : Str)) = false := by decide)
    (he : starEach (e :: es) X.env = (false, eval e X.env) :: starEach es X.env := by rfl) (hpl : (backTo pos (starEach es X.env)).any (·.1) = false := by rfl) : EX X Γ W (.Call (.Name x p) (e :: es) [] pos) (xB g ga) :=
  PE.imp (pe_callB hc hg hm hv ha hn hdb he hpl) fun _ _ _ h => tCB_of h
theorem ex_callTy {g : GL} (hc : CB X Γ (.type T) g) (hm : X.mg x = none) (hv : bootBuiltins x = some (.type T)) (ha : EA X Γ W (e :: es) ga) (hg : Gl X x := by rfl) (hn : x ≠ "__name__" := by decide) (hdb : (x == ("__debug__" : Str)) = false := by decide)
    (he : starEach (e :: es) X.env = (false, eval e X.env) :: starEach es X.env := by rfl) (hpl : (backTo pos (starEach es X.env)).any (·.1) = false := by rfl) : EX X Γ W (.Call (.Name x p) (e :: es) [] pos) (xB g ga) :=
  PE.imp (pe_callTy hc hg hm hv ha hn hdb he hpl) fun _ _ _ h => tCB_of h
theorem ex_meth {ok : D → Hs → Bool} {g : GM} (pa : PlainAttrs T) (slot : Slot T name id) (hty : typeOf (.builtin id) = pure (.type "method_descriptor")) (hk : TyOk T ok) (hm : CM X Γ id g) (ho : EX X Γ W o fo) (ha : EA X Γ W (e :: es) ga)
    (hbase : attributeBase o name X.env (eval o X.env) = eval o X.env := by rfl)
    (hfew : ((backTo cpos (starEach (e :: es) X.env)).all (fun x => !x.1) && (backToKw cpos (keywordEach [] X.env)).all (fun x => x.1.isSome)
      && decide ((e :: es).length + ([] : List Keyword).length + (if ([] : List Keyword).isEmpty then 0 else 1) < 30)) = true := by rfl)
    (hline : (apos.endLine == cpos.line) = true := by rfl) (hs : starEach (e :: es) X.env = (false, eval e X.env) :: starEach es X.env := by rfl) (hplain : (backTo cpos (starEach es X.env)).any (·.1) = false := by rfl) :
    EX X Γ W (.Call (.Attribute o name apos) (e :: es) [] cpos) (xMeth ok g fo ga) :=
  PE.imp (pe_bm pa slot hty hm ho ha hbase hfew hline hs hplain) fun σ H Q ⟨ζ, M, μ, rr, h⟩ => ⟨ζ, M, μ, rr, Pst.then h fun v H1 d M1 μ1 nx rh rv h1 => by
    split at h1
    · rename_i hok
      exact ⟨hk rh rv hok, ζ, M1, μ1, ⟨rr.sl.mono nx, rh⟩, Pst.then h1 fun vs H2 ds M2 μ2 nx2 rh2 rvs h2 => ⟨d, ds, M2, μ2, rh2, RV.mono nx2 rv, rvs, h2.of⟩⟩
    · exact h1.elim⟩
theorem ex_meth0 {ok : D → Hs → Bool} {g : GM} (pa : PlainAttrs T) (slot : Slot T name id) (hty : typeOf (.builtin id) = pure (.type "method_descriptor")) (hk : TyOk T ok) (hm : CM X Γ id g) (ho : EX X Γ W o fo)
    (hbase : attributeBase o name X.env (eval o X.env) = eval o X.env := by rfl) (hline : (apos.endLine == cpos.line) = true := by rfl) : EX X Γ W (.Call (.Attribute o name apos) [] [] cpos) (xMeth ok g fo aNil) :=
  PE.imp (pe_bm0 pa slot hty hm ho hbase hline) fun σ H Q ⟨ζ, M, μ, rr, h⟩ => ⟨ζ, M, μ, rr, Pst.then h fun v H1 d M1 μ1 nx rh rv h1 => by
    split at h1
    · rename_i hok
      exact ⟨hk rh rv hok, d, [], M1, μ1, rh, rv, .nil, Pst.of h1⟩
    · exact h1.elim⟩
end

def gLen : GL := fun ds M => match ds with
  | [.str x] => if x.length ≤ sizeLine then some (.int x.length, M) else none
  | [d] => match hSeq M d with
    | some xs => some (.int xs.length, M)
    | none => none
  | _ => none
def gAbs : GL := fun ds M => match ds with
  | [.int i] => some (.int (if i < 0 then -i else i), M)
  | _ => none
def gMax2 : GL := fun ds M => match ds with
  | [.int i, .int j] => some (.int (if j > i then j else i), M)
  | _ => none
def gMin2 : GL := fun ds M => match ds with
  | [.int i, .int j] => some (.int (if j < i then j else i), M)
  | _ => none
def gInt : GL := fun ds M => match ds with
  | [.int i] => some (.int i, M)
  | [.bl k] => some (.int (if k then 1 else 0), M)
  | _ => none
def gList : GL := fun ds M => match ds with
  | [d] => match hSeq M d with
    | some xs => some (.ref M.length, M ++ [.lst xs])
    | none => none
  | _ => none
def gTuple : GL := fun ds M => match ds with
  | [d] => match hSeq M d with
    | some xs => some (.tup xs, M)
    | none => none
  | _ => none
def blsOf : List D → Option (List Bool)
  | [] => some []
  | .bl b :: r => match blsOf r with
    | some bs => some (b :: bs)
    | none => none
  | _ => none
def intsOf : List D → Option (List Int)
  | [] => some []
  | .int b :: r => match intsOf r with
    | some bs => some (b :: bs)
    | none => none
  | _ => none
def gBools (k : List Bool → Bool) : GL := fun ds M => match ds with
  | [.ref n] => match hSeq M (.ref n) with
    | some xs => match blsOf xs with
      | some bs => some (.bl (k bs), M)
      | none => none
    | none => none
  | _ => none
def gAny : GL := gBools fun bs => bs.any id
def gAll : GL := gBools fun bs => bs.all id
def minI : Int → List Int → Int
  | m, [] => m
  | m, x :: r => minI (if x < m then x else m) r
def maxI : Int → List Int → Int
  | m, [] => m
  | m, x :: r => maxI (if m < x then x else m) r
def gExt (k : Int → List Int → Int) : GL := fun ds M => match ds with
  | [.ref n] => match hSeq M (.ref n) with
    | some xs => match intsOf xs with
      | some (i :: is) => some (.int (k i is), M)
      | _ => none
    | none => none
  | _ => none
def gMinL : GL := gExt minI
def gMaxL : GL := gExt maxI
section
variable {K : PySem.W.Frag} {H : Hp} {μ : List Addr}
theorem blsOf_ok : ∀ {xs : List D} {bs : List Bool} {vs : List V}, blsOf xs = some bs → RVs K H μ xs vs → vs = bs.map V.bl
  | [], bs, vs, h, r => by cases h; cases r; rfl
  | d :: xs, bs, vs, h, r => by
    cases d with
    | bl b =>
      simp only [blsOf] at h
      split at h
      · rename_i cs e
        cases h
        cases r with
        | cons r1 r2 =>
          cases r1
          rw [List.map_cons, blsOf_ok e r2]
      · cases h
    | _ => cases h
theorem intsOf_ok : ∀ {xs : List D} {bs : List Int} {vs : List V}, intsOf xs = some bs → RVs K H μ xs vs → vs = bs.map V.int
  | [], bs, vs, h, r => by cases h; cases r; rfl
  | d :: xs, bs, vs, h, r => by
    cases d with
    | int b =>
      simp only [intsOf] at h
      split at h
      · rename_i cs e
        cases h
        cases r with
        | cons r1 r2 =>
          cases r1
          rw [List.map_cons, intsOf_ok e r2]
      · cases h
    | _ => cases h
theorem minI_spec : ∀ (r : List Int) (m : Int), (minI m r = m ∨ minI m r ∈ r) ∧ minI m r ≤ m ∧ ∀ y ∈ r, minI m r ≤ y
  | [], m => ⟨.inl rfl, Int.le_refl _, fun y h => nomatch h⟩
  | x :: r, m => by
    have ih := minI_spec r (if x < m then x else m)
    unfold minI
    refine ⟨?_, ?_, fun y hy => ?_⟩
    · rcases ih.1 with h | h
      · split at h
        · rename_i hlt
          rw [if_pos hlt]
          exact .inr (by rw [h]; exact List.mem_cons_self)
        · rename_i hlt
          rw [if_neg hlt]
          exact .inl h
      · exact .inr (List.mem_cons_of_mem _ h)
    · have := ih.2.1
      split at this <;> split <;> omega
    · rcases List.mem_cons.mp hy with e | hy
      · subst e
        have := ih.2.1
        split at this <;> split <;> omega
      · exact ih.2.2 y hy
theorem maxI_spec : ∀ (r : List Int) (m : Int), (maxI m r = m ∨ maxI m r ∈ r) ∧ m ≤ maxI m r ∧ ∀ y ∈ r, y ≤ maxI m r
  | [], m => ⟨.inl rfl, Int.le_refl _, fun y h => nomatch h⟩
  | x :: r, m => by
    have ih := maxI_spec r (if m < x then x else m)
    unfold maxI
    refine ⟨?_, ?_, fun y hy => ?_⟩
    · rcases ih.1 with h | h
      · split at h
        · rename_i hlt
          rw [if_pos hlt]
          exact .inr (by rw [h]; exact List.mem_cons_self)
        · rename_i hlt
          rw [if_neg hlt]
          exact .inl h
      · exact .inr (List.mem_cons_of_mem _ h)
    · have := ih.2.1
      split at this <;> split <;> omega
    · rcases List.mem_cons.mp hy with e | hy
      · subst e
        have := ih.2.1
        split at this <;> split <;> omega
      · exact ih.2.2 y hy
theorem one_rel {d : D} {vs : List V} (r : RVs K H μ [d] vs) : ∃ v, vs = [v] ∧ RV K H μ d v := by
  cases r with
  | cons r1 r2 => cases r2; exact ⟨_, rfl, r1⟩
theorem two_rel {d e : D} {vs : List V} (r : RVs K H μ [d, e] vs) : ∃ v u, vs = [v, u] ∧ RV K H μ d v ∧ RV K H μ e u := by
  cases r with
  | cons r1 r2 =>
    cases r2 with
    | cons r2 r3 => cases r3; exact ⟨_, _, rfl, r1, r2⟩
end
section
variable {X : Cx} {Γ : Gm}
theorem b_len : CB X Γ (.builtin "len") gLen := by
  intro pins s σ H xs us Q I r ⟨ds, M, μ, rh, rv, hq⟩
  unfold gLen at hq
  split at hq
  · obtain ⟨v, rfl, r1⟩ := one_rel rv
    cases r1
    split at hq
    · rename_i hl
      exact call_len pins s σ H _ us Q I r ⟨_, _, rfl, ⟨hl, rfl⟩, Pk.here rh hq (.int _)⟩
    · exact hq.elim
  · obtain ⟨v, rfl, r1⟩ := one_rel rv
    split at hq
    · rename_i ys e
      obtain ⟨a, vs, rfl, hs, r2⟩ := hSeq_ok rh e r1
      rw [r2.length] at hq
      rcases hs with hs | hs
      · exact call_len pins s σ H _ us Q I r ⟨_, _, rfl, .inl ⟨vs, hs, rfl⟩, Pk.here rh hq (.int _)⟩
      · exact call_len pins s σ H _ us Q I r ⟨_, _, rfl, .inr ⟨vs, hs, rfl⟩, Pk.here rh hq (.int _)⟩
    · exact hq.elim
  · exact hq.elim
theorem b_abs : CB X Γ (.builtin "abs") gAbs := by
  intro pins s σ H xs us Q I r ⟨ds, M, μ, rh, rv, hq⟩
  unfold gAbs at hq
  split at hq
  · obtain ⟨v, rfl, r1⟩ := one_rel rv
    cases r1
    exact call_abs pins s σ H _ us Q I r ⟨_, rfl, Pk.here rh hq (.int _)⟩
  · exact hq.elim
theorem b_max2 (hc : X.calm = true) : CB X Γ (.builtin "max") gMax2 := by
  intro pins s σ H xs us Q I r ⟨ds, M, μ, rh, rv, hq⟩
  unfold gMax2 at hq
  split at hq
  · obtain ⟨v, u, rfl, r1, r2⟩ := two_rel rv
    cases r1; cases r2
    exact call_max2 hc pins s σ H _ us Q I r ⟨_, _, rfl, Pk.here rh hq (.int _)⟩
  · exact hq.elim
theorem b_min2 (hc : X.calm = true) : CB X Γ (.builtin "min") gMin2 := by
  intro pins s σ H xs us Q I r ⟨ds, M, μ, rh, rv, hq⟩
  unfold gMin2 at hq
  split at hq
  · obtain ⟨v, u, rfl, r1, r2⟩ := two_rel rv
    cases r1; cases r2
    exact call_min2 hc pins s σ H _ us Q I r ⟨_, _, rfl, Pk.here rh hq (.int _)⟩
  · exact hq.elim
theorem b_int : CB X Γ (.type "int") gInt := by
  intro pins s σ H xs us Q I r ⟨ds, M, μ, rh, rv, hq⟩
  unfold gInt at hq
  split at hq
  · obtain ⟨v, rfl, r1⟩ := one_rel rv
    cases r1
    exact call_int1 pins s σ H _ us Q I r (.inl ⟨_, rfl, Pk.here rh hq (.int _)⟩)
  · obtain ⟨v, rfl, r1⟩ := one_rel rv
    cases r1
    exact call_int1 pins s σ H _ us Q I r (.inr ⟨_, rfl, Pk.here rh hq (.int _)⟩)
  · exact hq.elim
theorem b_list : CB X Γ (.type "list") gList := by
  intro pins s σ H xs us Q I r ⟨ds, M, μ, rh, rv, hq⟩
  unfold gList at hq
  split at hq
  · obtain ⟨v, rfl, r1⟩ := one_rel rv
    split at hq
    · rename_i ys e
      obtain ⟨a, vs, rfl, hs, r2⟩ := hSeq_ok rh e r1
      exact call_list_of pins s σ H _ us Q I r ⟨_, vs, rfl, hs, fun p hp => Pk.new rh hq hp ⟨_, upd_same, r2.mono (Nx.fresh hp _)⟩⟩
    · exact hq.elim
  · exact hq.elim
theorem b_tuple : CB X Γ (.type "tuple") gTuple := by
  intro pins s σ H xs us Q I r ⟨ds, M, μ, rh, rv, hq⟩
  unfold gTuple at hq
  split at hq
  · obtain ⟨v, rfl, r1⟩ := one_rel rv
    split at hq
    · rename_i ys e
      obtain ⟨a, vs, rfl, hs, r2⟩ := hSeq_ok rh e r1
      refine call_tuple_of pins s σ H _ us Q I r ⟨_, vs, rfl, hs.imp (fun hs => ⟨hs, fun p hp => Pk.tup rh hq hp r2⟩) fun hs => ⟨hs, Pk.here rh hq (.tup hs r2)⟩⟩
    · exact hq.elim
  · exact hq.elim
theorem b_bools {id : String} {k : List Bool → Bool} (h : CallR X (.builtin id) (fun vs H Q => ∃ (a : Addr) (bs : List Bool), vs = [V.ref a] ∧ SqL X.K H a (bs.map V.bl) ∧ Q (.bl (k bs)) H)) : CB X Γ (.builtin id) (gBools k) := by
  intro pins s σ H xs us Q I r ⟨ds, M, μ, rh, rv, hq⟩
  unfold gBools at hq
  split at hq
  · obtain ⟨v, rfl, r1⟩ := one_rel rv
    split at hq
    · rename_i ys e
      obtain ⟨a, vs, rfl, hs, r2⟩ := hRef_ok rh e r1
      split at hq
      · rename_i bs e2
        have e3 := blsOf_ok e2 r2
        subst e3
        exact h pins s σ H _ us Q I r ⟨a, bs, rfl, hs, Pk.here rh hq (.bl _)⟩
      · exact hq.elim
    · exact hq.elim
  · exact hq.elim
theorem b_any (hc : X.calm = true) : CB X Γ (.builtin "any") gAny := b_bools (cr_any hc)
theorem b_all (hc : X.calm = true) : CB X Γ (.builtin "all") gAll := b_bools (cr_all hc)
theorem b_minL (hc : X.calm = true) : CB X Γ (.builtin "min") gMinL := by
  intro pins s σ H xs us Q I r ⟨ds, M, μ, rh, rv, hq⟩
  unfold gMinL gExt at hq
  split at hq
  · obtain ⟨v, rfl, r1⟩ := one_rel rv
    split at hq
    · rename_i ys e
      obtain ⟨a, vs, rfl, hs, r2⟩ := hRef_ok rh e r1
      split at hq
      · rename_i i is e2
        have e3 := intsOf_ok e2 r2
        subst e3
        refine cr_min hc pins s σ H _ us Q I r ⟨a, i :: is, rfl, hs, by simp, fun m hm hle => ?_⟩
        have sp := minI_spec is i
        have e4 : m = minI i is := by
          have h1 : m ≤ minI i is := hle _ (by rcases sp.1 with h | h; rw [h]; exact List.mem_cons_self; exact List.mem_cons_of_mem _ h)
          have h2 : minI i is ≤ m := by rcases List.mem_cons.mp hm with h | h; rw [h]; exact sp.2.1; exact sp.2.2 m h
          omega
        rw [e4]
        exact Pk.here rh hq (.int _)
      · exact hq.elim
    · exact hq.elim
  · exact hq.elim
theorem b_maxL (hc : X.calm = true) : CB X Γ (.builtin "max") gMaxL := by
  intro pins s σ H xs us Q I r ⟨ds, M, μ, rh, rv, hq⟩
  unfold gMaxL gExt at hq
  split at hq
  · obtain ⟨v, rfl, r1⟩ := one_rel rv
    split at hq
    · rename_i ys e
      obtain ⟨a, vs, rfl, hs, r2⟩ := hRef_ok rh e r1
      split at hq
      · rename_i i is e2
        have e3 := intsOf_ok e2 r2
        subst e3
        refine cr_max hc pins s σ H _ us Q I r ⟨a, i :: is, rfl, hs, by simp, fun m hm hle => ?_⟩
        have sp := maxI_spec is i
        have e4 : m = maxI i is := by
          have h1 : maxI i is ≤ m := hle _ (by rcases sp.1 with h | h; rw [h]; exact List.mem_cons_self; exact List.mem_cons_of_mem _ h)
          have h2 : m ≤ maxI i is := by rcases List.mem_cons.mp hm with h | h; rw [h]; exact sp.2.1; exact sp.2.2 m h
          omega
        rw [e4]
        exact Pk.here rh hq (.int _)
      · exact hq.elim
    · exact hq.elim
  · exact hq.elim

def gAppend : GM := fun d ds M => match d, ds with
  | .ref n, [y] => match hLst M n with
    | some xs => if xs.length < sizeLine then some (.non, M.set n (.lst (xs ++ [y]))) else none
    | none => none
  | _, _ => none
def gExtend : GM := fun d ds M => match d, ds with
  | .ref n, [.ref m] => match hLst M n, hLst M m with
    | some xs, some ys => if xs.length + ys.length ≤ sizeLine then some (.non, M.set n (.lst (xs ++ ys))) else none
    | _, _ => none
  | _, _ => none
def gPop : GM := fun d ds M => match d, ds with
  | .ref n, [] => match hLst M n with
    | some xs => match xs[xs.length - 1]? with
      | some y => some (y, M.set n (.lst xs.dropLast))
      | none => none
    | none => none
  | _, _ => none
def gPopAt : GM := fun d ds M => match d, ds with
  | .ref n, [.int i] => match hLst M n with
    | some xs => if 0 ≤ i then match xs[i.toNat]? with
      | some y => some (y, M.set n (.lst (xs.eraseIdx i.toNat)))
      | none => none else none
    | none => none
  | _, _ => none
def gInsert : GM := fun d ds M => match d, ds with
  | .ref n, [.int i, y] => match hLst M n with
    | some xs => if 0 ≤ i ∧ i < 2 ^ 63 ∧ xs.length < sizeLine then some (.non, M.set n (.lst (xs.take i.toNat ++ [y] ++ xs.drop i.toNat))) else none
    | none => none
  | _, _ => none
def gReverse : GM := fun d ds M => match d, ds with
  | .ref n, [] => match hLst M n with
    | some xs => some (.non, M.set n (.lst xs.reverse))
    | none => none
  | _, _ => none
theorem mutL {H : Hp} {a : Addr} {vs : List V} (h : H a = some (.lst vs)) : Mut (H a) := by rw [h]; trivial
theorem Pk.lst {P : Program} {w : World} {K : PySem.W.Frag} {Γ : Gm} {μ : List Addr} {M : Hs} {H : Hp} {Q : VK} {n : Nat} {a : Addr} {vs vs' : List V} {xs' : List D} {d : D} {v : V} (rh : RH P w K Γ μ M H) (e : μ[n]? = some a) (g : H a = some (.lst vs))
    (h : Pk P w K Γ (relV K) μ H (some (d, M.set n (.lst xs'))) Q) (r : RVs K H μ xs' vs') (rd : RV K H μ d v) : Q v (upd H a (.lst vs')) :=
  h _ _ _ (Nx.write (mutL g)) (rh.write e (mutL g) ⟨_, upd_same, r.mono (Nx.write (mutL g))⟩) (RV.mono (Nx.write (mutL g)) rd)
theorem ref_rel {H : Hp} {μ : List Addr} {K : PySem.W.Frag} {n : Nat} {v : V} (r : RV K H μ (.ref n) v) : ∃ a, v = .ref a ∧ μ[n]? = some a := by
  cases r with
  | ref e => exact ⟨_, rfl, e⟩
theorem l_append : CM X Γ "list.append" gAppend := by
  intro pins s σ H x xs v us Q I rx rs ⟨d, ds, M, μ, rh, rd, rv, hq⟩
  unfold gAppend at hq
  split at hq
  · obtain ⟨a, rfl, e⟩ := ref_rel rd
    obtain ⟨y, rfl, r1⟩ := one_rel rv
    split at hq
    · rename_i ys e2
      obtain ⟨vs, g, r2⟩ := nlst rh (hLst_ok rh e2) e
      split at hq
      · rename_i hl
        exact mt_append pins s σ H _ _ v us Q I rx rs ⟨a, vs, y, rfl, rfl, g, by rw [← r2.length]; exact hl, Pk.lst rh e g hq (r2.append (.cons r1 .nil)) .non⟩
      · exact hq.elim
    · exact hq.elim
  · exact hq.elim
theorem l_extend : CM X Γ "list.extend" gExtend := by
  intro pins s σ H x xs v us Q I rx rs ⟨d, ds, M, μ, rh, rd, rv, hq⟩
  unfold gExtend at hq
  split at hq
  · obtain ⟨a, rfl, e⟩ := ref_rel rd
    obtain ⟨y, rfl, r1⟩ := one_rel rv
    obtain ⟨b, rfl, e'⟩ := ref_rel r1
    split at hq
    · rename_i ys zs e2 e3
      obtain ⟨vs, g, r2⟩ := nlst rh (hLst_ok rh e2) e
      obtain ⟨us', g', r3⟩ := nlst rh (hLst_ok rh e3) e'
      split at hq
      · rename_i hl
        exact mt_extend pins s σ H _ _ v us Q I rx rs ⟨a, b, vs, us', rfl, rfl, g, g', by rw [← r2.length, ← r3.length]; exact hl, Pk.lst rh e g hq (r2.append r3) .non⟩
      · exact hq.elim
    · exact hq.elim
  · exact hq.elim
theorem l_pop : CM X Γ "list.pop" gPop := by
  intro pins s σ H x xs v us Q I rx rs ⟨d, ds, M, μ, rh, rd, rv, hq⟩
  unfold gPop at hq
  split at hq
  · obtain ⟨a, rfl, e⟩ := ref_rel rd
    cases rv
    split at hq
    · rename_i ys e2
      obtain ⟨vs, g, r2⟩ := nlst rh (hLst_ok rh e2) e
      split at hq
      · rename_i y hy
        obtain ⟨u, hu, r3⟩ := r2.get hy
        rw [r2.length] at hu
        exact mt_pop pins s σ H _ _ v us Q I rx rs ⟨a, vs, u, rfl, rfl, g, hu, Pk.lst rh e g hq r2.dropLast r3⟩
      · exact hq.elim
    · exact hq.elim
  · exact hq.elim
theorem l_popAt : CM X Γ "list.pop" gPopAt := by
  intro pins s σ H x xs v us Q I rx rs ⟨d, ds, M, μ, rh, rd, rv, hq⟩
  unfold gPopAt at hq
  split at hq
  · obtain ⟨a, rfl, e⟩ := ref_rel rd
    obtain ⟨y, rfl, r1⟩ := one_rel rv
    cases r1
    split at hq
    · rename_i ys e2
      obtain ⟨vs, g, r2⟩ := nlst rh (hLst_ok rh e2) e
      split at hq
      · rename_i h0
        split at hq
        · rename_i y hy
          obtain ⟨u, hu, r3⟩ := r2.get hy
          have hl : vs.length ≤ sizeLine := (I.hok a _ g).1
          have hlt : _ < vs.length := (List.getElem?_eq_some_iff.mp hu).1
          have h63 := line63
          refine mt_popAt pins s σ H _ _ v us Q I rx rs ⟨a, vs, _, _, u, rfl, rfl, g, by omega, by omega, PySem.StrLaws.seqIndex_nonneg h0 (by omega), hu, Pk.lst rh e g hq (r2.eraseIdx _) r3⟩
        · exact hq.elim
      · exact hq.elim
    · exact hq.elim
  · exact hq.elim
theorem l_insert : CM X Γ "list.insert" gInsert := by
  intro pins s σ H x xs v us Q I rx rs ⟨d, ds, M, μ, rh, rd, rv, hq⟩
  unfold gInsert at hq
  split at hq
  · obtain ⟨a, rfl, e⟩ := ref_rel rd
    obtain ⟨y, z, rfl, r1, r2⟩ := two_rel rv
    cases r1
    split at hq
    · rename_i ys e2
      obtain ⟨vs, g, r3⟩ := nlst rh (hLst_ok rh e2) e
      split at hq
      · rename_i hc
        exact mt_insert pins s σ H _ _ v us Q I rx rs ⟨a, vs, _, z, rfl, rfl, g, by rw [← r3.length]; exact hc.2.2, hc.1, hc.2.1, Pk.lst rh e g hq (((r3.take _).append (.cons r2 .nil)).append (r3.drop _)) .non⟩
      · exact hq.elim
    · exact hq.elim
  · exact hq.elim
theorem l_reverse : CM X Γ "list.reverse" gReverse := by
  intro pins s σ H x xs v us Q I rx rs ⟨d, ds, M, μ, rh, rd, rv, hq⟩
  unfold gReverse at hq
  split at hq
  · obtain ⟨a, rfl, e⟩ := ref_rel rd
    cases rv
    split at hq
    · rename_i ys e2
      obtain ⟨vs, g, r2⟩ := nlst rh (hLst_ok rh e2) e
      exact mt_reverse pins s σ H _ _ v us Q I rx rs ⟨a, vs, rfl, rfl, g, Pk.lst rh e g hq r2.reverse .non⟩
    · exact hq.elim
  · exact hq.elim
end

def kindOf (d : D) (M : Hs) : Option String := match d with
  | .non => some "NoneType"
  | .bl _ => some "bool"
  | .int _ => some "int"
  | .str _ => some "str"
  | .tup _ => some "tuple"
  | .ref n => match M[n]? with
    | some (.lst _) => some "list"
    | some (.ro _) => some "list"
    | _ => none
  | .klst _ => none
  | .exc .. => none
def isKind (a b : String) : Bool := a == b || (a == "bool" && b == "int")
def xIs (T : String) (f : MX) : MX := fun ζ M => (f ζ M).bind fun x M1 => match kindOf x M1 with
  | some k => .ok (.bl (isKind k T)) M1
  | none => .no
def KindOk (T : String) : Prop := ∀ a ∈ ["NoneType", "bool", "int", "str", "tuple", "list"], kitB a T = some (isKind a T)
theorem kind_int : KindOk "int" := by unfold KindOk; decide +kernel
theorem kind_bool : KindOk "bool" := by unfold KindOk; decide +kernel
theorem kind_str : KindOk "str" := by unfold KindOk; decide +kernel
theorem kind_tuple : KindOk "tuple" := by unfold KindOk; decide +kernel
theorem kind_list : KindOk "list" := by unfold KindOk; decide +kernel
theorem kind_dict : KindOk "dict" := by unfold KindOk; decide +kernel
theorem kindOf_ok {P : Program} {w : World} {K : PySem.W.Frag} {Γ : Gm} {μ : List Addr} {M : Hs} {H : Hp} {d : D} {v : V} {k : String} (rh : RH P w K Γ μ M H) (r : RV K H μ d v) (h : kindOf d M = some k) : TyX K H v (.type k) ∧ k ∈ ["NoneType", "bool", "int", "str", "tuple", "list"] := by
  cases r with
  | non => cases h; exact ⟨.base .non, by simp⟩
  | bl b => cases h; exact ⟨.base (.bl b), by simp⟩
  | int b => cases h; exact ⟨.base (.int b), by simp⟩
  | str b => cases h; exact ⟨.base (.str b), by simp⟩
  | kls => cases h
  | excN => cases h
  | excD => cases h
  | tup g r =>
    cases h
    refine ⟨?_, by simp⟩
    rcases g with (g | ⟨o, g⟩) | ⟨o, its, n, g, hc, _⟩
    · exact .base (.tup g)
    · exact .fTuple g
    · exact .kTuple g hc
  | ref e =>
    simp only [kindOf] at h
    split at h
    · rename_i xs hx
      cases h
      obtain ⟨vs, g, _⟩ := rh.at_ _ _ _ hx e
      exact ⟨.base (.lst g), by simp⟩
    · rename_i xs hx
      cases h
      obtain ⟨vs, ⟨o, g⟩, _⟩ := rh.at_ _ _ _ hx e
      exact ⟨.base (.frz g), by simp⟩
    · cases h
section
variable {X : Cx} {Γ : Gm} {W : WX} {e : Expr} {fe : MX} {pos p p2 : Pos} {T : String} {x : Str}
theorem ex_isTy (hT : KindOk T) (he : EX X Γ W e fe) (hm : X.mg "isinstance" = none) (hm2 : X.mg x = none) (hv2 : bootBuiltins x = some (.type T)) (hg : Gl X "isinstance" := by rfl) (hg2 : Gl X x := by rfl)
    (he1 : starEach [e, .Name x p2] X.env = (false, eval e X.env) :: starEach [.Name x p2] X.env := by rfl) (hn : x ≠ "__name__" := by decide) (hdb : (x == ("__debug__" : Str)) = false := by decide) :
    EX X Γ W (.Call (.Name "isinstance" p) [e, .Name x p2] [] pos) (xIs T fe) :=
  PE.imp (pe_callB call_isi hg hm boot_isinstance (pa_cons he (pa_cons (pe_bltn (v := .ty T) hg2 hm2 hv2 rfl hn hdb) pa_nil) he1) (by decide) (by decide) he1) fun σ H Q ⟨ζ, M, μ, rr, h⟩ => ⟨ζ, M, μ, rr, Pst.then h fun v H1 d M1 μ1 nx rh rv h1 => by
    cases hk : kindOf d M1 with
    | none => rw [hk] at h1; exact h1.elim
    | some k =>
      rw [hk] at h1
      obtain ⟨h2, h3⟩ := kindOf_ok rh rv hk
      exact ⟨v, .ty T, .type k, .type T, isKind k T, rfl, .ty T, h2, kit_ty (hT k h3), h1 _ _ _ (Nx.refl _ _) rh (.bl _)⟩⟩
end
end Mi
end
section
set_option maxRecDepth 100000
set_option maxHeartbeats 2000000
set_option autoImplicit false
namespace Mi
open PySem PySem.Spec PyProof.Rows L2

inductive Pt where
  | n (i : Nat)
  | t (ps : List Pt)
mutual
def bindP : Pt → D → Option (List (Nat × D))
  | .n i, d => some [(i, d)]
  | .t ps, .tup ds => bindPs ps ds
  | .t _, _ => none
def bindPs : List Pt → List D → Option (List (Nat × D))
  | [], [] => some []
  | p :: ps, d :: ds => match bindP p d, bindPs ps ds with
    | some l, some r => some (l ++ r)
    | _, _ => none
  | _, _ => none
end
mutual
def Pt.slots : Pt → List Nat
  | .n i => [i]
  | .t ps => slotsOf ps
def slotsOf : List Pt → List Nat
  | [] => []
  | p :: ps => p.slots ++ slotsOf ps
end
def setAll {α : Type} (ζ : List (Option α)) : List (Nat × α) → List (Option α)
  | [] => ζ
  | (i, d) :: r => setAll (ζ.set i (some d)) r
theorem setAll_app {α : Type} : ∀ (l r : List (Nat × α)) (ζ : List (Option α)), setAll ζ (l ++ r) = setAll (setAll ζ l) r
  | [], _, _ => rfl
  | (i, d) :: l, r, ζ => setAll_app l r (ζ.set i (some d))
abbrev BR (K : PySem.W.Frag) (H : Hp) (μ : List Addr) : List (Nat × D) → List (Nat × V) → Prop := Paired fun p q => p.1 = q.1 ∧ RV K H μ p.2 q.2
theorem RSl.setAll {K : PySem.W.Frag} {H : Hp} {μ : List Addr} {l : List (Nat × D)} {l' : List (Nat × V)} (br : BR K H μ l l') : ∀ {ζ : Sl} {σ : L2.St}, RSl K H μ ζ σ → RSl K H μ (Mi.setAll ζ l) (Mi.setAll σ l') := by
  induction br with
  | nil => intro ζ σ r; exact r
  | @cons p q _ _ h t ih =>
    obtain ⟨i, d⟩ := p
    obtain ⟨j, v⟩ := q
    obtain ⟨e, q⟩ := h
    have e : i = j := e
    subst e
    intro ζ σ r
    exact ih (RSl.set r q i)
theorem paired_app {α β : Type} {F : α → β → Prop} : ∀ {a : List α} {b : List β} {c : List α} {d : List β}, Paired F a b → Paired F c d → Paired F (a ++ c) (b ++ d)
  | _, _, _, _, .nil, s => s
  | _, _, _, _, .cons r t, s => .cons r (paired_app t s)
def gP (P : Program) (w : World) (K : PySem.W.Frag) (Γ : Gm) (p : Pt) : TG := fun v σ H Q => ∃ d M μ, RH P w K Γ μ M H ∧ RV K H μ d v ∧ match bindP p d with
  | some l => ∀ l', BR K H μ l l' → Q (setAll σ l') H
  | none => False
def gPs (P : Program) (w : World) (K : PySem.W.Frag) (Γ : Gm) (ps : List Pt) : TGs := fun vs σ H Q => ∃ ds M μ, RH P w K Γ μ M H ∧ RVs K H μ ds vs ∧ match bindPs ps ds with
  | some l => ∀ l', BR K H μ l l' → Q (setAll σ l') H
  | none => False
theorem PG.imp {X : Cx} {e : Expr} {t t' : TG} (h : PG X e t) (i : ∀ v σ H Q, t' v σ H Q → t v σ H Q) : PG X e t' := ⟨fun pins s σ H v u Q I r q => h.run pins s σ H v u Q I r (i _ _ _ _ q)⟩
theorem PGs.imp {X : Cx} {e : List Expr} {t t' : TGs} (h : PGs X e t) (i : ∀ v σ H Q, t' v σ H Q → t v σ H Q) : PGs X e t' := ⟨fun pins s σ H v u Q I r q => h.run pins s σ H v u Q I r (i _ _ _ _ q)⟩
abbrev EG (X : Cx) (Γ : Gm) (e : Expr) (p : Pt) : Prop := PG X e (gP X.prog X.w X.K Γ p)
abbrev EGs (X : Cx) (Γ : Gm) (es : List Expr) (ps : List Pt) : Prop := PGs X es (gPs X.prog X.w X.K Γ ps)
section
variable {X : Cx} {Γ : Gm} {e : Expr} {es : List Expr} {p : Pt} {ps : List Pt} {pos : Pos}
theorem eg_name (i : Nat) {x : Str} (hN : X.N.Nodup) (hi : X.N[i]? = some x := by rfl) (hx : Loc X.env.scope x := by first | exact Or.inl rfl | exact Or.inr rfl) (hf : X.fn x = true ∨ X.env.scope.names.lookup x = some .local := by first | exact .inl rfl | exact .inr rfl) : EG X Γ (.Name x pos) (.n i) :=
  PG.imp (pg_name hN hi hx hf) fun v σ H Q ⟨d, M, μ, rh, r, h⟩ => h [(i, v)] (.cons ⟨rfl, r⟩ .nil)
theorem egs_nil : EGs X Γ [] [] := PGs.imp pgs_nil fun v σ H Q ⟨ds, M, μ, rh, r, h⟩ => by
  cases ds with
  | nil =>
    cases r
    exact ⟨rfl, h [] .nil⟩
  | cons d ds => exact h.elim
theorem egs_cons (h1 : EG X Γ e p) (h2 : EGs X Γ es ps) (hs : (assignEach (e :: es) X.env).map (·.2) = assign e X.env :: (assignEach es X.env).map (·.2) := by rfl) : EGs X Γ (e :: es) (p :: ps) :=
  PGs.imp (pgs_cons h1 h2 hs) fun v σ H Q ⟨ds, M, μ, rh, r, h⟩ => by
    cases r with
    | nil => exact h.elim
    | cons r1 r2 =>
      simp only [bindPs] at h
      split at h
      · rename_i l hl
        split at hl
        · rename_i l1 l2 e1 e2
          cases hl
          refine ⟨_, _, rfl, _, M, μ, rh, r1, ?_⟩
          rw [e1]
          intro l1' b1
          refine ⟨_, M, μ, rh, r2, ?_⟩
          rw [e2]
          intro l2' b2
          rw [← setAll_app]
          exact h _ (paired_app b1 b2)
        · cases hl
      · exact h.elim
theorem eg_tup {k} (hc : X.calm = true) (h : EGs X Γ es ps) (hn : (assignEach es X.env).length = ps.length := by rfl) (hst : (assignEach es X.env).findIdx? (·.1) = none := by rfl) : EG X Γ (.Tuple es k pos) (.t ps) :=
  PG.imp (pg_tup hc h hn hst) fun v σ H Q ⟨d, M, μ, rh, r, h⟩ => by
    cases r with
    | tup g rs =>
      simp only [bindP] at h
      refine ⟨_, _, rfl, g, ?_, _, M, μ, rh, rs, h⟩
      split at h
      · rename_i l hl
        rw [← rs.length]
        exact bindPs_len hl
      · exact h.elim
    | _ => exact h.elim
where
  bindPs_len : ∀ {ps : List Pt} {ds : List D} {l : List (Nat × D)}, bindPs ps ds = some l → ds.length = ps.length := by
    intro ps
    induction ps with
    | nil => intro ds l h; cases ds with | nil => rfl | cons d ds => simp [bindPs] at h
    | cons p ps ih =>
      intro ds l h
      cases ds with
      | nil => simp [bindPs] at h
      | cons d ds =>
        simp only [bindPs] at h
        split at h
        · rename_i h1 h2
          rw [List.length_cons, List.length_cons, ih h2]
        · cases h
end

def RS.of {α : Type} (ζ : Sl) (r : R α) (k : α → Hs → RS) : RS := match r with
  | .ok a M => k a M
  | .ex c fs M => .ex c fs ζ M
  | .no => .no
def sAsg (f : MX) (p : Pt) : MS := fun ζ M => RS.of ζ (f ζ M) fun d M1 => match bindP p d with
  | some l => .nx (setAll ζ l) M1
  | none => .no
def sSet (i : Nat) (f : MX) : MS := fun ζ M => RS.of ζ (f ζ M) fun d M1 => .nx (ζ.set i (some d)) M1
def sPar (i j : Nat) (g : MA) : MS := fun ζ M => RS.of ζ (g ζ M) fun ds M1 => match ds with
  | [d, e] => .nx ((ζ.set i (some d)).set j (some e)) M1
  | _ => .no
def sPut (g : D → D → D → Hs → Option Hs) (fo fi fv : MX) : MS := fun ζ M => RS.of ζ (fv ζ M) fun v M1 => RS.of ζ (fo ζ M1) fun o M2 => RS.of ζ (fi ζ M2) fun i M3 => match g o i v M3 with
  | some M4 => .nx ζ M4
  | none => .no
def sAug (i : Nat) (g : D → D → Hs → Option (D × Hs)) (f : MX) : MS := fun ζ M => match ζ[i]? with
  | some (some x) => RS.of ζ (f ζ M) fun y M1 => match g x y M1 with
    | some (d, M2) => .nx (ζ.set i (some d)) M2
    | none => .no
  | _ => .no
def sExpr (f : MX) : MS := fun ζ M => RS.of ζ (f ζ M) fun _ M1 => .nx ζ M1
def sRet (f : MX) : MS := fun ζ M => RS.of ζ (f ζ M) fun d M1 => .rt d M1
def sRetN : MS := fun _ M => .rt .non M
def sPass : MS := fun ζ M => .nx ζ M
def sIf (t : MT) (a b : MS) : MS := fun ζ M => RS.of ζ (t ζ M) fun c M1 => if c = true then a ζ M1 else b ζ M1
def sSeq (a b : MS) : MS := fun ζ M => match a ζ M with
  | .nx ζ1 M1 => b ζ1 M1
  | r => r
def whileN (t : MT) (b : MS) : Nat → MS
  | 0 => fun _ _ => .no
  | n + 1 => fun ζ M => RS.of ζ (t ζ M) fun c M1 => if c = true then match b ζ M1 with
      | .nx ζ' M' => whileN t b n ζ' M'
      | .ct ζ' M' => whileN t b n ζ' M'
      | .bk ζ' M' => .nx ζ' M'
      | r => r
    else .nx ζ M1
/-- more turns than any loop here takes -/
def far : Nat := 10 ^ 30
def sWhile (t : MT) (b : MS) : MS := whileN t b far
/-- what a loop walks: the item at a turn (none: it is told by nobody; some none: the end), and more turns than it takes -/
structure Yd where
  y : Nat → Hs → Option (Option D)
  fuel : Nat
abbrev MY := Sl → Hs → R Yd
def forN (y : Nat → Hs → Option (Option D)) (p : Pt) (b : MS) : Nat → Nat → MS
  | 0, _ => fun _ _ => .no
  | n + 1, i => fun ζ M => match y i M with
    | none => .no
    | some none => .nx ζ M
    | some (some d) => match bindP p d with
      | none => .no
      | some l => match b (setAll ζ l) M with
        | .nx ζ' M' => forN y p b n (i + 1) ζ' M'
        | .ct ζ' M' => forN y p b n (i + 1) ζ' M'
        | .bk ζ' M' => .nx ζ' M'
        | r => r
def sFor (s : MY) (p : Pt) (b : MS) : MS := fun ζ M => RS.of ζ (s ζ M) fun yd M1 => forN yd.y p b yd.fuel 0 ζ M1

section
variable {P : Program} {w : World} {K : PySem.W.Frag} {Γ : Gm} {W : WX} {σ : L2.St} {μ μ1 : List Addr} {H H1 : Hp} {M : Hs} {ζ : Sl}
theorem PstS.then {α β : Type} {rel : Hp → List Addr → α → β → Prop} {r : R α} {k : α → Hs → RS} {E : Ends} {Q' : β → Hp → Prop} (h : PstS P w K Γ W μ H (RS.of ζ r k) E) (sl : RSl K H μ ζ σ)
    (i : ∀ v H1 d M1 μ1, Nx μ H μ1 H1 → RH P w K Γ μ1 M1 H1 → rel H1 μ1 d v → PstS P w K Γ W μ1 H1 (k d M1) E → Q' v H1) : Pst P w K Γ rel W σ μ H r Q' := by
  cases r with
  | ok d M1 => exact fun v H' μ' x rh rv => i v H' d M1 μ' x rh rv (PstS.mono h x)
  | ex c fs M1 => exact fun cls dd H' μ' x rh rx => h cls dd σ H' μ' x rh (sl.mono x) rx
  | no => exact h.elim
theorem PstS.ends {r : RS} {E E' : Ends} (h : PstS P w K Γ W μ H r E) (h1 : ∀ σ H, E.nx σ H → E'.nx σ H) (h2 : ∀ v H, E.rt v H → E'.rt v H) (h3 : ∀ σ H, E.bk σ H → E'.bk σ H) (h4 : ∀ σ H, E.ct σ H → E'.ct σ H) : PstS P w K Γ W μ H r E' := by
  cases r with
  | nx ζ M => exact fun σ' H' μ' a b c => h1 _ _ (h σ' H' μ' a b c)
  | rt d M => exact fun σ' H' μ' a b c => h2 _ _ (h σ' H' μ' a b c)
  | bk ζ M => exact fun σ' H' μ' a b c => h3 _ _ (h σ' H' μ' a b c)
  | ct ζ M => exact fun σ' H' μ' a b c => h4 _ _ (h σ' H' μ' a b c)
  | ex c fs ζ M => exact h
  | no => exact h
end
section
variable {X : Cx} {Γ : Gm} {W : WX} {a b c e o v : Expr} {es : List Expr} {st : Stmt} {rest sa sb : List Stmt} {fa fb fc fe fo fv : MX} {ft : MT} {ga : MA} {ms ms' : MS} {pos pos' : Pos} {x : Str} {i j : Nat} {p : Pt}
theorem es_nil : ESs X Γ W [] sPass := PSs.imp pss_nil fun E σ H ⟨ζ, M, μ, rr, h⟩ => h _ _ _ (Nx.refl _ _) rr.hp rr.sl
theorem es_cons (h1 : ES X Γ W st ms) (h2 : ESs X Γ W rest ms') : ESs X Γ W (st :: rest) (sSeq ms ms') :=
  PSs.imp (pss_cons h1 h2) fun E σ H ⟨ζ, M, μ, rr, h⟩ => ⟨ζ, M, μ, rr, by
    unfold sSeq at h
    cases hr : ms ζ M with
    | nx ζ1 M1 => rw [hr] at h; exact fun σ' H' μ' x rh sl => ⟨ζ1, M1, μ', ⟨sl, rh⟩, PstS.mono h x⟩
    | rt d M1 => rw [hr] at h; exact h
    | bk ζ1 M1 => rw [hr] at h; exact h
    | ct ζ1 M1 => rw [hr] at h; exact h
    | ex c fs ζ1 M1 => rw [hr] at h; exact h
    | no => rw [hr] at h; exact h⟩
theorem es_one (h1 : ES X Γ W st ms) : ESs X Γ W [st] ms := pss_one h1
theorem es_pass : ES X Γ W (.Pass pos) sPass := PS.imp ps_pass fun E σ H ⟨ζ, M, μ, rr, h⟩ => h _ _ _ (Nx.refl _ _) rr.hp rr.sl
theorem es_doc {x : Str} {j} : ES X Γ W (.Expr (.Constant (.str x) j pos) pos') sPass := PS.imp ps_doc fun E σ H ⟨ζ, M, μ, rr, h⟩ => h _ _ _ (Nx.refl _ _) rr.hp rr.sl
theorem es_expr (he : EX X Γ W e fe) (hs : swapsWith e none pos.line X.env = pure false := by rfl) : ES X Γ W (.Expr e pos) (sExpr fe) :=
  PS.imp (ps_expr he hs) fun E σ H ⟨ζ, M, μ, rr, h⟩ => ⟨ζ, M, μ, rr, PstS.then h rr.sl fun v H1 d M1 μ1 nx rh rv h1 => h1 _ _ _ (Nx.refl _ _) rh (rr.sl.mono nx)⟩
theorem es_ret (he : EX X Γ W e fe) : ES X Γ W (.Return (some e) pos) (sRet fe) :=
  PS.imp (ps_ret he) fun E σ H ⟨ζ, M, μ, rr, h⟩ => ⟨ζ, M, μ, rr, PstS.then h rr.sl fun v H1 d M1 μ1 nx rh rv h1 => h1 _ _ _ (Nx.refl _ _) rh rv⟩
theorem es_retN : ES X Γ W (.Return none pos) sRetN := PS.imp ps_retN fun E σ H ⟨ζ, M, μ, rr, h⟩ => h _ _ _ (Nx.refl _ _) rr.hp .non
theorem es_if {ma mb : MS} (hc : ET X Γ W c ft) (ha : ESs X Γ W sa ma) (hb : ESs X Γ W sb mb) : ES X Γ W (.If c sa sb pos) (sIf ft ma mb) :=
  PS.imp (ps_if hc ha hb) fun E σ H ⟨ζ, M, μ, rr, h⟩ => ⟨ζ, M, μ, rr, PstS.then h rr.sl fun v H1 d M1 μ1 nx rh rv h1 => by
    have rv : d = v := rv
    subst rv
    cases d with
    | true => exact ⟨ζ, M1, μ1, ⟨rr.sl.mono nx, rh⟩, h1⟩
    | false => exact ⟨ζ, M1, μ1, ⟨rr.sl.mono nx, rh⟩, h1⟩⟩
theorem es_set (i : Nat) {pos' : Pos} (hN : X.N.Nodup) (he : EX X Γ W e fe) (hi : X.N[i]? = some x := by rfl) (hx : Loc X.env.scope x := by first | exact Or.inl rfl | exact Or.inr rfl) (hs : swapsWith e (some (.Name x pos')) pos.line X.env = pure false := by rfl)
    (hf : X.fn x = true ∨ X.env.scope.names.lookup x = some .local := by first | exact .inl rfl | exact .inr rfl) : ES X Γ W (.Assign [.Name x pos'] e pos) (sSet i fe) :=
  PS.imp (ps_set hN hi hx he hs hf) fun E σ H ⟨ζ, M, μ, rr, h⟩ => ⟨ζ, M, μ, rr, PstS.then h rr.sl fun v H1 d M1 μ1 nx rh rv h1 => h1 _ _ _ (Nx.refl _ _) rh ((rr.sl.mono nx).set rv i)⟩
theorem es_asg {tg : Expr} (he : EX X Γ W e fe) (hg : EG X Γ tg p) (hs : swapsWithSole [tg] e pos.line X.env = pure false := by rfl) (hw : swappedStores [tg] e X.env = pure none := by rfl)
    (h1 : (assignEach [tg] X.env).map (·.2) = [assign tg X.env] := by rfl) : ES X Γ W (.Assign [tg] e pos) (sAsg fe p) :=
  PS.imp (ps_asg he hg hs hw h1) fun E σ H ⟨ζ, M, μ, rr, h⟩ => ⟨ζ, M, μ, rr, PstS.then h rr.sl fun v H1 d M1 μ1 nx rh rv h1 => by
    refine ⟨d, M1, μ1, rh, rv, ?_⟩
    cases hb : bindP p d with
    | none => rw [hb] at h1; exact h1.elim
    | some l =>
      rw [hb] at h1
      exact fun l' br => h1 _ _ _ (Nx.refl _ _) rh (RSl.setAll br (rr.sl.mono nx))⟩
theorem es_par (i j : Nat) {y : Str} {px py pt : Pos} {kt k2 pt2} (hc : X.calm = true) (hN : X.N.Nodup) (ha : EA X Γ W [a, b] ga) (hij : i ≠ j) (hi : X.N[i]? = some x := by rfl) (hj : X.N[j]? = some y := by rfl)
    (hx : X.env.scope.names.lookup x = some .local := by rfl) (hy : X.env.scope.names.lookup y = some .local := by rfl)
    (hw : swappedStores [.Tuple [.Name x px, .Name y py] kt pt] (.Tuple [a, b] k2 pt2) X.env = pure (some [x, y]) := by rfl)
    (hs : swapsWithSole [.Tuple [.Name x px, .Name y py] kt pt] (.Tuple [a, b] k2 pt2) pos.line X.env = pure false := by rfl) :
    ES X Γ W (.Assign [.Tuple [.Name x px, .Name y py] kt pt] (.Tuple [a, b] k2 pt2) pos) (sPar i j ga) :=
  PS.imp (ps_par hc hN hi hj hij hx hy ha hw hs) fun E σ H ⟨ζ, M, μ, rr, h⟩ => ⟨ζ, M, μ, rr, PstS.then h rr.sl fun vs H1 ds M1 μ1 nx rh rv h1 => by
    replace rv : RVs X.K H1 μ1 ds vs := rv
    split at h1
    · obtain ⟨u, w', rfl, r1, r2⟩ := two_rel rv
      exact ⟨u, w', rfl, h1 _ _ _ (Nx.refl _ _) rh (((rr.sl.mono nx).set r1 i).set r2 j)⟩
    · exact h1.elim⟩
/-- o[i] = v -/
def rPut (P : Program) (w : World) (K : PySem.W.Frag) (Γ : Gm) (g : D → D → D → Hs → Option Hs) : TSet := fun o i v H Q => ∃ d e u M μ, RH P w K Γ μ M H ∧ RV K H μ d o ∧ RV K H μ e i ∧ RV K H μ u v ∧ match g d e u M with
  | some M' => ∀ H' μ', Nx μ H μ' H' → RH P w K Γ μ' M' H' → Q H'
  | none => False
theorem es_put {g : D → D → D → Hs → Option Hs} {fi : MX} {p2 : Pos} {ix : Expr} (hset : PSet X (rPut X.prog X.w X.K Γ g)) (ho : EX X Γ W o fo) (hi : EX X Γ W ix fi) (hv : EX X Γ W v fv)
    (ha : ∀ v, assign (.Subscript o ix p2) X.env v = (do
      let ov ← holding [v] (eval o X.env)
      let iv ← holding [v, ov] (eval ix X.env)
      standAt p2
      holding [v, ov, iv] (setItem ov iv v)
      release [v, ov, iv] []) := by intro _; rfl)
    (hs : swapsWithSole [.Subscript o ix p2] v pos.line X.env = pure false := by rfl) (hw : swappedStores [.Subscript o ix p2] v X.env = pure none := by rfl)
    (h1 : (assignEach [.Subscript o ix p2] X.env).map (·.2) = [assign (.Subscript o ix p2) X.env] := by rfl) : ES X Γ W (.Assign [.Subscript o ix p2] v pos) (sPut g fo fi fv) :=
  PS.imp (ps_asg hv (pg_sub ho hi hset ha) hs hw h1) fun E σ H ⟨ζ, M, μ, rr, h⟩ => ⟨ζ, M, μ, rr, PstS.then h rr.sl fun v H1 d M1 μ1 nx rh rv h1 => ⟨ζ, M1, μ1, ⟨rr.sl.mono nx, rh⟩, PstS.then h1 (rr.sl.mono nx) fun u H2 e M2 μ2 nx2 rh2 ru h2 =>
    ⟨ζ, M2, μ2, ⟨(rr.sl.mono nx).mono nx2, rh2⟩, PstS.then h2 ((rr.sl.mono nx).mono nx2) fun z H3 k M3 μ3 nx3 rh3 rz h3 => by
      refine ⟨e, k, d, M3, μ3, rh3, RV.mono nx3 ru, rz, RV.mono nx3 (RV.mono nx2 rv), ?_⟩
      cases hg : g e k d M3 with
      | none => rw [hg] at h3; exact h3.elim
      | some M4 =>
        rw [hg] at h3
        exact fun H4 μ4 nx4 rh4 => h3 _ _ _ nx4 rh4 (((rr.sl.mono nx).mono nx2).mono (nx3.trans nx4))⟩⟩⟩
def gPutL (o i v : D) (M : Hs) : Option Hs := match o, i with
  | .ref n, .int k => match hLst M n with
    | some xs => match ixN xs.length k with
      | some j => some (M.set n (.lst (xs.set j v)))
      | none => none
    | none => none
  | _, _ => none
theorem put_list : PSet X (rPut X.prog X.w X.K Γ gPutL) := by
  intro pins s σ H o i v ov iv u Q I ro ri rv ⟨d, e, f, M, μ, rh, rd, re, rf, h⟩
  unfold gPutL at h
  split at h
  · rename_i M' hg
    split at hg
    · obtain ⟨a, rfl, e1⟩ := ref_rel rd
      cases re
      split at hg
      · rename_i ys e2
        obtain ⟨vs, g, r2⟩ := nlst rh (hLst_ok rh e2) e1
        split at hg
        · rename_i j hj
          cases hg
          refine set_list pins s σ H _ _ v ov iv u Q I ro ri rv ⟨a, vs, _, j, rfl, rfl, g, by rw [← r2.length]; exact hj, ?_⟩
          exact h _ _ (Nx.write (mutL g)) (rh.write e1 (mutL g) ⟨_, upd_same, (RVs.set rf j r2).mono (Nx.write (mutL g))⟩)
        · cases hg
      · cases hg
    · cases hg
  · exact h.elim
/-- x op= e -/
def ipR (P : Program) (w : World) (K : PySem.W.Frag) (Γ : Gm) (g : D → D → Hs → Option (D × Hs)) : TIp := r2 P w K Γ g
theorem es_aug (i : Nat) {op : Operator} {g : D → D → Hs → Option (D × Hs)} {pos' : Pos} (hN : X.N.Nodup) (ho : PIp X op (ipR X.prog X.w X.K Γ g)) (he : EX X Γ W e fe) (hi : X.N[i]? = some x := by rfl) (hx : Loc X.env.scope x := by first | exact Or.inl rfl | exact Or.inr rfl)
    (hf : X.fn x = true ∨ X.env.scope.names.lookup x = some .local := by first | exact .inl rfl | exact .inr rfl) : ES X Γ W (.AugAssign (.Name x pos') op e pos) (sAug i g fe) :=
  PS.imp (ps_aug hN hi hx he ho hf) fun E σ H ⟨ζ, M, μ, rr, h⟩ => by
    unfold sAug at h
    split at h
    · rename_i d hd
      obtain ⟨v, e1, e2⟩ := rr.sl.at_ i d hd
      refine ⟨v, e1, ζ, M, μ, rr, PstS.then h rr.sl fun u H1 k M1 μ1 nx rh rv h1 => ⟨d, k, M1, μ1, rh, RV.mono nx e2, rv, ?_⟩⟩
      cases hg : g d k M1 with
      | none => rw [hg] at h1; exact h1.elim
      | some q =>
        rw [hg] at h1
        exact fun z H2 μ2 nx2 rh2 rz => h1 _ _ _ nx2 rh2 (((rr.sl.mono nx).mono nx2).set rz i)
    · exact h.elim
theorem ip_i {op : Operator} {g : Int → Int → Int} (h : PIp X op (ipI g)) : PIp X op (ipR X.prog X.w X.K Γ (gI (fun _ _ => true) fun i j => .int (g i j))) := by
  intro pins s σ H x y v u Q I rx ry ⟨d, e, M, μ, rh, rd, re, hq⟩
  unfold gI at hq
  split at hq
  · cases rd; cases re
    exact h pins s σ H _ _ v u Q I rx ry ⟨_, _, rfl, rfl, Pk.here rh hq (.int _)⟩
  · exact hq.elim
theorem i_add : PIp X .Add (ipR X.prog X.w X.K Γ (gI (fun _ _ => true) fun i j => .int (i + j))) := ip_i ip_add
theorem i_sub : PIp X .Sub (ipR X.prog X.w X.K Γ gSub) := ip_i ip_sub
theorem es_while {mb : MS} (hp : PassesOwn (model X.prog X.w) X.A X.env X.xe) (hc : ET X Γ W c ft) (hb : ESs X Γ W sb mb) : ES X Γ W (.While c sb [] pos) (sWhile ft mb) :=
  PS.imp (ps_while hp hc hb) fun E σ H ⟨ζ, M, μ, rr, h⟩ => by
    refine ⟨fun m σ H => ∃ ζ M μ, RR X.prog X.w X.K Γ μ H ζ M σ ∧ PstS X.prog X.w X.K Γ W μ H (whileN ft mb m ζ M) E, ⟨far, ζ, M, μ, rr, h⟩, ?_⟩
    rintro m σ H ⟨ζ, M, μ, rr, h⟩
    cases m with
    | zero => exact h.elim
    | succ m =>
      refine ⟨ζ, M, μ, rr, PstS.then h rr.sl fun v H1 d M1 μ1 nx rh rv h1 => ?_⟩
      have rv : d = v := rv
      subst rv
      cases d with
      | true =>
        rw [if_pos rfl]
        refine ⟨fun σ' H' => ∃ ζ M μ, RR X.prog X.w X.K Γ μ H' ζ M σ' ∧ PstS X.prog X.w X.K Γ W μ H' (whileN ft mb m ζ M) E, fun σ' H' q => ⟨m, Nat.lt_succ_self _, q⟩, ζ, M1, μ1, ⟨rr.sl.mono nx, rh⟩, ?_⟩
        rw [if_pos rfl] at h1
        cases hr : mb ζ M1 with
        | nx ζ1 M1 => rw [hr] at h1; exact fun σ' H' μ' x rh sl => ⟨ζ1, M1, μ', ⟨sl, rh⟩, PstS.mono h1 x⟩
        | ct ζ1 M1 => rw [hr] at h1; exact fun σ' H' μ' x rh sl => ⟨ζ1, M1, μ', ⟨sl, rh⟩, PstS.mono h1 x⟩
        | bk ζ1 M1 => rw [hr] at h1; exact h1
        | rt d M1 => rw [hr] at h1; exact h1
        | ex c fs ζ1 M1 => rw [hr] at h1; exact h1
        | no => rw [hr] at h1; exact h1
      | false =>
        rw [if_neg Bool.false_ne_true]
        exact h1 _ _ _ (Nx.refl _ _) rh (rr.sl.mono nx)
/-- the walked thing goes as told -/
def YOk (P : Program) (w : World) (K : PySem.W.Frag) (Γ : Gm) (H0 : Hp) (μ0 : List Addr) (yd : Yd) (J : It) : Prop := ∀ (i : Nat) (H : Hp) (μ : List Addr) (M : Hs), Nx μ0 H0 μ H → RH P w K Γ μ M H →
  (yd.y i M = some none → J.stop i H) ∧ ∀ d, yd.y i M = some (some d) → J.go i H ∧ ∀ x H2, J.yld i H x H2 → ∃ μ2, Nx μ H μ2 H2 ∧ RH P w K Γ μ2 M H2 ∧ RV K H2 μ2 d x
def iY (P : Program) (w : World) (K : PySem.W.Frag) (Γ : Gm) (W : WX) (s : MY) : TI := fun σ H R => ∃ ζ M μ, RR P w K Γ μ H ζ M σ ∧ Pst P w K Γ (YOk P w K Γ) W σ μ H (s ζ M) R
abbrev EI (X : Cx) (Γ : Gm) (W : WX) (tg it : Expr) (s : MY) : Prop := PI X tg it (iY X.prog X.w X.K Γ W s)
theorem PI.imp {tg e : Expr} {t t' : TI} (h : PI X tg e t) (i : ∀ σ H Q, t' σ H Q → t σ H Q) : PI X tg e t' := ⟨fun pins s σ H Q I q => h.run pins s σ H Q I (i _ _ _ q)⟩
theorem es_for {tg it : Expr} {s : MY} {mb : MS} (hp : PassesOwn (model X.prog X.w) X.A X.env X.xe) (hc : X.calm = true) (hi : EI X Γ W tg it s) (hg : EG X Γ tg p) (hb : ESs X Γ W sb mb)
    (hs : ∀ x, foldedSetIterable it X.env x = pure x := by intro _; rfl) : ES X Γ W (.For tg it sb [] pos) (sFor s p mb) :=
  PS.imp (ps_for hp hc hi hg hb hs) fun E σ H ⟨ζ, M, μ, rr, h⟩ => ⟨ζ, M, μ, rr, PstS.then h rr.sl fun J H1 yd M1 μ1 nx rh rv h1 => by
    refine ⟨fun i m σ H => ∃ ζ M μ, Nx μ1 H1 μ H ∧ RR X.prog X.w X.K Γ μ H ζ M σ ∧ PstS X.prog X.w X.K Γ W μ H (forN yd.y p mb m i ζ M) E, ⟨yd.fuel, ζ, M1, μ1, Nx.refl _ _, ⟨rr.sl.mono nx, rh⟩, h1⟩, ?_⟩
    rintro i m σ H ⟨ζ, M, μ, nx, rr, h⟩
    cases m with
    | zero => exact h.elim
    | succ m =>
      obtain ⟨st, go⟩ := rv i H μ M nx rr.hp
      simp only [forN] at h
      split at h
      · exact h.elim
      · rename_i hy
        exact .inl ⟨st hy, h _ _ _ (Nx.refl _ _) rr.hp rr.sl⟩
      · rename_i d hy
        obtain ⟨g1, g2⟩ := go d hy
        refine .inr ⟨g1, fun σ' H' => ∃ ζ M μ, Nx μ1 H1 μ H' ∧ RR X.prog X.w X.K Γ μ H' ζ M σ' ∧ PstS X.prog X.w X.K Γ W μ H' (forN yd.y p mb m (i + 1) ζ M) E, fun σ' H' q => ⟨m, Nat.lt_succ_self _, q⟩, fun x H2 hx => ?_⟩
        obtain ⟨μ2, nx2, rh2, rv2⟩ := g2 x H2 hx
        refine ⟨d, M, μ2, rh2, rv2, ?_⟩
        split at h
        · exact h.elim
        · rename_i l hl
          rw [hl]
          intro l' br
          refine ⟨setAll ζ l, M, μ2, ⟨RSl.setAll br (rr.sl.mono nx2), rh2⟩, ?_⟩
          have h2 := PstS.mono h nx2
          have n2 := nx.trans nx2
          cases hr : mb (setAll ζ l) M with
          | nx ζ3 M3 => rw [hr] at h2; exact fun σ' H' μ' x rh sl => ⟨ζ3, M3, μ', n2.trans x, ⟨sl, rh⟩, PstS.mono h2 x⟩
          | ct ζ3 M3 => rw [hr] at h2; exact fun σ' H' μ' x rh sl => ⟨ζ3, M3, μ', n2.trans x, ⟨sl, rh⟩, PstS.mono h2 x⟩
          | bk ζ3 M3 => rw [hr] at h2; exact h2
          | rt d M3 => rw [hr] at h2; exact h2
          | ex c fs ζ3 M3 => rw [hr] at h2; exact h2
          | no => rw [hr] at h2; exact h2⟩
end
end Mi
end
section
set_option maxRecDepth 100000
set_option maxHeartbeats 2000000
set_option autoImplicit false
namespace PySem
open Sem (wp)
open AutoSeq1 (wpAny_loadPart')
theorem mi_enumT (l : Addr) (items : Array Value) (n : Nat) (dct : Option Addr) (sl : Array (Option Value)) :
    Meets (Builtin.«enumerate.__new__» ⟨[.type "enumerate", .ref l], []⟩) (fun _ R s => s.heap.get? l = some { cls := .type "tuple", dict := dct, data := .seq items n, slots := sl } ∧
      R (.ok (.ret (.ref (s.heap.push { cls := .type "tuple_iterator", data := .fields #[.ref l, .int 0 0] }).objs.size)))
        { s with heap := (s.heap.push { cls := .type "tuple_iterator", data := .fields #[.ref l, .int 0 0] }).push { cls := .type "enumerate", data := .fields #[.none, .bool false, .ref s.heap.objs.size, rawInt 0, .none, .none] } }) :=
  .of_wp fun prog w A R s h => by
    obtain ⟨hp, g, d, tk, os⟩ := s; obtain ⟨hl, h⟩ := h
    have hsub := sub_enumerate
    have hL : Heap.IsTuple (Shared.heap ⟨hp, g, d, tk, os⟩) l items := ⟨_, hl, rfl, n, rfl⟩
    wp_walk using wpAny_loadPart' hl
    refine wpAny_stack_any fun st => wpAny_pure ?_
    split
    · rename_i c _ _ _ _ _
      cases (c == Value.type "enumerate")
      · wp_walk using wpAny_loadPart' hl, wpAny_pyIter_tuple hL
        exact ⟨_, rfl, h⟩
      · wp_walk using wpAny_loadPart' hl, wpAny_pyIter_tuple hL
        exact ⟨_, rfl, h⟩
    · wp_walk using wpAny_loadPart' hl, wpAny_pyIter_tuple hL
      exact ⟨_, rfl, h⟩
theorem mi_call_enumT {prog : Program} {w : World} {A : Around} {E : Value → Shared → Prop} {s : Shared} {l : Addr} {items : Array Value} {Q : Value → Shared → Prop} (hL : s.heap.IsTuple l items)
    (h : ∀ h', IsEnum h' (s.heap.objs.size + 1) s.heap.objs.size 0 .none → h'.IsTupleIter s.heap.objs.size l 0 → h'.objs.size = s.heap.objs.size + 2 →
      (∀ b o, s.heap.get? b = some o → h'.get? b = some o) → Q (.ref (s.heap.objs.size + 1)) { s with heap := h' }) :
    wpAny (model prog w) A (call (.type "enumerate") [.ref l]) Q E s := by
  obtain ⟨⟨c, dct, dt, sl⟩, hl, hc, n, hd⟩ := hL
  replace hc : c = .type "tuple" := hc
  replace hd : dt = .seq items n := hd
  subst hc hd
  refine callType_new F.called_enumerate (by decide) (F.typeCall_enumerate_1 _) (F.newCall_enumerate_1 _) (fun obj => F.args_object_init_2 obj _) F.entry_enumerate_new
    (mi_enumT l items n dct sl) ⟨hl, ?_⟩
  have hz : (s.heap.push { cls := .type "tuple_iterator", data := .fields #[.ref l, .int 0 0] }).objs.size = s.heap.objs.size + 1 := Heap.size_push ..
  show _ ∧ _
  rw [hz]
  have he : IsEnum ((s.heap.push { cls := .type "tuple_iterator", data := .fields #[.ref l, .int 0 0] }).push
      { cls := .type "enumerate", data := .fields #[.none, .bool false, .ref s.heap.objs.size, rawInt 0, .none, .none] }) (s.heap.objs.size + 1) s.heap.objs.size 0 .none := by
    have := Heap.get?_push_size (s.heap.push { cls := .type "tuple_iterator", data := .fields #[.ref l, .int 0 0] })
      (o := { cls := .type "enumerate", data := .fields #[.none, .bool false, .ref s.heap.objs.size, rawInt 0, .none, .none] }) rfl
    rw [hz] at this; exact this
  refine ⟨⟨_, he, rfl⟩, h _ he ⟨_, Heap.get?_push_of_some _ (Heap.get?_push_size _ rfl), rfl, rfl⟩ (by rw [Heap.size_push, hz]) fun b o x => Heap.get?_push_of_some _ (Heap.get?_push_of_some _ x)⟩
end PySem
namespace Mi
open PySem PySem.Spec PyProof.Rows L2

def IteT (K : PySem.W.Frag) (a : Addr) : It :=
  ⟨fun i H => ∃ (xs : List V) (x : V), SqT K H a xs ∧ xs[i]? = some x, fun i H v H' => ∃ T x, v = .ref T ∧ H T = none ∧ H' = upd H T (.tup [.int (i : Nat), x]) ∧ ∀ xs, SqT K H a xs → xs[i]? = some x, fun i H => ∃ xs : List V, SqT K H a xs ∧ xs.length ≤ i⟩
theorem turn_enumT {P : Program} {w : World} {K : PySem.W.Frag} {elts : List Expr} {kk : Nat} {tpos : Pos} (a e it : Addr) :
    Turn P w K (.Tuple elts kk tpos) (IteT K a) [e, it] e (fun i h => (∃ old, IsEnum h e it ((i : Nat) : Int) old) ∧ h.IsTupleIter it a i ∧ e ≠ it ∧ a ≠ it ∧ a ≠ e) where
  mem := by simp
  obj := fun i h st b hb => by
    obtain ⟨⟨old, he⟩, ⟨o, ho, hc, hd⟩, _⟩ := st
    have e' : b = e ∨ b = it := by simpa using hb
    rcases e' with z | z
    · rw [z]; exact ⟨_, he, fun v q => nomatch q⟩
    · rw [z]; exact ⟨o, ho, fun v q => by rw [hd] at q; cases q⟩
  keep := fun i h h' st k => let ⟨⟨old, he⟩, hi, hne⟩ := st; ⟨⟨old, k e (by simp) _ he⟩, hi.at fun o q => k it (by simp) o q, hne⟩
  item := by
    intro X hP hw hK hc i pins s σ H E I hf st hg
    subst hP hw hK
    obtain ⟨⟨old, he⟩, hit, hne, hai, hae⟩ := st
    obtain ⟨xs, x, hq, hx⟩ := hg
    obtain ⟨its, rv, p, hz⟩ := I.tuple hq
    obtain ⟨u, hu, ru⟩ := rv.get hx
    have hel : e < s.heap.objs.size := Heap.lt_size he
    have hil : it < s.heap.objs.size := by obtain ⟨_, q, _⟩ := hit; exact Heap.lt_size q
    have hit0 := hit
    have pt : s.heap.IsTuple a its.toArray := p
    have hlt : i < its.toArray.size := by
      have := (List.getElem?_eq_some_iff.mp hu).1
      simpa using this
    refine wpAny_pyNext_enum_itemD (Draws.tuple (by show X.A.in1.handled = none; exact I.ok.hd hc) it a hai its.toArray) he ⟨hit, pt⟩ hlt hne (by simp; exact ⟨hne, fun z => hae z.symm⟩) fun x' h' tk hP ho hit' hT hsz hk => ?_
    have hx' : x' = u := by
      have h1 : its.toArray[i]? = some x' := hP
      have h2 : its.toArray[i]? = some u := by simpa using hu
      rw [h1] at h2
      exact Option.some.inj h2
    subst hx'
    refine ⟨_, rfl, wpAny_letOwnedTupleGo_enum (s := { s with heap := h', toks := tk + 1 }) ho fun h'' he' sb => ?_⟩
    have hT2 : h''.get? s.heap.objs.size = some { cls := .type "tuple", data := .seq #[.int i tk, x'] } := (sb.2 _ (Nat.ne_of_gt hel)).trans hT
    have new : ObjOk X.prog X.w (upd H s.heap.objs.size (.tup [.int (i : Nat), x])) h'' s.heap.objs.size (.tup [.int (i : Nat), x]) :=
      ⟨by show 2 ≤ sizeLine; decide, [.int i tk, x'], .cons ⟨_, rfl⟩ (.cons ru .nil), ⟨_, hT2, rfl, _, rfl⟩⟩
    have I1 : Inv X pins σ (upd H s.heap.objs.size (.tup [.int (i : Nat), x])) { s with heap := h'', toks := tk + 1 } :=
      I.turnedNew (ch := [e, it]) (fun b ob hb q => (sb.2 b (fun z => hb (by simp [z]))).trans (hk b ob (fun z => hb (by simp [z])) (fun z => hb (by simp [z])) q)) hf (Nat.le_refl _) new
    refine ⟨.ref s.heap.objs.size, _, I1, rfl, ⟨_, x, rfl, I.hok.fresh (Nat.le_refl _), rfl, fun ys hy => by rw [I.tuple_inj hy hq]; exact hx⟩, ⟨⟨x', ?_⟩, hit'.1.at fun o q => (sb.2 it (Ne.symm hne)).trans q, hne, hai, hae⟩, fun b hb => ?_⟩
    · have e1 : ((i + 1 : Nat) : Int) = (i : Int) + 1 := by omega
      rw [e1]; exact he'
    · have hb' : b < s.heap.objs.size := by
        have e' : b = e ∨ b = it := by simpa using hb
        rcases e' with z | z
        · rw [z]; exact hel
        · rw [z]; exact hil
      rw [upd_ne (Nat.ne_of_lt hb')]
      exact (hf b hb).1
  done := by
    intro X hP hw hK hc i pins s σ H E I hf st hg
    subst hP hw hK
    obtain ⟨⟨old, he⟩, hit, hne, hai, hae⟩ := st
    obtain ⟨xs, hq, hx⟩ := hg
    obtain ⟨its, rv, p, hz⟩ := I.tuple hq
    obtain ⟨f0, f1, f2, f3, f4, f5⟩ := hf it (by simp)
    have hl := rv.length
    have pt : s.heap.IsTuple a its.toArray := p
    have hT : s.TypeIs (.ref e) "enumerate" := ⟨_, he, rfl⟩
    unfold pyNext
    refine wpAny_bind (wpAny_attempt (wpAny_callSpecial?_slot (name := Str.ofString "__next__") hT F.slot_enumerate_next
      (wpAny_call_entry F.slot_enumerate_next hT F.entry_enumerate_next ?_ (F.args_enumerate_next_1 _))))
    show wpAny _ _ (field (.ref e) 2 >>= _) _ _ _
    refine wpAny_bind (wpAny_field he rfl (x := .ref it) rfl ?_)
    refine wpAny_bind (wpAny_nextOf_tuple_end (by show X.A.in1.handled = none; exact I.ok.hd hc) hit pt (by simp; omega) fun h' x he' hx' => ?_)
    obtain ⟨o, ho, hcl⟩ := hx'
    refine wpAny_bind (wpAny_isInstance (T := "StopIteration") (b := true) ⟨o, ho, hcl⟩ isSubtype_stop ?_)
    exact wpAny_pure ⟨rfl, I.turned (t' := s.toks) (fun b o hb q => he' b o hb q) f0 f1 f3 f4 f5⟩
  self := fun A i s Q E st h => let ⟨⟨_, he⟩, _⟩ := st; wpAny_pyIter_enum he h
def iEnumT (K : PySem.W.Frag) (ta : TA) : TI := fun σ H R => ta σ H fun vs H1 => ∃ a xs, vs = [.ref a] ∧ SqT K H1 a xs ∧ R (IteT K a) H1
theorem pi_enumT {X : Cx} {e : Expr} {ta : TA} {p pos tpos : Pos} {elts : List Expr} {kk : Nat} (hg : Gl X "enumerate") (hm : X.mg "enumerate" = none) (ha : PA X [e] ta) (hs : starEach [e] X.env = [(false, eval e X.env)] := by rfl) :
    PI X (.Tuple elts kk tpos) (.Call (.Name "enumerate" p) [e] [] pos) (fun σ H R => ta σ H fun vs H1 => ∃ a xs, vs = [.ref a] ∧ ((SqL X.K H1 a xs ∧ R (Ite X.K a) H1) ∨ (SqT X.K H1 a xs ∧ R (IteT X.K a) H1))) := by
  refine ⟨fun pins s σ H R I h => ?_⟩
  refine Call_ (ld_blt I hg hm boot_enumerate (PyProof.Rows.callWith_type1 (thn (ha.run pos pins s σ H _ I h) fun us s1 ⟨vs, H1, I1, r1, q1⟩ => ?_) hs rfl))
  obtain ⟨a, xs, ex, hq⟩ := q1
  subst ex
  cases r1 with
  | cons r rr =>
    cases rr
    cases r
    have key : ∀ b, b = s1.heap.objs.size + 1 ∨ b = s1.heap.objs.size → s1.heap.objs.size ≤ b := fun b e' => by
      rcases e' with z | z
      · rw [z]; exact Nat.le_add_right _ _
      · rw [z]; exact Nat.le_refl _
    rcases hq with ⟨hq, q⟩ | ⟨hq, q⟩
    · obtain ⟨its, rv, p', hz⟩ := I1.list hq
      refine call_enumerate_list p'.isList fun h' he hit hsz hk => wpAny_pyIter_enum he ?_
      have I2 : Inv X pins σ H1 { s1 with heap := h' } := I1.kept (t' := s1.toks) hk
      refine ⟨s1.heap.objs.size + 1, [s1.heap.objs.size + 1, s1.heap.objs.size], _, _, H1, rfl, I2, turn_enum a (s1.heap.objs.size + 1) s1.heap.objs.size, ⟨⟨.none, he⟩, hit, Nat.succ_ne_self _⟩, fun b hb => ?_, q⟩
      have hle := key b (by simpa using hb)
      exact I1.fpOk hle (I1.hok.fresh hle)
    · obtain ⟨its, rv, p', hz⟩ := I1.tuple hq
      have pt : s1.heap.IsTuple a its.toArray := p'
      have hal : a < s1.heap.objs.size := by obtain ⟨o, ho, _⟩ := pt; exact Heap.lt_size ho
      refine mi_call_enumT pt fun h' he hit hsz hk => wpAny_pyIter_enum he ?_
      have I2 : Inv X pins σ H1 { s1 with heap := h' } := I1.kept (t' := s1.toks) hk
      refine ⟨s1.heap.objs.size + 1, [s1.heap.objs.size + 1, s1.heap.objs.size], _, _, H1, rfl, I2, turn_enumT a (s1.heap.objs.size + 1) s1.heap.objs.size, ⟨⟨.none, he⟩, hit, Nat.succ_ne_self _, Nat.ne_of_lt hal, Nat.ne_of_lt (Nat.lt_succ_of_lt hal)⟩, fun b hb => ?_, q⟩
      have hle := key b (by simpa using hb)
      exact I1.fpOk hle (I1.hok.fresh hle)

def ySeq (f : MX) : MY := fun ζ M => (f ζ M).bind fun d M1 => match d with
  | .tup xs => .ok ⟨fun i _ => some xs[i]?, xs.length + 1⟩ M1
  | .klst xs => .ok ⟨fun i _ => some xs[i]?, xs.length + 1⟩ M1
  | .ref n => match hSeq M1 (.ref n) with
    | some xs => .ok ⟨fun i M => match hSeq M (.ref n) with
      | some ys => some ys[i]?
      | none => none, xs.length + 1⟩ M1
    | none => .no
  | _ => .no
/-- what range takes; by cases, so that the kernel stops at an unknown number -/
def okRg (i : Int) : Bool := match i with
  | .ofNat m => Nat.ble m 4611686018427387903
  | .negSucc m => Nat.ble m 4611686018427387903
theorem okRg_ok {i : Int} (h : okRg i = true) : -(2 ^ 62) ≤ i ∧ i < 2 ^ 62 := by
  cases i with
  | ofNat m =>
    have := Nat.le_of_ble_eq_true (show Nat.ble m 4611686018427387903 = true from h)
    rw [show Int.ofNat m = (m : Int) from rfl]
    omega
  | negSucc m =>
    have := Nat.le_of_ble_eq_true (show Nat.ble m 4611686018427387903 = true from h)
    rw [Int.negSucc_eq]
    omega
theorem okRg_mk {i : Int} (h0 : -4611686018427387904 ≤ i) (h1 : i < 4611686018427387904) : okRg i = true := by
  cases i with
  | ofNat m =>
    rw [show Int.ofNat m = (m : Int) from rfl] at h0 h1
    exact Nat.ble_eq_true_of_le (show m ≤ 4611686018427387903 by omega)
  | negSucc m =>
    rw [Int.negSucc_eq] at h0 h1
    exact Nat.ble_eq_true_of_le (show m ≤ 4611686018427387903 by omega)
def yRg (lo : Int) (n : Nat) : Yd := ⟨fun i _ => some (if i < n then some (.int (lo + i)) else none), n + 1⟩
def yRg1 (f : MX) : MY := fun ζ M => (f ζ M).bind fun d M1 => match d with
  | .int j => if okRg j = true then .ok (yRg 0 j.toNat) M1 else .no
  | _ => .no
def yRg2 (f g : MX) : MY := fun ζ M => (f ζ M).bind fun d M1 => (g ζ M1).bind fun e M2 => match d, e with
  | .int i, .int j => if (okRg i && okRg j) = true then .ok (yRg i (j - i).toNat) M2 else .no
  | _, _ => .no
def yEnum (f : MX) : MY := fun ζ M => (f ζ M).bind fun d M1 => match d with
  | .tup xs => .ok ⟨fun i _ => some (match xs[i]? with | some x => some (.tup [.int (i : Nat), x]) | none => none), xs.length + 1⟩ M1
  | .ref n => match hSeq M1 (.ref n) with
    | some xs => .ok ⟨fun i M => match hSeq M (.ref n) with
      | some ys => some (match ys[i]? with | some x => some (.tup [.int (i : Nat), x]) | none => none)
      | none => none, xs.length + 1⟩ M1
    | none => .no
  | _ => .no
section
variable {P : Program} {w : World} {K : PySem.W.Frag} {Γ : Gm} {μ0 : List Addr} {H0 : Hp}
theorem RVs.getN {H : Hp} {μ : List Addr} {xs : List D} {vs : List V} {i : Nat} (r : RVs K H μ xs vs) (h : xs[i]? = none) : vs.length ≤ i := by
  rw [← r.length]
  exact List.getElem?_eq_none_iff.mp h
theorem y_tup {a : Addr} {vs : List V} {xs : List D} {f : Nat} (g : SqT K H0 a vs) (r : RVs K H0 μ0 xs vs) : YOk P w K Γ H0 μ0 ⟨fun i _ => some xs[i]?, f⟩ (Itt K a) := by
  intro i H μ M nx rh
  refine ⟨fun h => ⟨vs, nx.sqT g, (r.mono nx).getN (Option.some.inj h)⟩, fun d h => ?_⟩
  obtain ⟨v, h1, h2⟩ := (r.mono nx).get (Option.some.inj h)
  refine ⟨⟨vs, v, nx.sqT g, h1⟩, fun x H2 hy => ?_⟩
  obtain ⟨e, hy⟩ := hy
  subst e
  have h3 := hy vs (nx.sqT g)
  rw [h1] at h3
  cases h3
  exact ⟨μ, Nx.refl _ _, rh, h2⟩
theorem y_kls {a : Addr} {vs : List V} {xs : List D} {f : Nat} (g : SqK K H0 a vs) (r : RVs K H0 μ0 xs vs) : YOk P w K Γ H0 μ0 ⟨fun i _ => some xs[i]?, f⟩ (Itl K a) := by
  intro i H μ M nx rh
  have g1 : SqL K H a vs := (show SqK K H a vs from g.imp (fun ⟨o, h⟩ => ⟨o, nx.frz _ _ _ h⟩) id).sq
  refine ⟨fun h => ⟨vs, g1, (r.mono nx).getN (Option.some.inj h)⟩, fun d h => ?_⟩
  obtain ⟨v, h1, h2⟩ := (r.mono nx).get (Option.some.inj h)
  refine ⟨⟨vs, v, g1, h1⟩, fun x H2 hy => ?_⟩
  obtain ⟨e, hy⟩ := hy
  subst e
  have h3 := hy vs g1
  rw [h1] at h3
  cases h3
  exact ⟨μ, Nx.refl _ _, rh, h2⟩
theorem y_ref {a : Addr} {n f : Nat} (g : μ0[n]? = some a) : YOk P w K Γ H0 μ0 ⟨fun i M => match hSeq M (.ref n) with | some ys => some ys[i]? | none => none, f⟩ (Itl K a) := by
  intro i H μ M nx rh
  have e := nx.pre _ _ g
  have key : ∀ ys, hSeq M (.ref n) = some ys → ∃ vs, SqL K H a vs ∧ RVs K H μ ys vs := fun ys hy => by
    obtain ⟨b, vs, hb, hs, r⟩ := hRef_ok rh hy (.ref e)
    cases hb
    exact ⟨vs, hs, r⟩
  refine ⟨fun h => ?_, fun d h => ?_⟩
  · simp only at h
    split at h
    · rename_i ys hy
      obtain ⟨vs, hs, r⟩ := key ys hy
      exact ⟨vs, hs, r.getN (Option.some.inj h)⟩
    · cases h
  · simp only at h
    split at h
    · rename_i ys hy
      obtain ⟨vs, hs, r⟩ := key ys hy
      obtain ⟨v, h1, h2⟩ := r.get (Option.some.inj h)
      refine ⟨⟨vs, v, hs, h1⟩, fun x H2 hy => ?_⟩
      obtain ⟨e, hy⟩ := hy
      subst e
      have h3 := hy vs hs
      rw [h1] at h3
      cases h3
      exact ⟨μ, Nx.refl _ _, rh, h2⟩
    · cases h
theorem y_rg {lo : Int} {n : Nat} : YOk P w K Γ H0 μ0 (yRg lo n) (Itr lo n) := by
  intro i H μ M nx rh
  refine ⟨fun h => ?_, fun d h => ?_⟩
  · simp only [yRg] at h
    split at h
    · cases h
    · rename_i hn
      exact Nat.not_lt.mp hn
  · simp only [yRg] at h
    split at h
    · rename_i hn
      cases h
      refine ⟨hn, fun x H2 hy => ?_⟩
      obtain ⟨e, hy⟩ := hy
      subst e hy
      exact ⟨μ, Nx.refl _ _, rh, .int _⟩
    · cases h
theorem y_enumT {a : Addr} {vs : List V} {xs : List D} {f : Nat} (g : SqT K H0 a vs) (r : RVs K H0 μ0 xs vs) : YOk P w K Γ H0 μ0 ⟨fun i _ => some (match xs[i]? with | some x => some (.tup [.int (i : Nat), x]) | none => none), f⟩ (IteT K a) := by
  intro i H μ M nx rh
  refine ⟨fun h => ?_, fun d h => ?_⟩
  · simp only at h
    split at h
    · cases h
    · rename_i hx
      exact ⟨vs, nx.sqT g, (r.mono nx).getN hx⟩
  · simp only at h
    split at h
    · rename_i z hz
      cases h
      obtain ⟨v, h1, h2⟩ := (r.mono nx).get hz
      refine ⟨⟨vs, v, nx.sqT g, h1⟩, fun x H2 hy => ?_⟩
      obtain ⟨T, y, e1, hT, e2, hy⟩ := hy
      subst e1 e2
      have h3 := hy vs (nx.sqT g)
      rw [h1] at h3
      cases h3
      exact ⟨μ, Nx.fresh0 hT, rh.fresh hT, .tup (SqT.of upd_same) (.cons (.int _) (.cons (h2.mono (Nx.fresh0 hT)) .nil))⟩
    · cases h
theorem y_enumL {a : Addr} {n f : Nat} (g : μ0[n]? = some a) : YOk P w K Γ H0 μ0 ⟨fun i M => match hSeq M (.ref n) with | some ys => some (match ys[i]? with | some x => some (.tup [.int (i : Nat), x]) | none => none) | none => none, f⟩ (Ite K a) := by
  intro i H μ M nx rh
  have e := nx.pre _ _ g
  have key : ∀ ys, hSeq M (.ref n) = some ys → ∃ vs, SqL K H a vs ∧ RVs K H μ ys vs := fun ys hy => by
    obtain ⟨b, vs, hb, hs, r⟩ := hRef_ok rh hy (.ref e)
    cases hb
    exact ⟨vs, hs, r⟩
  refine ⟨fun h => ?_, fun d h => ?_⟩
  · simp only at h
    split at h
    · rename_i ys hy
      obtain ⟨vs, hs, r⟩ := key ys hy
      split at h
      · cases h
      · rename_i hx
        exact ⟨vs, hs, r.getN hx⟩
    · cases h
  · simp only at h
    split at h
    · rename_i ys hy
      obtain ⟨vs, hs, r⟩ := key ys hy
      split at h
      · rename_i z hz
        cases h
        obtain ⟨v, h1, h2⟩ := r.get hz
        refine ⟨⟨vs, v, hs, h1⟩, fun x H2 hy => ?_⟩
        obtain ⟨T, y, e1, hT, e2, hy⟩ := hy
        subst e1 e2
        have h3 := hy vs hs
        rw [h1] at h3
        cases h3
        exact ⟨μ, Nx.fresh0 hT, rh.fresh hT, .tup (SqT.of upd_same) (.cons (.int _) (.cons (h2.mono (Nx.fresh0 hT)) .nil))⟩
      · cases h
    · cases h
end
section
variable {X : Cx} {Γ : Gm} {W : WX} {tg a b e : Expr} {fa fb fe : MX} {p pos tpos : Pos} {elts : List Expr} {kk : Nat}
theorem pi_seq {l : Expr} {tl : TE} (hl : PE X l tl) : PI X tg l (fun σ H R => tl σ H fun x H1 => ∃ a, x = .ref a ∧ (((∃ xs, SqL X.K H1 a xs) ∧ R (Itl X.K a) H1) ∨ ((∃ xs, SqT X.K H1 a xs) ∧ R (Itt X.K a) H1))) := by
  refine ⟨fun pins s σ H R I h => ?_⟩
  refine thn (hl.run pins s σ H _ I h) fun v s1 ⟨x, H1, I1, r1, q1⟩ => ?_
  obtain ⟨a, e, q⟩ := q1
  subst e
  cases r1
  rcases q with ⟨⟨xs, hq⟩, q⟩ | ⟨⟨xs, hq⟩, q⟩
  · obtain ⟨its, rv, p, hz⟩ := I1.list hq
    refine wpAny_pyIter_list p.isList ?_
    refine ⟨s1.heap.objs.size, [s1.heap.objs.size], _, _, H1, rfl, I1.kept (t' := s1.toks) fun b o e => Heap.get?_push_of_some _ e, turn_list a _, ⟨_, Heap.get?_push_size _ rfl, rfl, rfl⟩, fun b hb => ?_, q⟩
    have e : b = s1.heap.objs.size := by simpa using hb
    subst e
    exact I1.fpOk (Nat.le_refl _) (I1.hok.fresh (Nat.le_refl _))
  · obtain ⟨its, rv, p, hz⟩ := I1.tuple hq
    refine wpAny_pyIter_tuple (show s1.heap.IsTuple a its.toArray from p) ?_
    refine ⟨s1.heap.objs.size, [s1.heap.objs.size], _, _, H1, rfl, I1.kept (t' := s1.toks) fun b o e => Heap.get?_push_of_some _ e, turn_tuple a _, ⟨_, Heap.get?_push_size _ rfl, rfl, rfl⟩, fun b hb => ?_, q⟩
    have e : b = s1.heap.objs.size := by simpa using hb
    subst e
    exact I1.fpOk (Nat.le_refl _) (I1.hok.fresh (Nat.le_refl _))
theorem ei_seq (he : EX X Γ W e fe) : EI X Γ W tg e (ySeq fe) :=
  PI.imp (pi_seq he) fun σ H R ⟨ζ, M, μ, rr, h⟩ => ⟨ζ, M, μ, rr, Pst.then h fun v H1 d M1 μ1 nx rh rv h1 => by
    replace rv : RV X.K H1 μ1 d v := rv
    cases rv with
    | tup g r => exact ⟨_, rfl, .inr ⟨⟨_, g⟩, h1 _ _ _ (Nx.refl _ _) rh (y_tup g r)⟩⟩
    | kls g r => exact ⟨_, rfl, .inl ⟨⟨_, g.sq⟩, h1 _ _ _ (Nx.refl _ _) rh (y_kls g r)⟩⟩
    | ref e1 =>
      simp only at h1
      split at h1
      · rename_i xs hx
        obtain ⟨b, vs, hb, hs, r⟩ := hRef_ok rh hx (.ref e1)
        cases hb
        exact ⟨_, rfl, .inl ⟨⟨_, hs⟩, h1 _ _ _ (Nx.refl _ _) rh (y_ref e1)⟩⟩
      · exact h1.elim
    | _ => exact h1.elim⟩
theorem ei_range1 (ha : EX X Γ W a fa) (hm : X.mg "range" = none) (hg : Gl X "range" := by rfl) (hs : starEach [a] X.env = [(false, eval a X.env)] := by rfl) : EI X Γ W tg (.Call (.Name "range" p) [a] [] pos) (yRg1 fa) :=
  PI.imp (pi_range1 hg hm (pa_cons ha pa_nil hs) hs) fun σ H R ⟨ζ, M, μ, rr, h⟩ => ⟨ζ, M, μ, rr, Pst.then h fun v H1 d M1 μ1 nx rh rv h1 => by
    cases d with
    | int j =>
      cases rv
      simp only at h1
      split at h1
      · rename_i hj
        obtain ⟨j1, j2⟩ := okRg_ok hj
        exact ⟨j, rfl, j1, j2, h1 _ _ _ (Nx.refl _ _) rh y_rg⟩
      · exact h1.elim
    | _ => exact h1.elim⟩
theorem ei_range2 (ha : EX X Γ W a fa) (hb : EX X Γ W b fb) (hm : X.mg "range" = none) (hg : Gl X "range" := by rfl) (hs : starEach [a, b] X.env = [(false, eval a X.env), (false, eval b X.env)] := by rfl)
    (hs2 : starEach [b] X.env = [(false, eval b X.env)] := by rfl) (hs3 : starEach [a, b] X.env = (false, eval a X.env) :: starEach [b] X.env := by rfl) : EI X Γ W tg (.Call (.Name "range" p) [a, b] [] pos) (yRg2 fa fb) :=
  PI.imp (pi_range2 hg hm (pa_cons ha (pa_cons hb pa_nil hs2) hs3) hs hs2) fun σ H R ⟨ζ, M, μ, rr, h⟩ => ⟨ζ, M, μ, rr, Pst.then h fun v H1 d M1 μ1 nx rh rv h1 => ⟨ζ, M1, μ1, ⟨rr.sl.mono nx, rh⟩, Pst.then h1 fun u H2 e M2 μ2 nx2 rh2 ru h2 => by
    replace rv : RV X.K H1 μ1 d v := rv
    replace ru : RV X.K H2 μ2 e u := ru
    split at h2
    · cases rv
      cases ru
      split at h2
      · rename_i hj
        rw [Bool.and_eq_true] at hj
        obtain ⟨i1, i2⟩ := okRg_ok hj.1
        obtain ⟨j1, j2⟩ := okRg_ok hj.2
        exact ⟨_, _, rfl, ⟨i1, i2, j1, j2⟩, h2 _ _ _ (Nx.refl _ _) rh2 y_rg⟩
      · exact h2.elim
    · exact h2.elim⟩⟩
theorem ei_enum (ha : EX X Γ W a fa) (hm : X.mg "enumerate" = none) (hg : Gl X "enumerate" := by rfl) (hs : starEach [a] X.env = [(false, eval a X.env)] := by rfl) : EI X Γ W (.Tuple elts kk tpos) (.Call (.Name "enumerate" p) [a] [] pos) (yEnum fa) :=
  PI.imp (pi_enumT hg hm (pa_cons ha pa_nil hs) hs) fun σ H R ⟨ζ, M, μ, rr, h⟩ => ⟨ζ, M, μ, rr, Pst.then h fun v H1 d M1 μ1 nx rh rv h1 => by
    replace rv : RV X.K H1 μ1 d v := rv
    cases rv with
    | tup g r => exact ⟨_, _, rfl, .inr ⟨g, h1 _ _ _ (Nx.refl _ _) rh (y_enumT g r)⟩⟩
    | ref e1 =>
      simp only at h1
      split at h1
      · rename_i xs hx
        obtain ⟨b, vs, hb, hs, r⟩ := hRef_ok rh hx (.ref e1)
        cases hb
        exact ⟨_, _, rfl, .inl ⟨hs, h1 _ _ _ (Nx.refl _ _) rh (y_enumL e1)⟩⟩
      · exact h1.elim
    | _ => exact h1.elim⟩
end
end Mi
end
section
set_option maxRecDepth 100000
set_option maxHeartbeats 2000000
set_option autoImplicit false
namespace Mi
open PySem PySem.Spec PyProof.Rows L2

def wipeD (ζ : Sl) : List Nat → Sl
  | [] => ζ
  | v :: vs => (wipeD ζ vs).set v none
def lcN (y : Nat → Hs → Option (Option D)) (p : Pt) (k : Sl → Hs → R Unit) (ζ : Sl) : Nat → Nat → Hs → R Unit
  | 0, _ => fun _ => .no
  | m + 1, i => fun M => match y i M with
    | none => .no
    | some none => .ok () M
    | some (some d) => match bindP p d with
      | none => .no
      | some l => match k (setAll ζ l) M with
        | .ok _ M' => lcN y p k ζ m (i + 1) M'
        | _ => .no
def lput (n : Nat) (v : D) (M : Hs) : R Unit := match hLst M n with
  | some acc => if acc.length < sizeLine then .ok () (M.set n (.lst (acc ++ [v]))) else .no
  | none => .no
def lcB (t : MT) (f : MX) (n : Nat) : Sl → Hs → R Unit := fun ζ M => match t ζ M with
  | .ok false M1 => .ok () M1
  | .ok true M1 => match f ζ M1 with
    | .ok v M2 => lput n v M2
    | _ => .no
  | _ => .no
def lcB2 (t : MT) (s : MY) (p1 : Pt) (vs1 : List Nat) (t1 : MT) (f : MX) (n : Nat) : Sl → Hs → R Unit := fun ζ M => match t ζ M with
  | .ok false M1 => .ok () M1
  | .ok true M1 => match s ζ M1 with
    | .ok yd M2 => lcN yd.y p1 (lcB t1 f n) (wipeD ζ vs1) yd.fuel 0 M2
    | _ => .no
  | _ => .no
def tTrue : MT := fun _ M => .ok true M
def xLc (s : MY) (vs : List Nat) (p : Pt) (t : MT) (f : MX) : MX := fun ζ M => (s ζ M).bind fun yd M1 => (lcN yd.y p (lcB t f M1.length) (wipeD ζ vs) yd.fuel 0 (M1 ++ [.lst []])).bind fun _ M2 => .ok (.ref M1.length) M2
def xLc2 (s : MY) (vs : List Nat) (p : Pt) (t : MT) (s1 : MY) (p1 : Pt) (vs1 : List Nat) (t1 : MT) (f : MX) : MX := fun ζ M => (s ζ M).bind fun yd M1 => (lcN yd.y p (lcB2 t s1 p1 vs1 t1 f M1.length) (wipeD ζ vs) yd.fuel 0 (M1 ++ [.lst []])).bind fun _ M2 => .ok (.ref M1.length) M2

theorem RSl.wiped {K : PySem.W.Frag} {H : Hp} {μ : List Addr} {ζ : Sl} {σ : L2.St} (r : RSl K H μ ζ σ) : ∀ vs : List Nat, RSl K H μ (wipeD ζ vs) (wipe σ vs)
  | [] => r
  | v :: vs => by
    have ih := RSl.wiped r vs
    refine ⟨by simp [wipeD, wipe, ih.len], fun i d h => ?_⟩
    simp only [wipeD] at h
    by_cases hi : v = i
    · subst hi
      by_cases hv : v < (wipeD ζ vs).length
      · rw [List.getElem?_set_self hv] at h; cases h
      · rw [List.getElem?_eq_none (by simpa using hv)] at h; cases h
    · rw [List.getElem?_set_ne hi] at h
      simp only [wipe]
      rw [List.getElem?_set_ne hi]
      exact ih.at_ i d h
theorem wipe_set {σ : L2.St} {i : Nat} {x : Option V} : ∀ {vs : List Nat}, i ∈ vs → wipe (σ.set i x) vs = wipe σ vs
  | [], h => by cases h
  | v :: vs, h => by
    simp only [wipe]
    by_cases hi : i ∈ vs
    · rw [wipe_set hi]
    · have hv : v = i := by
        rcases List.mem_cons.mp h with e | e
        · exact e.symm
        · exact absurd e hi
      subst hv
      rw [wipe_setn hi]
      rw [List.set_set]
where
  wipe_setn {σ : L2.St} {i : Nat} {x : Option V} : ∀ {vs : List Nat}, i ∉ vs → wipe (σ.set i x) vs = (wipe σ vs).set i x
    | [], _ => rfl
    | v :: vs, h => by
      have h1 : v ≠ i := fun e => h (by rw [e]; exact List.mem_cons_self)
      have h2 : i ∉ vs := fun m => h (List.mem_cons_of_mem _ m)
      simp only [wipe]
      rw [wipe_setn h2, List.set_comm _ _ (Ne.symm h1)]
theorem wipe_setAll : ∀ {l : List (Nat × V)} {σ : L2.St} {vs : List Nat}, (∀ p ∈ l, p.1 ∈ vs) → wipe (setAll σ l) vs = wipe σ vs
  | [], _, _, _ => rfl
  | (i, x) :: l, σ, vs, h => by
    show wipe (setAll (σ.set i (some x)) l) vs = _
    rw [wipe_setAll fun p hp => h p (List.mem_cons_of_mem _ hp), wipe_set (h (i, x) List.mem_cons_self)]
theorem wipe_wipe {σ : L2.St} : ∀ {vs us : List Nat}, (∀ v ∈ us, v ∈ vs) → wipe (wipe σ us) vs = wipe σ vs
  | _, [], _ => rfl
  | vs, u :: us, h => by
    show wipe ((wipe σ us).set u none) vs = _
    rw [wipe_set (h u List.mem_cons_self), wipe_wipe fun v hv => h v (List.mem_cons_of_mem _ hv)]
mutual
theorem bindP_slots : ∀ (p : Pt) {d : D} {l : List (Nat × D)}, bindP p d = some l → ∀ q ∈ l, q.1 ∈ p.slots
  | .n i, d, l, h => by
    simp only [bindP] at h
    cases h
    intro q hq
    simp only [List.mem_singleton] at hq
    subst hq
    simp [Pt.slots]
  | .t ps, d, l, h => by
    cases d with
    | tup ds => simp only [bindP] at h; simp only [Pt.slots]; exact bindPs_slots ps h
    | _ => simp [bindP] at h
theorem bindPs_slots : ∀ (ps : List Pt) {ds : List D} {l : List (Nat × D)}, bindPs ps ds = some l → ∀ q ∈ l, q.1 ∈ slotsOf ps
  | [], [], l, h => by simp only [bindPs] at h; cases h; intro q hq; cases hq
  | [], _ :: _, l, h => by simp [bindPs] at h
  | p :: ps, [], l, h => by simp [bindPs] at h
  | p :: ps, d :: ds, l, h => by
    simp only [bindPs] at h
    split at h
    · rename_i l1 l2 h1 h2
      cases h
      intro q hq
      simp only [slotsOf, List.mem_append]
      rcases List.mem_append.mp hq with hq | hq
      · exact .inl (bindP_slots p h1 q hq)
      · exact .inr (bindPs_slots ps h2 q hq)
    · cases h
end
theorem br_slots {K : PySem.W.Frag} {H : Hp} {μ : List Addr} {vs : List Nat} : ∀ {l : List (Nat × D)} {l' : List (Nat × V)}, BR K H μ l l' → (∀ q ∈ l, q.1 ∈ vs) → ∀ q ∈ l', q.1 ∈ vs
  | _, _, .nil, _ => fun q h => by cases h
  | _, _, .cons r t, h => fun q hq => by
    rcases List.mem_cons.mp hq with e | hq
    · subst e
      rw [← r.1]
      exact h _ List.mem_cons_self
    · exact br_slots t (fun q hq => h q (List.mem_cons_of_mem _ hq)) q hq
section
variable {X : Cx} {Γ : Gm} {W : WX}
/-- no exception leaves the block -/
abbrev W0 : WX := fun _ _ _ _ => False
/-- a turn of the block, told by its k -/
def Turned (P : Program) (w : World) (K : PySem.W.Frag) (Γ : Gm) (H1 : Hp) (μ1 : List Addr) (n : Nat) (D : Addr) (Q : Prop) : Prop := Q
theorem lput_ok {P : Program} {w : World} {K : PySem.W.Frag} {Γ : Gm} {n : Nat} {D' : Addr} {d : D} {v : V} {μ : List Addr} {M M' : Hs} {H : Hp} (rh : RH P w K Γ μ M H) (hn : μ[n]? = some D') (r : RV K H μ d v) (h : lput n d M = .ok () M') :
    ∃ acc, H D' = some (.lst acc) ∧ acc.length < sizeLine ∧ RH P w K Γ μ M' (upd H D' (.lst (acc ++ [v]))) ∧ Nx μ H μ (upd H D' (.lst (acc ++ [v]))) := by
  unfold lput at h
  split at h
  · rename_i acc hl
    obtain ⟨vs, g, ra⟩ := nlst rh (hLst_ok rh hl) hn
    split at h
    · rename_i hz
      cases h
      exact ⟨vs, g, by rw [← ra.length]; exact hz, rh.write hn (mutL g) ⟨_, upd_same, (ra.append (.cons r .nil)).mono (Nx.write (mutL g))⟩, Nx.write (mutL g)⟩
    · cases h
  · cases h
theorem ets_nil : PTs X [] (tT X.prog X.w X.K Γ W tTrue) := ⟨fun pins s σ H Q I ⟨ζ, M, μ, rr, h⟩ => pts_nil.run pins s σ H Q I (h _ _ _ (Nx.refl _ _) rr.hp rfl)⟩
theorem ets_one {c : Expr} {t : MT} (h : ET X Γ W c t) : PTs X [c] (tT X.prog X.w X.K Γ W t) := pts_one h
abbrev ETs (X : Cx) (Γ : Gm) (W : WX) (ifs : List Expr) (t : MT) : Prop := PTs X ifs (tT X.prog X.w X.K Γ W t)
variable {elt tg iter tg1 iter1 : Expr} {ifs ifs1 : List Expr} {scope : Scope} {own : List (Str × Nat)} {pos : Pos} {s s1 : MY} {p p1 : Pt} {t t1 : MT} {f : MX} {vs1 : List Nat}
theorem tLc_of {vs : List Nat} {σ : L2.St} {H : Hp} {Q : VK} (hp : ∀ i ∈ p.slots, i ∈ vs) (h : tX X.prog X.w X.K Γ W (xLc s vs p t f) σ H Q) :
    tLc (iY X.prog X.w X.K Γ W s) (gP X.prog X.w X.K Γ p) (tT X.prog X.w X.K Γ W0 t) (tX X.prog X.w X.K Γ W0 f) vs σ H Q := by
  obtain ⟨ζ, M, μ, rr, h⟩ := h
  refine ⟨ζ, M, μ, rr, Pst.then h fun J H1 yd M1 μ1 nx rh rv h1 => fun D' hD => ?_⟩
  have nx0 : Nx μ1 H1 (μ1 ++ [D']) (upd H1 D' (.lst [])) := Nx.fresh hD [D']
  have rh0 : RH X.prog X.w X.K Γ (μ1 ++ [D']) (M1 ++ [.lst []]) (upd H1 D' (.lst [])) := rh.alloc hD ⟨[], upd_same, .nil⟩
  refine ⟨fun i m H => ∃ M μ, Nx μ1 H1 μ H ∧ RH X.prog X.w X.K Γ μ M H ∧ μ[M1.length]? = some D' ∧
    Pst X.prog X.w X.K Γ (relV X.K) W σ μ H ((lcN yd.y p (lcB t f M1.length) (wipeD ζ vs) m i M).bind fun _ M2 => .ok (.ref M1.length) M2) Q,
    ⟨yd.fuel, _, _, nx0, rh0, rh.last, Pst.mono h1 nx0⟩, ?_⟩
  rintro i m H2 ⟨M2, μ2, nx2, rh2, hn, h2⟩
  cases m with
  | zero => exact h2.elim
  | succ m =>
    obtain ⟨st, go⟩ := rv i H2 μ2 M2 nx2 rh2
    simp only [lcN] at h2
    split at h2
    · exact h2.elim
    · rename_i hy
      exact .inl ⟨st hy, h2 _ _ _ (Nx.refl _ _) rh2 (.ref hn)⟩
    · rename_i d hy
      obtain ⟨g1, g2⟩ := go d hy
      refine .inr ⟨g1, fun H' => ∃ M μ, Nx μ1 H1 μ H' ∧ RH X.prog X.w X.K Γ μ M H' ∧ μ[M1.length]? = some D' ∧
        Pst X.prog X.w X.K Γ (relV X.K) W σ μ H' ((lcN yd.y p (lcB t f M1.length) (wipeD ζ vs) m (i + 1) M).bind fun _ M2 => .ok (.ref M1.length) M2) Q, fun H' q => ⟨m, Nat.lt_succ_self _, q⟩, fun x H3 hx => ?_⟩
      obtain ⟨μ3, nx3, rh3, rv3⟩ := g2 x H3 hx
      refine ⟨d, M2, μ3, rh3, rv3, ?_⟩
      split at h2
      · exact h2.elim
      · rename_i l hl
        rw [hl]
        intro l' br
        have hs : ∀ q ∈ l', q.1 ∈ vs := br_slots br fun q hq => hp _ (bindP_slots p hl q hq)
        refine ⟨(wipe_setAll hs).trans (wipe_wipe fun _ h => h), ?_⟩
        have sl3 : RSl X.K H3 μ3 (setAll (wipeD ζ vs) l) (setAll (wipe σ vs) l') := RSl.setAll br (((rr.sl.mono nx).mono (nx2.trans nx3)).wiped vs)
        have n3 := nx2.trans nx3
        have hn3 := nx3.pre _ _ hn
        have h3 := Pst.mono h2 nx3
        refine ⟨_, M2, μ3, ⟨sl3, rh3⟩, ?_⟩
        unfold lcB at h3
        cases ht : t (setAll (wipeD ζ vs) l) M2 with
        | ex c fs M4 => rw [ht] at h3; exact h3.elim
        | no => rw [ht] at h3; exact h3.elim
        | ok b M4 =>
          rw [ht] at h3
          intro b' H4 μ4 nx4 rh4 rb
          have rb : b = b' := rb
          subst rb
          have h4 := Pst.mono h3 nx4
          cases b with
          | false =>
            rw [if_neg Bool.false_ne_true]
            exact ⟨M4, μ4, n3.trans nx4, rh4, nx4.pre _ _ hn3, h4⟩
          | true =>
            rw [if_pos rfl]
            refine ⟨_, M4, μ4, ⟨sl3.mono nx4, rh4⟩, ?_⟩
            simp only at h4
            cases hf : f (setAll (wipeD ζ vs) l) M4 with
            | ex c fs M5 => rw [hf] at h4; exact h4.elim
            | no => rw [hf] at h4; exact h4.elim
            | ok v M5 =>
              rw [hf] at h4
              intro z H5 μ5 nx5 rh5 rz
              have h5 := Pst.mono h4 nx5
              simp only at h5
              cases hput : lput M1.length v M5 with
              | ex c fs M6 => rw [hput] at h5; exact h5.elim
              | no => rw [hput] at h5; exact h5.elim
              | ok u M6 =>
                rw [hput] at h5
                have hn5 := nx5.pre _ _ (nx4.pre _ _ hn3)
                obtain ⟨acc, ha, hz, rh6, nx6⟩ := lput_ok rh5 hn5 rz hput
                exact ⟨acc, ha, hz, M6, μ5, ((n3.trans nx4).trans nx5).trans nx6, rh6, hn5, Pst.mono h5 nx6⟩
theorem ex_lc (hc : X.calm = true) (hN : X.N.Nodup) (hi : EI X Γ W tg iter s) (ok : BlkOk X.N X.env.scope scope own) (hp : ∀ i ∈ p.slots, i ∈ own.map (·.2))
    (hg : ∀ (s : Shared) (H : Hp) (C : Addr) (cl : List (Str × Addr)) (fp : List Addr), EG (X.blk s H scope (compEnvC scope cl C X.env) fp) Γ tg p) (ht : ∀ (s : Shared) (H : Hp) (C : Addr) (cl : List (Str × Addr)) (fp : List Addr), ETs (X.blk s H scope (compEnvC scope cl C X.env) fp) Γ W0 ifs t)
    (he : ∀ (s : Shared) (H : Hp) (C : Addr) (cl : List (Str × Addr)) (fp : List Addr), EX (X.blk s H scope (compEnvC scope cl C X.env) fp) Γ W0 elt f) (hs : ∀ x, foldedSetIterable iter X.env x = pure x := by intro _; rfl) :
    EX X Γ W (.ListComp elt [⟨tg, iter, ifs, 0⟩] scope pos) (xLc s (own.map (·.2)) p t f) :=
  PE.imp (pe_lc hc hN hi ok hg ht he hs) fun σ H Q h => tLc_of hp h
/-- name = [..], the name a local on one line -/
theorem es_setLc (i : Nat) {y : Str} {py spos : Pos} (hc : X.calm = true) (hN : X.N.Nodup) (hi : EI X Γ W tg iter s) (ok : BlkOk X.N X.env.scope scope own) (hp : ∀ i ∈ p.slots, i ∈ own.map (·.2))
    (hg : ∀ (s : Shared) (H : Hp) (C : Addr) (cl : List (Str × Addr)) (fp : List Addr), EG (X.blk s H scope (compEnvC scope cl C X.env) fp) Γ tg p) (ht : ∀ (s : Shared) (H : Hp) (C : Addr) (cl : List (Str × Addr)) (fp : List Addr), ETs (X.blk s H scope (compEnvC scope cl C X.env) fp) Γ W0 ifs t)
    (he : ∀ (s : Shared) (H : Hp) (C : Addr) (cl : List (Str × Addr)) (fp : List Addr), EX (X.blk s H scope (compEnvC scope cl C X.env) fp) Γ W0 elt f)
    (hsw : swapsWith (.ListComp elt [⟨tg, iter, ifs, 0⟩] scope pos) (some (.Name y py)) spos.line X.env = pure true) (hy : X.N[i]? = some y := by rfl) (hyl : X.env.scope.names.lookup y = some .local := by rfl)
    (hs : ∀ x, foldedSetIterable iter X.env x = pure x := by intro _; rfl) : ES X Γ W (.Assign [.Name y py] (.ListComp elt [⟨tg, iter, ifs, 0⟩] scope pos) spos) (sSet i (xLc s (own.map (·.2)) p t f)) :=
  PS.imp (ps_setLc hc hN hy hyl hsw hi ok hg ht he hs) fun E σ H ⟨ζ, M, μ, rr, h⟩ => tLc_of hp ⟨ζ, M, μ, rr, PstS.then h rr.sl fun v H1 d M1 μ1 nx rh rv h1 => h1 _ _ _ (Nx.refl _ _) rh ((rr.sl.mono nx).set rv i)⟩
end

def spF (P : Program) (w : World) (K : PySem.W.Frag) (Γ : Gm) (n : Nat) (F : MF) : Sp := fun vs H Q E => ∃ ds M μ, RH P w K Γ μ M H ∧ RVs K H μ ds vs ∧ ds.length = n ∧ match F ds M with
  | .ok d M' => ∀ v H' μ', Nx μ H μ' H' → RH P w K Γ μ' M' H' → RV K H' μ' d v → Q v H'
  | .ex c fs M' => ∀ cls dd H' μ', Nx μ H μ' H' → RH P w K Γ μ' M' H' → RX K Γ H' μ' c fs cls dd → E cls dd H'
  | .no => False
/-- a def of the module that does what F does -/
structure Cal (P : Program) (w : World) (K : PySem.W.Frag) (mg : Str → Option Value) (base : Heap) (Γ : Gm) (k : Nat) (x : Str) (ps : List Str) (F : MF) : Prop where
  ex : ∃ f fd, FnOk P w K mg base (L2.CX P w) k f fd ps (spF P w K Γ ps.length F) ∧ mg x = some (.ref f) ∧ PySem.W.keepIn K (.ref f) = true ∧ Binds K fd ps []
theorem Cal.mono {P : Program} {w : World} {K : PySem.W.Frag} {mg : Str → Option Value} {base : Heap} {Γ : Gm} {j k : Nat} {x : Str} {ps : List Str} {F : MF} (c : Cal P w K mg base Γ j x ps F) (h : j ≤ k) : Cal P w K mg base Γ k x ps F :=
  ⟨let ⟨f, fd, F, a, b, d⟩ := c.ex; ⟨f, fd, F.mono h, a, b, d⟩⟩
def xCall (n : Nat) (F : MF) (ga : MA) : MX := fun ζ M => (ga ζ M).bind fun ds M1 => if ds.length = n then F ds M1 else .no
section
variable {X : Cx} {Γ : Gm} {W : WX} {e : Expr} {es : List Expr} {ga : MA} {k : Nat} {x : Str} {ps : List Str} {F : MF} {p pos : Pos}
theorem spF_of {n : Nat} {σ : L2.St} {μ : List Addr} {H : Hp} {ds : List D} {vs : List V} {M : Hs} {Q : VK} (rh : RH X.prog X.w X.K Γ μ M H) (r : RVs X.K H μ ds vs) (h : Pst X.prog X.w X.K Γ (relV X.K) W σ μ H (if ds.length = n then F ds M else .no) Q) :
    spF X.prog X.w X.K Γ n F vs H Q (WE W σ) := by
  split at h
  · rename_i hl
    refine ⟨ds, M, μ, rh, r, hl, ?_⟩
    cases hF : F ds M with
    | ok d M' => rw [hF] at h; exact h
    | ex c fs M' => rw [hF] at h; exact h
    | no => rw [hF] at h; exact h
  · exact h.elim
theorem ex_call (c : Cal X.prog X.w X.K X.mg X.base Γ k x ps F) (hr : Room k X.A) (tk : Takes X W) (ha : EA X Γ W (e :: es) ga) (hg : Gl X x := by rfl) (hdb : (x == ("__debug__" : Str)) = false := by decide)
    (he : starEach (e :: es) X.env = (false, eval e X.env) :: starEach es X.env := by rfl) (hpl : (backTo pos (starEach es X.env)).any (·.1) = false := by rfl) : EX X Γ W (.Call (.Name x p) (e :: es) [] pos) (xCall ps.length F ga) := by
  obtain ⟨f, fd, F', hm, hk, hb⟩ := c.ex
  exact PE.imp (pe_callSD (E := WE W) F' hr hg hm hk hb .nil (fun σ => passAt tk σ) ha hdb he hpl) fun σ H Q ⟨ζ, M, μ, rr, h⟩ => ⟨ζ, M, μ, rr, Pst.then h fun vs H1 ds M1 μ1 nx rh rv h1 => by
    rw [List.append_nil]
    exact spF_of rh rv h1⟩
theorem ex_call0 (c : Cal X.prog X.w X.K X.mg X.base Γ k x ps F) (hr : Room k X.A) (tk : Takes X W) (hg : Gl X x := by rfl) (hdb : (x == ("__debug__" : Str)) = false := by decide) : EX X Γ W (.Call (.Name x p) [] [] pos) (xCall ps.length F aNil) := by
  obtain ⟨f, fd, F', hm, hk, hb⟩ := c.ex
  refine ⟨fun pins s σ H Q I h => ?_⟩
  obtain ⟨ζ, M, μ, rr, h⟩ := h
  refine wpAny_Call_Name_kw (ld_glob I hg hm ?_ hdb)
  exact PySem.W.callWith_K0 I.kIn hk (run_fnSD (us := []) (E := WE W) F' hr hb .nil (passAt tk σ) I .nil (spF_of rr.hp .nil h))
end
/-- a def by its body: np parameters, nl names -/
def fnS (np nl : Nat) (b : MS) : MF := fun ds M => match b (ds.map some ++ List.replicate (nl - np) none) M with
  | .nx _ M' => .ok .non M'
  | .rt d M' => .ok d M'
  | .ex c fs _ M' => .ex c fs M'
  | _ => .no
section
variable {P : Program} {w : World} {K : PySem.W.Frag} {mg : Str → Option Value} {base : Heap} {Γ : Gm}
theorem rsl_start {H : Hp} {μ : List Addr} {ds : List D} {vs : List V} {N : List Str} {n : Nat} (r : RVs K H μ ds vs) (hn : ds.length = n) : RSl K H μ (ds.map some ++ List.replicate (N.length - n) none) (L2.start N vs) := by
  have hl := r.length
  refine ⟨by unfold L2.start; simp only [List.length_append, List.length_map, List.length_replicate]; omega, fun i d h => ?_⟩
  by_cases hi : i < ds.length
  · rw [List.getElem?_append_left (by simpa using hi), List.getElem?_map] at h
    cases e : ds[i]? with
    | none => rw [e] at h; cases h
    | some d' =>
      rw [e] at h
      cases h
      obtain ⟨v, h1, h2⟩ := r.get e
      refine ⟨v, ?_, h2⟩
      unfold L2.start
      rw [List.getElem?_append_left (by simpa using (List.getElem?_eq_some_iff.mp h1).1), List.getElem?_map, h1]
      rfl
  · rw [List.getElem?_append_right (by simpa using hi), List.getElem?_replicate] at h
    split at h <;> cases h
theorem fn_mk {qual : Str} {params : Arguments} {body : List Stmt} {scope : Scope} {f : Addr} {fd : FuncData} {x : Str} {N ps : List Str} {k : Nat} {b : MS} (F : FunD K x qual params body scope [] [] f fd) (S : FnScope N ps scope)
    (hbody : ∀ (cdv : Value) (A : Around) (outer : List Env) (s : Shared) (H : Hp) (E : XK), Room k (A.deeper (envOfC qual scope s.heap.objs.size f cdv)) →
      ESs (cxOf (L2.CX P w) P w K mg base N qual scope f cdv A outer s H E) Γ (fun cls d _ H => E cls d H) body b) : FnOk P w K mg base (L2.CX P w) (k + 1) f fd ps (spF P w K Γ ps.length (fnS ps.length N.length b)) := by
  refine F.ok S (fun vs H Q E ⟨ds, M, μ, rh, r, hl, _⟩ => by rw [← r.length]; exact hl) fun cdv A outer s H vs Q E hr h => ?_
  obtain ⟨ds, M, μ, rh, r, hl, h⟩ := h
  refine ⟨_, hbody cdv A outer s H E hr, _, M, μ, ⟨rsl_start (N := N) r hl, rh⟩, ?_⟩
  unfold fnS at h
  cases hb : b (ds.map some ++ List.replicate (N.length - ps.length) none) M with
  | nx ζ M' => rw [hb] at h; exact fun σ' H' μ' a c _ => h _ _ _ a c .non
  | rt d M' => rw [hb] at h; exact h
  | bk ζ M' => rw [hb] at h; exact h.elim
  | ct ζ M' => rw [hb] at h; exact h.elim
  | ex c fs ζ M' => rw [hb] at h; exact fun cls dd σ' H' μ' a c _ e => h cls dd H' μ' a c e
  | no => rw [hb] at h; exact h.elim
end
end Mi
end
section
set_option maxRecDepth 100000
set_option maxHeartbeats 2000000
set_option autoImplicit false
namespace Mi
open PySem PySem.Spec PyProof.Rows L2

def isTupD : D → Bool
  | .tup _ => true
  | _ => false
/-- the key of a dict's look-up -/
def keyOf (d : D) : Option NestedKey := if isTupD d = true then match nkey d with
  | some k => if k.depth ≤ 8 then some k else none
  | none => none else none
def dGet (kvs : List (D × D)) (k : NestedKey) : Option D := (kvs.find? fun p => decide (nkey p.1 = some k)).map (·.2)
def dPut (kvs : List (D × D)) (k : NestedKey) (d v : D) : List (D × D) := if (dGet kvs k).isSome then kvs.map fun p => if nkey p.1 = some k then (p.1, v) else p else kvs ++ [(d, v)]
section
variable {X : Cx} {pins : List (Addr × Obj)} {σ : L2.St} {H : Hp} {s : Shared} {μ : List Addr}
mutual
theorem nest_of (I : Inv X pins σ H s) : ∀ {d : D} {v : V} {u : Value} {k : NestedKey}, RV X.K H μ d v → RelV v u → nkey d = some k → NestedIs s.heap k u
  | _, _, _, _, .non, r, h => by cases r; simp only [nkey] at h; cases h; exact .none
  | _, _, _, _, .bl b, r, h => by cases r; simp only [nkey] at h; cases h; exact .bool rfl
  | _, _, _, _, .int i, r, h => by obtain ⟨t, rfl⟩ := r; simp only [nkey] at h; cases h; exact .int i t
  | _, _, _, _, .str x, r, h => by obtain ⟨t, rfl⟩ := r; simp only [nkey] at h; cases h; exact .text x t
  | _, _, _, _, .tup g rs, r, h => by
    cases r
    simp only [nkey] at h
    obtain ⟨its, rv, ⟨o, ho, hc, n, hd⟩, _⟩ := I.tuple g
    cases e : nkeys _ with
    | none => rw [e] at h; cases h
    | some ks =>
      rw [e] at h
      cases h
      exact .tup ho hc hd (nests_of I rs (by simpa using rv) e)
  | _, _, _, _, .ref _, _, h => by simp [nkey] at h
  | _, _, _, _, .kls _ _, _, h => by simp [nkey] at h
  | _, _, _, _, .excN, _, h => by simp [nkey] at h
  | _, _, _, _, .excD _ _ _, _, h => by simp [nkey] at h
theorem nests_of (I : Inv X pins σ H s) : ∀ {ds : List D} {vs : List V} {us : List Value} {ks : List NestedKey}, RVs X.K H μ ds vs → Vals vs us → nkeys ds = some ks → NestedAll s.heap ks us
  | _, _, _, _, .nil, r, h => by cases r; simp only [nkeys] at h; cases h; exact .nil
  | _, _, _, _, .cons a b, r, h => by
    cases r with
    | cons r1 r2 =>
      simp only [nkeys] at h
      split at h
      · rename_i k ks h1 h2
        cases h
        exact .cons (nest_of I a r1 h1) (nests_of I b r2 h2)
      · cases h
end
theorem keyOf_ok {d : D} {k : NestedKey} (h : keyOf d = some k) : nkey d = some k ∧ k.depth ≤ 8 ∧ isTupD d = true := by
  unfold keyOf at h
  split at h
  · rename_i ht
    split at h
    · rename_i k' hk
      split at h
      · rename_i hd
        cases h
        exact ⟨hk, hd, ht⟩
      · cases h
    · cases h
  · cases h
theorem key_is (I : Inv X pins σ H s) {d : D} {v : V} {u : Value} {k : NestedKey} (h : keyOf d = some k) (r : RV X.K H μ d v) (ru : RelV v u) : ∃ a, v = .ref a ∧ u = .ref a ∧ (nestedKind X.prog X.w).is s.heap k a := by
  obtain ⟨h1, h2, h3⟩ := keyOf_ok h
  have n := nest_of I r ru h1
  cases r with
  | tup g rs => cases ru; exact ⟨_, rfl, rfl, n, h2⟩
  | _ => cases h3
theorem entries (I : Inv X pins σ H s) {kvs : List (D × D)} {es : List (NestedKey × Addr × V)} (r : Paired (REn X.K H μ) kvs es) : ∀ {xs : List (NestedKey × Addr × Value)}, Paired (fun (p : NestedKey × Addr × V) (q : NestedKey × Addr × Value) => p.1 = q.1 ∧ p.2.1 = q.2.1 ∧ RelV p.2.2 q.2.2) es xs → ∀ x ∈ xs, (nestedKind X.prog X.w).is s.heap x.1 x.2.1 := by
  induction r with
  | nil => intro xs h x hx; cases h; cases hx
  | cons r1 r2 ih =>
    intro xs h x hx
    cases h with
    | cons q1 q2 =>
      rcases List.mem_cons.mp hx with e | hx
      · subst e
        obtain ⟨h1, h2, h3, _⟩ := r1
        obtain ⟨e1, e2, _⟩ := q1
        rw [← e1, ← e2]
        exact ⟨nest_of (u := .ref _) I h3 rfl h1, h2⟩
      · exact ih q2 x hx
theorem dict_at (I : Inv X pins σ H s) {kvs : List (D × D)} {es : List (NestedKey × Addr × V)} {a : Addr} (r : Paired (REn X.K H μ) kvs es) (g : Rd H a (dHO X.prog X.w a es)) : ∃ xs, Paired (fun (p : NestedKey × Addr × V) (q : NestedKey × Addr × Value) => p.1 = q.1 ∧ p.2.1 = q.2.1 ∧ RelV p.2.2 q.2.2) es xs ∧
    s.heap.DictOfH (nestedKind X.prog X.w) a xs ∧ (a == sysModules) = false ∧ xs.length ≤ sizeLine := by
  obtain ⟨⟨xs, p, o, ds, ep, ho, hx, hd, he, hn, hs, hl⟩, _⟩ := g.ok I.hok
  exact ⟨xs, p, ⟨o, ds, ep, ho, hx, hd, he, entries I r p, hn⟩, hs, hl⟩
theorem atKey_of {K : PySem.W.Frag} {k : NestedKey} : ∀ {kvs : List (D × D)} {es : List (NestedKey × Addr × V)} {xs : List (NestedKey × Addr × Value)}, Paired (REn K H μ) kvs es → Paired (fun (p : NestedKey × Addr × V) (q : NestedKey × Addr × Value) => p.1 = q.1 ∧ p.2.1 = q.2.1 ∧ RelV p.2.2 q.2.2) es xs →
    (match dGet kvs k with
      | some d => ∃ p v, atKey xs k = some p ∧ RelV v p.2 ∧ RV K H μ d v
      | none => atKey xs k = none)
  | _, _, _, .nil, .nil => rfl
  | (d, v) :: kvs, (k', a, z) :: es, (k'', a', u) :: xs, .cons ⟨h1, h2, h3, h4⟩ r, .cons ⟨e1, e2, e3⟩ q => by
    have e1 : k' = k'' := e1
    have e2 : a = a' := e2
    subst e1 e2
    have h1 : nkey d = some k' := h1
    unfold dGet atKey
    rw [List.find?_cons, List.find?_cons]
    by_cases hk : k' = k
    · subst hk
      have c1 : decide (nkey d = some k') = true := decide_eq_true h1
      simp only [c1]
      simp only [decide_eq_true_eq, decide_true, Option.map_some]
      exact ⟨_, z, rfl, e3, h4⟩
    · have c1 : decide (nkey d = some k) = false := decide_eq_false (by rw [h1]; exact fun e => hk (Option.some.inj e))
      have c2 : decide (k' = k) = false := decide_eq_false hk
      simp only [c1, c2]
      exact atKey_of r q
theorem puts_of {K : PySem.W.Frag} {k : NestedKey} {d : D} {a : Addr} {v : V} {w' : D} {u : Value} (hk : nkey d = some k) (hd : k.depth ≤ 8) (rk : RV K H μ d (.ref a)) (rv : RV K H μ w' v) (ru : RelV v u) {kvs : List (D × D)} {es : List (NestedKey × Addr × V)} {xs : List (NestedKey × Addr × Value)} (r : Paired (REn K H μ) kvs es)
    (q : Paired (fun (p : NestedKey × Addr × V) (q : NestedKey × Addr × Value) => p.1 = q.1 ∧ p.2.1 = q.2.1 ∧ RelV p.2.2 q.2.2) es xs) :
    ∃ es', Paired (REn K H μ) (dPut kvs k d w') es' ∧ Paired (fun (p : NestedKey × Addr × V) (q : NestedKey × Addr × Value) => p.1 = q.1 ∧ p.2.1 = q.2.1 ∧ RelV p.2.2 q.2.2) es' (storedH xs k a u) := by
  have ha := atKey_of (k := k) r q
  unfold dPut storedH
  cases hg : dGet kvs k with
  | none =>
    rw [hg] at ha
    simp only at ha
    rw [ha]
    exact ⟨es ++ [(k, a, v)], paired_app r (.cons ⟨hk, hd, rk, rv⟩ .nil), paired_app q (.cons ⟨rfl, rfl, ru⟩ .nil)⟩
  | some d0 =>
    rw [hg] at ha
    simp only at ha
    obtain ⟨p, v0, e, _, _⟩ := ha
    rw [e]
    simp only [Option.isSome_some, if_true]
    refine ⟨es.map fun p => if p.1 = k then (p.1, p.2.1, v) else p, ?_, ?_⟩
    · clear q hg e
      induction r with
      | nil => exact .nil
      | @cons p1 q1 _ _ h t ih =>
        refine .cons ?_ ih
        obtain ⟨h1, h2, h3, h4⟩ := h
        dsimp only
        by_cases hk' : q1.1 = k
        · rw [if_pos hk', if_pos (by rw [h1, hk'])]
          exact ⟨h1, h2, h3, rv⟩
        · rw [if_neg hk', if_neg (by rw [h1]; exact fun e => hk' (Option.some.inj e))]
          exact ⟨h1, h2, h3, h4⟩
    · clear r hg e
      induction q with
      | nil => exact .nil
      | @cons p1 q1 _ _ h t ih =>
        refine .cons ?_ ih
        obtain ⟨h1, h2, h3⟩ := h
        unfold putAt
        dsimp only
        by_cases hk' : p1.1 = k
        · rw [if_pos hk', if_pos (by rw [← h1]; exact hk')]
          exact ⟨h1, h2, ru⟩
        · rw [if_neg hk', if_neg (by rw [← h1]; exact hk')]
          exact ⟨h1, h2, h3⟩
end

def hDct (M : Hs) (n : Nat) : Option (List (D × D)) := match M[n]? with
  | some (.dct kvs) => some kvs
  | _ => none
theorem hDct_ok {M : Hs} {n : Nat} {kvs : List (D × D)} (h : hDct M n = some kvs) : M[n]? = some (.dct kvs) := by
  unfold hDct at h
  split at h
  · cases h
    assumption
  · cases h
def xDict : MX := fun _ M => .ok (.ref M.length) (M ++ [.dct []])
def gInA (k : Bool → Bool) (x y : D) (M : Hs) : Option (D × Hs) := match y with
  | .ref n => match hDct M n with
    | some kvs => match keyOf x with
      | some q => some (.bl (k (dGet kvs q).isSome), M)
      | none => none
    | none => gInB k x y M
  | _ => gInB k x y M
def gIxA (x y : D) (M : Hs) : Option (D × Hs) := match x with
  | .ref n => match hDct M n with
    | some kvs => match keyOf y with
      | some q => match dGet kvs q with
        | some d => some (d, M)
        | none => none
      | none => none
    | none => gIx x y M
  | _ => gIx x y M
def gPutA (o i v : D) (M : Hs) : Option Hs := match o with
  | .ref n => match hDct M n with
    | some kvs => match keyOf i with
      | some q => if kvs.length < sizeLine then some (M.set n (.dct (dPut kvs q i v))) else none
      | none => none
    | none => gPutL o i v M
  | _ => gPutL o i v M
section
variable {X : Cx} {Γ : Gm} {W : WX} {a b : Expr} {fa fb : MX} {pos : Pos}
theorem ex_dict : EX X Γ W (.Dict [] [] pos) xDict := ⟨fun pins s σ H Q I ⟨ζ, M, μ, rr, h⟩ => by
  have hp := I.hok.fresh (Nat.le_refl s.heap.objs.size)
  refine wpAny_Dict_empty ⟨.ref s.heap.objs.size, _, I.laid (a := s.heap.objs.size) (o := dHO X.prog X.w s.heap.objs.size []) (t' := s.toks) (fun _ _ q => Heap.get?_push_of_some _ q) (Nat.le_refl _) ?_, rfl,
    h _ _ _ (Nx.fresh hp [_]) (rr.hp.alloc hp ⟨[], upd_same, .nil⟩) (.ref rr.hp.last)⟩
  have ho := Heap.get?_push_size s.heap (o := { cls := .type "dict", data := .dict #[] }) rfl
  refine ⟨⟨[], .nil, _, #[], 0, ho, ⟨rfl, rfl, rfl⟩, rfl, rfl, List.nodup_nil, beq_eq_false_iff_ne.mpr (Ne.symm (Nat.ne_of_lt I.big)), Nat.zero_le _⟩, ⟨_, ho⟩, ?_⟩
  rintro h1 h2 ⟨xs, p, o, ds, ep, ho, r⟩ k
  exact ⟨xs, p, o, ds, ep, k _ ho, r⟩⟩
theorem dExt {P : Program} {w : World} {d : Addr} {es : List (NestedKey × Addr × V)} : ∀ h1 h2 : Heap, dObj P w d es h1 → (∀ o, h1.get? d = some o → h2.get? d = some o) → dObj P w d es h2 := by
  rintro h1 h2 ⟨xs, p, o, ds, ep, ho, r⟩ k
  exact ⟨xs, p, o, ds, ep, k _ ho, r⟩
theorem ndct {P : Program} {w : World} {K : PySem.W.Frag} {μ : List Addr} {H : Hp} {M : Hs} (rh : RH P w K Γ μ M H) {n : Nat} {a : Addr} {kvs : List (D × D)} (h : hDct M n = some kvs) (e : μ[n]? = some a) : ∃ es, H a = some (dHO P w a es) ∧ Paired (REn K H μ) kvs es := rh.at_ n _ a (hDct_ok h) e
theorem m_inA (hr : Room 1 X.A) : Op2 X Γ (compareOp .In) (gInA id) := by
  have hu := hr.un
  intro pins s σ H x y v u Q I rx ry hq
  obtain ⟨d, e, M, μ, rh, rd, re, hq⟩ := hq
  unfold gInA at hq
  split at hq
  · split at hq
    · rename_i n kvs hk
      split at hq
      · rename_i q hq'
        obtain ⟨b, rfl, e1⟩ := ref_rel re
        cases ry
        obtain ⟨es, g, r⟩ := ndct rh hk e1
        obtain ⟨xs, p, hd, hs, _⟩ := dict_at I r (.inl g)
        obtain ⟨c, rfl, rfl, hi⟩ := key_is I hq' rd rx
        have ha := atKey_of (k := q) r p
        refine wpAny_in_heap (by show X.A.units + 1 + 8 < cLine; omega) hi hs hd ?_
        cases hg : dGet kvs q with
        | none =>
          rw [hg] at ha hq
          have ha : atKey xs q = none := ha
          rw [ha]
          exact ⟨.bl false, H, I.tok _, rfl, Pk.here rh hq (.bl _)⟩
        | some d0 =>
          rw [hg] at ha hq
          obtain ⟨p0, v0, e0, _, _⟩ := ha
          rw [e0]
          exact ⟨.bl true, H, I.tok _, rfl, Pk.here rh hq (.bl _)⟩
      · exact hq.elim
    · exact m_in (by omega) pins s σ H x y v u Q I rx ry ⟨_, _, M, μ, rh, rd, re, hq⟩
  · exact m_in (by omega) pins s σ H x y v u Q I rx ry ⟨_, _, M, μ, rh, rd, re, hq⟩
theorem wpAny_notIn_heap {prog : Program} {w : World} {K : Type} [DecidableEq K] {knd : HeapKind prog w K} {A : Around} {E : Value → Shared → Prop} {s : Shared} {d a : Addr} {k : K} {xs : List (K × Addr × Value)} {Q : Value → Shared → Prop} (hu : knd.room A.in1) (hkey : knd.is s.heap k a) (hd : (d == sysModules) = false) (hm : s.heap.DictOfH knd d xs)
    (h : Q (.bool (!(atKey xs k).isSome)) { s with toks := s.toks + knd.draws k }) : wpAny (model prog w) A (compareOp .NotIn (.ref a) (.ref d)) Q E s :=
  notIn_keyed (kvs := pairsH xs) hu hkey hd ⟨xs, hm, rfl⟩ (by rw [valueAt_pairsH]; simpa using h)
theorem m_notInA (hr : Room 1 X.A) : Op2 X Γ (compareOp .NotIn) (gInA not) := by
  have hu := hr.un
  intro pins s σ H x y v u Q I rx ry hq
  obtain ⟨d, e, M, μ, rh, rd, re, hq⟩ := hq
  unfold gInA at hq
  split at hq
  · split at hq
    · rename_i n kvs hk
      split at hq
      · rename_i q hq'
        obtain ⟨b, rfl, e1⟩ := ref_rel re
        cases ry
        obtain ⟨es, g, r⟩ := ndct rh hk e1
        obtain ⟨xs, p, hd, hs, _⟩ := dict_at I r (.inl g)
        obtain ⟨c, rfl, rfl, hi⟩ := key_is I hq' rd rx
        have ha := atKey_of (k := q) r p
        refine wpAny_notIn_heap (by show X.A.units + 1 + 8 < cLine; omega) hi hs hd ?_
        cases hg : dGet kvs q with
        | none =>
          rw [hg] at ha hq
          have ha : atKey xs q = none := ha
          rw [ha]
          exact ⟨.bl true, H, I.tok _, rfl, Pk.here rh hq (.bl _)⟩
        | some d0 =>
          rw [hg] at ha hq
          obtain ⟨p0, v0, e0, _, _⟩ := ha
          rw [e0]
          exact ⟨.bl false, H, I.tok _, rfl, Pk.here rh hq (.bl _)⟩
      · exact hq.elim
    · exact m_notIn (by omega) pins s σ H x y v u Q I rx ry ⟨_, _, M, μ, rh, rd, re, hq⟩
  · exact m_notIn (by omega) pins s σ H x y v u Q I rx ry ⟨_, _, M, μ, rh, rd, re, hq⟩
theorem put_any (hr : Room 1 X.A) : PSet X (rPut X.prog X.w X.K Γ gPutA) := by
  have hu := hr.un
  intro pins s σ H o i v ov iv u Q I ro ri rv ⟨d, e, f, M, μ, rh, rd, re, rf, h⟩
  unfold gPutA at h
  split at h
  · rename_i M' hg
    split at hg
    · split at hg
      · rename_i n kvs hk
        split at hg
        · rename_i q hq'
          split at hg
          · rename_i hl
            cases hg
            obtain ⟨b, rfl, e1⟩ := ref_rel rd
            cases ro
            obtain ⟨es, g, r⟩ := ndct rh hk e1
            obtain ⟨xs, p, hd, hs, hz⟩ := dict_at I r (.inl g)
            obtain ⟨c, rfl, rfl, hi⟩ := key_is I hq' re ri
            obtain ⟨k1, k2, k3⟩ := keyOf_ok hq'
            have hlen : xs.length < sizeLine := by
              have l1 := Paired.length r
              have l2 := Paired.length p
              omega
            obtain ⟨es', r', p'⟩ := puts_of k1 k2 re rf rv r p
            have hm : Mut (H b) := by rw [g]; trivial
            refine wpAny_setItem_heap (by show X.A.units + 1 + 8 < cLine; omega) hi hd (fun h' hd' sb => ?_) hz
            have new : ObjOk X.prog X.w (upd H b (dHO X.prog X.w b es')) h' b (dHO X.prog X.w b es') := by
              obtain ⟨o', ds', ep', ho', hx', hdt', he', _, hn'⟩ := hd'
              refine ⟨⟨_, p', o', ds', ep', ho', hx', hdt', he', hn', hs, ?_⟩, ⟨_, ho'⟩, dExt⟩
              unfold storedH
              split
              · simp; omega
              · simp; omega
            have hex : ∃ u, h'.get? b = some u := by obtain ⟨o', _, _, ho', _⟩ := hd'; exact ⟨o', ho'⟩
            refine ⟨_, I.write (x := b) (e := b) (o := dHO X.prog X.w b es') (t' := s.toks + (nestedKind X.prog X.w).draws q) hm (.inl rfl) (fun c ob hc hb => (sb.2 c hc).trans hb) hex new, h _ _ (Nx.write hm) (rh.write e1 hm ⟨es', upd_same, Paired.imp r' fun _ _ => REn.mono (Nx.write hm)⟩)⟩
          · cases hg
        · cases hg
      · exact put_list pins s σ H o i v ov iv u Q I ro ri rv ⟨_, _, _, M, μ, rh, rd, re, rf, by rw [hg]; exact h⟩
    · exact put_list pins s σ H o i v ov iv u Q I ro ri rv ⟨_, _, _, M, μ, rh, rd, re, rf, by rw [hg]; exact h⟩
  · exact h.elim
def rIxA (P : Program) (w : World) (K : PySem.W.Frag) (Γ : Gm) : R2 := r2 P w K Γ gIxA
theorem ix_all (hr : Room 1 X.A) : IxR X (rIxA X.prog X.w X.K Γ) := by
  have hu := hr.un
  intro value slice pins s σ H x y v u Q I rx ry ⟨d, e, M, μ, rh, rd, re, hq⟩ hs'
  have plain : Pk X.prog X.w X.K Γ (relV X.K) μ H (gIx d e M) Q → wpAny (model X.prog X.w) X.A (subscriptTail value slice v u) (EP X pins σ Q) X.xe s := by
    clear hq
    intro hq
    unfold gIx at hq
    split at hq
    · rename_i xs i hx
      cases re
      split at hq
      · rename_i z hz
        obtain ⟨a, vs, rfl, hs, r⟩ := hSeq_ok rh hx rd
        obtain ⟨u', g1, g2⟩ := atI_rel r hz
        refine ix_any value slice pins s σ H _ _ v u Q I rx ry ?_ hs'
        rcases hs with hs | hs
        · exact .inl ⟨_, _, _, _, rfl, rfl, hs, g1, Pk.here rh hq g2⟩
        · exact .inr ⟨_, _, _, _, rfl, rfl, hs, g1, Pk.here rh hq g2⟩
      · exact hq.elim
    · exact hq.elim
  unfold gIxA at hq
  split at hq
  · split at hq
    · rename_i n kvs hk
      split at hq
      · rename_i q hq'
        obtain ⟨b, rfl, e1⟩ := ref_rel rd
        cases rx
        obtain ⟨es, g, r⟩ := ndct rh hk e1
        obtain ⟨xs, p, hd, hs, _⟩ := dict_at I r (.inl g)
        obtain ⟨c, rfl, rfl, hi⟩ := key_is I hq' re ry
        have ha := atKey_of (k := q) r p
        cases hg : dGet kvs q with
        | none => rw [hg] at hq; exact hq.elim
        | some d0 =>
          rw [hg] at ha hq
          obtain ⟨p0, v0, e0, r0, r1⟩ := ha
          refine subscriptTail_builtinR (x := p0.2) hd.typeIs F.slot_dict_getitem.lookup (wpAny_getItem_heap (by show X.A.units + 1 + 8 < cLine; omega) hi hd e0 ⟨rfl, ?_⟩) hs'
          exact ⟨v0, H, I.tok _, r0, Pk.here rh hq r1⟩
      · exact hq.elim
    · exact plain hq
  · exact plain hq
theorem ex_ixA (hr : Room 1 X.A) (ha : EX X Γ W a fa) (hb : EX X Γ W b fb) (hs : PlainIx b := by intro _ _; rfl) : EX X Γ W (.Subscript a b pos) (x2 gIxA fa fb) :=
  PE.imp (pe_ix (ix_all hr) ha hb hs) fun _ _ _ h => tOp_of h
end
end Mi
end
section
set_option maxRecDepth 100000
set_option maxHeartbeats 2000000
set_option autoImplicit false
namespace Mi
open PySem PySem.Spec PyProof.Rows L2

section
variable {X : Cx} {Γ : Gm} {W : WX} {C : Addr} {x : Str} {p pos pos2 : Pos} {c n k : Nat} {e : Expr} {es : List Expr} {ga : MA}
/-- of a class without own __init__, with nothing -/
theorem pmk_bare {bmB : List Value} {B newId initId : String} (F : ExcBaseFacts B newId initId bmB) (q : PySem.W.excIn X.K C bmB newId = true) (gC : X.mg x = some (.ref C)) (kC : PySem.W.keepIn X.K (.ref C) = true) (r : Raises X (.ref C)) (hg : Gl X x)
    (hdb : (x == ("__debug__" : Str)) = false := by decide) : PMk X (.Call (.Name x p) [] [] pos) (fun _ H Q => Q (.ref C) none H) := by
  intro pins s σ H Q I h
  refine wpAny_Call_Name_kw (ld_glob I hg gC ?_ hdb)
  refine PySem.W.callWith_K0 I.kIn kC ?_
  obtain ⟨bm, N, nm, qn, bs, hdct, sn, sub, ab, col, dd, k0, k1, k2, k3, k5, mN, hC, hN, hni, T⟩ := exc_obj I.kIn q
  refine wpAny_call_exc_subT F T hC hN hni (fun h' e hm => ?_) (Nat.zero_le _)
  exact mk_of I hm r h (I.hok.gone hm.new)
/-- what the written part says of a class without __init__ -/
structure Rz0 (K : PySem.W.Frag) (mg : Str → Option Value) (C : Addr) (x : Str) : Prop where
  q : PySem.W.excIn K C [.type "ValueError", .type "Exception", .type "BaseException", .type "object"] "ValueError.__new__" = true
  g : mg x = some (.ref C)
  kp : PySem.W.keepIn K (.ref C) = true
  sb : PySem.W.subIn K (.ref C) (.type "BaseException") = some true
  ty : PySem.W.typeIn K (.ref C) = some (.type "type")
def sRaise0 (c : Nat) : MS := fun ζ M => .ex c [] ζ M
theorem es_raise0 (T : Rz0 X.K X.mg (Γ.cA c) x) (hc : X.calm = true) (tk : Takes X W) (hg : Gl X x := by rfl) (hdb : (x == ("__debug__" : Str)) = false := by decide) : ES X Γ W (.Raise (some (.Call (.Name x p) [] [] pos)) none pos2) (sRaise0 c) :=
  PS.imp (ps_raise hc tk (pmk_bare F.excBase_ValueError T.q T.g T.kp (raises_own T.sb T.ty) hg hdb)) fun E σ H ⟨ζ, M, μ, rr, h⟩ => h _ _ _ _ _ (Nx.refl _ _) rr.hp rr.sl ⟨rfl, .inl ⟨rfl, rfl⟩⟩
/-- __init__ puts all it is handed into fields; ns: the fields' names, the last one first -/
def spInit (C : Addr) (ns : List Str) : Sp := fun vs H Q _ => ∃ (a : Addr) (ys : List V), vs = .ref a :: ys ∧ ys.length = ns.length ∧ H a = some (exo a C none) ∧
  ∀ (dx : Addr) (H' : Hp), H dx = none → dx ≠ a → H' a = some (exo a C (some dx)) → H' dx = some (exd dx (ns.zip ys.reverse)) → (∀ b, b ≠ a → b ≠ dx → H' b = H b) → Q .non H'
structure RzI (P : Program) (w : World) (K : PySem.W.Frag) (mg : Str → Option Value) (base : Heap) (k : Nat) (C : Addr) (x : Str) (ns : List Str) : Prop where
  o : OexC K C
  i : ∃ f fd ps, PySem.W.findIn K (.ref C) "__init__" = some (some (.ref f)) ∧ PySem.W.typeIn K (.ref f) = some (.type "function") ∧ FnOk P w K mg base (L2.CX P w) k f fd ps (spInit C ns) ∧ Binds K fd ps []
  g : mg x = some (.ref C)
def sRaise (c n : Nat) (ga : MA) : MS := fun ζ M => RS.of ζ (ga ζ M) fun ds M1 => if ds.length = n then .ex c ds.reverse ζ M1 else .no
theorem es_raise (T : RzI X.prog X.w X.K X.mg X.base k (Γ.cA c) x (Γ.cN c)) (hl : (Γ.cN c).length = n) (hn : 0 < n ∧ n ≤ 900) (hr : Room (k + 1) X.A) (hc : X.calm = true) (tk : Takes X W) (ha : EA X Γ W (e :: es) ga) (hg : Gl X x := by rfl)
    (hdb : (x == ("__debug__" : Str)) = false := by decide) (he : starEach (e :: es) X.env = (false, eval e X.env) :: starEach es X.env := by rfl) (hpl : (backTo pos (starEach es X.env)).any (·.1) = false := by rfl) :
    ES X Γ W (.Raise (some (.Call (.Name x p) (e :: es) [] pos)) none pos2) (sRaise c n ga) := by
  obtain ⟨f, fd, ps, h1, h2, F1, hb⟩ := T.i
  refine PS.imp (ps_raise hc tk (pmk_oex T.o h1 h2 F1 hr hb .nil (fun pins σ H s e s' I hx => passAt (W := fun _ _ _ _ => False) (fun u s' hx => (by obtain ⟨_, _, _, _, _, _, _, _, _, _, _, _, _, _, _, _, z⟩ := hx; exact z.elim)) σ pins H s e s' I hx) hg T.g ha hdb he hpl)) fun E σ H ⟨ζ, M, μ, rr, h⟩ => ⟨ζ, M, μ, rr, PstS.then h rr.sl fun vs H1 ds M1 μ1 nx rh rv h1 => ?_⟩
  replace rv : RVs X.K H1 μ1 ds vs := rv
  split at h1
  · rename_i hd
    have hv : vs.length = (Γ.cN c).length := by rw [← rv.length, hd, hl]
    refine ⟨by omega, fun a hna => ⟨a, vs, by rw [List.append_nil], hv, upd_same, fun dx H2 hdx hne ea ed oth => ⟨rfl, dx, _, ea, ed, ?_, ?_⟩⟩⟩
    · rw [upd_ne hne] at hdx; exact hdx
    · rw [upd_ne hne] at hdx
      have eH : upd (del H2 a) dx (.xd ((Γ.cN c).zip vs.reverse)) = upd H1 dx (.xd ((Γ.cN c).zip vs.reverse)) := by
        funext b
        by_cases hb : b = dx
        · rw [hb, upd_same, upd_same]
        · rw [upd_ne hb, upd_ne hb]
          by_cases hb2 : b = a
          · rw [hb2, del_same, hna]
          · rw [del_ne hb2, oth b hb2 hb, upd_ne hb2]
      rw [eH]
      have nx1 := Nx.fresh0 (μ := μ1) (u := HO.xd ((Γ.cN c).zip vs.reverse)) hdx
      refine h1 _ _ _ _ _ nx1 (rh.fresh hdx) ((rr.sl.mono nx).mono nx1) ⟨rfl, ?_⟩
      exact .inr ⟨fun hz => by rw [List.reverse_eq_nil_iff] at hz; rw [hz] at hd; simp at hd; omega, _, _, rfl, upd_same, by rw [List.length_reverse, hd, hl], (rv.mono nx1).reverse⟩
  · exact h1.elim
def bInit1 (K : PySem.W.Frag) (f : Str) : TS := tOst K f (tVar 0) (tVar 1)
def bInit2 (K : PySem.W.Frag) (f g : Str) : TS := tSeq (tOst K f (tVar 0) (tVar 1)) (tOst K g (tVar 0) (tVar 2))
end
section
variable {P : Program} {w : World} {K : PySem.W.Frag} {mg : Str → Option Value} {base : Heap} {qual : Str} {params : Arguments} {body : List Stmt} {scope : Scope} {i : Addr} {fd : FuncData} {x : Str} {N : List Str} {C : Addr} {f g : Str}
theorem init_mk1 (F : FunD K x qual params body scope [] [] i fd) {a b : Str} (S : FnScope [a, b] [a, b] scope) (T : OexC K C) (hf : PySem.W.findIn K (.ref C) f = some none)
    (hbody : ∀ (cdv : Value) (A : Around) (outer : List Env) (s : Shared) (H : Hp) (E : XK), PSs (cxOf (L2.CX P w) P w K mg base [a, b] qual scope i cdv A outer s H E) body (bInit1 K f)) : FnOk P w K mg base (L2.CX P w) 1 i fd [a, b] (spInit C [f]) := by
  refine F.ok S (fun vs H Q E ⟨o, ys, e, hl, _⟩ => by rw [e]; simp at hl; simp [hl]) fun cdv A outer s H vs Q E hr h => ⟨_, hbody cdv A outer s H E, ?_⟩
  obtain ⟨o, ys, rfl, hl, ho, q⟩ := h
  match ys, hl with
  | [y], _ =>
    refine ⟨y, rfl, .ref o, rfl, o, C, rfl, T, hf, .inl ⟨ho, fun dx h1 h2 => q dx _ h1 h2 upd_same (by rw [upd_ne h2, upd_same]; rfl) fun b h3 h4 => by rw [upd_ne h3, upd_ne h4]⟩⟩
theorem init_mk2 (F : FunD K x qual params body scope [] [] i fd) {a b c : Str} (S : FnScope [a, b, c] [a, b, c] scope) (T : OexC K C) (hf : PySem.W.findIn K (.ref C) f = some none) (hg : PySem.W.findIn K (.ref C) g = some none)
    (hbody : ∀ (cdv : Value) (A : Around) (outer : List Env) (s : Shared) (H : Hp) (E : XK), PSs (cxOf (L2.CX P w) P w K mg base [a, b, c] qual scope i cdv A outer s H E) body (bInit2 K f g)) : FnOk P w K mg base (L2.CX P w) 1 i fd [a, b, c] (spInit C [g, f]) := by
  refine F.ok S (fun vs H Q E ⟨o, ys, e, hl, _⟩ => by rw [e]; simp at hl; simp [hl]) fun cdv A outer s H vs Q E hr h => ⟨_, hbody cdv A outer s H E, ?_⟩
  obtain ⟨o, ys, rfl, hl, ho, q⟩ := h
  match ys, hl with
  | [y, z], _ =>
    refine ⟨y, rfl, .ref o, rfl, o, C, rfl, T, hf, .inl ⟨ho, fun dx h1 h2 => ⟨z, rfl, .ref o, rfl, o, C, rfl, T, hg, .inr ⟨dx, [(f, y)], upd_same, by rw [upd_ne h2, upd_same], by simp, ?_⟩⟩⟩⟩
    exact q dx _ h1 h2 (by rw [upd_ne (Ne.symm h2), upd_same]) (by rw [upd_same]; rfl) fun b h3 h4 => by rw [upd_ne h4, upd_ne h3, upd_ne h4]
end
end Mi
end
section
set_option maxRecDepth 100000
set_option maxHeartbeats 2000000
set_option autoImplicit false
namespace Mi
open PySem PySem.Spec PyProof.Rows L2

/-- a clause, as the layer below takes it: its class, its name's slot, its suite -/
structure VC where
  c : Value
  sl : Option Nat
  ts : Addr → Value → Option Addr → TS
def ungo (sl : Option Nat) (σ : L2.St) : L2.St := match sl with
  | none => σ
  | some i => σ.set i none
def offE (sl : Option Nat) (D : Ends) : Ends := { nx := fun σ H => D.nx (ungo sl σ) H, rt := D.rt, bk := fun σ H => D.bk (ungo sl σ) H, ct := fun σ H => D.ct (ungo sl σ) H }
def onE (sl : Option Nat) (a : Addr) (σ : L2.St) : L2.St := match sl with
  | none => σ
  | some i => σ.set i (some (.ref a))
def wVC (K : PySem.W.Frag) (Wo : WX) (D : Ends) : List VC → WX
  | [] => Wo
  | v :: r => fun cls d σ H => ∃ b, PySem.W.exmOne K cls v.c = some b ∧ (b = true → ∀ a, H a = none → v.ts a cls d (offE v.sl D) (onE v.sl a σ) H) ∧ (b = false → wVC K Wo D r cls d σ H)
def suOk (X : Cx) (su : List Stmt) (ts : Addr → Value → Option Addr → TS) : Prop := ∀ (a : Addr) (oe : Obj) (cls : Value) (d : Option Addr) (pn : List (Addr × Obj)), Zc cls d oe → (∃ vs, oe.data = .fields vs) → PSs (X.suite a ((a, oe) :: pn)) su (ts a cls d)
inductive VCs (X : Cx) : List ExceptHandler → List VC → Prop
  | nil : VCs X [] []
  | bare {x : Str} {v : VC} {b : Stmt} {su : List Stmt} {np pos : Pos} {hds : List ExceptHandler} {l : List VC} (hc : Names X x v.c) (hs : v.sl = none) (hu : suOk X (b :: su) v.ts) (r : VCs X hds l) : VCs X (.ExceptHandler (some (.Name x np)) none (b :: su) pos :: hds) (v :: l)
  | named {x n : Str} {i : Nat} {v : VC} {b : Stmt} {su : List Stmt} {np pos : Pos} {hds : List ExceptHandler} {l : List VC} (hc : Names X x v.c) (hs : v.sl = some i) (hi : X.N[i]? = some n) (hl : X.env.kindOf n = some .local) (hu : suOk X (b :: su) v.ts) (r : VCs X hds l) :
      VCs X (.ExceptHandler (some (.Name x np)) (some n) (b :: su) pos :: hds) (v :: l)
section
variable {X : Cx} {body : List Stmt} {h₀ : ExceptHandler} {hds : List ExceptHandler} {l : List VC} {pos : Pos} {tb : WX → TS} {Wo : WX}
theorem not_frame {h B : Heap} {l : List Env} {a : Addr} {o : Obj} {vs : Array Value} (ff : h.FunFrames B l) (e : h.get? a = some o) (dd : o.data = .fields vs) : a ∉ frs l := fun hm => by
  obtain ⟨_, o', e', hnf⟩ := ff.mem hm
  rw [e] at e'
  cases e'
  exact hnf _ dd
theorem handled (hs : X.stack = X.env :: X.outer) (hf : X.env.frame = some X.env.locals) (hN : X.N.Nodup) (tk : Takes X Wo) {pins : List (Addr × Obj)} {σ : L2.St} {H : Hp} {D : Ends} {a : Addr} {B h3 : Heap} {sI s' : Shared} {cls : Value} {d : Option Addr}
    (J : Inv X pins σ H sI) (nb : ∀ b o, sI.heap.get? b = some o → b ∉ frs X.stack → B.get? b = some o) (up : sI.heap.UpToSlots h3) (na : H a = none) (os : s'.os = sI.os) (ag : AllBare s'.gens)
    (fl : HandSPX.FlyingZ B (X.env :: X.outer) a (Zc cls d) h3) {hds : List ExceptHandler} {l : List VC} (hk : VCs X hds l) : wVC X.K Wo D l cls d σ H → wpAny (model X.prog X.w) X.A (handleBy (.ref a) X.env hds) (SP X pins D) X.xe { s' with heap := h3 } := by
  have ok := J.ok
  have J3 : Inv X pins σ H { s' with heap := h3 } := J.landed nb fl.1 up os ag
  obtain ⟨oe3, vs3, he3, hz3, hd3⟩ := fl.there
  have nfr := not_frame fl.2.2.1 he3 hd3
  have nL : a ≠ X.env.locals := fun z => nfr (List.mem_filterMap.mpr ⟨X.env, List.mem_cons_self, by rw [hf, z]⟩)
  have nF : a ∉ X.fs := fun hm => by
    obtain ⟨e, he, q⟩ := List.mem_filterMap.mp hm
    exact nfr (List.mem_filterMap.mpr ⟨e, List.mem_cons_of_mem _ he, q⟩)
  have S3 := J3.suite he3 hd3 na nL nF
  have LT : PySem.W.Looks (model X.prog X.w) h3 (typeOf (.ref a)) cls := fun A Q E s k q => wpAny_typeOf_ref (k _ _ he3) (by rw [hz3.1]; exact q)
  have test : ∀ {x : Str} {c : Value} {np : Pos} {Q : Value → Shared → Prop} {E : Value → Shared → Prop}, Names X x c → Q c { s' with heap := h3 } → wpAny (model X.prog X.w) (X.A.mark (some (.ref a))) (eval (.Name x np) X.env) Q E { s' with heap := h3 } := fun hc q => by
    obtain ⟨hg, hdbg, hm | ⟨hm, hv, hnn⟩⟩ := hc
    · exact ld_glob (X := X.suite a ((a, oe3) :: (X.pn ++ pins))) S3 hg hm q hdbg
    · exact ld_blt (X := X.suite a ((a, oe3) :: (X.pn ++ pins))) S3 hg hm hv q hnn hdbg
  have land : ∀ {h4' : Heap}, HandSPX.FlyingZ B (X.env :: X.outer) a (Zc cls d) h4' → h3.UpToSlots h4' → ∃ oe4, (∃ vs, oe4.data = .fields vs) ∧ Zc cls d oe4 ∧ Inv (X.suite a ((a, oe4) :: (X.pn ++ pins))) [] σ H { s' with heap := h4' } := fun {h4'} fl4 up4 => by
    obtain ⟨oe4, vs4, he4, hz4, hd4⟩ := fl4.there
    exact ⟨oe4, ⟨_, hd4⟩, hz4, Inv.suite (s := { s' with heap := h4' }) (J.landed (s' := { s' with heap := h4' }) nb fl4.1 (up.trans up4) os ag) he4 hd4 na nL nF⟩
  induction hk with
  | nil =>
    intro w
    refine wpAny_handleBy_nil ?_
    obtain ⟨k1, k2, k3, oe, vs, T, oT, ts', he, hz, hd, h1, hr⟩ := id fl
    unfold PySem.passOn
    refine wpAny_bind (wpAny_field he hd h1 ?_)
    rw [if_neg (show ¬ ((Value.ref T == Value.none) = true) from by simp)]
    have fin : wpAny (model X.prog X.w) X.A (setFlight (.ref a) X.env.frame) (fun _ s4 => wpAny (model X.prog X.w) X.A (throw (.ref a) : Sem Flow) (SP X pins D) X.xe s4) X.xe { s' with heap := h3 } := by
      rw [hf]
      refine HandSPX.setFlight_upZ fl fun h4 hh4 up4 => wpAny_throw (tk _ _ ⟨a, B, sI, pins, σ, H, cls, d, rfl, J, nb, up.trans up4, .inr (.inr (by rw [hs]; exact hh4)), na, os, ag, w⟩)
    first
      | exact wpAny_bind (wpAny_pure (wpAny_bind fin))
      | exact wpAny_bind fin
  | @bare x v b₀ su np pos' hds2 l2 hc hsl hu r ih =>
    rintro ⟨b, hb1, hyes, hno⟩
    have LM := PySem.W.exm_one (M := model X.prog X.w) J3.kIn LT hb1
    refine wpAny_handleBy_cons (codeAny_handlers_test (test hc (LM.here ?_))) (by intro q; cases q)
    cases b with
    | false => exact ih (hno rfl)
    | true =>
      refine codeAny_handlers_suite (HandSPX.lands_againZ fl fun h4 fl4 up4 => ?_)
      obtain ⟨oe4, hv4, hz4, S4⟩ := land fl4 up4
      have hy := hyes rfl a na
      rw [hsl] at hy
      refine wpAny_mono ((hu a oe4 cls d (X.pn ++ pins) hz4 hv4).run [] _ _ H _ S4 hy) (fun f s6 hsp => ?_) (fun _ _ z => False.elim z)
      cases f with
      | next => obtain ⟨σ6, H6, S6, q6⟩ := hsp; exact ⟨_, _, S6.unsuite ok, q6⟩
      | brk => obtain ⟨σ6, H6, S6, q6⟩ := hsp; exact ⟨_, _, S6.unsuite ok, q6⟩
      | cont => obtain ⟨σ6, H6, S6, q6⟩ := hsp; exact ⟨_, _, S6.unsuite ok, q6⟩
      | ret u => obtain ⟨v6, σ6, H6, S6, r6, q6⟩ := hsp; exact ⟨_, _, _, S6.unsuite ok, r6, q6⟩
  | @named x n i v b₀ su np pos' hds2 l2 hc hsl hi hln hu r ih =>
    rintro ⟨b, hb1, hyes, hno⟩
    have LM := PySem.W.exm_one (M := model X.prog X.w) J3.kIn LT hb1
    refine wpAny_handleBy_cons (codeAny_handlers_test (test hc (LM.here ?_))) (by intro q; cases q)
    cases b with
    | false => exact ih (hno rfl)
    | true =>
      refine codeAny_handlers_suite_as (HandSPX.lands_againZ fl fun h4 fl4 up4 => ?_)
      obtain ⟨oe4, hv4, hz4, S4⟩ := land fl4 up4
      have hy := hyes rfl a na
      rw [hsl] at hy
      refine store_ok (X := X.suite a ((a, oe4) :: (X.pn ++ pins))) (v := .ref a) S4 hN hi (.inl hln) rfl (fun s5 S5 => ?_) (.inr hln)
      refine wpAny_mono ((hu a oe4 cls d (X.pn ++ pins) hz4 hv4).run [] s5 _ H _ S5 hy) (fun f s6 hsp => ?_) (fun _ _ z => False.elim z)
      have last : ∀ {σ6 : L2.St} {H6 : Hp} {Q : Shared → Prop}, Inv (X.suite a ((a, oe4) :: (X.pn ++ pins))) [] σ6 H6 s6 → (∀ s7, Inv X pins (σ6.set i none) H6 s7 → Q s7) →
          wpAny (model X.prog X.w) X.A (do bindName X.env n .none; unbindBehindTheSuite X.env n pos') (fun _ s7 => Q s7) X.xe s6 := fun S6 hq => gone_ok (S6.unsuite ok) hN hi hln hq
      cases f with
      | next => obtain ⟨σ6, H6, S6, q6⟩ := hsp; exact last S6 fun s7 J7 => ⟨_, _, J7, q6⟩
      | brk => obtain ⟨σ6, H6, S6, q6⟩ := hsp; exact last S6 fun s7 J7 => ⟨_, _, J7, q6⟩
      | cont => obtain ⟨σ6, H6, S6, q6⟩ := hsp; exact last S6 fun s7 J7 => ⟨_, _, J7, q6⟩
      | ret u => obtain ⟨v6, σ6, H6, S6, r6, q6⟩ := hsp; exact last S6 fun s7 J7 => ⟨_, _, _, J7, r6, q6⟩
theorem ps_tries (hs : X.stack = X.env :: X.outer) (hf : X.env.frame = some X.env.locals) (hN : X.N.Nodup) (tk : Takes X Wo)
    (hb : ∀ (W : WX) (pn : List (Addr × Obj)) (xe : Value → Shared → Prop), Takes (X.tr pn xe) W → PassesOwn (model X.prog X.w) X.A X.env xe → PSs (X.tr pn xe) body (tb W))
    (hh : VCs X (h₀ :: hds) l) : PS X (.Try body (h₀ :: hds) [] [] pos) (fun D σ H => tb (wVC X.K Wo D l) D σ H) := by
  refine ⟨fun pins s σ H D I h => ?_⟩
  have ok := I.ok
  have hfr : X.A.frames = some (X.env :: X.outer) := by rw [ok.frames, hs]
  refine wpAny_Try_except ?_
  refine wpAny_mono ((hb (wVC X.K Wo D l) (X.pn ++ pins) (fun e s₁ => wpAny (model X.prog X.w) X.A (noteFrame e X.env) (fun _ s₂ => wpAny (model X.prog X.w) X.A (setFlight e none) (fun _ s₃ =>
    wpAny (model X.prog X.w) X.A (handleBy e X.env (h₀ :: hds)) (SP X pins D) X.xe s₃) X.xe s₂) X.xe s₁) (fun u s' xx => ?_) PassesOwn.looking).run [] s σ H D (I.toTry _) h) (fun f s1 hsp => ?_) (fun e s1 he => he)
  · obtain ⟨a, B, sI, pins', σ', H', cls, d, rfl, J', nb, up, sky, na, os, ag, w⟩ := xx
    have J : Inv X pins σ' H' sI := J'.ofTry ok
    have sky' : Sky B (X.env :: X.outer) a (Zc cls d) X.env.locals s'.heap := by rw [← hs]; exact sky
    show wpAny (model X.prog X.w) X.A (noteFrame (.ref a) X.env) _ _ _
    exact Sky.land Zc.steady hfr hf sky' fun h3 fl3 up3 => handled hs hf hN tk J nb (up.trans up3) na os ag fl3 hh w
  · cases f with
    | next => obtain ⟨σ', H', J', q⟩ := hsp; exact wpAny_execs_nil ⟨σ', H', J'.ofTry ok, q⟩
    | brk => obtain ⟨σ', H', J', q⟩ := hsp; exact ⟨σ', H', J'.ofTry ok, q⟩
    | cont => obtain ⟨σ', H', J', q⟩ := hsp; exact ⟨σ', H', J'.ofTry ok, q⟩
    | ret u => obtain ⟨v, σ', H', J', r, q⟩ := hsp; exact ⟨v, σ', H', J'.ofTry ok, r, q⟩
end
end Mi
end
section
set_option maxRecDepth 100000
set_option maxHeartbeats 2000000
set_option autoImplicit false
namespace Mi
open PySem PySem.Spec PyProof.Rows L2

/-- a clause: which classes it takes, its name's slot, its suite -/
structure CL where
  ma : Nat → Option Bool
  sl : Option Nat
  f : Addr → Option Addr → Nat → List D → MS
def offS (sl : Option Nat) (ζ : Sl) : Sl := match sl with
  | none => ζ
  | some i => ζ.set i none
def onS (sl : Option Nat) (d : D) (ζ : Sl) : Sl := match sl with
  | none => ζ
  | some i => ζ.set i (some d)
def sEnd (sl : Option Nat) : RS → RS
  | .nx ζ M => .nx (offS sl ζ) M
  | .bk ζ M => .bk (offS sl ζ) M
  | .ct ζ M => .ct (offS sl ζ) M
  | .rt d M => .rt d M
  | _ => .no
open Classical in
noncomputable def uni (f : Addr → Addr → RS) : RS := if h : ∃ r, ∀ a d, f a d = r then h.choose else .no
theorem uni_eq {f : Addr → Addr → RS} {r : RS} (h : ∀ a d, f a d = r) : uni f = r := by
  have hh : ∃ r, ∀ a d, f a d = r := ⟨r, h⟩
  unfold uni
  rw [dif_pos hh]
  exact (hh.choose_spec 0 0).symm.trans (h 0 0)
theorem uni_at {f : Addr → Addr → RS} (hn : uni f ≠ .no) (a d : Addr) : f a d = uni f := by
  unfold uni at hn ⊢
  split
  · rename_i hh
    exact hh.choose_spec a d
  · rename_i hh
    rw [dif_neg hh] at hn
    exact absurd rfl hn
def dOf (fs : List D) (d : Addr) : Option Addr := if fs.isEmpty = true then none else some d
def suR (nm : Nat → List Str) (h : CL) (c : Nat) (fs : List D) (ζ : Sl) (M : Hs) (a d : Addr) : RS := sEnd h.sl (h.f a (dOf fs d) c fs (onS h.sl (.exc a (dOf fs d) c (nm c) fs) ζ) M)
noncomputable def tryR (nm : Nat → List Str) : List CL → Nat → List D → Sl → Hs → RS
  | [], c, fs, ζ, M => .ex c fs ζ M
  | h :: r, c, fs, ζ, M => match h.ma c with
    | none => .no
    | some true => uni (suR nm h c fs ζ M)
    | some false => tryR nm r c fs ζ M
noncomputable def sTry (nm : Nat → List Str) (b : MS) (l : List CL) : MS := fun ζ M => match b ζ M with
  | .ex c fs ζ' M' => tryR nm l c fs ζ' M'
  | r => r
def suD (X : Cx) (Γ : Gm) (su : List Stmt) (f : Addr → Option Addr → Nat → List D → MS) : Prop := ∀ (a : Addr) (oe : Obj) (c : Nat) (d : Option Addr) (fs : List D) (pn : List (Addr × Obj)), Zc (.ref (Γ.cA c)) d oe → (∃ vs, oe.data = .fields vs) → ESs (X.suite a ((a, oe) :: pn)) Γ W0 su (f a d c fs)
inductive CLs (X : Cx) (Γ : Gm) : List ExceptHandler → List CL → Prop
  | nil : CLs X Γ [] []
  | bare {x : Str} {cv : Value} {v : CL} {b : Stmt} {su : List Stmt} {np pos : Pos} {hds : List ExceptHandler} {l : List CL} (hc : Names X x cv) (hm : ∀ c b, v.ma c = some b → PySem.W.exmOne X.K (.ref (Γ.cA c)) cv = some b) (hs : v.sl = none) (hu : suD X Γ (b :: su) v.f) (r : CLs X Γ hds l) :
      CLs X Γ (.ExceptHandler (some (.Name x np)) none (b :: su) pos :: hds) (v :: l)
  | named {x n : Str} {i : Nat} {cv : Value} {v : CL} {b : Stmt} {su : List Stmt} {np pos : Pos} {hds : List ExceptHandler} {l : List CL} (hc : Names X x cv) (hm : ∀ c b, v.ma c = some b → PySem.W.exmOne X.K (.ref (Γ.cA c)) cv = some b) (hs : v.sl = some i) (hi : X.N[i]? = some n)
      (hl : X.env.kindOf n = some .local) (hu : suD X Γ (b :: su) v.f) (r : CLs X Γ hds l) : CLs X Γ (.ExceptHandler (some (.Name x np)) (some n) (b :: su) pos :: hds) (v :: l)
def tsOf (X : Cx) (Γ : Gm) (v : CL) : Addr → Value → Option Addr → TS := fun a cls d E σ H => ∃ c fs, cls = .ref (Γ.cA c) ∧ tS X.prog X.w X.K Γ W0 (v.f a d c fs) E σ H
theorem suD_ok {X : Cx} {Γ : Gm} {su : List Stmt} {v : CL} (h : suD X Γ su v.f) : suOk X su (tsOf X Γ v) := by
  intro a oe cls d pn hz hf
  refine ⟨fun pins s σ H E I ⟨c, fs, e, t⟩ => ?_⟩
  subst e
  exact (h a oe c d fs pn hz hf).run pins s σ H E I t
/-- the clauses below -/
theorem CLs.under {X : Cx} {Γ : Gm} {hds : List ExceptHandler} {l : List CL} (h : CLs X Γ hds l) : ∃ vl, VCs X hds vl ∧ Paired (fun (v : VC) (u : CL) => v.sl = u.sl ∧ v.ts = tsOf X Γ u ∧ ∀ c b, u.ma c = some b → PySem.W.exmOne X.K (.ref (Γ.cA c)) v.c = some b) vl l := by
  induction h with
  | nil => exact ⟨[], .nil, .nil⟩
  | @bare x cv v b su np pos hds l hc hm hs hu r ih =>
    obtain ⟨vl, h1, h2⟩ := ih
    exact ⟨⟨cv, v.sl, tsOf X Γ v⟩ :: vl, .bare hc hs (suD_ok hu) h1, .cons ⟨rfl, rfl, hm⟩ h2⟩
  | @named x n i cv v b su np pos hds l hc hm hs hi hl hu r ih =>
    obtain ⟨vl, h1, h2⟩ := ih
    exact ⟨⟨cv, v.sl, tsOf X Γ v⟩ :: vl, .named hc hs hi hl (suD_ok hu) h1, .cons ⟨rfl, rfl, hm⟩ h2⟩
theorem RSl.off {K : PySem.W.Frag} {H : Hp} {μ : List Addr} {ζ : Sl} {σ : L2.St} (r : RSl K H μ ζ σ) (sl : Option Nat) : RSl K H μ (offS sl ζ) (ungo sl σ) := by
  cases sl with
  | none => exact r
  | some i => exact r.wiped [i]
theorem RSl.on {K : PySem.W.Frag} {H : Hp} {μ : List Addr} {ζ : Sl} {σ : L2.St} {d : D} {a : Addr} (r : RSl K H μ ζ σ) (rv : RV K H μ d (.ref a)) (sl : Option Nat) : RSl K H μ (onS sl d ζ) (onE sl a σ) := by
  cases sl with
  | none => exact r
  | some i => exact r.set rv i
section
variable {P : Program} {w : World} {K : PySem.W.Frag} {Γ : Gm} {W : WX} {μ : List Addr} {H : Hp}
theorem PstS.suited {sl : Option Nat} {r : RS} {E : Ends} (h : PstS P w K Γ W μ H (sEnd sl r) E) : PstS P w K Γ W0 μ H r (offE sl E) := by
  cases r with
  | nx ζ M => exact fun σ' H' μ' a b c => h _ _ _ a b (c.off sl)
  | bk ζ M => exact fun σ' H' μ' a b c => h _ _ _ a b (c.off sl)
  | ct ζ M => exact fun σ' H' μ' a b c => h _ _ _ a b (c.off sl)
  | rt d M => exact h
  | ex c fs ζ M => exact h.elim
  | no => exact h.elim
theorem RX.exc {c : Nat} {fs : List D} {cls : Value} {dd : Option Addr} (x : RX K Γ H μ c fs cls dd) (a : Addr) : (∃ d, dd = dOf fs d) ∧ cls = .ref (Γ.cA c) ∧ RV K H μ (.exc a dd c (Γ.cN c) fs) (.ref a) := by
  obtain ⟨h1, ⟨h2, h3⟩ | ⟨h2, d, vs, h3, h4, h5, h6⟩⟩ := x
  · subst h2 h3
    exact ⟨⟨0, rfl⟩, h1, .excN⟩
  · subst h3
    refine ⟨⟨d, ?_⟩, h1, .excD h4 h5 h6⟩
    unfold dOf
    rw [if_neg (by rw [List.isEmpty_iff]; exact h2)]
theorem caught {X : Cx} {Γ : Gm} {W : WX} {μ : List Addr} {H : Hp} {E : Ends} {vl : List VC} {l : List CL} (hp : Paired (fun (v : VC) (u : CL) => v.sl = u.sl ∧ v.ts = tsOf X Γ u ∧ ∀ c b, u.ma c = some b → PySem.W.exmOne X.K (.ref (Γ.cA c)) v.c = some b) vl l) {c : Nat} {fs : List D} {ζ : Sl} {M : Hs}
    (h : PstS X.prog X.w X.K Γ W μ H (tryR Γ.cN l c fs ζ M) E) {cls : Value} {dd : Option Addr} {σ : L2.St} (rh : RH X.prog X.w X.K Γ μ M H) (sl : RSl X.K H μ ζ σ) (rx : RX X.K Γ H μ c fs cls dd) : wVC X.K W E vl cls dd σ H := by
  induction hp with
  | nil => exact h _ _ _ _ _ (Nx.refl _ _) rh sl rx
  | @cons v u vl l hv t ih =>
    obtain ⟨e1, e2, hm⟩ := hv
    simp only [tryR] at h
    obtain ⟨⟨d, hd⟩, hc, rv⟩ := rx.exc 0
    cases hma : u.ma c with
    | none => rw [hma] at h; exact h.elim
    | some b =>
      rw [hma] at h
      refine ⟨b, by rw [hc]; exact hm c b hma, fun hb a hna => ?_, fun hb => ?_⟩
      · subst hb
        have h : PstS X.prog X.w X.K Γ W μ H (uni (suR Γ.cN u c fs ζ M)) E := h
        have hu : uni (suR Γ.cN u c fs ζ M) ≠ .no := fun z => by rw [z] at h; exact h
        rw [← uni_at hu a d] at h
        rw [e2, e1]
        refine ⟨c, fs, hc, _, M, μ, ⟨sl.on (rx.exc a).2.2 u.sl, rh⟩, ?_⟩
        unfold suR at h
        rw [← hd] at h
        exact h.suited
      · subst hb
        exact ih h
end
section
variable {X : Cx} {Γ : Gm} {W : WX} {body : List Stmt} {h₀ : ExceptHandler} {hds : List ExceptHandler} {l : List CL} {pos : Pos} {mb : MS}
theorem es_try (hs : X.stack = X.env :: X.outer) (hf : X.env.frame = some X.env.locals) (hN : X.N.Nodup) (tk : Takes X W)
    (hb : ∀ (W : WX) (pn : List (Addr × Obj)) (xe : Value → Shared → Prop), Takes (X.tr pn xe) W → PassesOwn (model X.prog X.w) X.A X.env xe → ESs (X.tr pn xe) Γ W body mb)
    (hh : CLs X Γ (h₀ :: hds) l) : ES X Γ W (.Try body (h₀ :: hds) [] [] pos) (sTry Γ.cN mb l) := by
  obtain ⟨vl, h1, h2⟩ := hh.under
  refine PS.imp (ps_tries hs hf hN tk (tb := fun W => tS X.prog X.w X.K Γ W mb) (fun W pn xe t p => hb W pn xe t p) h1) fun E σ H ⟨ζ, M, μ, rr, h⟩ => ⟨ζ, M, μ, rr, ?_⟩
  unfold sTry at h
  cases hr : mb ζ M with
  | nx ζ1 M1 => rw [hr] at h; exact h
  | rt d M1 => rw [hr] at h; exact h
  | bk ζ1 M1 => rw [hr] at h; exact h
  | ct ζ1 M1 => rw [hr] at h; exact h
  | no => rw [hr] at h; exact h
  | ex c fs ζ1 M1 =>
    rw [hr] at h
    exact fun cls dd σ' H' μ' nx rh sl rx => caught h2 (PstS.mono h nx) rh sl rx
end

/-- what a class must say for isinstance -/
structure XcC (K : PySem.W.Frag) (C : Addr) : Prop where
  cl : (PySem.W.clsIn K C).isSome = true
  ga : PySem.W.findIn K (.ref C) "__getattribute__" = some (some (.builtin "BaseException.__getattribute__"))
  gg : PySem.W.findIn K (.ref C) "__getattr__" = some none
  sb : PySem.W.subIn K (.ref C) (.type "BaseException") = some true
  hd : PySem.W.hasDictIn K C = true
  ca : PySem.W.findIn K (.ref C) "__class__" = some (some (.builtin "object.__class__"))
  cn : PySem.W.specialIn K (.builtin "object.__class__") "__get__" = some (some (.builtin "getset_descriptor.__get__"))
  ct : PySem.W.takesIn K (.builtin "object.__class__") = some true
  cm : PySem.W.mroIn K C (.type "object") = some true
def xIsE (a : Addr) (d : Option Addr) (c : Nat) (ma : Nat → Option Bool) (f : MX) : MX := fun ζ M => (f ζ M).bind fun y M1 => match y with
  | .exc a' d' c' _ _ => if a' = a ∧ c' = c ∧ d' = d then match ma c with
    | some b => .ok (.bl b) M1
    | none => .no else .no
  | _ => .no
def xXf (a : Addr) (d : Option Addr) (c i : Nat) (f : MX) : MX := fun ζ M => (f ζ M).bind fun y M1 => match y with
  | .exc a' d' c' _ fs => if a' = a ∧ c' = c ∧ d' = d then match d, fs[i]? with
    | some _, some z => .ok z M1
    | _, _ => .no else .no
  | _ => .no
def rXi (P : Program) (w : World) (K : PySem.W.Frag) (Γ : Gm) (a : Addr) (d : Option Addr) (C : Addr) (cv : Value) : List V → Hp → VK → Prop := fun xs H Q => XcC K C ∧ ∃ (cx : V) (b : Bool), xs = [.ref a, cx] ∧ (∀ u, RelV cx u → u = cv) ∧ PySem.W.kitOne K (.ref C) cv = some b ∧ (∀ dd, d = some dd → ∃ fs, H dd = some (.xd fs)) ∧ Q (.bl b) H
theorem call_xi {X : Cx} {Γ : Gm} {a C : Addr} {oe : Obj} {d : Option Addr} {cv : Value} {pn : List (Addr × Obj)} (hz : Zc (.ref C) d oe) (hf : ∃ vs, oe.data = .fields vs) : CallR (X.suite a ((a, oe) :: pn)) (.builtin "isinstance") (rXi X.prog X.w X.K Γ a d C cv) := by
  intro pins s σ H xs us Q I r h
  obtain ⟨T, cx, b, rfl, hcv, e, hd, q⟩ := h
  cases r with
  | cons rx rr =>
    cases rr with
    | cons rt rr =>
      cases rr
      cases rx
      have ec := hcv _ rt
      subst ec
      obtain ⟨hget, _⟩ := I.pin (a, oe) (List.mem_append.mpr (.inl List.mem_cons_self))
      obtain ⟨vs, hv⟩ := hf
      have J : ∃ od, PySem.W.InstAt s.heap a oe C od := by
        obtain ⟨oc, odi, oda, osl⟩ := oe
        obtain ⟨h1, h2⟩ := hz
        dsimp only at h1 h2 hv
        subst h1 h2 hv
        cases odi with
        | none => exact ⟨none, hget, rfl, rfl, trivial⟩
        | some dd =>
          obtain ⟨fs, hx⟩ := hd dd rfl
          have ho : ObjOk X.prog X.w H s.heap dd (.xd fs) := I.hok dd _ hx
          obtain ⟨mA, hns, _⟩ := ho
          obtain ⟨od, ho, _⟩ := lookIn_ns hns
          exact ⟨some od, hget, rfl, rfl, ho⟩
      obtain ⟨od, J⟩ := J
      exact PySem.W.kia_one (PySem.W.kitx_exc T.cl T.ga T.gg T.sb T.ca T.cn T.ct T.cm) I.kIn J e (fun z => nomatch z) fun tk => ⟨.bl b, H, I.kept (t' := tk) fun _ _ z => z, rfl, q⟩
section
variable {X : Cx} {Γ : Gm} {W : WX} {a : Addr} {oe : Obj} {c : Nat} {d : Option Addr} {pn : List (Addr × Obj)} {e : Expr} {fe : MX} {x f : Str} {p p2 pos : Pos} {cv : Value} {cx : V} {ma : Nat → Option Bool}
theorem exc_dict {K : PySem.W.Frag} {H : Hp} {μ : List Addr} {a' : Addr} {d' : Option Addr} {c' : Nat} {ns : List Str} {fs : List D} {v : V} (r : RV K H μ (.exc a' d' c' ns fs) v) : v = .ref a' ∧ ∀ dd, d' = some dd → ∃ vs, H dd = some (.xd (ns.zip vs)) ∧ fs.length = ns.length ∧ RVs K H μ fs vs := by
  cases r with
  | excN => exact ⟨rfl, fun dd h => nomatch h⟩
  | excD h l r => exact ⟨rfl, fun dd h' => by cases h'; exact ⟨_, h, l, r⟩⟩
theorem ex_isE (hz : Zc (.ref (Γ.cA c)) d oe) (hf : ∃ vs, oe.data = .fields vs) (hma : ∀ b, ma c = some b → XcC X.K (Γ.cA c) ∧ PySem.W.kitOne X.K (.ref (Γ.cA c)) cv = some b) (he : EX (X.suite a ((a, oe) :: pn)) Γ W e fe)
    (hC : PE (X.suite a ((a, oe) :: pn)) (.Name x p2) (tC cx)) (hcx : ∀ u, RelV cx u → u = cv) (hm : X.mg "isinstance" = none) (hg : Gl X "isinstance" := by rfl)
    (he1 : starEach [e, .Name x p2] X.env = (false, eval e X.env) :: starEach [.Name x p2] X.env := by rfl) : EX (X.suite a ((a, oe) :: pn)) Γ W (.Call (.Name "isinstance" p) [e, .Name x p2] [] pos) (xIsE a d c ma fe) :=
  PE.imp (pe_callB (call_xi (Γ := Γ) (cv := cv) hz hf) hg hm boot_isinstance (pa_cons he (pa_cons hC pa_nil) he1) (by decide) (by decide) he1) fun σ H Q ⟨ζ, M, μ, rr, h⟩ => ⟨ζ, M, μ, rr, Pst.then h fun v H1 y M1 μ1 nx rh rv h1 => by
    dsimp only at h1
    split at h1
    · rename_i a' d' c' ns fs
      split at h1
      · rename_i hh
        obtain ⟨rfl, rfl, rfl⟩ := hh
        split at h1
        · rename_i b hb
          obtain ⟨rfl, hd⟩ := exc_dict rv
          exact ⟨(hma b hb).1, cx, b, rfl, hcx, (hma b hb).2, fun dd h => let ⟨vs, h1, _⟩ := hd dd h; ⟨_, h1⟩, h1 _ _ _ (Nx.refl _ _) rh (.bl _)⟩
        · exact h1.elim
      · exact h1.elim
    · exact h1.elim⟩
end
end Mi
end
section
set_option maxRecDepth 100000
set_option maxHeartbeats 2000000
set_option autoImplicit false
namespace Mi
open PySem PySem.Spec PyProof.Rows L2

def slAt (c : Nat) (x : D) (M : Hs) : Option (Nat × List (Option D)) := match x with
  | .ref n => match M[n]? with
    | some (.slo c' fs) => if c' = c then some (n, fs) else none
    | _ => none
  | _ => none
theorem slAt_ok {c n : Nat} {x : D} {M : Hs} {fs : List (Option D)} (h : slAt c x M = some (n, fs)) : x = .ref n ∧ M[n]? = some (.slo c fs) := by
  unfold slAt at h
  split at h
  · split at h
    · split at h
      · rename_i e hc
        cases h
        subst hc
        exact ⟨rfl, e⟩
      · cases h
    · cases h
  · cases h
def putD (i : Nat) (d : D) (fs : List (Option D)) : List (Option D) := (fs ++ List.replicate (i + 1 - fs.length) none).set i (some d)
def xFld (c i : Nat) (f : MX) : MX := fun ζ M => (f ζ M).bind fun x M1 => match slAt c x M1 with
  | some (_, fs) => match fs[i]? with
    | some (some d) => .ok d M1
    | _ => .no
  | none => .no
def sFld (c i : Nat) (fo fv : MX) : MS := fun ζ M => RS.of ζ (fv ζ M) fun y M1 => RS.of ζ (fo ζ M1) fun x M2 => match slAt c x M2 with
  | some (n, fs) => .nx ζ (M2.set n (.slo c (putD i y fs)))
  | none => .no
structure SlF (K : PySem.W.Frag) (C : Addr) (f : Str) (i : Nat) : Prop where
  s : SlX.SCls K C
  t : ∃ p, SlX.Slot1 K C f p i
section
variable {P : Program} {w : World} {K : PySem.W.Frag} {Γ : Gm} {μ : List Addr} {H : Hp} {M : Hs}
theorem putD_get {i j : Nat} {d e : D} {fs : List (Option D)} : (putD i d fs)[j]? = some (some e) → j = i ∧ e = d ∨ j ≠ i ∧ fs[j]? = some (some e) := by
  intro h
  unfold putD at h
  by_cases hj : i = j
  · subst hj
    rw [List.getElem?_set_self (by simp only [List.length_append, List.length_replicate]; omega)] at h
    cases h
    exact .inl ⟨rfl, rfl⟩
  · rw [List.getElem?_set_ne hj] at h
    refine .inr ⟨Ne.symm hj, ?_⟩
    by_cases hl : j < fs.length
    · rw [List.getElem?_append_left hl] at h; exact h
    · rw [List.getElem?_append_right (by omega), List.getElem?_replicate] at h
      split at h <;> cases h
/-- what stands at an address of ours is no dict of an instance's own -/
theorem RO.notOwn {a : Addr} {o : MO} (h : RO P w K Γ H μ a o) : (∀ b : Addr, H a ≠ Option.some (HO.own b)) ∧ ∀ fs : List (Str × V), H a ≠ Option.some (HO.xd fs) := by
  cases o with
  | lst xs => obtain ⟨vs, h1, r⟩ := h; rw [h1]; exact ⟨fun _ z => (nomatch z), fun _ z => (nomatch z)⟩
  | ro xs => obtain ⟨vs, ⟨o, h1⟩, r⟩ := h; rw [h1]; exact ⟨fun _ z => (nomatch z), fun _ z => (nomatch z)⟩
  | dct kvs => obtain ⟨es, h1, r⟩ := h; rw [h1]; exact ⟨fun _ z => (by unfold dHO at z; cases z), fun _ z => (by unfold dHO at z; cases z)⟩
  | fdc kvs => obtain ⟨es, ⟨o, h1⟩, r⟩ := h; rw [h1]; exact ⟨fun _ z => (nomatch z), fun _ z => (nomatch z)⟩
  | dks kvs => obtain ⟨vs, h1, r, nd⟩ := h; rw [h1]; exact ⟨fun _ z => (nomatch z), fun _ z => (nomatch z)⟩
  | ins c fs => obtain ⟨dx, vs, r, h1, h2⟩ := h; rw [h1]; exact ⟨fun _ z => (nomatch z), fun _ z => (nomatch z)⟩
  | slo c fs =>
    obtain ⟨dx, vs, h1 | h1, h2⟩ := h
    · rw [h1.1]; exact ⟨fun _ z => (nomatch z), fun _ z => (nomatch z)⟩
    · rw [h1.1]; exact ⟨fun _ z => (by unfold SlX.SlO at z; cases z), fun _ z => (by unfold SlX.SlO at z; cases z)⟩
theorem slo_store {n c i : Nat} {fs : List (Option D)} {y : D} {v : V} {a dx : Addr} {vs : List (Option V)} (rh : RH P w K Γ μ M H) (hn : μ[n]? = some a) (hs : SlX.Slt H a (Γ.cA c) dx vs) (hd : dx ≠ a) (ho : H dx = some (.own a) ∨ H dx = some (.xd []))
    (hv : ∀ (i : Nat) (d : D), fs[i]? = some (some d) → ∃ v, vs[i]? = some (some v) ∧ RV K H μ d v) (rv : RV K H μ y v) :
    Nx μ H μ (SlX.slH H a (Γ.cA c) dx (SlX.putS i v vs)) ∧ RH P w K Γ μ (M.set n (.slo c (putD i y fs))) (SlX.slH H a (Γ.cA c) dx (SlX.putS i v vs)) := by
  have ha : ∃ u, H a = some u ∧ (∀ xs, u ≠ .tup xs) ∧ (∀ o x, u ≠ .frz o x) ∧ (∀ y, u ≠ .own y) ∧ ∀ y, u ≠ .xd y := by
    rcases hs with ⟨h1, _⟩ | ⟨h1, _⟩
    · exact ⟨_, h1, fun _ z => (nomatch z), fun _ _ z => (nomatch z), fun _ z => (nomatch z), fun _ z => (nomatch z)⟩
    · refine ⟨_, h1, fun _ z => ?_, fun _ _ z => ?_, fun _ z => ?_, fun _ z => ?_⟩ <;> (unfold SlX.SlO at z; cases z)
  obtain ⟨ua, ha, a1, a2, a3, a4⟩ := ha
  have ne : ∀ {b : Addr} {u : HO}, H b = some u → u ≠ ua → b ≠ a := fun e h z => by rw [z, ha] at e; exact h (Option.some.inj e).symm
  have keep : ∀ {b : Addr} {u : HO}, H b = some u → u ≠ ua → (∀ y, u ≠ .own y) → u ≠ .xd [] → SlX.slH H a (Γ.cA c) dx (SlX.putS i v vs) b = some u := fun {b u} e h1 h2 h3 => by
    rw [SlX.slH_ne (ne e h1) fun z => ?_]
    · exact e
    · rw [z] at e
      rcases ho with ho | ho
      · rw [ho] at e; exact h2 _ (Option.some.inj e).symm
      · rw [ho] at e; exact h3 (Option.some.inj e).symm
  have xdk : ∀ b, H b = some (.xd []) → SlX.slH H a (Γ.cA c) dx (SlX.putS i v vs) b = some (.xd []) := fun b e => by
    have hb : b ≠ a := ne e fun z => a4 _ z.symm
    by_cases hb2 : b = dx
    · subst hb2
      unfold SlX.slH
      rw [upd_ne hb, upd_same]
    · rw [SlX.slH_ne hb hb2]; exact e
  have nx : Nx μ H μ (SlX.slH H a (Γ.cA c) dx (SlX.putS i v vs)) := by
    refine ⟨fun _ _ e => e, fun b xs e => ?_, fun b o u e => keep e (fun z => a2 _ _ z.symm) (fun _ z => nomatch z) (fun z => nomatch z), fun b fs e => ?_⟩
    · rcases e with e | ⟨o, e⟩
      · exact .inl (keep e (fun z => a1 _ z.symm) (fun _ z => nomatch z) (fun z => nomatch z))
      · exact .inr ⟨o, keep e (fun z => a2 _ _ z.symm) (fun _ z => nomatch z) (fun z => nomatch z)⟩
    · by_cases hf : fs = []
      · subst hf; exact xdk b e
      · exact keep e (fun z => a4 _ z.symm) (fun _ z => nomatch z) (fun z => by cases z; exact hf rfl)
  refine ⟨nx, by simp [rh.len], rh.nd, fun m o' b h1 h2 => ?_⟩
  by_cases hmn : n = m
  · subst hmn
    rw [hn] at h2; cases h2
    by_cases hl : n < M.length
    · rw [List.getElem?_set_self hl] at h1; cases h1
      refine ⟨dx, SlX.putS i v vs, SlX.slH_slt hd, hd, .inr (SlX.slH_slt (H := H) hd |>.elim (fun z => absurd z.1 (by unfold SlX.slH; rw [upd_same]; intro z; unfold SlX.SlO at z; cases z)) fun z => z.2), fun j d hj => ?_⟩
      rcases putD_get hj with ⟨rfl, rfl⟩ | ⟨hne, hj⟩
      · exact ⟨v, SlX.putS_get _ _ _, rv.mono nx⟩
      · obtain ⟨v', q1, q2⟩ := hv j d hj
        exact ⟨v', (SlX.putS_ne hne).mpr q1, q2.mono nx⟩
    · rw [List.getElem?_eq_none (by simpa using hl)] at h1; cases h1
  · rw [List.getElem?_set_ne hmn] at h1
    have hba : b ≠ a := fun z => by
      subst z
      exact hmn ((List.getElem?_inj (List.getElem?_eq_some_iff.mp hn).1 rh.nd).mp (hn.trans h2.symm))
    have rb := rh.at_ m o' b h1 h2
    obtain ⟨nb1, nb2⟩ := RO.notOwn rb
    refine RO.keep rb nx (fun u e => ?_) (fun b' e => ?_) xdk
    · rw [SlX.slH_ne hba fun z => ?_]
      · exact e
      · rw [z] at nb1 nb2
        rcases ho with ho | ho
        · exact nb1 _ ho
        · exact nb2 _ ho
    · rw [SlX.slH_ne (ne e fun z => a3 _ z.symm) fun z => ?_]
      · exact e
      · rw [z] at e
        rcases ho with ho | ho
        · rw [ho] at e; cases e; exact hba rfl
        · rw [ho] at e; cases e
end
section
variable {X : Cx} {Γ : Gm} {W : WX} {e o v : Expr} {fe fo fv : MX} {f x : Str} {c i k n : Nat} {pos pos' p : Pos} {es : List Expr} {ga : MA}
theorem ex_fld (T : SlF X.K (Γ.cA c) f i) (he : EX X Γ W e fe) (hb : attributeBase e f X.env (eval e X.env) = eval e X.env := by rfl) : EX X Γ W (.Attribute e f pos) (xFld c i fe) :=
  PE.imp (SlX.pe_sl he hb) fun σ H Q ⟨ζ, M, μ, rr, h⟩ => ⟨ζ, M, μ, rr, Pst.then h fun v H1 d M1 μ1 nx rh rv h1 => by
    split at h1
    · rename_i n fs hs
      obtain ⟨rfl, hm⟩ := slAt_ok hs
      cases rv with
      | ref ea =>
        obtain ⟨dx, vs, h2, h3, h4, h5⟩ := rh.at_ _ _ _ hm ea
        split at h1
        · rename_i d hd
          obtain ⟨z, q1, q2⟩ := h5 i d hd
          obtain ⟨pp, T2⟩ := T.t
          exact ⟨_, _, dx, pp, vs, i, z, rfl, h2, T.s, T2, q1, h1 _ _ _ (Nx.refl _ _) rh q2⟩
        · exact h1.elim
    · exact h1.elim⟩
theorem es_fld (T : SlF X.K (Γ.cA c) f i) (ho : EX X Γ W o fo) (hv : EX X Γ W v fv) (hs : swapsWith v (some (.Attribute o f pos')) pos.line X.env = pure false := by rfl) : ES X Γ W (.Assign [.Attribute o f pos'] v pos) (sFld c i fo fv) :=
  PS.imp (SlX.ps_sl ho hv hs) fun E σ H ⟨ζ, M, μ, rr, h⟩ => ⟨ζ, M, μ, rr, PstS.then h rr.sl fun y H1 d M1 μ1 nx rh rv h1 => ⟨ζ, M1, μ1, ⟨rr.sl.mono nx, rh⟩, PstS.then h1 (rr.sl.mono nx) fun u H2 k M2 μ2 nx2 rh2 ru h2 => by
    split at h2
    · rename_i n fs hs
      obtain ⟨rfl, hm⟩ := slAt_ok hs
      cases ru with
      | ref ea =>
        obtain ⟨dx, vs, q1, q2, q3, q4⟩ := rh2.at_ _ _ _ hm ea
        obtain ⟨pp, T2⟩ := T.t
        obtain ⟨nx3, rh3⟩ := slo_store (i := i) (y := d) (v := y) rh2 ea q1 q2 q3 q4 (RV.mono nx2 rv)
        exact ⟨_, _, dx, pp, vs, i, rfl, q1, T.s, T2, h2 _ _ _ nx3 rh3 (((rr.sl.mono nx).mono nx2).mono nx3)⟩
    · exact h2.elim⟩⟩
theorem run_makeAt {CX : CXT} {f C : Addr} {fd : FuncData} {ps : List Str} {sp : Sp} {E : XK} {pins : List (Addr × Obj)} {σ : L2.St} {H : Hp} {s : Shared} {Q : VK} {us : List Value} {vs : List V} (Mc : Mk X.K C f) (F : FnOk X.prog X.w X.K X.mg X.base CX k f fd ps sp) (hr : Room (k + 1) X.A) (hb : Binds X.K fd ps [])
    (hx : PassesAt CX X σ E) (I : Inv X pins σ H s) (r : Vals vs us)
    (h : ∀ x dx, H x = none → H dx = none → dx ≠ x → sp (.ref x :: vs) (upd (upd H dx (.own x)) x (.ins C dx [])) (fun v H2 => v = .non ∧ Q (.ref x) H2) E) : wpAny (model X.prog X.w) X.A (call (.ref C) us) (EP X pins σ Q) X.xe s := by
  have hq := h (s.heap.objs.size + 1) s.heap.objs.size (I.hok.fresh (Nat.le_succ _)) (I.hok.fresh (Nat.le_refl _)) (Nat.ne_of_lt (Nat.lt_succ_self _))
  have J := Inv.made (C := C) I
  have r2 : Vals (V.ref (s.heap.objs.size + 1) :: vs) (Value.ref (s.heap.objs.size + 1) :: us) := .cons rfl r
  have hl : (Value.ref (s.heap.objs.size + 1) :: us ++ []).length = ps.length := by
    rw [List.append_nil, ← r2.length]
    exact F.len _ _ _ _ hq
  have bt := hb _ (Value.ref (s.heap.objs.size + 1) :: us) J.kIn hl
  rw [List.append_nil] at bt
  refine wpAny_call (make_map (f := f) I.kIn Mc.makes Mc.init (beq_iff_eq.mp Mc.fn) (codeAny_mono (F.run _ X.stack _ _ ⟨Value.ref (s.heap.objs.size + 1) :: us, []⟩ (Value.ref (s.heap.objs.size + 1) :: us) _ _ E (hr.make C us [])
    (J.env0.make C us []) bt r2 hq) fun r s' z => ?_))
  cases r with
  | error e => exact hx pins _ _ e s' J z
  | ok fl =>
    cases fl with
    | ret u =>
      obtain ⟨v, H', I3, rv, ev, q3⟩ := J.after z
      subst ev
      exact ⟨rv, ⟨V.ref (s.heap.objs.size + 1), H', I3, rfl, q3⟩⟩
    | next => exact z.elim
    | brk => exact z.elim
    | cont => exact z.elim
/-- the class c is made by __init__ that does what F does -/
structure Mkd (P : Program) (w : World) (K : PySem.W.Frag) (mg : Str → Option Value) (base : Heap) (Γ : Gm) (k c : Nat) (x : Str) (n : Nat) (F : MF) : Prop where
  g : mg x = some (.ref (Γ.cA c))
  i : ∃ f fd ps, Mk K (Γ.cA c) f ∧ FnOk P w K mg base (L2.CX P w) k f fd ps (spF P w K Γ n F) ∧ Binds K fd ps []
def xMake (o : MO) (n : Nat) (F : MF) (ga : MA) : MX := fun ζ M => (ga ζ M).bind fun ds M1 => if ds.length + 1 = n then (F (.ref M1.length :: ds) (M1 ++ [o])).bind fun v M2 => match v with
  | .non => .ok (.ref M1.length) M2
  | _ => .no else .no
theorem made_slo {P : Program} {w : World} {K : PySem.W.Frag} {Γ : Gm} {μ : List Addr} {M : Hs} {H : Hp} {x dx : Addr} (rh : RH P w K Γ μ M H) (h1 : H x = none) (h2 : H dx = none) (h3 : dx ≠ x) :
    Nx μ H (μ ++ [x]) (upd (upd H dx (.own x)) x (.ins (Γ.cA c) dx [])) ∧ RH P w K Γ (μ ++ [x]) (M ++ [.slo c []]) (upd (upd H dx (.own x)) x (.ins (Γ.cA c) dx [])) := by
  have h4 : upd H dx (.own x) x = none := by rw [upd_ne (Ne.symm h3)]; exact h1
  refine ⟨(Nx.fresh0 h2).trans (Nx.fresh h4 [x]), (rh.fresh h2).alloc h4 ⟨dx, [], .inl ⟨upd_same, rfl⟩, h3, .inl (by rw [upd_ne h3, upd_same]), fun i d h => by simp at h⟩⟩
theorem ex_make {F : MF} (T : Mkd X.prog X.w X.K X.mg X.base Γ k c x n F) (hr : Room (k + 1) X.A) (tk : Takes X W) (ha : EA X Γ W (e :: es) ga) (hg : Gl X x := by rfl) (hdb : (x == ("__debug__" : Str)) = false := by decide)
    (he : starEach (e :: es) X.env = (false, eval e X.env) :: starEach es X.env := by rfl) (hpl : (backTo pos (starEach es X.env)).any (·.1) = false := by rfl) : EX X Γ W (.Call (.Name x p) (e :: es) [] pos) (xMake (.slo c []) n F ga) := by
  obtain ⟨f, fd, ps, Mc, F1, hb⟩ := T.i
  refine ⟨fun pins s σ H Q I ⟨ζ, M, μ, rr, h⟩ => ?_⟩
  refine wpAny_Call_Name_kw (ld_glob I hg T.g ?_ hdb)
  have h' : tA X.prog X.w X.K Γ W ga σ H fun vs H1 => ∀ x dx, H1 x = none → H1 dx = none → dx ≠ x → spF X.prog X.w X.K Γ n F (.ref x :: vs) (upd (upd H1 dx (.own x)) x (.ins (Γ.cA c) dx [])) (fun v H2 => v = .non ∧ Q (.ref x) H2) (WE W σ) :=
    ⟨ζ, M, μ, rr, Pst.then h fun vs H1 ds M1 μ1 nx rh rv h1 => fun x dx h2 h3 h4 => by
      replace rv : RVs X.K H1 μ1 ds vs := rv
      obtain ⟨nx2, rh2⟩ := made_slo (c := c) rh h2 h3 h4
      have hx : (μ1 ++ [x])[M1.length]? = some x := rh.last
      split at h1
      · rename_i hl
        refine ⟨_, _, _, rh2, .cons (.ref hx) (rv.mono nx2), hl, ?_⟩
        have h5 := Pst.mono h1 nx2
        cases hF : F (.ref M1.length :: ds) (M1 ++ [.slo c []]) with
        | ok d M' =>
          rw [hF] at h5
          intro v H' μ' nx3 rh3 rv3
          have h6 := Pst.mono h5 nx3
          cases d with
          | non => cases rv3; exact ⟨rfl, h6 _ _ _ (Nx.refl _ _) rh3 (.ref (nx3.pre _ _ hx))⟩
          | _ => exact h6.elim
        | ex c' fs M' => rw [hF] at h5; exact h5
        | no => rw [hF] at h5; exact h5
      · exact h1.elim⟩
  refine PySem.W.callWith_K (h₀ := X.base) I.ok.mod.kin Mc.kp (thn (ha.run pos pins s σ H _ I h') fun us s1 ⟨vs, H1, I1, r, q⟩ => ⟨I1.kIn, ?_⟩) he hpl
  exact run_makeAt Mc F1 hr hb (passAt tk σ) I1 r q
end
end Mi
end
section
set_option maxRecDepth 100000
set_option maxHeartbeats 2000000
set_option autoImplicit false
namespace SrtO
open PySem PyProof.Rows
theorem collect_listK {prog : Program} {w : World} {A : Around} {E : Value → Shared → Prop} {s : Shared} {l : Addr} {vs : List Value} {Q : List Value → Shared → Prop} (hl : s.heap.IsList l vs.toArray) (hz : vs.length ≤ sizeLine)
    (h : ∀ (h' : Heap) (tk : Nat), (∀ b o, s.heap.get? b = some o → h'.get? b = some o) → Q vs { s with heap := h', toks := tk }) : wpAny (model prog w) A (collect (.ref l)) Q E s := by
  refine collect_list hl (h _ s.toks fun b o q => ?_) hz
  have hlt : b < s.heap.objs.size := Heap.lt_size q
  rw [Heap.get?_update_ne _ _ _ _ (Nat.ne_of_lt hlt)]
  exact Heap.get?_push_of_some _ q
end SrtO
namespace Mi
open PySem PySem.Spec PyProof.Rows L2

section
variable {α β : Type}
def insB (lt : α → α → Bool) (x : α) : List α → List α
  | [] => [x]
  | y :: r => if lt y x = true then y :: insB lt x r else x :: y :: r
def srtB (lt : α → α → Bool) : List α → List α
  | [] => []
  | x :: r => insB lt x (srtB lt r)
theorem insB_perm (lt : α → α → Bool) (x : α) : ∀ l : List α, (insB lt x l).Perm (x :: l)
  | [] => .refl _
  | y :: r => by
    unfold insB
    split
    · exact ((insB_perm lt x r).cons y).trans (.swap x y r)
    · exact .refl _
theorem srtB_perm (lt : α → α → Bool) : ∀ l : List α, (srtB lt l).Perm l
  | [] => .refl _
  | x :: r => (insB_perm lt x _).trans ((srtB_perm lt r).cons x)
theorem insB_srtd {lt : α → α → Bool} (O : SrtO.Swo lt) (x : α) : ∀ {l : List α}, SrtO.Srtd lt l → SrtO.Srtd lt (insB lt x l)
  | [], _ => SrtO.srtd_one x
  | y :: r, h => by
    obtain ⟨h1, h2⟩ := List.pairwise_cons.mp h
    unfold insB
    split
    · rename_i hl
      refine List.pairwise_cons.mpr ⟨fun z hz => ?_, insB_srtd O x h2⟩
      rcases List.mem_cons.mp ((insB_perm lt x r).mem_iff.mp hz) with e | hz
      · rw [e]; exact O.asym _ _ hl
      · exact h1 z hz
    · rename_i hl
      have hl : lt y x = false := by cases e : lt y x with
        | true => exact absurd e hl
        | false => rfl
      refine List.pairwise_cons.mpr ⟨fun z hz => ?_, h⟩
      rcases List.mem_cons.mp hz with e | hz
      · rw [e]; exact hl
      · exact O.tr x y z hl (h1 z hz)
theorem srtB_srtd {lt : α → α → Bool} (O : SrtO.Swo lt) : ∀ l : List α, SrtO.Srtd lt (srtB lt l)
  | [] => .nil
  | x :: r => insB_srtd O x (srtB_srtd O r)
theorem stb_perm {lt : α → α → Bool} (hE : ∀ x y, SrtO.eqv lt x y = true → y = x) {l m : List α} (p : l.Perm m) : SrtO.Stb lt l m := ⟨p, fun x => by
  have h1 : ∀ k : List α, k.filter (SrtO.eqv lt x) = List.replicate (k.filter (SrtO.eqv lt x)).length x := fun k => List.eq_replicate_iff.mpr ⟨rfl, fun b hb => hE x b (List.mem_filter.mp hb).2⟩
  rw [h1 l, h1 m, (p.filter _).length_eq]⟩
/-- what the sort leaves, seen by its keys -/
theorem srt_keys {lt : β → β → Bool} (O : SrtO.Swo lt) (hE : ∀ x y, SrtO.eqv lt x y = true → y = x) {k : α → β} {out vs : List α} (h1 : SrtO.Srtd (fun x y => lt (k x) (k y)) out) (h2 : out.Perm vs) : out.map k = srtB lt (vs.map k) :=
  SrtO.stb_uniq O (SrtO.srtd_map h1) (srtB_srtd O _) (stb_perm hE ((h2.map k).trans (srtB_perm lt _).symm))
end
def ltI (x y : Int) : Bool := decide (x < y)
theorem swo_I : SrtO.Swo ltI := ⟨fun x y h => by unfold ltI at *; have := of_decide_eq_true h; exact decide_eq_false (by omega), fun x y z h1 h2 => by
  unfold ltI at *
  have := of_decide_eq_false h1
  have := of_decide_eq_false h2
  exact decide_eq_false (by omega)⟩
theorem eq_I (x y : Int) (h : SrtO.eqv ltI x y = true) : y = x := by
  obtain ⟨h1, h2⟩ := SrtO.eqv_iff.mp h
  unfold ltI at h1 h2
  have := of_decide_eq_false h1
  have := of_decide_eq_false h2
  omega
theorem swo_P : SrtO.Swo SrtO.lexB := by
  refine ⟨fun x y h => ?_, fun x y z h1 h2 => ?_⟩
  · have a := SrtO.lexB_iff.mp h
    refine SrtO.lexB_no.mpr ?_
    omega
  · have a := SrtO.lexB_no.mp h1
    have b := SrtO.lexB_no.mp h2
    refine SrtO.lexB_no.mpr ?_
    omega
theorem eq_P (x y : Int × Int) (h : SrtO.eqv SrtO.lexB x y = true) : y = x := by
  obtain ⟨h1, h2⟩ := SrtO.eqv_iff.mp h
  have a := SrtO.lexB_no.mp h1
  have b := SrtO.lexB_no.mp h2
  obtain ⟨x1, x2⟩ := x
  obtain ⟨y1, y2⟩ := y
  dsimp only at a b
  rw [Prod.mk.injEq]
  omega

def itemsA (M : Hs) (d : D) : Option (List D) := match hSeq M d with
  | some xs => some xs
  | none => match d with
    | .ref n => match hDct M n with
      | some kvs => some (kvs.map (·.1))
      | none => none
    | _ => none
section
variable {X : Cx} {Γ : Gm} {pins : List (Addr × Obj)} {σ : L2.St} {H : Hp} {s : Shared} {μ : List Addr} {M : Hs}
/-- the values us show the data ds at the heap -/
def Shows (K : PySem.W.Frag) (H : Hp) (μ : List Addr) (ds : List D) (us : List Value) : Prop := ∃ vs, RVs K H μ ds vs ∧ Vals vs us
theorem keys_rv {K : PySem.W.Frag} : ∀ {kvs : List (D × D)} {es : List (NestedKey × Addr × V)}, Paired (REn K H μ) kvs es → RVs K H μ (kvs.map (·.1)) (es.map fun e => V.ref e.2.1)
  | _, _, .nil => .nil
  | _, _, .cons q t => .cons q.2.2.1 (keys_rv t)
theorem vals_refs : ∀ as : List Addr, Vals (as.map V.ref) (as.map Value.ref)
  | [] => .nil
  | _ :: as => .cons rfl (vals_refs as)
theorem keys_adr {es : List (NestedKey × Addr × V)} {xs : List (NestedKey × Addr × Value)} (p : Paired (fun (p : NestedKey × Addr × V) (q : NestedKey × Addr × Value) => p.1 = q.1 ∧ p.2.1 = q.2.1 ∧ RelV p.2.2 q.2.2) es xs) : es.map (fun e => e.2.1) = xs.map (fun e => e.2.1) := by
  induction p with
  | nil => rfl
  | cons h t ih => rw [List.map_cons, List.map_cons, ih, h.2.1]
theorem dict_keys (I : Inv X pins σ H s) {kvs : List (D × D)} {es : List (NestedKey × Addr × V)} {a : Addr} (r : Paired (REn X.K H μ) kvs es) (g : Rd H a (dHO X.prog X.w a es)) : ∃ ds ep, s.heap.DictRaw a ds ep ∧ (a == sysModules) = false ∧ ds.size ≤ sizeLine ∧
    ∀ acc : Array Value, ItemsOf (fun i v => ∃ hi : i < ds.size, v = ds[i].key) acc ds.size → Shows X.K H μ (kvs.map (·.1)) acc.toList := by
  obtain ⟨⟨xs, p, o, ds, ep, ho, hx, hd, he, hn, hs, hl⟩, _⟩ := g.ok I.hok
  have l1 : ds.size = xs.length := by rw [← Array.length_toList, he, List.length_map]
  refine ⟨ds, ep, ⟨o, ho, hx, hd⟩, hs, by omega, fun acc ⟨h1, h2⟩ => ⟨_, keys_rv r, ?_⟩⟩
  have e : acc.toList = (es.map fun e => e.2.1).map Value.ref := by
    rw [keys_adr p]
    apply List.ext_getElem
    · rw [Array.length_toList, List.length_map, List.length_map, h1, l1]
    · intro i hi1 hi2
      have ha : acc[i]? = some acc.toList[i] := by rw [← Array.getElem?_toList, List.getElem?_eq_getElem hi1]
      obtain ⟨hi, e⟩ := h2 i _ ha
      rw [e]
      have e2 : ds.toList[i]? = some ds[i] := by rw [Array.getElem?_toList, Array.getElem?_eq_getElem hi]
      rw [he, List.getElem?_map] at e2
      have hx : i < xs.length := by omega
      rw [List.getElem?_eq_getElem hx] at e2
      have e3 := Option.some.inj e2
      rw [← e3]
      simp [entryOfKey]
  rw [e]
  have := vals_refs (es.map fun e => e.2.1)
  rw [List.map_map] at this
  exact this
/-- a list or a dict is collected -/
theorem collect_A {A : Around} {R : List Value → Shared → Prop} {E : Value → Shared → Prop} (hh : A.handled = none) (I : Inv X pins σ H s) (rh : RH X.prog X.w X.K Γ μ M H) {n : Nat} {a : Addr} {ds : List D} (h : itemsA M (.ref n) = some ds) (ea : μ[n]? = some a)
    (hq : ∀ (h' : Heap) (tk : Nat) (acc : List Value), (∀ b o, s.heap.get? b = some o → h'.get? b = some o) → Shows X.K H μ ds acc → acc.length ≤ sizeLine → R acc { s with heap := h', toks := tk }) : wpAny (model X.prog X.w) A (collect (.ref a)) R E s := by
  unfold itemsA at h
  cases hs : hSeq M (.ref n) with
  | some xs =>
    rw [hs] at h
    cases h
    obtain ⟨b, vs, e, hs2, r⟩ := hRef_ok rh hs (.ref ea)
    cases e
    obtain ⟨its, rv, hl, hz⟩ := I.list hs2
    have hz' : its.length ≤ sizeLine := by rw [← Paired.length rv]; exact hz
    refine SrtO.collect_listK hl.isList hz' fun h' tk k => ?_
    exact hq h' tk its k ⟨vs, r, rv⟩ hz'
  | none =>
    rw [hs] at h
    dsimp only at h
    cases hd : hDct M n with
    | none => rw [hd] at h; cases h
    | some kvs =>
      rw [hd] at h
      cases h
      obtain ⟨es, g, r⟩ := ndct rh hd ea
      obtain ⟨xs, ep, h1, h2, h3, h4⟩ := dict_keys I r (.inl g)
      exact PySem.W.kdu_collect (KdlSrc.rawDict h2) hh h1 h3 fun h' tk acc k ia => hq h' tk acc.toList k (h4 acc ia) (by rw [Array.length_toList, ia.1]; exact h3)
theorem collect_T {A : Around} {R : List Value → Shared → Prop} {E : Value → Shared → Prop} (I : Inv X pins σ H s) {a : Addr} {ds : List D} {vs : List V} (g : SqT X.K H a vs) (rv : RVs X.K H μ ds vs)
    (hq : ∀ (h' : Heap) (tk : Nat) (acc : List Value), (∀ b o, s.heap.get? b = some o → h'.get? b = some o) → Shows X.K H μ ds acc → acc.length ≤ sizeLine → R acc { s with heap := h', toks := tk }) : wpAny (model X.prog X.w) A (collect (.ref a)) R E s := by
  obtain ⟨its, r, ⟨o, ho, hc, n, hd⟩, hz⟩ := I.tuple g
  have hz' : its.length ≤ sizeLine := by rw [← Paired.length r]; exact hz
  refine wpAny_collect_seq (T := "tuple") (n := n) a (.inr rfl) ho hc hd (fun h' kp => ?_) (by simpa using hz')
  exact hq h' s.toks _ kp ⟨vs, rv, by simpa using r⟩ (by simpa using hz')
theorem sorted_go {κ : Type} {lt : κ → κ → Bool} (O : SrtO.Swo lt) (hE : ∀ x y, SrtO.eqv lt x y = true → y = x) (f : κ → D) {E : Value → Shared → Prop} {Q : VK} (hc : X.calm = true) (I : Inv X pins σ H s) (rh : RH X.prog X.w X.K Γ μ M H) {a : Addr} {ks : List κ}
    (hcol : ∀ {R : List Value → Shared → Prop} {E : Value → Shared → Prop}, (∀ (h' : Heap) (tk : Nat) (acc : List Value), (∀ b o, s.heap.get? b = some o → h'.get? b = some o) → Shows X.K H μ (ks.map f) acc → acc.length ≤ sizeLine → R acc { s with heap := h', toks := tk }) → wpAny (model X.prog X.w) X.A.in1 (collect (.ref a)) R E s) (hS : ∀ (h' : Heap) (tk : Nat) (us : List Value), Inv X pins σ H { s with heap := h', toks := tk } → Shows X.K H μ (ks.map f) us → ∃ k : Value → κ, us.map k = ks ∧
      (2 ≤ us.length → ∀ (h₁ : Heap) (l : Addr), h₁.get? l = some (PyProof.Rows.seqObj "list" us.toArray 0) → (∀ b o, h'.get? b = some o → b ≠ l ∧ h₁.get? b = some o) → SrtO.SortableO X.prog X.w X.A.in1.in1 { s with heap := h₁, toks := tk } l us fun v u => lt (k v) (k u)))
    (hq : ∀ p, H p = none → ∀ vs, RVs X.K H μ ((srtB lt ks).map f) vs → Q (.ref p) (upd H p (.lst vs))) : wpAny (model X.prog X.w) X.A (call (.builtin "sorted") [.ref a]) (EP X pins σ Q) E s := by
  refine Calls.call_function_entry kind_sorted plain_sorted entry_sorted (args_sorted1 _) ?_
  unfold Builtin.«sorted»
  refine wpAny_bind (m := checkCount "sorted" 1 1 _) (wpAny_pure ?_)
  refine wpAny_bind (hcol fun h' tk us kp sh hz => ?_)
  have I1 : Inv X pins σ H { s with heap := h', toks := tk } := I.kept kp
  obtain ⟨k, ek, hs⟩ := hS h' tk us I1 sh
  refine wpAny_bind (wpAny_newList ?_ hz)
  have hoL : (h'.push (PyProof.Rows.seqObj "list" us.toArray 0)).get? h'.objs.size = some (PyProof.Rows.seqObj "list" us.toArray 0) := Heap.get?_push_size _ rfl
  show wpAny _ _ _ _ _ { s with heap := h'.push (PyProof.Rows.seqObj "list" us.toArray 0), toks := tk }
  have O2 : SrtO.Swo fun v u => lt (k v) (k u) := ⟨fun x y => O.asym (k x) (k y), fun x y z => O.tr (k x) (k y) (k z)⟩
  refine wpAny_bind (wpAny_holding (wpAny_call_entry slot_list_sort ⟨_, hoL, rfl⟩ entry_list_sort (SrtO.list_sort_ord (s := { s with heap := h'.push (PyProof.Rows.seqObj "list" us.toArray 0), toks := tk }) O2 hoL hz
    (fun h2 => hs h2 _ _ hoL fun b o q => ⟨Nat.ne_of_lt (Heap.lt_size q), Heap.get?_push_of_some _ q⟩) fun out h1 h2 => ⟨_, rfl, ?_⟩) (args_list_sort _)))
  have e1 : out.map k = srtB lt ks := by rw [srt_keys O hE h1 h2.perm, ek]
  obtain ⟨vs, rv, rs⟩ := sh
  have each : ∀ u ∈ us, ∃ v, RelV v u ∧ RV X.K H μ (f (k u)) v := by
    have go : ∀ {us : List Value} {ks : List κ} {vs : List V}, us.map k = ks → RVs X.K H μ (ks.map f) vs → Vals vs us → ∀ u ∈ us, ∃ v, RelV v u ∧ RV X.K H μ (f (k u)) v := by
      intro us
      induction us with
      | nil => intro _ _ _ _ _ u hu; cases hu
      | cons u0 us ih =>
        intro ks vs e r t u hu
        subst e
        cases t with
        | cons t1 t2 =>
          cases r with
          | cons r1 r2 =>
            rcases List.mem_cons.mp hu with e | hu
            · subst e; exact ⟨_, t1, r1⟩
            · exact ih rfl r2 t2 u hu
    exact go ek rv rs
  have outs : ∃ ws, RVs X.K H μ ((srtB lt ks).map f) ws ∧ Vals ws out := by
    rw [← e1, List.map_map]
    have go : ∀ {out : List Value}, (∀ u ∈ out, u ∈ us) → ∃ ws, RVs X.K H μ (out.map (f ∘ k)) ws ∧ Vals ws out := by
      intro out
      induction out with
      | nil => intro _; exact ⟨[], .nil, .nil⟩
      | cons u out ih =>
        intro hm
        obtain ⟨ws, r1, r2⟩ := ih fun u hu => hm u (List.mem_cons_of_mem _ hu)
        obtain ⟨v, t1, t2⟩ := each u (hm u List.mem_cons_self)
        exact ⟨v :: ws, .cons t2 r1, .cons t1 r2⟩
    exact go fun u hu => h2.perm.mem_iff.mp hu
  obtain ⟨ws, w1, w2⟩ := outs
  obtain ⟨e', he'⟩ := PyProof.Rows.sortedHeap_at (vs := us) (out := out.toArray) hoL
  refine wpAny_pure ⟨_, rfl, .ref h'.objs.size, upd H h'.objs.size (.lst ws), I1.laid (t' := tk) (fun b u e => ?_) (Nat.le_refl _)
    (show ObjOk X.prog X.w _ _ _ (.lst ws) from ⟨by rw [Paired.length w2, h2.len]; exact hz, out, e', w2, he'⟩), rfl, hq _ (I1.hok.fresh (Nat.le_refl _)) ws w1⟩
  have hb : b < h'.objs.size := Heap.lt_size e
  rw [PyProof.Rows.sortedHeap_old (Nat.ne_of_lt hb) (by rw [size_push']; exact Nat.lt_succ_of_lt hb)]
  exact Heap.get?_push_of_some _ e
def prD (p : Int × Int) : D := .tup [.int p.1, .int p.2]
theorem shows_ints {K : PySem.W.Frag} {ns : List Int} {us : List Value} (h : Shows K H μ (ns.map D.int) us) : IntsAre us ns := by
  obtain ⟨vs, r, t⟩ := h
  induction ns generalizing us vs with
  | nil => cases r; cases t; exact .nil
  | cons n ns ih =>
    cases r with
    | cons r1 r2 =>
      cases r1
      cases t with
      | cons t1 t2 =>
        obtain ⟨t, rfl⟩ := t1
        exact .cons _ _ (ih _ r2 t2)
theorem shows_pairs (I : Inv X pins σ H s) {ps : List (Int × Int)} {us : List Value} (h : Shows X.K H μ (ps.map prD) us) : Paired (fun u (p : Int × Int) => Srt.IsPair s.heap u p.1 p.2) us ps := by
  obtain ⟨vs, r, t⟩ := h
  induction ps generalizing us vs with
  | nil => cases r; cases t; exact .nil
  | cons p ps ih =>
    cases r with
    | cons r1 r2 =>
      cases t with
      | cons t1 t2 =>
        refine .cons ?_ (ih _ r2 t2)
        cases r1 with
        | tup g rs =>
          cases t1
          obtain ⟨its, rv, ⟨o, ho, hc, n, hd⟩, _⟩ := I.tuple g
          obtain ⟨v1, v2, rfl, q1, q2⟩ := two_rel rs
          cases q1; cases q2
          obtain ⟨u1, u2, rfl, z1, z2⟩ := Vals.two rv
          obtain ⟨t1, rfl⟩ := z1
          obtain ⟨t2, rfl⟩ := z2
          exact ⟨_, o, t1, t2, n, rfl, ho, hc, hd⟩
theorem pairs_key : ∀ {us : List Value} {ps : List (Int × Int)} {h : Heap}, Paired (fun u (p : Int × Int) => Srt.IsPair h u p.1 p.2) us ps → ∃ k : Value → Int × Int, us.map k = ps ∧ ∀ u ∈ us, Srt.IsPair h u (k u).1 (k u).2 := by
  intro us ps h r
  classical
  have one : ∀ {u : Value} {p q : Int × Int}, Srt.IsPair h u p.1 p.2 → Srt.IsPair h u q.1 q.2 → p = q := by
    rintro u p q ⟨a, o, t, v, n, e, ho, hc, hd⟩ ⟨a', o', t', v', n', e', ho', hc', hd'⟩
    rw [e] at e'
    cases e'
    rw [ho] at ho'
    cases ho'
    rw [hd] at hd'
    simp at hd'
    exact Prod.ext hd'.1.1.1 hd'.1.2.1
  refine ⟨fun u => if x : ∃ p : Int × Int, Srt.IsPair h u p.1 p.2 then x.choose else (0, 0), ?_, ?_⟩
  · induction r with
    | nil => rfl
    | @cons u p us ps h1 t ih =>
      have x : ∃ p : Int × Int, Srt.IsPair h u p.1 p.2 := ⟨p, h1⟩
      rw [List.map_cons, ih, dif_pos x, one x.choose_spec h1]
  · intro u hu
    have x : ∃ p : Int × Int, Srt.IsPair h u p.1 p.2 := by
      induction r with
      | nil => cases hu
      | @cons u' p us ps h1 t ih =>
        rcases List.mem_cons.mp hu with e | hu
        · subst e; exact ⟨p, h1⟩
        · exact ih hu
    dsimp only
    rw [dif_pos x]
    exact x.choose_spec
end
def pairsD : List D → Option (List (Int × Int))
  | [] => some []
  | .tup [.int i, .int j] :: r => match pairsD r with
    | some ps => some ((i, j) :: ps)
    | none => none
  | _ => none
theorem pairsD_ok : ∀ {xs : List D} {ps : List (Int × Int)}, pairsD xs = some ps → xs = ps.map prD
  | [], ps, h => by cases h; rfl
  | x :: xs, ps, h => by
    unfold pairsD at h
    split at h
    · rename_i e; cases e
    · rename_i i j r e
      cases e
      split at h
      · rename_i qs hq
        cases h
        rw [pairsD_ok hq]
        rfl
      · cases h
    · cases h
theorem intsD_ok : ∀ {xs : List D} {ps : List Int}, intsOf xs = some ps → xs = ps.map D.int
  | [], ps, h => by cases h; rfl
  | x :: xs, ps, h => by
    cases x with
    | int i =>
      simp only [intsOf] at h
      split at h
      · rename_i qs hq
        cases h
        rw [intsD_ok hq]
        rfl
      · cases h
    | _ => cases h
def gSorted : GL := fun ds M => match ds with
  | [.ref n] => match itemsA M (.ref n) with
    | some xs => match intsOf xs with
      | some is => some (.ref M.length, M ++ [.lst ((srtB ltI is).map D.int)])
      | none => match pairsD xs with
        | some ps => some (.ref M.length, M ++ [.lst ((srtB SrtO.lexB ps).map prD)])
        | none => none
    | none => none
  | [.tup xs] => match intsOf xs with
    | some is => some (.ref M.length, M ++ [.lst ((srtB ltI is).map D.int)])
    | none => match pairsD xs with
      | some ps => some (.ref M.length, M ++ [.lst ((srtB SrtO.lexB ps).map prD)])
      | none => none
  | _ => none
def gListA : GL := fun ds M => match ds with
  | [.ref n] => match hDct M n with
    | some kvs => some (.ref M.length, M ++ [.lst (kvs.map (·.1))])
    | none => gList ds M
  | _ => gList ds M
section
variable {X : Cx} {Γ : Gm}
theorem b_sorted (hc : X.calm = true) : CB X Γ (.builtin "sorted") gSorted := by
  intro pins s σ H xs us Q I r ⟨ds, M, μ, rh, rv, hq⟩
  unfold gSorted at hq
  split at hq
  · obtain ⟨v, rfl, r1⟩ := one_rel rv
    obtain ⟨a, rfl, ea⟩ := ref_rel r1
    obtain ⟨u, rfl, ru⟩ := Vals.one r
    cases ru
    split at hq
    · rename_i xs hx
      split at hq
      · rename_i is hi
        have e := intsD_ok hi
        subst e
        refine sorted_go swo_I eq_I D.int hc I rh (fun hq => collect_A (A := X.A.in1) (I.ok.hd hc) I rh hx ea hq) (fun h' tk us I1 sh => ?_) fun p hp vs rv => Pk.new rh hq hp ⟨_, upd_same, rv.mono (Nx.fresh hp _)⟩
        have hI := shows_ints sh
        refine ⟨SrtO.iv, SrtO.iv_ints hI, fun h2 h₁ l hl kp => ?_⟩
        exact SrtO.ints_sortable (s := { s with heap := h₁, toks := tk }) hI h2
      · split at hq
        · rename_i ps hp
          have e := pairsD_ok hp
          subst e
          refine sorted_go swo_P eq_P prD hc I rh (fun hq => collect_A (A := X.A.in1) (I.ok.hd hc) I rh hx ea hq) (fun h' tk us I1 sh => ?_) fun p hp vs rv => Pk.new rh hq hp ⟨_, upd_same, rv.mono (Nx.fresh hp _)⟩
          obtain ⟨k, e1, e2⟩ := pairs_key (shows_pairs I1 sh)
          refine ⟨k, e1, fun h2 h₁ l hl kp => SrtO.pairs_sortableO (s := { s with heap := h₁, toks := tk }) (by omega) (fun v hv => (e2 v hv).keeps fun b o e _ => (kp b o e).2) fun o e => ?_⟩
          have e' : some o = some (PyProof.Rows.seqObj "list" us.toArray 0) := e.symm.trans hl
          cases e'
          intro c
          exact absurd (Value.type.inj c) (by decide)
        · exact hq.elim
    · exact hq.elim
  · obtain ⟨v, rfl, r1⟩ := one_rel rv
    cases r1 with
    | tup g rs =>
      obtain ⟨u, rfl, ru⟩ := Vals.one r
      cases ru
      split at hq
      · rename_i is hi
        have e := intsD_ok hi
        subst e
        refine sorted_go swo_I eq_I D.int hc I rh (fun hq => collect_T I g rs hq) (fun h' tk us I1 sh => ?_) fun p hp vs rv => Pk.new rh hq hp ⟨_, upd_same, rv.mono (Nx.fresh hp _)⟩
        have hI := shows_ints sh
        refine ⟨SrtO.iv, SrtO.iv_ints hI, fun h2 h₁ l hl kp => ?_⟩
        exact SrtO.ints_sortable (s := { s with heap := h₁, toks := tk }) hI h2
      · split at hq
        · rename_i ps hp
          have e := pairsD_ok hp
          subst e
          refine sorted_go swo_P eq_P prD hc I rh (fun hq => collect_T I g rs hq) (fun h' tk us I1 sh => ?_) fun p hp vs rv => Pk.new rh hq hp ⟨_, upd_same, rv.mono (Nx.fresh hp _)⟩
          obtain ⟨k, e1, e2⟩ := pairs_key (shows_pairs I1 sh)
          refine ⟨k, e1, fun h2 h₁ l hl kp => SrtO.pairs_sortableO (s := { s with heap := h₁, toks := tk }) (by omega) (fun v hv => (e2 v hv).keeps fun b o e _ => (kp b o e).2) fun o e => ?_⟩
          have e' : some o = some (PyProof.Rows.seqObj "list" us.toArray 0) := e.symm.trans hl
          cases e'
          intro c
          exact absurd (Value.type.inj c) (by decide)
        · exact hq.elim
  · exact hq.elim
theorem b_listA (hc : X.calm = true) : CB X Γ (.type "list") gListA := by
  intro pins s σ H xs us Q I r ⟨ds, M, μ, rh, rv, hq⟩
  unfold gListA at hq
  split at hq
  · split at hq
    · rename_i n kvs hd
      obtain ⟨v, rfl, r1⟩ := one_rel rv
      obtain ⟨a, rfl, ea⟩ := ref_rel r1
      obtain ⟨u, rfl, ru⟩ := Vals.one r
      cases ru
      obtain ⟨es, g, rr⟩ := ndct rh hd ea
      obtain ⟨xs, ep, h1, h2, h3, h4⟩ := dict_keys I rr (.inl g)
      refine PySem.W.kdl_call (KdlSrc.rawDict h2) (I.ok.hd hc) h1 h3 fun h' tk acc c' hk hD hacc => ?_
      obtain ⟨ws, w1, w2⟩ := h4 acc hacc
      refine ⟨.ref s.heap.objs.size, upd H s.heap.objs.size (.lst ws), I.laid (t' := tk) hk (Nat.le_refl _) (show ObjOk X.prog X.w _ _ _ (.lst ws) from ⟨by rw [Paired.length w2, Array.length_toList, hacc.1]; exact h3, acc.toList, c', w2, by rw [Array.toArray_toList]; exact hD⟩), rfl, ?_⟩
      have hp := I.hok.fresh (Nat.le_refl s.heap.objs.size)
      exact Pk.new rh hq hp ⟨_, upd_same, w1.mono (Nx.fresh hp _)⟩
    · exact b_list pins s σ H xs us Q I r ⟨_, M, μ, rh, rv, hq⟩
  · exact b_list pins s σ H xs us Q I r ⟨_, M, μ, rh, rv, hq⟩
end
end Mi
end
section
set_option maxRecDepth 100000
set_option maxHeartbeats 2000000
set_option autoImplicit false
namespace Mi
open PySem PySem.Spec PyProof.Rows L2

mutual
def cstB (K : PySem.W.Frag) : D → Value → Bool
  | .non, .none => true
  | .bl b, .bool c => b == c
  | .int i, .int j _ => decide (i = j)
  | .str x, .str y _ => decide (x = y)
  | .tup ds, .ref a => match K.lookup a with
    | some ⟨.type c, _, .seq its _, _⟩ => decide (c = "tuple") && (decide (its.size ≤ sizeLine) && cstsB K ds its.toList)
    | _ => false
  | _, _ => false
def cstsB (K : PySem.W.Frag) : List D → List Value → Bool
  | [], [] => true
  | d :: ds, u :: us => cstB K d u && cstsB K ds us
  | _, _ => false
end
mutual
theorem cstB_ok {K : PySem.W.Frag} : ∀ (d : D) (u : Value), cstB K d u = true → ∃ v, RelV v u ∧ ∀ H μ, RV K H μ d v
  | .non, u, h => by
    cases u with
    | none => exact ⟨.non, rfl, fun _ _ => .non⟩
    | _ => simp [cstB] at h
  | .bl b, u, h => by
    cases u with
    | bool c =>
      simp only [cstB, beq_iff_eq] at h
      exact ⟨.bl b, by subst h; rfl, fun _ _ => .bl b⟩
    | _ => simp [cstB] at h
  | .int i, u, h => by
    cases u with
    | int j t =>
      simp only [cstB, decide_eq_true_eq] at h
      exact ⟨.int i, by subst h; exact ⟨t, rfl⟩, fun _ _ => .int i⟩
    | _ => simp [cstB] at h
  | .str x, u, h => by
    cases u with
    | str y t =>
      simp only [cstB, decide_eq_true_eq] at h
      exact ⟨.str x, by subst h; exact ⟨t, rfl⟩, fun _ _ => .str x⟩
    | _ => simp [cstB] at h
  | .tup ds, u, h => by
    cases u with
    | ref a =>
      simp only [cstB] at h
      split at h
      · rename_i c dd its n sl q
        rw [Bool.and_eq_true, Bool.and_eq_true, decide_eq_true_eq, decide_eq_true_eq] at h
        obtain ⟨vs, h1, h2⟩ := cstsB_ok ds its.toList h.2.2
        exact ⟨.ref a, rfl, fun H μ => .tup (.inr ⟨_, its, n, q, congrArg Value.type h.1, rfl, h.2.1, h1⟩) (h2 H μ)⟩
      · cases h
    | _ => simp [cstB] at h
  | .ref n, u, h => by cases u <;> simp [cstB] at h
  | .klst _, u, h => by cases u <;> simp [cstB] at h
  | .exc .., u, h => by cases u <;> simp [cstB] at h
theorem cstsB_ok {K : PySem.W.Frag} : ∀ (ds : List D) (us : List Value), cstsB K ds us = true → ∃ vs, Vals vs us ∧ ∀ H μ, RVs K H μ ds vs
  | [], [], _ => ⟨[], .nil, fun _ _ => .nil⟩
  | [], _ :: _, h => by simp [cstsB] at h
  | _ :: _, [], h => by simp [cstsB] at h
  | d :: ds, u :: us, h => by
    simp only [cstsB, Bool.and_eq_true] at h
    obtain ⟨v, h1, h2⟩ := cstB_ok d u h.1
    obtain ⟨vs, h3, h4⟩ := cstsB_ok ds us h.2
    exact ⟨v :: vs, .cons h1 h3, fun H μ => .cons (h2 H μ) (h4 H μ)⟩
end

def oexB (K : PySem.W.Frag) (C : Addr) : Bool := match K.lookup C with
  | some ⟨.type "type", _, .cls cd, sl⟩ => (match cd.mro, sl.toList with
    | .ref C' :: bm, [_, _, _, _, some (.builtin n), _] => C' == C && n == "ValueError.__new__" && !cd.hasDel && cd.hasDict && HandSPX.refsVE bm
    | _, _ => false)
  | _ => false
inductive Fx where
  | he (f : He.Fa)
  | cst (x : Str) (d : D)
  | oex (x : Str) (fs : List Str)
  | kit (x y : Str) (b : Bool)
  | kitT (x : Str) (T : String) (b : Bool)
  | exmT (x : Str) (T : String) (b : Bool)
  | xcc (x : Str)
  | slc (x : Str)
  | slt (x f : Str) (i : Nat)
  | isi (x : Str)
  | kitB (x T : String) (y : Str) (b : Bool)
  | ntf (x : Str) (T : String)
  | prp (x f : Str)
  | xfd (x f : Str)
def slotP (K : PySem.W.Frag) (C : Addr) (f : Str) : Addr := He.ma K C f
def Fx.ok (K : PySem.W.Frag) : Fx → Bool
  | .he f => f.ok K
  | .cst x d => (match PySem.W.nsIn K mainGlobals x with
    | some (some u) => cstB K d u
    | _ => false)
  | .oex x fs => oexB K (He.ga K x) && (He.eqO (PySem.W.findIn K (.ref (He.ga K x)) "__setattr__") (some (some (.builtin "object.__setattr__"))) && (decide (PySem.W.subIn K (.ref (He.ga K x)) (.type "BaseException") = some true) && (decide (PySem.W.typeIn K (.ref (He.ga K x)) = some (.type "type")) &&
    (PySem.W.keepIn K (.ref (He.ga K x)) && (He.eqO (PySem.W.findIn K (.ref (He.ga K x)) "__init__") (some (some (.ref (He.ma K (He.ga K x) "__init__")))) && (decide (PySem.W.typeIn K (.ref (He.ma K (He.ga K x) "__init__")) = some (.type "function")) &&
    fs.all fun f => He.eqO (PySem.W.findIn K (.ref (He.ga K x)) f) (some none)))))))
  | .kit x y b => decide (PySem.W.kitOne K (.ref (He.ga K x)) (.ref (He.ga K y)) = some b)
  | .kitT x T b => decide (PySem.W.kitOne K (.ref (He.ga K x)) (.type T) = some b)
  | .exmT x T b => decide (PySem.W.exmOne K (.ref (He.ga K x)) (.type T) = some b)
  | .xcc x => (PySem.W.clsIn K (He.ga K x)).isSome && (He.eqO (PySem.W.findIn K (.ref (He.ga K x)) "__getattribute__") (some (some (.builtin "BaseException.__getattribute__"))) && (He.eqO (PySem.W.findIn K (.ref (He.ga K x)) "__getattr__") (some none) &&
    (decide (PySem.W.subIn K (.ref (He.ga K x)) (.type "BaseException") = some true) && (PySem.W.hasDictIn K (He.ga K x) && (He.eqO (PySem.W.findIn K (.ref (He.ga K x)) "__class__") (some (some (.builtin "object.__class__"))) &&
    (He.eqO (PySem.W.specialIn K (.builtin "object.__class__") "__get__") (some (some (.builtin "getset_descriptor.__get__"))) && (decide (PySem.W.takesIn K (.builtin "object.__class__") = some true) && decide (PySem.W.mroIn K (He.ga K x) (.type "object") = some true))))))))
  | .slc x => PySem.W.plainGet K (He.ga K x) Str.empty && (PySem.W.isClsIn K (He.ga K x) && (PySem.W.plainOver K (He.ga K x) && He.eqO (PySem.W.findIn K (.ref (He.ga K x)) "__setattr__") (some (some (.builtin "object.__setattr__")))))
  | .slt x f i => He.eqO (PySem.W.findIn K (.ref (He.ga K x)) f) (some (some (.ref (slotP K (He.ga K x) f)))) && (He.eqO (PySem.W.specialIn K (.ref (slotP K (He.ga K x) f)) "__get__") (some (some (.builtin "member_descriptor.__get__"))) &&
    (decide (PySem.W.takesIn K (.ref (slotP K (He.ga K x) f)) = some true) && (decide (PySem.W.typeIn K (.ref (slotP K (He.ga K x) f)) = some (.type "member_descriptor")) && (decide (PySem.W.slotIn K (slotP K (He.ga K x) f) (He.ga K x) = some i) && decide (i < 1000)))))
  | .isi x => He.eqO (PySem.W.findIn K (.ref (He.ga K x)) "__class__") (some (some (.builtin "object.__class__"))) && (He.eqO (PySem.W.specialIn K (.builtin "object.__class__") "__get__") (some (some (.builtin "getset_descriptor.__get__"))) &&
    (decide (PySem.W.takesIn K (.builtin "object.__class__") = some true) && decide (PySem.W.mroIn K (He.ga K x) (.type "object") = some true)))
  | .kitB _ T y b => decide (PySem.W.kitOne K (.type T) (.ref (He.ga K y)) = some b)
  | .ntf x T => PySem.W.notFirst K (He.ga K x) (.type T)
  | .prp x f => He.eqO (PySem.W.findIn K (.ref (He.ga K x)) f) (some (some (.ref (He.ma K (He.ga K x) f)))) && (He.eqO (PySem.W.specialIn K (.ref (He.ma K (He.ga K x) f)) "__get__") (some (some (.builtin "property.__get__"))) &&
    (decide (PySem.W.takesIn K (.ref (He.ma K (He.ga K x) f)) = some true) && (match PySem.W.recIn K (He.ma K (He.ga K x) f) "property" with
      | some (.ref _ :: _) => true
      | _ => false)))
  | .xfd x f => He.eqO (PySem.W.findIn K (.ref (He.ga K x)) "__getattribute__") (some (some (.builtin "BaseException.__getattribute__"))) && (He.eqO (PySem.W.findIn K (.ref (He.ga K x)) "__getattr__") (some none) &&
    (decide (PySem.W.subIn K (.ref (He.ga K x)) (.type "BaseException") = some true) && (PySem.W.hasDictIn K (He.ga K x) && He.eqO (PySem.W.findIn K (.ref (He.ga K x)) f) (some none))))
section
variable {K : PySem.W.Frag} {h : Heap} {mg : Str → Option Value}
theorem fx_cst (X : K.In h) (G : h.Ns mainGlobals mg) {x : Str} {d : D} (c : (Fx.cst x d).ok K = true) : CstOk K mg x d := by
  have c2 : (match PySem.W.nsIn K mainGlobals x with
    | some (some u) => cstB K d u
    | _ => false) = true := c
  split at c2
  · rename_i u q
    obtain ⟨v, h1, h2⟩ := cstB_ok d u c2
    exact ⟨u, v, PySem.W.mg_of X G q, h1, h2⟩
  · cases c2
theorem oexB_ok {C : Addr} (q : oexB K C = true) : ∃ nm qn N bs bm sn sub ab col dd k0 k1 k2 k3 k5, K.lookup C = some (excClassObj nm qn C N bs bm true sn sub ab col dd k0 k1 k2 k3 k5 "ValueError.__new__") ∧ PySem.HandSPX.refsVE bm = true := by
  unfold oexB at q
  split at q
  · rename_i dd cd sl ho
    split at q
    · rename_i C' bm k0 k1 k2 k3 n k5 hm hs
      simp only [Bool.and_eq_true, beq_iff_eq, Bool.not_eq_true'] at q
      obtain ⟨⟨⟨⟨rfl, rfl⟩, hdel⟩, hd⟩, hr⟩ := q
      obtain ⟨nm, bs, mro, ns, qn, hdi, sn, sub, ab, col, del⟩ := cd
      dsimp only at hm hdel hd
      subst hm hdel hd
      have hsl : sl = #[k0, k1, k2, k3, some (.builtin "ValueError.__new__"), k5] := by
        obtain ⟨l⟩ := sl
        simp only at hs
        rw [hs]
      subst hsl
      exact ⟨nm, qn, ns, bs, bm, sn, sub, ab, col, dd, k0, k1, k2, k3, k5, ho, hr⟩
    · cases q
  · cases q
theorem fx_oex {x : Str} {fs : List Str} (c : (Fx.oex x fs).ok K = true) : OexC K (He.ga K x) ∧ PySem.W.findIn K (.ref (He.ga K x)) "__init__" = some (some (.ref (He.ma K (He.ga K x) "__init__"))) ∧ PySem.W.typeIn K (.ref (He.ma K (He.ga K x) "__init__")) = some (.type "function") ∧
    ∀ f ∈ fs, PySem.W.findIn K (.ref (He.ga K x)) f = some none := by
  obtain ⟨c1, c⟩ := He.ba c
  obtain ⟨c2, c⟩ := He.ba c
  obtain ⟨c3, c⟩ := He.ba c
  obtain ⟨c4, c⟩ := He.ba c
  obtain ⟨c5, c⟩ := He.ba c
  obtain ⟨c6, c⟩ := He.ba c
  obtain ⟨c7, c8⟩ := He.ba c
  exact ⟨⟨oexB_ok c1, He.eqO_ok c2, of_decide_eq_true c3, of_decide_eq_true c4, c5⟩, He.eqO_ok c6, of_decide_eq_true c7, fun f hf => He.eqO_ok (List.all_eq_true.mp c8 f hf)⟩
theorem fx_exc (X : K.In h) (G : h.Ns mainGlobals mg) {x : Str} (g : (Fx.he (.glo x)).ok K = true) (c : (Fx.he (.exc x)).ok K = true) : Rz0 K mg (He.ga K x) x := by
  obtain ⟨c1, c2, c3, c4⟩ := He.exc_ok c
  exact ⟨c1, He.glo_ok X G g, c2, c3, c4⟩
theorem fx_xcc {x : Str} (c : (Fx.xcc x).ok K = true) : XcC K (He.ga K x) := by
  obtain ⟨c1, c⟩ := He.ba c
  obtain ⟨c2, c⟩ := He.ba c
  obtain ⟨c3, c⟩ := He.ba c
  obtain ⟨c4, c⟩ := He.ba c
  obtain ⟨c5, c⟩ := He.ba c
  obtain ⟨c6, c⟩ := He.ba c
  obtain ⟨c7, c⟩ := He.ba c
  obtain ⟨c8, c9⟩ := He.ba c
  exact ⟨c1, He.eqO_ok c2, He.eqO_ok c3, of_decide_eq_true c4, c5, He.eqO_ok c6, He.eqO_ok c7, of_decide_eq_true c8, of_decide_eq_true c9⟩
theorem fx_scl {x : Str} (c : (Fx.slc x).ok K = true) : SlX.SCls K (He.ga K x) := by
  obtain ⟨c1, c⟩ := He.ba c
  obtain ⟨c2, c⟩ := He.ba c
  obtain ⟨c3, c4⟩ := He.ba c
  exact ⟨c1, c2, c3, He.eqO_ok c4⟩
theorem fx_slt {x f : Str} {i : Nat} (c : (Fx.slc x).ok K = true) (d : (Fx.slt x f i).ok K = true) : SlF K (He.ga K x) f i := by
  obtain ⟨c1, c⟩ := He.ba c
  obtain ⟨c2, c⟩ := He.ba c
  obtain ⟨c3, c4⟩ := He.ba c
  obtain ⟨d1, d⟩ := He.ba d
  obtain ⟨d2, d⟩ := He.ba d
  obtain ⟨d3, d⟩ := He.ba d
  obtain ⟨d4, d⟩ := He.ba d
  obtain ⟨d5, d6⟩ := He.ba d
  exact ⟨⟨c1, c2, c3, He.eqO_ok c4⟩, ⟨_, He.eqO_ok d1, He.eqO_ok d2, of_decide_eq_true d3, of_decide_eq_true d4, of_decide_eq_true d5, of_decide_eq_true d6⟩⟩
/-- where a property's getter stands -/
def prA (K : PySem.W.Frag) (x f : Str) : Addr := match PySem.W.recIn K (He.ma K (He.ga K x) f) "property" with
  | some (.ref g :: _) => g
  | _ => 0
theorem fx_isi {x : Str} (c : (Fx.isi x).ok K = true) : SlX.SIsi K (He.ga K x) := by
  obtain ⟨c1, c⟩ := He.ba c
  obtain ⟨c2, c⟩ := He.ba c
  obtain ⟨c3, c4⟩ := He.ba c
  exact ⟨He.eqO_ok c1, He.eqO_ok c2, of_decide_eq_true c3, of_decide_eq_true c4⟩
theorem fx_kitB {x T : String} {y : Str} {b : Bool} (c : (Fx.kitB x T y b).ok K = true) : PySem.W.kitOne K (.type T) (.ref (He.ga K y)) = some b := of_decide_eq_true c
theorem fx_ntf {x : Str} {T : String} (c : (Fx.ntf x T).ok K = true) : PySem.W.notFirst K (He.ga K x) (.type T) = true := c
theorem fx_prp {x f : Str} (c : (Fx.prp x f).ok K = true) : PropOf K (He.ga K x) f (He.ma K (He.ga K x) f) (prA K x f) := by
  obtain ⟨c1, c⟩ := He.ba c
  obtain ⟨c2, c⟩ := He.ba c
  obtain ⟨c3, c4⟩ := He.ba c
  refine ⟨He.eqO_ok c1, He.eqO_ok c2, of_decide_eq_true c3, ?_⟩
  unfold prA
  split at c4
  · rename_i g r e
    rw [e]
    exact ⟨r, rfl⟩
  · cases c4
theorem fx_xfd {x f : Str} (c : (Fx.xfd x f).ok K = true) : XfC K (He.ga K x) ∧ PySem.W.findIn K (.ref (He.ga K x)) f = some none := by
  obtain ⟨c1, c⟩ := He.ba c
  obtain ⟨c2, c⟩ := He.ba c
  obtain ⟨c3, c⟩ := He.ba c
  obtain ⟨c4, c5⟩ := He.ba c
  exact ⟨⟨He.eqO_ok c1, He.eqO_ok c2, of_decide_eq_true c3, c4⟩, He.eqO_ok c5⟩
theorem fx_free (X : K.In h) (G : h.Ns mainGlobals mg) {x : Str} (c : (Fx.he (.free x)).ok K = true) : mg x = none := He.free_ok X G c
theorem fx_glo (X : K.In h) (G : h.Ns mainGlobals mg) {x : Str} (c : (Fx.he (.glo x)).ok K = true) : mg x = some (.ref (He.ga K x)) := He.glo_ok X G c
end
structure DefP extends He.DefD where
  prop : Bool
def DefP.adr (K : PySem.W.Frag) (d : DefP) : Addr := match d.prop with
  | true => prA K d.at_.1 (d.at_.2.getD "")
  | false => He.fAd K d.at_
def fnAt (K : PySem.W.Frag) (a : Addr) : He.FnW := match K.lookup a with
  | some ⟨_, _, .func z, _⟩ => some (z.name, z.qualname, z.params, z.body, z.scope, z.globals, z.closure, z.builtins)
  | _ => none
def okAt (K : PySem.W.Frag) (d : He.DefD) (a : Addr) : Bool := PySem.W.keepIn K (.ref a) && (match K.lookup a with
  | some ⟨_, _, .func z, _⟩ => PySem.W.codeIn K z.code d.qual && (He.dflB K z.defaults (d.dvs K) && He.kwdB K z.kwdefaults (d.kws K))
  | _ => false)
theorem funAt {K : PySem.W.Frag} {d : He.DefD} {a : Addr} (e : fnAt K a = d.val) (c : okAt K d a = true) : ∃ fd, FunD K d.name d.qual d.params d.body d.scope (d.dvs K) (d.kws K) a fd := by
  obtain ⟨kp, c2⟩ := He.ba c
  unfold fnAt at e
  rcases q : K.lookup a with _ | ⟨oc, od, dt, osl⟩
  · rw [q] at c2; cases c2
  rw [q] at c2 e
  cases dt with
  | func z =>
    rcases z with ⟨n1, n2, n3, n4, n5, n6, n7, n8, n9, n10, n11, n12, n13, n14, n15⟩
    have e2 : (some (n1, n2, n3, n4, n5, n6, n7, n15) : He.FnW) = some (d.name, d.qual, d.params, .stmts d.body, d.scope, mainGlobals, [], builtinsNs) := e
    simp only [Option.some.injEq, Prod.mk.injEq] at e2
    rcases e2 with ⟨rfl, rfl, rfl, rfl, rfl, rfl, rfl, rfl⟩
    obtain ⟨k1, k2⟩ := He.ba (show (PySem.W.codeIn K n13 d.qual && (He.dflB K n8 (d.dvs K) && He.kwdB K n9 (d.kws K))) = true from c2)
    obtain ⟨k3, k4⟩ := He.ba k2
    exact ⟨_, ⟨oc, od, n8, n9, n10, n11, n12, n13, n14, osl, rfl, q, k1, He.dflB_ok k3, He.kwdB_ok k4⟩, kp⟩
  | _ => cases c2
def obsM (fa : List Fx) (fn : List DefP) (K : PySem.W.Frag) : He.AlD := ((fa.all fun f => f.ok K) && fn.all fun d => okAt K d.toDefD (d.adr K), fn.map fun d => fnAt K (d.adr K))
def valM (fn : List DefP) : He.AlD := (true, fn.map fun d => d.toDefD.val)
def SaysM (fa : List Fx) (fn : List DefP) (K : PySem.W.Frag) : Prop := obsM fa fn K = valM fn
def obsMG (n : Nat) (fa : List Fx) (fn : List DefP) (g : Addr → Option Obj) : He.AlD := obsM fa fn (He.frG g (He.asD g n))
def hookM (n : Nat) (fa : List Fx) (fn : List DefP) : PySem.W.Hook where
  α := He.AlD
  obs := fun s => obsMG n fa fn s.heap.get?
  val := fun _ => valM fn
  says := fun _ h => ∃ K : PySem.W.Frag, K.In h ∧ SaysM fa fn K
  of := fun _ _ e => ⟨_, He.frG_in, e⟩
  keeps := fun _ _ _ ⟨K, hK, c⟩ k => ⟨K, PySem.W.Frag.In.keeps hK k, c⟩
theorem obsMG_eq {n : Nat} {fa : List Fx} {fn : List DefP} {g : Addr → Option Obj} {s : Shared} (h : ∀ a, g a = s.heap.get? a) : obsMG n fa fn g = (hookM n fa fn).obs s := by
  have e : g = s.heap.get? := funext h
  rw [e] <;> rfl
section
variable {fa : List Fx} {fn : List DefP} {K : PySem.W.Frag}
theorem SaysM.fact (c : SaysM fa fn K) (i : Nat) {f : Fx} (h : fa[i]? = some f := by rfl) : f.ok K = true := by
  have c1 := (He.ba (show ((fa.all fun f => f.ok K) && fn.all fun d => okAt K d.toDefD (d.adr K)) = true from congrArg (fun z : He.AlD => z.1) c)).1
  exact List.all_eq_true.mp c1 f (List.mem_of_getElem? h)
theorem SaysM.def_ (c : SaysM fa fn K) (i : Nat) {d : DefP} (h : fn[i]? = some d := by rfl) : ∃ fd, FunD K d.toDefD.name d.toDefD.qual d.toDefD.params d.toDefD.body d.toDefD.scope (d.toDefD.dvs K) (d.toDefD.kws K) (d.adr K) fd := by
  have c2 := (He.ba (show ((fa.all fun f => f.ok K) && fn.all fun d => okAt K d.toDefD (d.adr K)) = true from congrArg (fun z : He.AlD => z.1) c)).2
  have e : fn.map (fun d => fnAt K (d.adr K)) = fn.map fun d => d.toDefD.val := congrArg (fun z : He.AlD => z.2) c
  have e2 : (fn.map fun d => fnAt K (d.adr K))[i]? = (fn.map fun d => d.toDefD.val)[i]? := by rw [e]
  rw [List.getElem?_map, List.getElem?_map, h] at e2
  exact funAt (Option.some.inj e2) (List.all_eq_true.mp c2 d (List.mem_of_getElem? h))
end
section
variable {P : Program} {w : World} {K : PySem.W.Frag} {mg : Str → Option Value} {base : Heap} {N : List Str} {qual : Str} {scope : Scope} {i : Addr} {cdv : Value} {A : Around} {outer : List Env} {s : Shared} {H : Hp} {E : XK}
theorem takes_cx : Takes (cxOf (L2.CX P w) P w K mg base N qual scope i cdv A outer s H E) (fun cls d _ H => E cls d H) := takes_of rfl rfl rfl rfl
theorem passes_cx : PassesOwn (model P w) (cxOf (L2.CX P w) P w K mg base N qual scope i cdv A outer s H E).A (cxOf (L2.CX P w) P w K mg base N qual scope i cdv A outer s H E).env (cxOf (L2.CX P w) P w K mg base N qual scope i cdv A outer s H E).xe := passes_of rfl
end
theorem takes_W0 {X : Cx} : Takes X W0 := takes_none5
theorem cx_never {P : Program} {w : World} (H : Hp) (s : Shared) (e : Value) (s' : Shared) : L2.CX P w [] H s (fun _ _ _ => False) e s' → False := fun ⟨_, _, _, _, _, _, _, _, _, _, _, _, z⟩ => z
/-- the end of a law whose defs may raise: the promise at each world -/
theorem walk_at {l : PySem.W.OpenLaw} {n k : Nat} {q : Program} {loose : List Str} {XP : (Str → Option Value) → Heap → Prop} {YP : World → Heap → Prop} {d : DefRec} {x : Str} (hn : l.most = some n) (hn2 : n ≤ sizeLine) (hdf : d.params.defaults = []) (hr : Room k callerA)
    (T : ∀ (w : World) (mg : Str → Option Value) (fa : Addr) (h : Heap), YP w h → h.Ns mainGlobals mg → mg d.name = some (.ref fa) → ∃ (K : PySem.W.Frag) (fd : FuncData) (sp : Sp), K.In h ∧ (∀ (s : Shared) (u : Value), BindsTo s fd ⟨[u], []⟩ [(x, u)]) ∧
      (∀ (H : Hp) (a : Addr) (ns : List Int), ns.length ≤ n → Only H → SqL K H a (ns.map V.int) → sp [.ref a] H (fun v _ => v = .bl true) fun _ _ _ => False) ∧ ∀ base : Heap, FnOk l.prog w K mg base (L2.CX l.prog w) k fa fd [x] sp) :
    PySem.W.WalkO q loose XP YP l.row.toRowW d [] (fun f vs => PySem.call f vs) := by
  refine Att.attach_call hn hdf fun w s₀ s₁ mg mb fa o pm cd doc a vs ns G Y ho hd hcd hmg hobj hints hlen hg => ?_
  obtain ⟨K, fd, sp, h1, h2, h3, h4⟩ := T w mg fa _ Y G.T.g hmg
  refine law_call h1 G.T.g G.T.b G.T.builtins G.T.nolimit hg hobj hints (Nat.le_trans hlen hn2) hr (fun base _ _ => h4 base) h2 (fun H hO hS => h3 H a ns hlen hO hS) fun H e s' => cx_never H s₁ e s'
end Mi
end
section
set_option maxRecDepth 100000
set_option maxHeartbeats 2000000
set_option autoImplicit false
namespace Mi
open PySem

def wX {α : Type} (r : R α) (Q : α → Hs → Prop) : Prop := match r with
  | .ok a M => Q a M
  | _ => False
def wO {α : Type} (r : Option (α × Hs)) (Q : α → Hs → Prop) : Prop := match r with
  | some (a, M) => Q a M
  | none => False
def wS (r : RS) (N : Sl → Hs → Prop) (T : D → Hs → Prop) : Prop := match r with
  | .nx ζ M => N ζ M
  | .rt d M => T d M
  | _ => False
section
variable {α β : Type} {Q Q' : α → Hs → Prop} {ζ : Sl} {M : Hs} {N N' : Sl → Hs → Prop} {T T' : D → Hs → Prop}
theorem wX_ok {a : α} : wX (.ok a M) Q = Q a M := rfl
theorem wX_no : wX (.no : R α) Q = False := rfl
theorem wX_mono {r : R α} (h : wX r Q) (i : ∀ a M, Q a M → Q' a M) : wX r Q' := by
  cases r with
  | ok a M => exact i a M h
  | _ => exact h
theorem wS_mono {r : RS} (h : wS r N T) (i : ∀ a M, N a M → N' a M) (j : ∀ a M, T a M → T' a M) : wS r N' T' := by
  cases r with
  | nx a M => exact i a M h
  | rt a M => exact j a M h
  | _ => exact h
theorem wX_get {r : R α} (h : wX r Q) : ∃ a M, r = .ok a M ∧ Q a M := by
  cases r with
  | ok a M => exact ⟨a, M, rfl, h⟩
  | _ => exact h.elim
theorem wX_eq {r : R α} {a : α} (h : r = .ok a M) (q : Q a M) : wX r Q := by rw [h]; exact q
theorem wX_bind {r : R α} {k : α → Hs → R β} {Q : β → Hs → Prop} : wX (r.bind k) Q = wX r fun a M => wX (k a M) Q := by cases r <;> rfl
theorem wX_of {r : Option (α × Hs)} : wX (R.of r) Q = wO r Q := by
  cases r with
  | none => rfl
  | some p => rfl
theorem wO_some {a : α} : wO (some (a, M)) Q = Q a M := rfl
theorem wO_none : wO (none : Option (α × Hs)) Q = False := rfl
theorem wS_nx : wS (.nx ζ M) N T = N ζ M := rfl
theorem wS_rt {d : D} : wS (.rt d M) N T = T d M := rfl
theorem wS_of {r : R α} {k : α → Hs → RS} : wS (RS.of ζ r k) N T = wX r fun a M => wS (k a M) N T := by cases r <;> rfl
variable {a b : MS} {f g fo fi fv : MX} {t : MT} {i : Nat} {ga : MA}
theorem wS_seq : wS (sSeq a b ζ M) N T = wS (a ζ M) (fun ζ M => wS (b ζ M) N T) T := by
  unfold sSeq
  cases a ζ M <;> rfl
theorem wS_set : wS (sSet i f ζ M) N T = wX (f ζ M) fun d M => N (ζ.set i (some d)) M := wS_of
theorem wS_ret : wS (sRet f ζ M) N T = wX (f ζ M) T := wS_of
theorem wS_expr : wS (sExpr f ζ M) N T = wX (f ζ M) fun _ M => N ζ M := wS_of
theorem wS_pass : wS (sPass ζ M) N T = N ζ M := rfl
theorem wS_if : wS (sIf t a b ζ M) N T = wX (t ζ M) fun c M => if c = true then wS (a ζ M) N T else wS (b ζ M) N T := by
  unfold sIf
  rw [wS_of]
  congr
  funext c M
  split <;> rfl
theorem wS_put {p : D → D → D → Hs → Option Hs} : wS (sPut p fo fi fv ζ M) N T = wX (fv ζ M) fun v M => wX (fo ζ M) fun o M => wX (fi ζ M) fun i M => match p o i v M with
  | some M => N ζ M
  | none => False := by
  unfold sPut
  rw [wS_of]
  congr
  funext v M1
  rw [wS_of]
  congr
  funext o M2
  rw [wS_of]
  congr
  funext i M3
  cases p o i v M3 <;> rfl
variable {Qd : D → Hs → Prop}
theorem wX_var : wX (xVar i ζ M) Qd = match ζ[i]? with
  | some (some d) => Qd d M
  | _ => False := by
  unfold xVar
  cases ζ[i]? with
  | none => rfl
  | some o => cases o <;> rfl
theorem wX_c {d : D} : wX (xC d ζ M) Qd = Qd d M := rfl
theorem wX_2 {p : D → D → Hs → Option (D × Hs)} : wX (x2 p f g ζ M) Qd = wX (f ζ M) fun x M => wX (g ζ M) fun y M => wO (p x y M) Qd := by
  unfold x2
  simp only [wX_bind, wX_of]
theorem wX_3 {p p' : D → D → Hs → Option (D × Hs)} : wX (x3 p p' f g fo ζ M) Qd = wX (f ζ M) fun x M => wX (g ζ M) fun y M => wO (p x y M) fun z M => match z with
  | .bl true => wX (fo ζ M) fun u M => wO (p' y u M) Qd
  | .bl false => Qd (.bl false) M
  | _ => False := by
  unfold x3
  simp only [wX_bind, wX_of]
  congr
  funext x M1
  congr
  funext y M2
  congr
  funext z M3
  split
  · rw [wX_bind]
    simp only [wX_of]
  · rfl
  · rename_i h1 h2
    first
      | rfl
      | (split
         · exact absurd rfl h1
         · exact absurd rfl h2
         · rfl)
theorem wX_anil {Q : List D → Hs → Prop} : wX (aNil ζ M) Q = Q [] M := rfl
theorem wX_acons {Q : List D → Hs → Prop} : wX (aCons f ga ζ M) Q = wX (f ζ M) fun x M => wX (ga ζ M) fun xs M => Q (x :: xs) M := by
  unfold aCons
  simp only [wX_bind, wX_ok]
theorem wX_tup : wX (xTup ga ζ M) Qd = wX (ga ζ M) fun ds M => if ds.length ≤ sizeLine then Qd (.tup ds) M else False := by
  unfold xTup
  simp only [wX_bind]
  congr
  funext ds M
  split <;> rfl
theorem wX_lst : wX (xLst ga ζ M) Qd = wX (ga ζ M) fun ds M => if ds.length ≤ sizeLine then Qd (.ref M.length) (M ++ [.lst ds]) else False := by
  unfold xLst newL
  simp only [wX_bind, wX_of]
  congr
  funext ds M
  split <;> rfl
theorem wX_dict : wX (xDict ζ M) Qd = Qd (.ref M.length) (M ++ [.dct []]) := rfl
theorem wX_b {p : GL} : wX (xB p ga ζ M) Qd = wX (ga ζ M) fun ds M => wO (p ds M) Qd := by
  unfold xB
  simp only [wX_bind, wX_of]
theorem wX_meth {ok : D → Hs → Bool} {p : GM} : wX (xMeth ok p f ga ζ M) Qd = wX (f ζ M) fun x M => if ok x M = true then wX (ga ζ M) fun ds M => wO (p x ds M) Qd else False := by
  unfold xMeth
  rw [wX_bind]
  congr
  funext x M
  split
  · simp only [wX_bind, wX_of]
  · rfl
theorem wX_call {n : Nat} {F : MF} : wX (xCall n F ga ζ M) Qd = wX (ga ζ M) fun ds M => if ds.length = n then wX (F ds M) Qd else False := by
  unfold xCall
  rw [wX_bind]
  congr
  funext ds M
  split <;> rfl
theorem wX_fn {np nl : Nat} {ds : List D} : wX (fnS np nl a ds M) Qd = wS (a (ds.map some ++ List.replicate (nl - np) none) M) (fun _ M => Qd .non M) Qd := by
  unfold fnS
  cases a (ds.map some ++ List.replicate (nl - np) none) M <;> rfl
theorem wX_if : wX (xIf t f g ζ M) Qd = wX (t ζ M) fun c M => if c = true then wX (f ζ M) Qd else wX (g ζ M) Qd := by
  unfold xIf
  rw [wX_bind]
  congr
  funext c M
  split <;> rfl
theorem wX_t1 {Q : Bool → Hs → Prop} : wX (tB1 f ζ M) Q = wX (f ζ M) fun x M => match x with
  | .bl k => Q k M
  | _ => False := by
  unfold tB1
  rw [wX_bind]
  congr
  funext x M
  cases x <;> rfl
variable {t2 : MT} {Qb : Bool → Hs → Prop}
theorem wX_and2 : wX (tAnd2 t t2 ζ M) Qb = wX (t ζ M) fun c M => if c = true then wX (t2 ζ M) Qb else Qb false M := by
  unfold tAnd2
  rw [wX_bind]
  congr
  funext c M
  split <;> rfl
theorem wX_or2 : wX (tOr2 t t2 ζ M) Qb = wX (t ζ M) fun c M => if c = true then Qb true M else wX (t2 ζ M) Qb := by
  unfold tOr2
  rw [wX_bind]
  congr
  funext c M
  split <;> rfl
theorem wX_not1 : wX (tNot1 t ζ M) Qb = wX (t ζ M) fun c M => Qb (!c) M := by
  unfold tNot1
  rw [wX_bind]
  rfl
theorem wX_true : wX (tTrue ζ M) Qb = Qb true M := rfl
theorem wX_neg : wX (xNeg f ζ M) Qd = wX (f ζ M) fun x M => match x with
  | .int i => Qd (.int (-i)) M
  | _ => False := by
  unfold xNeg
  rw [wX_bind]
  congr
  funext x M
  cases x <;> rfl
theorem wX_oN {Q : Option Int → Hs → Prop} : wX (oNone ζ M) Q = Q none M := rfl
theorem wX_oS {Q : Option Int → Hs → Prop} : wX (oSome f ζ M) Q = wX (f ζ M) fun x M => match x with
  | .int i => Q (some i) M
  | _ => False := by
  unfold oSome
  rw [wX_bind]
  congr
  funext x M
  cases x <;> rfl
theorem wX_not : wX (xNot f ζ M) Qd = wX (f ζ M) fun x M => match x with
  | .bl k => Qd (.bl (!k)) M
  | _ => False := by
  unfold xNot
  rw [wX_bind]
  congr
  funext x M
  cases x <;> rfl
theorem wX_and : wX (xAnd f g ζ M) Qd = wX (f ζ M) fun x M => match x with
  | .bl true => wX (g ζ M) Qd
  | .bl false => Qd (.bl false) M
  | _ => False := by
  unfold xAnd
  rw [wX_bind]
  congr
  funext x M
  split <;> first | rfl | (rename_i h1 h2; split <;> first | exact absurd rfl h1 | exact absurd rfl h2 | rfl)
theorem wX_or : wX (xOr f g ζ M) Qd = wX (f ζ M) fun x M => match x with
  | .bl true => Qd (.bl true) M
  | .bl false => wX (g ζ M) Qd
  | _ => False := by
  unfold xOr
  rw [wX_bind]
  congr
  funext x M
  split <;> first | rfl | (rename_i h1 h2; split <;> first | exact absurd rfl h1 | exact absurd rfl h2 | rfl)
theorem wX_is {T : String} : wX (xIs T f ζ M) Qd = wX (f ζ M) fun x M => match kindOf x M with
  | some k => Qd (.bl (isKind k T)) M
  | none => False := by
  unfold xIs
  rw [wX_bind]
  congr
  funext x M
  cases kindOf x M <;> rfl
theorem wX_cut {l h : MO'} : wX (xCut f l h ζ M) Qd = wX (f ζ M) fun x M => wX (l ζ M) fun i M => wX (h ζ M) fun j M => wO (gCut x i j M) Qd := by
  unfold xCut
  simp only [wX_bind, wX_of]
theorem wX_fld {c k : Nat} : wX (xFld c k f ζ M) Qd = wX (f ζ M) fun x M => match slAt c x M with
  | some (_, fs) => match fs[k]? with
    | some (some d) => Qd d M
    | _ => False
  | none => False := by
  unfold xFld
  rw [wX_bind]
  congr
  funext x M
  cases slAt c x M with
  | none => rfl
  | some q =>
    obtain ⟨n, fs⟩ := q
    dsimp only
    cases fs[k]? with
    | none => rfl
    | some o => cases o <;> rfl
theorem wS_for {s : MY} {p : Pt} : wS (sFor s p a ζ M) N T = wX (s ζ M) fun yd M => wS (forN yd.y p a yd.fuel 0 ζ M) N T := wS_of
theorem wS_forN {y : Nat → Hs → Option (Option D)} {p : Pt} (I : Nat → Sl → Hs → Prop) (e : Nat) (go : ∀ i ζ M, i < e → I i ζ M → ∃ d l, y i M = some (some d) ∧ bindP p d = some l ∧ wS (a (setAll ζ l) M) (I (i + 1)) T) (fin : ∀ ζ M, I e ζ M → y e M = some none ∧ N ζ M) :
    ∀ (m i : Nat) (ζ : Sl) (M : Hs), e - i < m → i ≤ e → I i ζ M → wS (forN y p a m i ζ M) N T
  | 0, _, _, _, h, _, _ => by omega
  | m + 1, i, ζ, M, h, hi, q => by
    unfold forN
    by_cases hie : i = e
    · subst hie
      obtain ⟨h1, h2⟩ := fin ζ M q
      rw [h1]
      exact h2
    · obtain ⟨d, l, h1, h2, h3⟩ := go i ζ M (by omega) q
      rw [h1]
      dsimp only
      rw [h2]
      dsimp only
      cases hr : a (setAll ζ l) M with
      | nx ζ1 M1 => rw [hr] at h3; exact wS_forN I e go fin m (i + 1) ζ1 M1 (by omega) (by omega) h3
      | rt d M1 => rw [hr] at h3; exact h3
      | bk ζ1 M1 => rw [hr] at h3; exact h3.elim
      | ct ζ1 M1 => rw [hr] at h3; exact h3.elim
      | ex c fs ζ1 M1 => rw [hr] at h3; exact h3.elim
      | no => rw [hr] at h3; exact h3.elim
theorem wS_whileN (I : Nat → Sl → Hs → Prop) (go : ∀ n ζ M, I n ζ M → wX (t ζ M) fun c M => if c = true then wS (a ζ M) (fun ζ M => ∃ m, m < n ∧ I m ζ M) T else N ζ M) : ∀ (m n : Nat) (ζ : Sl) (M : Hs), n < m → I n ζ M → wS (whileN t a m ζ M) N T
  | 0, _, _, _, h, _ => by omega
  | m + 1, n, ζ, M, h, q => by
    have g := go n ζ M q
    unfold whileN
    rw [wS_of]
    refine wX_mono g fun c M1 h1 => ?_
    cases c with
    | false => exact h1
    | true =>
      rw [if_pos rfl] at h1 ⊢
      cases hr : a ζ M1 with
      | nx ζ1 M2 =>
        rw [hr] at h1
        obtain ⟨k, hk, hi⟩ := h1
        exact wS_whileN I go m k ζ1 M2 (by omega) hi
      | rt d M2 => rw [hr] at h1; exact h1
      | bk ζ1 M2 => rw [hr] at h1; exact h1.elim
      | ct ζ1 M2 => rw [hr] at h1; exact h1.elim
      | ex c fs ζ1 M2 => rw [hr] at h1; exact h1.elim
      | no => rw [hr] at h1; exact h1.elim
theorem wS_while (I : Nat → Sl → Hs → Prop) (n : Nat) (h : n < 10 ^ 30) (q : I n ζ M) (go : ∀ n ζ M, I n ζ M → wX (t ζ M) fun c M => if c = true then wS (a ζ M) (fun ζ M => ∃ m, m < n ∧ I m ζ M) T else N ζ M) : wS (sWhile t a ζ M) N T :=
  wS_whileN I go far n ζ M h q
/-- a comprehension's loop -/
theorem wX_lcN {y : Nat → Hs → Option (Option D)} {p : Pt} {k : Sl → Hs → R Unit} {Q : Hs → Prop} (I : Nat → Hs → Prop) (e : Nat) (go : ∀ i M, i < e → I i M → ∃ d l, y i M = some (some d) ∧ bindP p d = some l ∧ wX (k (setAll ζ l) M) fun _ M => I (i + 1) M)
    (fin : ∀ M, I e M → y e M = some none ∧ Q M) : ∀ (m i : Nat) (M : Hs), e - i < m → i ≤ e → I i M → wX (lcN y p k ζ m i M) fun _ M => Q M
  | 0, _, _, h, _, _ => by omega
  | m + 1, i, M, h, hi, q => by
    unfold lcN
    by_cases hie : i = e
    · subst hie
      obtain ⟨h1, h2⟩ := fin M q
      rw [h1]
      exact h2
    · obtain ⟨d, l, h1, h2, h3⟩ := go i M (by omega) q
      rw [h1]
      dsimp only
      rw [h2]
      dsimp only
      cases hr : k (setAll ζ l) M with
      | ok u M1 => rw [hr] at h3; exact wX_lcN I e go fin m (i + 1) M1 (by omega) (by omega) h3
      | ex c fs M1 => rw [hr] at h3; exact h3.elim
      | no => rw [hr] at h3; exact h3.elim
theorem wX_lc {s : MY} {vs : List Nat} {p : Pt} : wX (xLc s vs p t f ζ M) Qd = wX (s ζ M) fun yd M1 => wX (lcN yd.y p (lcB t f M1.length) (wipeD ζ vs) yd.fuel 0 (M1 ++ [.lst []])) fun _ M2 => Qd (.ref M1.length) M2 := by
  unfold xLc
  simp only [wX_bind, wX_ok]
/-- a comprehension over known items whose test and item only allocate: p i is put in where c i -/
theorem wX_lcB {n : Nat} {c : Bool} {v : D} {acc : List D} {Q : Unit → Hs → Prop} (ht : wX (t ζ M) fun b M1 => b = c ∧ (if c = true then wX (f ζ M1) fun z M2 => z = v ∧ hLst M2 n = some acc ∧ acc.length < sizeLine ∧ Q () (M2.set n (.lst (acc ++ [v]))) else Q () M1)) : wX (lcB t f n ζ M) Q := by
  unfold lcB
  obtain ⟨b, M1, h1, rfl, h2⟩ := wX_get ht
  rw [h1]
  cases b with
  | false => exact h2
  | true =>
    rw [if_pos rfl] at h2
    obtain ⟨z, M2, h3, rfl, h4, h5, h6⟩ := wX_get h2
    dsimp only
    rw [h3]
    dsimp only
    unfold lput
    rw [h4]
    dsimp only
    rw [if_pos h5]
    exact h6
end
end Mi
end
section
set_option maxRecDepth 100000
set_option maxHeartbeats 2000000
set_option autoImplicit false
namespace Mi
open PySem
def optD : Option Int → D
  | some i => .int i
  | none => .non
/-- where a key leads -/
def ledP (p s t o : Int) : Option Int :=
  let f := p + s
  let f := if 0 < o ∧ f < 0 then f + o else if 0 < o ∧ t < f then f - o else f
  if 0 ≤ f ∧ f ≤ t then some f else none
theorem g_add {i j : Int} {M : Hs} : gAdd (.int i) (.int j) M = some (.int (i + j), M) := rfl
theorem g_sub {i j : Int} {M : Hs} : gSub (.int i) (.int j) M = some (.int (i - j), M) := rfl
theorem g_lt {i j : Int} {M : Hs} : gLt (.int i) (.int j) M = some (.bl (decide (i < j)), M) := rfl
theorem g_le {i j : Int} {M : Hs} : gLe (.int i) (.int j) M = some (.bl (decide (i ≤ j)), M) := rfl
theorem g_gt {i j : Int} {M : Hs} : gGt (.int i) (.int j) M = some (.bl (decide (j < i)), M) := rfl
theorem g_ge {i j : Int} {M : Hs} : gGe (.int i) (.int j) M = some (.bl (decide (j ≤ i)), M) := rfl
theorem g_mod {i j : Int} {M : Hs} (h : 0 < j) : gMod (.int i) (.int j) M = some (.int (i % j), M) := by unfold gMod gI; simp [h]
theorem g_div {i j : Int} {M : Hs} (h : 0 < j) (h2 : j < 1073741824) : gDiv (.int i) (.int j) M = some (.int (i / j), M) := by unfold gDiv gI; simp [h, h2]
theorem g_mul {i j : Int} {M : Hs} (h : inW j = true) : gMul (.int i) (.int j) M = some (.int (i * j), M) := by unfold gMul gI; simp [h]
theorem g_int {i : Int} {M : Hs} : gInt [.int i] M = some (.int i, M) := rfl
theorem g_intb {b : Bool} {M : Hs} : gInt [.bl b] M = some (.int (if b then 1 else 0), M) := rfl
theorem g_max {i j : Int} {M : Hs} : gMax2 [.int i, .int j] M = some (.int (if j > i then j else i), M) := rfl
theorem atI_nat {xs : List D} {i : Nat} {k : Int} {d : D} (hd : xs[i]? = some d) (hk : k = (i : Int)) : L2.atI xs k = some d := by
  have hl := (List.getElem?_eq_some_iff.mp hd).1
  subst hk
  unfold L2.atI L2.ixN
  rw [if_pos (by omega), if_pos (by omega)]
  simpa using hd
theorem g_ixL {M : Hs} {n : Nat} {xs : List D} {i : Nat} {k : Int} {d : D} (h : M[n]? = some (.lst xs)) (hd : xs[i]? = some d) (hk : k = (i : Int) := by rfl) : gIxA (.ref n) (.int k) M = some (d, M) := by
  have e : gIxA (.ref n) (.int k) M = gIx (.ref n) (.int k) M := by simp [gIxA, hDct, h]
  rw [e]
  unfold gIx
  have e2 : hSeq M (.ref n) = some xs := by simp [hSeq, h]
  rw [e2]
  dsimp only
  rw [atI_nat hd hk]
theorem g_ixT {M : Hs} {xs : List D} {i : Nat} {k : Int} {d : D} (hd : xs[i]? = some d) (hk : k = (i : Int) := by rfl) : gIxA (.tup xs) (.int k) M = some (d, M) := by
  show gIx (.tup xs) (.int k) M = _
  unfold gIx
  have e2 : hSeq M (.tup xs) = some xs := rfl
  rw [e2]
  dsimp only
  rw [atI_nat hd hk]
end Mi
end
section
set_option maxRecDepth 100000
set_option maxHeartbeats 2000000
set_option autoImplicit false
namespace Mi
open PySem

abbrev Sp2 := Int × Int
abbrev Tr3 := Int × Int × Int
def trD (t : Tr3) : D := .tup [.int t.1, .int t.2.1, .int t.2.2]
def setD (xs : List Sp2) : List (D × D) := xs.map fun p => (prD p, .bl true)
def kyP (p : Sp2) : NestedKey := .tup [.num p.1, .num p.2]
def addS (xs : List Sp2) (p : Sp2) : List Sp2 := if p ∈ xs then xs else xs ++ [p]
theorem nkey_prD (p : Sp2) : nkey (prD p) = some (kyP p) := by simp [prD, nkey, nkeys, kyP]
theorem kyP_inj {p q : Sp2} (h : kyP p = kyP q) : p = q := by
  unfold kyP at h
  simp at h
  exact Prod.ext h.1 h.2
theorem keyOf_prD (p : Sp2) : keyOf (prD p) = some (kyP p) := by
  have h1 : isTupD (prD p) = true := rfl
  have h2 : (kyP p).depth ≤ 8 := by simp [kyP, NestedKey.depth, NestedKey.depthAll]
  unfold keyOf
  rw [if_pos h1, nkey_prD]
  dsimp only
  rw [if_pos h2]
theorem dGet_setD (xs : List Sp2) (p : Sp2) : (dGet (setD xs) (kyP p)).isSome = decide (p ∈ xs) := by
  unfold dGet setD
  induction xs with
  | nil => rfl
  | cons x xs ih =>
    rw [List.map_cons, List.find?_cons]
    by_cases h : x = p
    · subst h
      simp [nkey_prD]
    · have h2 : decide (nkey (prD x) = some (kyP p)) = false := decide_eq_false (by rw [nkey_prD]; exact fun e => h (kyP_inj (Option.some.inj e)))
      simp only [h2]
      rw [ih]
      have h3 : p ≠ x := Ne.symm h
      simp [h3]
theorem dPut_setD (xs : List Sp2) (p : Sp2) : dPut (setD xs) (kyP p) (prD p) (.bl true) = setD (addS xs p) := by
  unfold dPut addS
  rw [dGet_setD]
  by_cases h : p ∈ xs
  · rw [if_pos (by simpa using h), if_pos h]
    unfold setD
    rw [List.map_map]
    apply List.map_congr_left
    intro q _
    simp only [Function.comp]
    split <;> rfl
  · rw [if_neg (by simpa using h), if_neg h]
    simp [setD]
theorem g_inS {k : Bool → Bool} {n : Nat} {p : Sp2} {xs : List Sp2} {M : Hs} (h : M[n]? = some (.dct (setD xs))) : gInA k (prD p) (.ref n) M = some (.bl (k (decide (p ∈ xs))), M) := by
  have e : hDct M n = some (setD xs) := by unfold hDct; rw [h]
  unfold gInA
  dsimp only
  rw [e]
  dsimp only
  rw [keyOf_prD]
  dsimp only
  rw [dGet_setD]
theorem g_putS {n : Nat} {p : Sp2} {xs : List Sp2} {M : Hs} (h : M[n]? = some (.dct (setD xs))) (hl : xs.length < sizeLine) : gPutA (.ref n) (prD p) (.bl true) M = some (M.set n (.dct (setD (addS xs p)))) := by
  have e : hDct M n = some (setD xs) := by unfold hDct; rw [h]
  unfold gPutA
  dsimp only
  rw [e]
  dsimp only
  rw [keyOf_prD]
  dsimp only
  rw [if_pos (by unfold setD; rw [List.length_map]; exact hl), dPut_setD]
theorem mem_addS {xs : List Sp2} {p q : Sp2} : q ∈ addS xs p ↔ q ∈ xs ∨ q = p := by
  unfold addS
  split
  · rename_i h
    constructor
    · exact .inl
    · rintro (h1 | rfl)
      · exact h1
      · exact h
  · simp
theorem nodup_addS {xs : List Sp2} {p : Sp2} (h : xs.Nodup) : (addS xs p).Nodup := by
  unfold addS
  split
  · exact h
  · rename_i hp
    rw [List.nodup_append]
    exact ⟨h, by simp, fun a ha b hb e => by simp at hb; subst hb; subst e; exact hp ha⟩
def Fr (S : Nat → Prop) (M M' : Hs) : Prop := M.length ≤ M'.length ∧ ∀ n, n < M.length → ¬ S n → M'[n]? = M[n]?
def No : Nat → Prop := fun _ => False
theorem Fr.refl (S : Nat → Prop) (M : Hs) : Fr S M M := ⟨Nat.le_refl _, fun _ _ _ => rfl⟩
theorem Fr.trans {S : Nat → Prop} {M M1 M2 : Hs} (a : Fr S M M1) (b : Fr S M1 M2) : Fr S M M2 := ⟨Nat.le_trans a.1 b.1, fun n h s => (b.2 n (Nat.lt_of_lt_of_le h a.1) s).trans (a.2 n h s)⟩
theorem Fr.imp {S T : Nat → Prop} {M M' : Hs} (a : Fr S M M') (h : ∀ n, n < M.length → S n → T n) : Fr T M M' := ⟨a.1, fun n hl t => a.2 n hl fun s => t (h n hl s)⟩
theorem Fr.push {S : Nat → Prop} (M : Hs) (o : List MO) : Fr S M (M ++ o) := ⟨by simp, fun n h _ => List.getElem?_append_left h⟩
theorem Fr.set {S : Nat → Prop} {M : Hs} {n : Nat} {o : MO} (h : S n) : Fr S M (M.set n o) := ⟨by simp, fun m _ s => List.getElem?_set_ne fun e => s (by rw [← e]; exact h)⟩
theorem Fr.setHi {S : Nat → Prop} {M M' : Hs} {n : Nat} {o : MO} (a : Fr S M M') (h : M.length ≤ n) : Fr S M (M'.set n o) := ⟨by simpa using a.1, fun m hl s => by rw [List.getElem?_set_ne (by omega)]; exact a.2 m hl s⟩
theorem Fr.pushHi {S : Nat → Prop} {M M' : Hs} {o : List MO} (a : Fr S M M') : Fr S M (M' ++ o) := a.trans (Fr.push M' o)
theorem Fr.get {S : Nat → Prop} {M M' : Hs} (a : Fr S M M') {n : Nat} {o : MO} (h : M[n]? = some o) (s : ¬ S n) : M'[n]? = some o := (a.2 n (List.getElem?_eq_some_iff.mp h).1 s).trans h
theorem lt_of_get {M : Hs} {n : Nat} {o : MO} (h : M[n]? = some o) : n < M.length := (List.getElem?_eq_some_iff.mp h).1
theorem get_push {M : Hs} {o : MO} : (M ++ [o])[M.length]? = some o := by simp
theorem set_get {M : Hs} {n : Nat} {o u : MO} (h : M[n]? = some u) : (M.set n o)[n]? = some o := List.getElem?_set_self (lt_of_get h)
theorem srt_ext {xs ys : List Sp2} (h1 : xs.Nodup) (h2 : ys.Nodup) (h : ∀ p, p ∈ xs ↔ p ∈ ys) : srtB SrtO.lexB xs = srtB SrtO.lexB ys := by
  have p : xs.Perm ys := (List.perm_ext_iff_of_nodup h1 h2).mpr h
  exact SrtO.stb_uniq swo_P (srtB_srtd swo_P _) (srtB_srtd swo_P _) (stb_perm eq_P ((srtB_perm _ xs).trans (p.trans (srtB_perm _ ys).symm)))
theorem srt_mem {xs : List Sp2} {p : Sp2} : p ∈ srtB SrtO.lexB xs ↔ p ∈ xs := (srtB_perm _ xs).mem_iff
theorem pd_prD (M : Hs) (n : Nat) (p : Sp2) : toPD M (n + 2) (prD p) = some (.tuple [.int p.1, .int p.2]) := by simp [prD, toPD, mapO]
def pdP (p : Sp2) : PyData := .tuple [.int p.1, .int p.2]
theorem pd_prDs (M : Hs) (n : Nat) : ∀ xs : List Sp2, mapO (toPD M (n + 2)) (xs.map prD) = some (xs.map pdP)
  | [] => rfl
  | x :: xs => by
    rw [List.map_cons, List.map_cons]
    unfold mapO
    rw [pd_prD, pd_prDs M n xs]
    rfl
theorem pd_ref (M : Hs) (n m : Nat) (xs : List D) (h : M[m]? = some (.lst xs)) : toPD M (n + 1) (.ref m) = (match mapO (toPD M n) xs with
    | some ps => some (.list ps)
    | none => none) := by
  have e : toPD M (n + 1) (.ref m) = (match M[m]? with
    | some (.lst xs) => (match mapO (toPD M n) xs with
      | some ps => some (.list ps)
      | none => none)
    | some (.ro xs) => (match mapO (toPD M n) xs with
      | some ps => some (.list ps)
      | none => none)
    | _ => none) := rfl
  rw [e, h]
theorem pd_lstP {M : Hs} {n : Nat} {xs : List Sp2} (h : M[n]? = some (.lst (xs.map prD))) : toPD M deep (.ref n) = some (.list (xs.map pdP)) := by
  have e : deep = 11 + 1 := rfl
  rw [e, pd_ref M 11 n _ h, pd_prDs M 9 xs]
theorem shaped_ps (xs : List Sp2) : SeqAt.shaped (.list (xs.map pdP)) = true := by
  have h1 : PyData.canLayAll0 (xs.map pdP) = true := by
    induction xs with
    | nil => rfl
    | cons x xs ih => simp [PyData.canLayAll0, PyData.canLay0, pdP, ih]
  have h2 : PyData.depthAll (xs.map pdP) ≤ 3 := by
    induction xs with
    | nil => simp [PyData.depthAll]
    | cons x xs ih =>
      have h1' : PyData.canLayAll0 (xs.map pdP) = true := by
        simp [PyData.canLayAll0, PyData.canLay0, pdP] at h1
        exact h1
      have := ih h1'
      simp [PyData.depthAll, PyData.depth, pdP]
      omega
  unfold SeqAt.shaped
  simp [PyData.canLay0, PyData.depth, h1]
  omega
theorem eqv_ps : ∀ (xs ys : List Sp2), PyData.eqv (.list (xs.map pdP)) (.list (ys.map pdP)) = decide (xs = ys) := by
  have key : ∀ (xs ys : List Sp2), PyData.eqvAll (xs.map pdP) (ys.map pdP) = decide (xs = ys) := by
    intro xs
    induction xs with
    | nil => intro ys; cases ys <;> simp [PyData.eqvAll]
    | cons x xs ih =>
      intro ys
      cases ys with
      | nil => simp [PyData.eqvAll]
      | cons y ys =>
        obtain ⟨x1, x2⟩ := x
        obtain ⟨y1, y2⟩ := y
        simp [PyData.eqvAll, PyData.eqv, pdP, ih]
        by_cases h1 : x1 = y1 <;> by_cases h2 : x2 = y2 <;> by_cases h3 : xs = ys <;> simp [h1, h2, h3]
  intro xs ys
  simp only [PyData.eqv]
  exact key xs ys
theorem g_neP {m n : Nat} {xs ys : List Sp2} {M : Hs} (h1 : M[m]? = some (.lst (xs.map prD))) (h2 : M[n]? = some (.lst (ys.map prD))) : gNe (.ref m) (.ref n) M = some (.bl (!decide (xs = ys)), M) := by
  unfold gNe gEqB
  rw [pd_lstP h1, pd_lstP h2]
  dsimp only
  rw [shaped_ps, shaped_ps, eqv_ps]
  rfl
theorem pairsD_map : ∀ xs : List Sp2, pairsD (xs.map prD) = some xs
  | [] => rfl
  | (a, b) :: xs => by
    rw [List.map_cons]
    show (match pairsD (xs.map prD) with | some ps => some ((a, b) :: ps) | none => none) = _
    rw [pairsD_map xs]
theorem intsOf_prD {xs : List Sp2} (h : xs ≠ []) : intsOf (xs.map prD) = none := by
  cases xs with
  | nil => exact absurd rfl h
  | cons x xs => rfl
theorem g_sortedP {n : Nat} {xs : List Sp2} {M : Hs} (h : itemsA M (.ref n) = some (xs.map prD)) : gSorted [.ref n] M = some (.ref M.length, M ++ [.lst ((srtB SrtO.lexB xs).map prD)]) := by
  unfold gSorted
  dsimp only
  rw [h]
  dsimp only
  cases xs with
  | nil => rfl
  | cons x xs =>
    rw [intsOf_prD (by simp)]
    dsimp only
    rw [pairsD_map]
theorem items_lst {n : Nat} {xs : List D} {M : Hs} (h : M[n]? = some (.lst xs)) : itemsA M (.ref n) = some xs := by
  have e : hSeq M (.ref n) = some xs := by simp [hSeq, h]
  unfold itemsA
  rw [e]
theorem items_set {n : Nat} {xs : List Sp2} {M : Hs} (h : M[n]? = some (.dct (setD xs))) : itemsA M (.ref n) = some (xs.map prD) := by
  have e : hSeq M (.ref n) = none := by simp [hSeq, h]
  have e2 : hDct M n = some (setD xs) := by unfold hDct; rw [h]
  unfold itemsA
  rw [e]
  dsimp only
  rw [e2]
  simp [setD]
end Mi
end
section
set_option maxRecDepth 100000
set_option maxHeartbeats 4000000
set_option autoImplicit false
namespace Mi
open PySem PySem.Spec PyProof.Rows L2

theorem len_in {α : Type} : ∀ {l m : List α}, l.Nodup → (∀ x ∈ l, x ∈ m) → l.length ≤ m.length
  | [], _, _, _ => Nat.zero_le _
  | x :: l, m, hn, hs => by
    obtain ⟨h1, h2⟩ := List.nodup_cons.mp hn
    obtain ⟨m1, m2, rfl⟩ := List.append_of_mem (hs x List.mem_cons_self)
    have := len_in (l := l) (m := m1 ++ m2) h2 fun y hy => by
      rcases List.mem_append.mp (hs y (List.mem_cons_of_mem _ hy)) with h | h
      · exact List.mem_append_left _ h
      · rcases List.mem_cons.mp h with e | h
        · subst e; exact absurd hy h1
        · exact List.mem_append_right _ h
    simp only [List.length_append, List.length_cons] at this ⊢
    omega
abbrev AL := List (Addr × List Int)
section
variable {P : Program} {w : World} {A : Around} {E : Value → Shared → Prop}
/-- the loop of set.update over things of few keys: what is wanted at its end -/
structure Fil (P : Program) (w : World) (G : Array GenState → Array GenState → Prop) (wr : List Addr) (a : Addr) (ks : AL) (hp : Heap) (t0 t : Shared) : Prop where
  mv : Moved (a :: wr) G t0 t
  st : ∃ L es ep tb, SetTR P w t.heap a L es ep tb ∧ Got ks ks.length L
  kp : ∀ b o, hp.get? b = some o → t.heap.get? b = some o
theorem fill_go {I : Addr} {fp wr : List Addr} {G : Array GenState → Array GenState → Prop} {Pv : Nat → Value → Prop} {St : Nat → Shared → Prop} {R : Result → Shared → Prop} {ks : AL} {U : List (List Int)}
    (W : WalksS P w A.in1 I fp wr G ks.length Pv St) {a : Addr} (ha : a ∉ fp) (hU : U.length < 63) (hin : ∀ p ∈ ks, p.2 ∈ U) (hv : ∀ i v, Pv i v → ∃ p, ks[i]? = some p ∧ v = .ref p.1)
    {hp : Heap} (hk : ∀ p ∈ ks, IsT P w hp p.2 p.1) (ha0 : hp.get? a = none) (hw0 : ∀ b ∈ wr, hp.get? b = none) (hu : A.in1.units < cLine) :
    ∀ (m i : Nat) (t : Shared), i + m = ks.length → St i t → (∀ b o, hp.get? b = some o → t.heap.get? b = some o) → (∃ L es ep tb, SetTR P w t.heap a L es ep tb ∧ Got ks i L) →
      (∀ t', Fil P w G wr a ks hp t t' → R (.ok (.ret .none)) t') → codeAny (model P w) A (.builtin "set.update.loop" ⟨[.ref a, .ref I], []⟩) R t
  | m, i, t, him, hst, hkp, ⟨L, es, ep, tb, hS, g⟩, hR => by
    have up : ∀ b ∈ wr, b ∈ a :: wr := fun b hb => List.mem_cons_of_mem _ hb
    have kept : ∀ {t' : Shared}, Moved wr G t t' → ∀ b o, hp.get? b = some o → t'.heap.get? b = some o := fun mv b o e => mv.heap b o (fun hb => nomatch (hw0 b hb).symm.trans e) (hkp b o e)
    have haw : a ∉ wr := fun z => ha (W.sub _ z)
    have inK : ∀ p ∈ L, p ∈ ks := fun p h => List.mem_of_mem_take (g.sub p h)
    have old : ∀ {t' : Shared}, Moved wr G t t' → SetTR P w t'.heap a L es ep tb := fun mv => hS.keep (fun o e => mv.heap a o haw e) fun p h => isT_keep (hk p (inK p h)) (kept mv)
    refine codeAny_builtin F.entry_set_update_loop ?_
    rw [Around.under_plainId F.plain_set_update_loop _]
    show wpAny _ A.in1 (pyNext (.ref I) >>= _) _ _ t
    match m, him with
    | 0, him =>
      have e : i = ks.length := him
      subst e
      refine wpAny_bind (W.done t _ _ hst fun t' mv => ?_)
      show wpAny _ A.in1 (ret Value.none) _ _ t'
      exact wpAny_pure (hR t' ⟨mv.mono up, ⟨L, es, ep, tb, old mv, g⟩, kept mv⟩)
    | m + 1, him =>
      refine wpAny_bind (W.item i t _ _ (by omega) hst fun v t' hPv hst' mv => ?_)
      obtain ⟨p, hp', rfl⟩ := hv i v hPv
      have hpk := List.mem_of_getElem? hp'
      have isx : IsT P w t'.heap p.2 p.1 := isT_keep (hk p hpk) (kept mv)
      have S1 : SetTR P w t'.heap a L es ep tb := old mv
      have few : L.length < 63 := by
        have h1 := len_in hS.nd (m := U) fun k hk' => by
          obtain ⟨q, hq, rfl⟩ := List.mem_map.mp hk'
          exact hin q (inK q hq)
        rw [List.length_map] at h1
        omega
      show wpAny _ A.in1 (holding [Value.ref p.1] (setAdd a (.ref p.1)) >>= _) _ _ t'
      refine wpAny_bind (wpAny_holding ?_)
      unfold setAdd
      refine wpAny_holding (wpAny_bind (wpAny_pyHash_tuple hu isx ?_))
      refine add_at (s := { t' with toks := t'.toks + (p.2.length + 1) }) S1 isx hu (by omega) fun b h2 L2 es2 ep2 tb2 same S2 c1 c2 => ?_
      have g2 : Got ks (i + 1) L2 := by
        by_cases c : p.2 ∈ L.map (·.2)
        · rw [c1 c]; exact g.same hp' c
        · exact g.more hp' (c2 c)
      have kp2 : ∀ b o, hp.get? b = some o → h2.get? b = some o := fun b o e => (same.2 b (fun z => nomatch (z ▸ ha0).symm.trans e)).trans (kept mv b o e)
      refine wpAny_pure ⟨plainId_quiet F.plain_set_update_loop _, ?_⟩
      refine fill_go W ha hU hin hv hk ha0 hw0 hu m (i + 1) _ (by omega) (W.frame _ t' h2 _ hst' (Nat.le_add_right _ _) fun b hb o e => ?_) kp2 ⟨L2, es2, ep2, tb2, S2, g2⟩ fun t3 f3 => hR t3 ⟨?_, f3.st, f3.kp⟩
      · exact (same.2 b fun z => ha (z ▸ hb)).trans e
      · exact Moved.trans W.gtrans ((mv.mono up).then_heap (Nat.le_add_right _ _) fun b o hb e => (same.2 b fun z => hb (z ▸ List.mem_cons_self)).trans e) f3.mv
/-- set(xs) of a list of things of few keys -/
abbrev newSet (w : World) : Obj := { cls := .type "set", dict := none, data := .set #[] 0 (.fresh 0 0 (!w.params.followText "set-order")) }
abbrev itSet (w : World) (t : Shared) (l : Addr) : Shared := { t with heap := (t.heap.push (newSet w)).push { cls := .type "list_iterator", data := .fields #[.ref l, .int 0 0] } }
theorem hi_none {hp : Heap} {b : Addr} (h : hp.objs.size ≤ b) : hp.get? b = none := by
  cases q : hp.get? b with
  | none => rfl
  | some o => exact absurd (Heap.lt_size q) (Nat.not_lt.mpr h)
theorem set_walk {t : Shared} {l : Addr} {its : Array Value} {R : Result → Shared → Prop} {a : Addr} (e : a = t.heap.objs.size) (hh : A.handled = none) (hl : t.heap.IsList l its)
    (k : ∀ (G : Array GenState → Array GenState → Prop) (it : Addr) (Pv : Nat → Value → Prop) (St : Nat → Shared → Prop), it = (t.heap.push (newSet w)).objs.size → (∀ g g', G g g' → g = g') → WalksS P w A.in1 it [it, l] [it] G its.size Pv St → (∀ i v, Pv i v → its[i]? = some v) → a ∉ [it, l] → St 0 (itSet w t l) → (itSet w t l).heap.get? a = some (newSet w) →
      codeAny (model P w) A (.builtin "set.update.loop" ⟨[.ref a, .ref it], []⟩) R (itSet w t l)) : codeAny (model P w) A (.builtin "set.update.loop" ⟨[.ref a, .ref (t.heap.push (newSet w)).objs.size], []⟩) R (itSet w t l) := by
  subst e
  have hS : (t.heap.push (newSet w)).get? t.heap.objs.size = some (newSet w) := Heap.get?_push_size _ rfl
  have hz : (t.heap.push (newSet w)).objs.size = t.heap.objs.size + 1 := Heap.size_push ..
  obtain ⟨o, hol, hcl, nl, hdl⟩ := hl
  have hlt : l < t.heap.objs.size := Heap.lt_size hol
  have il : (t.heap.push (newSet w)).IsList l its := ⟨_, Heap.get?_push_of_some _ hol, hcl, nl, hdl⟩
  have hh3 : A.in1.handled = none := by simp [hh]
  have ne1 : l ≠ (t.heap.push (newSet w)).objs.size := by rw [hz]; exact Nat.ne_of_lt (Nat.lt_succ_of_lt hlt)
  have ne2 : t.heap.objs.size ∉ [(t.heap.push (newSet w)).objs.size, l] := by
    rw [hz]
    intro z
    rcases List.mem_cons.mp z with z | z
    · exact Nat.ne_of_lt (Nat.lt_succ_self _) z
    · exact Nat.ne_of_gt hlt (List.mem_singleton.mp z)
  exact k _ _ _ _ rfl (fun g g' h => h.symm) ((Walks.list hh3 _ l ne1 its).toS (prog := P) (w := w)) (fun i v hv => hv) ne2 ⟨⟨_, Heap.get?_push_size _ rfl, rfl, rfl⟩, il.push _⟩ (Heap.get?_push_of_some _ hS)
theorem set_fill {t : Shared} {l : Addr} {its : Array Value} {Mk : Heap → Prop} {Q : Value → Shared → Prop} (hl : t.heap.IsList l its)
    (go : ∀ R : Result → Shared → Prop, (∀ h2 k2, Mk h2 → R (.ok (.ret .none)) { t with heap := h2, toks := k2 }) → codeAny (model P w) A.in1 (.builtin "set.update.loop" ⟨[.ref t.heap.objs.size, .ref (t.heap.push (newSet w)).objs.size], []⟩) R (itSet w t l))
    (q : ∀ h2 k2, Mk h2 → Q .none { t with heap := h2, toks := k2 }) : wpAny (model P w) A.in1 (Builtin.«set.__init__» ⟨[.ref t.heap.objs.size, .ref l], []⟩)
      (fun fin s' => match fin with | .done f => wants Q E (.ok f) s' | .again c' => c'.quiet = true ∧ codeAny (model P w) A c' (wants Q E) s') (fun z s' => wants Q E (.error z) s') { t with heap := t.heap.push (newSet w) } := by
  obtain ⟨⟨oc, od, odt, osl⟩, hol, hcl, nl, hdl⟩ := hl
  simp only at hcl hdl
  subst hcl hdl
  have hol2 : (t.heap.push (newSet w)).get? l = some ⟨.type "list", od, .seq its nl, osl⟩ := Heap.get?_push_of_some _ hol
  have f1 := F.sub_list_set
  have f2 := F.sub_list_frozenset
  have f3 : (Value.type "list" == Value.type "dict") = false := by decide
  have il : (t.heap.push (newSet w)).IsList l its := ⟨_, hol2, rfl, nl, rfl⟩
  unfold Builtin.«set.__init__» noKeywords Builtin.Frozenset.updateFrom
  generalize hit : pyIter = it
  wp_walk
  subst hit
  refine wpAny_pyIter_list il (wpAny_bind (wpAny_runValue ?_))
  exact go _ fun h2 k2 m => wpAny_pure (wpAny_pure (q h2 k2 m))
theorem set_call {t : Shared} {l : Addr} {its : Array Value} {Mk : Heap → Prop} {Q : Value → Shared → Prop} (hl : t.heap.IsList l its)
    (go : ∀ R : Result → Shared → Prop, (∀ h2 k2, Mk h2 → R (.ok (.ret .none)) { t with heap := h2, toks := k2 }) → codeAny (model P w) A.in1.in1 (.builtin "set.update.loop" ⟨[.ref t.heap.objs.size, .ref (t.heap.push (newSet w)).objs.size], []⟩) R (itSet w t l))
    (q : ∀ (hp : Heap) (tk : Nat), Mk hp → Q (.ref t.heap.objs.size) { t with heap := hp, toks := tk }) : wpAny (model P w) A (call (.type "set") [.ref l]) Q E t := by
  obtain ⟨c, tl, m1⟩ := F.called_set.mro
  have m2 := F.called_set.made
  have m3 := F.called_set.sub
  have m4 := F.called_set.notType
  have m5 := F.called_set.canCreate
  have m6 := F.typeCall_set_1 (.ref l)
  refine wpAny_call (codeAny_of_tree ?_)
  show wpAny _ _ (callAny (.type "set") _) _ _ _
  refine wpAny_pure ⟨Code.quiet_builtin _ (by decide +kernel), codeAny_builtin F.entry_type_call ?_⟩
  rw [Around.under_plain (weight_type_call_type "set" [.ref l] []) rfl]
  repeat (any_goals (first | assumption | wp_step))
  refine codeAny_mono (code_set_led1 (.ref l) (E := E) (Q₁ := fun o t1 => o = .ref t.heap.objs.size ∧ t1 = { t with heap := t.heap.push (newSet w) }) ⟨rfl, rfl⟩) fun r1 t1 hr => ?_
  match r1, hr with
  | .error _, hr => exact hr
  | .ok (.ret o), hr =>
    obtain ⟨rfl, rfl⟩ := hr
    have hT : Shared.TypeIs { t with heap := t.heap.push (newSet w) } (.ref t.heap.objs.size) "set" := ⟨_, Heap.get?_push_size _ rfl, rfl⟩
    have m7 := F.called_set.init.lookup
    have m8 := F.called_set.init.bind (.ref t.heap.objs.size)
    repeat (any_goals (first | assumption | wp_step))
    refine codeAny_mono (codeAny_call_builtin (R := wants (fun r t2 => r = .none ∧ ∃ hp tk, t2 = { t with heap := hp, toks := tk } ∧ Mk hp) E) F.called_set.init.plain F.entry_set_init (check_set_init_1 hT ?_)) fun r2 t2 hr2 => ?_
    · exact set_fill hl go fun h2 k2 m => ⟨rfl, h2, k2, rfl, m⟩
    · match r2, hr2 with
      | .error _, hr2 => exact hr2
      | .ok (.ret r), hr2 =>
        obtain ⟨rfl, hp, tk, rfl, m⟩ := hr2
        repeat (any_goals (first | assumption | wp_step))
        exact q hp tk m
end
def unq {α : Type} [DecidableEq α] : List α → List α
  | [] => []
  | x :: xs => if x ∈ unq xs then unq xs else x :: unq xs
theorem mem_unq {α : Type} [DecidableEq α] {x : α} : ∀ {xs : List α}, x ∈ unq xs ↔ x ∈ xs
  | [] => Iff.rfl
  | y :: ys => by
    have ih := mem_unq (x := x) (xs := ys)
    unfold unq
    split
    · rename_i h
      rw [ih, List.mem_cons]
      constructor
      · exact .inr
      · rintro (rfl | h2)
        · exact mem_unq.mp h
        · exact h2
    · rw [List.mem_cons, List.mem_cons, ih]
theorem nd_unq {α : Type} [DecidableEq α] : ∀ xs : List α, (unq xs).Nodup
  | [] => List.nodup_nil
  | x :: xs => by
    unfold unq
    split
    · exact nd_unq xs
    · rename_i h
      exact List.nodup_cons.mpr ⟨h, nd_unq xs⟩
abbrev T3 := Int × Int × Int
def tr3 (t : T3) : D := .tup [.int t.1, .int t.2.1, .int t.2.2]
def lt3 (x y : T3) : Bool := decide (x.1 < y.1 ∨ x.1 = y.1 ∧ (x.2.1 < y.2.1 ∨ x.2.1 = y.2.1 ∧ x.2.2 < y.2.2))
theorem swo_3 : SrtO.Swo lt3 := by
  refine ⟨fun x y h => ?_, fun x y z h1 h2 => ?_⟩
  · unfold lt3 at *
    have a := of_decide_eq_true h
    exact decide_eq_false (by omega)
  · unfold lt3 at *
    have a := of_decide_eq_false h1
    have b := of_decide_eq_false h2
    exact decide_eq_false (by omega)
theorem eq_3 (x y : T3) (h : SrtO.eqv lt3 x y = true) : y = x := by
  obtain ⟨h1, h2⟩ := SrtO.eqv_iff.mp h
  unfold lt3 at h1 h2
  have a := of_decide_eq_false h1
  have b := of_decide_eq_false h2
  obtain ⟨x1, x2, x3⟩ := x
  obtain ⟨y1, y2, y3⟩ := y
  dsimp only at a b
  simp only [Prod.mk.injEq]
  omega
def t3s : List D → Option (List T3)
  | [] => some []
  | .tup [.int i, .int j, .int k] :: r => match t3s r with
    | some ps => some ((i, j, k) :: ps)
    | none => none
  | _ => none
theorem t3s_ok : ∀ {xs : List D} {ps : List T3}, t3s xs = some ps → xs = ps.map tr3
  | [], ps, h => by cases h; rfl
  | x :: xs, ps, h => by
    unfold t3s at h
    split at h
    · rename_i e; cases e
    · rename_i i j k r e
      cases e
      split at h
      · rename_i qs hq
        cases h
        rw [t3s_ok hq]
        rfl
      · cases h
    · cases h
def smallT (t : T3) : Bool := decide (0 ≤ t.1 ∧ t.1 < 64 ∧ 0 ≤ t.2.1 ∧ t.2.1 < 64 ∧ 0 ≤ t.2.2 ∧ t.2.2 < 64)
/-- sorted(set(xs)): ints, or triples of small ints -/
def gSortSet : GL := fun ds M => match ds with
  | [.ref n] => match hSeq M (.ref n) with
    | some xs => match intsOf xs with
      | some is => if is.length < 63 then some (.ref M.length, M ++ [.lst ((srtB ltI (unq is)).map D.int)]) else none
      | none => match t3s xs with
        | some ts => if (ts.all smallT && decide ((unq ts).length < 63)) = true then some (.ref M.length, M ++ [.lst ((srtB lt3 (unq ts)).map tr3)]) else none
        | none => none
    | none => none
  | _ => none
section
variable {X : Cx}
def rSetU (K : PySem.W.Frag) (P : Program) (w : World) : List V → Hp → VK → Prop := fun xs H Q => ∃ (l : Addr) (ks : AL) (U : List (List Int)), xs = [V.ref l] ∧ SqL K H l (ks.map fun p => V.ref p.1) ∧ (∀ p ∈ ks, SqT K H p.1 (p.2.map V.int)) ∧ U.length < 63 ∧ (∀ p ∈ ks, p.2 ∈ U) ∧
  ∀ a L, H a = none → (∀ p ∈ L, p ∈ ks) → (∀ p ∈ ks, p.2 ∈ L.map (·.2)) → Q (.ref a) (upd H a (SetTO P w a L))
theorem cr_setU (hc : X.calm = true) (hu : X.A.units + 64 < cLine) : CallR X (.type "set") (rSetU X.K X.prog X.w) := by
  intro pins s σ H xs us Q I r h
  obtain ⟨l, ks, U, rfl, hl, hk, hU, hin, q⟩ := h
  rw [Vals.ref1 r]
  obtain ⟨its, rv, pl, hz⟩ := I.list hl
  have isT : ∀ p ∈ ks, IsT X.prog X.w s.heap p.2 p.1 := fun p hp => I.isT (hk p hp)
  have et : its.toArray.toList = ks.map fun p => Value.ref p.1 := by simpa using refs_of_vals rv
  have hsz : its.toArray.size = ks.length := by rw [← Array.length_toList, et, List.length_map]
  refine set_call (Mk := fun hp => (∃ L es ep tb, SetTR X.prog X.w hp s.heap.objs.size L es ep tb ∧ Got ks ks.length L) ∧ ∀ b o, s.heap.get? b = some o → hp.get? b = some o) pl.isList (fun R hR => ?_) fun hp tk m => ?_
  · refine set_walk rfl (by simp [I.ok.hd hc]) pl.isList fun G it Pv St eit eG W0 hv hne st0 hget => ?_
    rw [hsz] at W0
    refine fill_go W0 hne hU hin (fun i v hP => ?_) isT (hi_none (Nat.le_refl _)) (fun b hb => hi_none ?_) (show X.A.units + 3 < cLine by omega) ks.length 0 _ (Nat.zero_add _) st0 (fun b o z => Heap.get?_push_of_some _ (Heap.get?_push_of_some _ z)) ⟨[], #[], 0, _, setTR_fresh hget, Got.zero ks⟩ fun t' f => ?_
    · have h1 : its.toArray.toList[i]? = some v := by rw [Array.getElem?_toList]; exact hv i v hP
      rw [et, List.getElem?_map] at h1
      cases h2 : ks[i]? with
      | none => rw [h2] at h1; cases h1
      | some p => rw [h2] at h1; exact ⟨p, rfl, (Option.some.inj h1).symm⟩
    · rw [List.mem_singleton.mp hb, eit, Heap.size_push]
      exact Nat.le_succ _
    · obtain ⟨h2, g2, d2, k2, o2⟩ := t'
      have e1 : g2 = s.gens := (eG _ _ f.mv.gens).symm
      have e2 : d2 = s.drawn := f.mv.drawn
      have e3 : o2 = s.os := f.mv.os
      subst e1 e2 e3
      exact hR h2 k2 ⟨f.st, f.kp⟩
  · obtain ⟨⟨L, es, ep, tb, h1, g⟩, h2⟩ := m
    exact ⟨.ref s.heap.objs.size, upd H s.heap.objs.size (SetTO X.prog X.w s.heap.objs.size L), I.laid (t' := tk) h2 (Nat.le_refl _) (setTO_new h1.t0), rfl, q _ L (I.hok.fresh (Nat.le_refl _)) (fun p hp => List.mem_of_mem_take (g.sub p hp)) fun p hp => g.all p (by rw [List.take_length]; exact hp)⟩
def rSetI (K : PySem.W.Frag) (w : World) : List V → Hp → VK → Prop := fun xs H Q => ∃ (l : Addr) (ns : List Int), xs = [V.ref l] ∧ SqL K H l (ns.map V.int) ∧ ns.length < 63 ∧ ∀ a c, H a = none → c ≤ ns.length → Q (.ref a) (upd H a (SetO w a (fun j => decide (j ∈ ns)) c))
theorem cr_setI (hc : X.calm = true) : CallR X (.type "set") (rSetI X.K X.w) := by
  intro pins s σ H xs us Q I r h
  obtain ⟨l, ns, rfl, hl, hn, q⟩ := h
  rw [Vals.ref1 r]
  obtain ⟨its, rv, pl, hz⟩ := I.list hl
  have hi : IntsAre its.toArray.toList ns := by simpa using ints_of_vals rv
  have hsz : its.toArray.size = ns.length := by rw [← Array.length_toList]; exact hi.length
  refine set_call (Mk := fun hp => (∃ c, c ≤ ns.length ∧ SetR X.w hp s.heap.objs.size (fun j => decide (j ∈ ns)) c) ∧ ∀ b o, s.heap.get? b = some o → hp.get? b = some o) pl.isList (fun R hR => ?_) fun hp tk m => ?_
  · refine set_walk rfl (by simp [I.ok.hd hc]) pl.isList fun G it Pv St eit eG W0 hv hne st0 hget => ?_
    rw [hsz] at W0
    refine set_update_ints W0 s.heap.objs.size hne ns rfl (by unfold scanBound; omega) (fun i v hP => ?_) ns.length 0 _ (by omega) (Nat.zero_le _) st0 ⟨0, Nat.le_refl _, setR_new_at hget⟩ fun t' c f hcn S' => ?_
    · have h1 : its.toArray.toList[i]? = some v := by rw [Array.getElem?_toList]; exact hv i v hP
      have hlt : i < ns.length := by have := (List.getElem?_eq_some_iff.mp h1).1; rw [hi.length] at this; exact this
      obtain ⟨t, ht⟩ := hi.get i _ (List.getElem?_eq_getElem hlt)
      rw [h1] at ht
      exact ⟨_, t, List.getElem?_eq_getElem hlt, Option.some.inj ht⟩
    · obtain ⟨h2, g2, d2, k2, o2⟩ := t'
      have e1 : g2 = s.gens := (eG _ _ f.gens).symm
      have e2 : d2 = s.drawn := f.drawn
      have e3 : o2 = s.os := f.os
      subst e1 e2 e3
      refine hR h2 k2 ⟨⟨c, hcn, S'⟩, fun b o z => f.heap b o (fun hb => ?_) (Heap.get?_push_of_some _ (Heap.get?_push_of_some _ z))⟩
      have hlt := Heap.lt_size z
      rcases List.mem_cons.mp hb with hb | hb
      · exact Nat.ne_of_lt hlt hb
      · rw [List.mem_singleton.mp hb, eit, Heap.size_push] at hlt
        exact Nat.lt_irrefl _ (Nat.lt_trans (Nat.lt_succ_self _) hlt)
  · obtain ⟨⟨c, hcn, h1⟩, h2⟩ := m
    exact ⟨.ref s.heap.objs.size, upd H s.heap.objs.size (SetO X.w s.heap.objs.size (fun j => decide (j ∈ ns)) c), I.laid (t' := tk) h2 (Nat.le_refl _) (setO_new h1), rfl, q _ c (I.hok.fresh (Nat.le_refl _)) hcn⟩
end
def t3L (t : T3) : List Int := [t.1, t.2.1, t.2.2]
theorem t3L_inj {a b : T3} (h : t3L a = t3L b) : a = b := by
  obtain ⟨a1, a2, a3⟩ := a
  obtain ⟨b1, b2, b3⟩ := b
  simp only [t3L, List.cons.injEq, and_true] at h
  simp only [Prod.mk.injEq]
  exact h
theorem rv_t3 {K : PySem.W.Frag} {H : Hp} {μ : List Addr} {t : T3} {v : V} (r : RV K H μ (tr3 t) v) : ∃ a, v = .ref a ∧ SqT K H a ((t3L t).map V.int) := by
  cases r with
  | tup g rs =>
    cases rs with
    | cons r1 rs => cases rs with
      | cons r2 rs => cases rs with
        | cons r3 rs => cases rs; cases r1; cases r2; cases r3; exact ⟨_, rfl, g⟩
theorem rv_of_t3 {K : PySem.W.Frag} {H : Hp} {μ : List Addr} {t : T3} {a : Addr} (g : SqT K H a ((t3L t).map V.int)) : RV K H μ (tr3 t) (.ref a) := .tup g (.cons (.int _) (.cons (.int _) (.cons (.int _) .nil)))
theorem rvs_t3 {K : PySem.W.Frag} {H : Hp} {μ : List Addr} : ∀ {ts : List T3} {vs : List V}, RVs K H μ (ts.map tr3) vs → ∃ ks : AL, vs = ks.map (fun p => V.ref p.1) ∧ ks.map (·.2) = ts.map t3L ∧ ∀ p ∈ ks, SqT K H p.1 (p.2.map V.int)
  | [], _, .nil => ⟨[], rfl, rfl, fun p h => by cases h⟩
  | t :: ts, _, .cons r rs => by
    obtain ⟨a, rfl, g⟩ := rv_t3 r
    obtain ⟨ks, rfl, h2, h3⟩ := rvs_t3 rs
    exact ⟨(a, t3L t) :: ks, rfl, by rw [List.map_cons, h2]; rfl, fun p hp => by
      rcases List.mem_cons.mp hp with rfl | hp
      · exact g
      · exact h3 p hp⟩
theorem code3 (t : T3) : TS.code 64 (t3L t) = t.1 * 4096 + t.2.1 * 64 + t.2.2 := by
  show t.1 * 64 ^ 2 + (t.2.1 * 64 ^ 1 + (t.2.2 * 64 ^ 0 + 0)) = _
  have e2 : (64 : Int) ^ 2 = 4096 := by decide
  have e1 : (64 : Int) ^ 1 = 64 := by decide
  have e0 : (64 : Int) ^ 0 = 1 := by decide
  rw [e2, e1, e0]
  omega
theorem sorted_t3 {L : List (List Int)} {ts : List T3} (hs : ∀ t ∈ ts, smallT t = true) (nd : L.Nodup) (hm : ∀ k, k ∈ L ↔ k ∈ ts.map t3L) (pw : L.Pairwise fun a b => TS.code 64 a ≤ TS.code 64 b) : L = (srtB lt3 (unq ts)).map t3L := by
  have ex : ∃ us : List T3, L = us.map t3L := by
    clear nd pw
    have : ∀ k ∈ L, ∃ t, k = t3L t := fun k hk => by
      obtain ⟨t, _, e⟩ := List.mem_map.mp ((hm k).mp hk)
      exact ⟨t, e.symm⟩
    clear hm
    induction L with
    | nil => exact ⟨[], rfl⟩
    | cons k L ih =>
      obtain ⟨us, e⟩ := ih fun k hk => this k (List.mem_cons_of_mem _ hk)
      obtain ⟨t, e2⟩ := this k List.mem_cons_self
      exact ⟨t :: us, by rw [e, e2]; rfl⟩
  obtain ⟨us, rfl⟩ := ex
  have hmem : ∀ t, t ∈ us ↔ t ∈ ts := fun t => by
    have h := hm (t3L t)
    constructor
    · intro ht
      obtain ⟨u, hu, e⟩ := List.mem_map.mp (h.mp (List.mem_map.mpr ⟨t, ht, rfl⟩))
      rw [← t3L_inj e]; exact hu
    · intro ht
      obtain ⟨u, hu, e⟩ := List.mem_map.mp (h.mpr (List.mem_map.mpr ⟨t, ht, rfl⟩))
      rw [← t3L_inj e]; exact hu
  have ndu : us.Nodup := by
    refine (List.pairwise_map.mp nd).imp ?_
    intro a b h e
    exact h (by rw [e])
  congr 1
  refine SrtO.stb_uniq swo_3 ?_ (srtB_srtd swo_3 _) (stb_perm eq_3 (((List.perm_ext_iff_of_nodup ndu (nd_unq ts)).mpr fun t => by rw [hmem, mem_unq]).trans (srtB_perm lt3 _).symm))
  refine List.Pairwise.imp_of_mem (fun {a b} ha hb h => ?_) (List.pairwise_map.mp pw)
  have h1 := of_decide_eq_true (hs a ((hmem a).mp ha))
  have h2 := of_decide_eq_true (hs b ((hmem b).mp hb))
  rw [code3, code3] at h
  exact decide_eq_false (by omega)
theorem sorted_ints {L ns : List Int} (pw : L.Pairwise (· < ·)) (hm : ∀ k, k ∈ L ↔ k ∈ ns) : L = srtB ltI (unq ns) := by
  have nd : L.Nodup := pw.imp fun h e => by omega
  refine SrtO.stb_uniq swo_I ?_ (srtB_srtd swo_I _) (stb_perm eq_I (((List.perm_ext_iff_of_nodup nd (nd_unq ns)).mpr fun t => by rw [hm, mem_unq]).trans (srtB_perm ltI _).symm))
  exact pw.imp fun h => decide_eq_false (by omega)
section
variable {X : Cx} {Γ : Gm} {W : WX} {e : Expr} {fe : MX} {p p2 pos pos2 : Pos}
theorem ex_sset (hc : X.calm = true) (hu : X.A.units + 64 < cLine) (he : EX X Γ W e fe) (hm : X.mg "sorted" = none) (hm2 : X.mg "set" = none) (hg : Gl X "sorted" := by rfl) (hg2 : Gl X "set" := by rfl)
    (h1 : starEach [Expr.Call (.Name "set" p2) [e] [] pos2] X.env = (false, eval (.Call (.Name "set" p2) [e] [] pos2) X.env) :: starEach [] X.env := by rfl) (h2 : starEach [e] X.env = (false, eval e X.env) :: starEach [] X.env := by rfl) :
    EX X Γ W (.Call (.Name "sorted" p) [.Call (.Name "set" p2) [e] [] pos2] [] pos) (xB gSortSet (aCons fe aNil)) := by
  have key : ∀ (r1 : List V → Hp → VK → Prop) (r2 : List V → Hp → VK → Prop), CallR X (.type "set") r1 → CallR X (.builtin "sorted") r2 → PE X (.Call (.Name "sorted" p) [.Call (.Name "set" p2) [e] [] pos2] [] pos) fun σ H Q => tX X.prog X.w X.K Γ W fe σ H fun v H1 => r1 [v] H1 fun y H2 => r2 [y] H2 Q :=
    fun r1 r2 c1 c2 => pe_callB c2 hg hm rfl (pa_cons (pe_callTy c1 hg2 hm2 rfl (pa_cons he pa_nil h2) (by decide) (by decide) h2) pa_nil h1) (by decide) (by decide) h1
  have all := key (fun vs H Q => rSetU X.K X.prog X.w vs H Q ∨ rSetI X.K X.w vs H Q) (fun vs H Q => rSortedT X.K X.prog X.w vs H Q ∨ rSortedSet X.w vs H Q) (fun pins s σ H xs us Q I r h => h.elim (cr_setU hc hu pins s σ H xs us Q I r) (cr_setI hc pins s σ H xs us Q I r)) (fun pins s σ H xs us Q I r h => h.elim (cr_sortedT hc pins s σ H xs us Q I r) (cr_sortedSet hc pins s σ H xs us Q I r))
  refine PE.imp all fun σ H Q ⟨ζ, M, μ, rr, h⟩ => ⟨ζ, M, μ, rr, ?_⟩
  unfold xB aCons aNil at h
  refine Pst.then (k := fun d M1 => R.of (gSortSet [d] M1)) (by
    cases hf : fe ζ M with
    | ok d M1 => rw [hf] at h; exact h
    | ex c fs M1 => rw [hf] at h; exact h
    | no => rw [hf] at h; exact h) fun v H1 d M1 μ1 nx rh rv h1 => ?_
  replace h1 := h1.of
  unfold gSortSet at h1
  split at h1
  · rename_i n e1
    cases e1
    split at h1
    · rename_i xs hx
      obtain ⟨l, vs, rfl, hs, r⟩ := hRef_ok rh hx rv
      split at h1
      · rename_i is hi
        split at h1
        · rename_i hl
          have ev := intsOf_ok hi r
          subst ev
          refine .inr ⟨l, is, rfl, hs, hl, fun a c ha hcn => .inr ⟨a, _, c, rfl, upd_same, by omega, fun ns q pw hk hlen hq => ?_⟩⟩
          have en := sorted_ints (ns := is) pw fun k => by rw [hk]; simp
          subst en
          have nx1 := Nx.fresh0 (μ := μ1) (u := SetO X.w a (fun j => decide (j ∈ is)) c) ha
          have rh2 := rh.fresh (u := SetO X.w a (fun j => decide (j ∈ is)) c) ha
          exact h1 _ _ _ (nx1.trans (Nx.fresh hq [q])) (rh2.alloc hq ⟨_, upd_same, RVs.ints _⟩) (.ref rh2.last)
        · exact h1.elim
      · split at h1
        · rename_i ts ht
          split at h1
          · rename_i hsm
            rw [Bool.and_eq_true, List.all_eq_true, decide_eq_true_eq] at hsm
            have ex := t3s_ok ht
            subst ex
            obtain ⟨ks, rfl, hk2, hk3⟩ := rvs_t3 r
            have hin : ∀ p ∈ ks, p.2 ∈ (unq ts).map t3L := fun p hp => by
              have : p.2 ∈ ks.map (·.2) := List.mem_map.mpr ⟨p, hp, rfl⟩
              rw [hk2] at this
              obtain ⟨t, h1, h2⟩ := List.mem_map.mp this
              exact List.mem_map.mpr ⟨t, mem_unq.mpr h1, h2⟩
            refine .inl ⟨l, ks, (unq ts).map t3L, rfl, hs, hk3, by rw [List.length_map]; exact hsm.2, hin, fun a L ha hL1 hL2 => .inl ?_⟩
            have nx1 := Nx.fresh0 (μ := μ1) (u := SetTO X.prog X.w a L) ha
            refine ⟨a, L, 3, 64, rfl, upd_same, fun p hp => nx1.sqT (hk3 p (hL1 p hp)), by decide, fun p hp => ?_, fun L' q pm nd hlt pw hq => ?_⟩
            · obtain ⟨t, h1, h2⟩ := List.mem_map.mp (hin p (hL1 p hp))
              have hst := of_decide_eq_true (hsm.1 t (mem_unq.mp h1))
              rw [← h2]
              refine ⟨rfl, ?_⟩
              intro i hi
              simp only [t3L, List.mem_cons, List.not_mem_nil, or_false] at hi
              rcases hi with rfl | rfl | rfl <;> omega
            · have hmem : ∀ k, k ∈ L'.map (·.2) ↔ k ∈ ts.map t3L := fun k => by
                rw [(pm.map (·.2)).mem_iff, ← hk2]
                constructor
                · intro hk
                  obtain ⟨p, hp, rfl⟩ := List.mem_map.mp hk
                  exact List.mem_map.mpr ⟨p, hL1 p hp, rfl⟩
                · intro hk
                  obtain ⟨p, hp, rfl⟩ := List.mem_map.mp hk
                  exact hL2 p hp
              have eL := sorted_t3 hsm.1 nd hmem (List.pairwise_map.mpr pw)
              have rl : RVs X.K (upd H1 a (SetTO X.prog X.w a L)) μ1 ((srtB lt3 (unq ts)).map tr3) (L'.map fun q => V.ref q.1) := by
                have go : ∀ {us : List T3} {L' : AL}, L'.map (·.2) = us.map t3L → (∀ p ∈ L', p ∈ ks) → RVs X.K (upd H1 a (SetTO X.prog X.w a L)) μ1 (us.map tr3) (L'.map fun q => V.ref q.1) := by
                  intro us
                  induction us with
                  | nil =>
                    intro L' e _
                    cases L' with
                    | nil => exact .nil
                    | cons p L' => simp at e
                  | cons u us ih =>
                    intro L' e hp
                    cases L' with
                    | nil => simp at e
                    | cons p L' =>
                      rw [List.map_cons, List.map_cons, List.cons.injEq] at e
                      refine .cons (rv_of_t3 ?_) (ih e.2 fun p hp' => hp p (List.mem_cons_of_mem _ hp'))
                      rw [← e.1]
                      exact nx1.sqT (hk3 p (hp p List.mem_cons_self))
                exact go eL fun p hp => hL1 p (pm.mem_iff.mp hp)
              have rh2 := rh.fresh (u := SetTO X.prog X.w a L) ha
              exact h1 _ _ _ (nx1.trans (Nx.fresh hq [q])) (rh2.alloc hq ⟨_, upd_same, rl.mono (Nx.fresh hq [q])⟩) (.ref rh2.last)
          · exact h1.elim
        · exact h1.elim
    · exact h1.elim
  · exact h1.elim
end
end Mi
end
section
set_option maxRecDepth 100000
set_option maxHeartbeats 4000000
set_option autoImplicit false
namespace Mi
open PySem PySem.Spec PyProof.Rows L2

section
variable {X : Cx} {Γ : Gm} {W : WX}
variable {elt tg iter tg1 iter1 : Expr} {ifs ifs1 : List Expr} {scope : Scope} {own : List (Str × Nat)} {pos : Pos} {s s1 : MY} {p p1 : Pt} {t t1 : MT} {f : MX} {vs1 : List Nat}
/-- an item and its test, told by what the block's end wants -/
theorem lcB_of {n : Nat} {D' : Addr} {σ σ0 : L2.St} {ζ : Sl} {M : Hs} {μ : List Addr} {H : Hp} {N : Hp → Prop} {C : R Unit → R D} {Q : VK} (rr : RR X.prog X.w X.K Γ μ H ζ M σ) (hn : μ[n]? = some D')
    (hC : ∀ r, C r = match r with | .ok _ M' => C (.ok () M') | _ => .no) (hN : ∀ M' μ' H', Nx μ H μ' H' → RH X.prog X.w X.K Γ μ' M' H' → Pst X.prog X.w X.K Γ (relV X.K) W σ0 μ' H' (C (.ok () M')) Q → N H')
    (h : Pst X.prog X.w X.K Γ (relV X.K) W σ0 μ H (C (lcB t f n ζ M)) Q) :
    tT X.prog X.w X.K Γ W0 t σ H fun b H6 => if b = true then tX X.prog X.w X.K Γ W0 f σ H6 fun y H7 => ∃ acc, H7 D' = some (.lst acc) ∧ acc.length < sizeLine ∧ N (upd H7 D' (.lst (acc ++ [y]))) else N H6 := by
  refine ⟨ζ, M, μ, rr, ?_⟩
  unfold lcB at h
  cases ht : t ζ M with
  | ex c fs M4 => rw [ht, hC] at h; exact h.elim
  | no => rw [ht, hC] at h; exact h.elim
  | ok b M4 =>
    rw [ht] at h
    intro b' H4 μ4 nx4 rh4 rb
    have rb : b = b' := rb
    subst rb
    have h4 := Pst.mono h nx4
    cases b with
    | false =>
      rw [if_neg Bool.false_ne_true]
      exact hN M4 μ4 H4 nx4 rh4 h4
    | true =>
      rw [if_pos rfl]
      refine ⟨ζ, M4, μ4, ⟨rr.sl.mono nx4, rh4⟩, ?_⟩
      simp only at h4
      cases hf : f ζ M4 with
      | ex c fs M5 => rw [hf, hC] at h4; exact h4.elim
      | no => rw [hf, hC] at h4; exact h4.elim
      | ok v M5 =>
        rw [hf] at h4
        intro z H5 μ5 nx5 rh5 rz
        have h5 := Pst.mono h4 nx5
        simp only at h5
        cases hput : lput n v M5 with
        | ex c fs M6 => rw [hput, hC] at h5; exact h5.elim
        | no => rw [hput, hC] at h5; exact h5.elim
        | ok u M6 =>
          rw [hput] at h5
          have hn5 := nx5.pre _ _ (nx4.pre _ _ hn)
          obtain ⟨acc, ha, hz, rh6, nx6⟩ := lput_ok rh5 hn5 rz hput
          exact ⟨acc, ha, hz, hN M6 μ5 _ ((nx4.trans nx5).trans nx6) rh6 (Pst.mono h5 nx6)⟩
theorem tLc2_of {vs : List Nat} {σ : L2.St} {H : Hp} {Q : VK} (hp : ∀ i ∈ p.slots, i ∈ vs) (hp1 : ∀ i ∈ p1.slots, i ∈ vs1) (hv : ∀ i ∈ vs1, i ∈ vs) (h : tX X.prog X.w X.K Γ W (xLc2 s vs p t s1 p1 vs1 t1 f) σ H Q) :
    tLc2 (iY X.prog X.w X.K Γ W s) (gP X.prog X.w X.K Γ p) (tT X.prog X.w X.K Γ W0 t) (iY X.prog X.w X.K Γ W0 s1) (gP X.prog X.w X.K Γ p1) (tT X.prog X.w X.K Γ W0 t1) (tX X.prog X.w X.K Γ W0 f) vs vs1 σ H Q := by
  obtain ⟨ζ, M, μ, rr, h⟩ := h
  refine ⟨ζ, M, μ, rr, Pst.then h fun J H1 yd M1 μ1 nx rh rv h1 => fun D' hD => ?_⟩
  have nx0 : Nx μ1 H1 (μ1 ++ [D']) (upd H1 D' (.lst [])) := Nx.fresh hD [D']
  have rh0 : RH X.prog X.w X.K Γ (μ1 ++ [D']) (M1 ++ [.lst []]) (upd H1 D' (.lst [])) := rh.alloc hD ⟨[], upd_same, .nil⟩
  refine ⟨fun i m H => ∃ M μ, Nx μ1 H1 μ H ∧ RH X.prog X.w X.K Γ μ M H ∧ μ[M1.length]? = some D' ∧
    Pst X.prog X.w X.K Γ (relV X.K) W σ μ H ((lcN yd.y p (lcB2 t s1 p1 vs1 t1 f M1.length) (wipeD ζ vs) m i M).bind fun _ M2 => .ok (.ref M1.length) M2) Q,
    ⟨yd.fuel, _, _, nx0, rh0, rh.last, Pst.mono h1 nx0⟩, ?_⟩
  rintro i m H2 ⟨M2, μ2, nx2, rh2, hn, h2⟩
  cases m with
  | zero => exact h2.elim
  | succ m =>
    obtain ⟨st, go⟩ := rv i H2 μ2 M2 nx2 rh2
    simp only [lcN] at h2
    split at h2
    · exact h2.elim
    · rename_i hy
      exact .inl ⟨st hy, h2 _ _ _ (Nx.refl _ _) rh2 (.ref hn)⟩
    · rename_i d hy
      obtain ⟨g1, g2⟩ := go d hy
      refine .inr ⟨g1, fun H' => ∃ M μ, Nx μ1 H1 μ H' ∧ RH X.prog X.w X.K Γ μ M H' ∧ μ[M1.length]? = some D' ∧
        Pst X.prog X.w X.K Γ (relV X.K) W σ μ H' ((lcN yd.y p (lcB2 t s1 p1 vs1 t1 f M1.length) (wipeD ζ vs) m (i + 1) M).bind fun _ M2 => .ok (.ref M1.length) M2) Q, fun H' q => ⟨m, Nat.lt_succ_self _, q⟩, fun x H3 hx => ?_⟩
      obtain ⟨μ3, nx3, rh3, rv3⟩ := g2 x H3 hx
      refine ⟨d, M2, μ3, rh3, rv3, ?_⟩
      split at h2
      · exact h2.elim
      · rename_i l hl
        rw [hl]
        intro l' br
        have hs : ∀ q ∈ l', q.1 ∈ vs := br_slots br fun q hq => hp _ (bindP_slots p hl q hq)
        refine ⟨(wipe_setAll hs).trans (wipe_wipe fun _ h => h), ?_⟩
        have sl3 : RSl X.K H3 μ3 (setAll (wipeD ζ vs) l) (setAll (wipe σ vs) l') := RSl.setAll br (((rr.sl.mono nx).mono (nx2.trans nx3)).wiped vs)
        have n3 := nx2.trans nx3
        have hn3 := nx3.pre _ _ hn
        have h3 := Pst.mono h2 nx3
        generalize setAll (wipeD ζ vs) l = ζ2 at sl3 h3 ⊢
        generalize setAll (wipe σ vs) l' = σ2 at sl3 ⊢
        refine ⟨ζ2, M2, μ3, ⟨sl3, rh3⟩, ?_⟩
        unfold lcB2 at h3
        cases ht : t ζ2 M2 with
        | ex c fs M4 => rw [ht] at h3; exact h3.elim
        | no => rw [ht] at h3; exact h3.elim
        | ok b M4 =>
          rw [ht] at h3
          intro b' H4 μ4 nx4 rh4 rb
          have rb : b = b' := rb
          subst rb
          have h4 := Pst.mono h3 nx4
          cases b with
          | false =>
            rw [if_neg Bool.false_ne_true]
            exact ⟨M4, μ4, n3.trans nx4, rh4, nx4.pre _ _ hn3, h4⟩
          | true =>
            rw [if_pos rfl]
            refine ⟨ζ2, M4, μ4, ⟨sl3.mono nx4, rh4⟩, ?_⟩
            simp only at h4
            cases hsrc : s1 ζ2 M4 with
            | ex c fs M5 => rw [hsrc] at h4; exact h4.elim
            | no => rw [hsrc] at h4; exact h4.elim
            | ok yd1 M5 =>
              rw [hsrc] at h4
              intro J1 H5 μ5 nx5 rh5 rv5
              have h5 := Pst.mono h4 nx5
              simp only at h5
              have n5 := (n3.trans nx4).trans nx5
              have hn5 := nx5.pre _ _ (nx4.pre _ _ hn3)
              refine ⟨fun j k H => ∃ M μ, Nx μ5 H5 μ H ∧ RH X.prog X.w X.K Γ μ M H ∧ μ[M1.length]? = some D' ∧
                Pst X.prog X.w X.K Γ (relV X.K) W σ μ H ((match lcN yd1.y p1 (lcB t1 f M1.length) (wipeD ζ2 vs1) k j M with
                  | .ok _ M' => lcN yd.y p (lcB2 t s1 p1 vs1 t1 f M1.length) (wipeD ζ vs) m (i + 1) M'
                  | _ => .no).bind fun _ M2 => .ok (.ref M1.length) M2) Q, ⟨yd1.fuel, M5, μ5, Nx.refl _ _, rh5, hn5, h5⟩, ?_⟩
              rintro j k H6 ⟨M6, μ6, nx6, rh6, hn6, h6⟩
              cases k with
              | zero => exact h6.elim
              | succ k =>
                obtain ⟨st1, go1⟩ := rv5 j H6 μ6 M6 nx6 rh6
                simp only [lcN] at h6
                cases hy1 : yd1.y j M6 with
                | none => rw [hy1] at h6; exact h6.elim
                | some od =>
                  cases od with
                  | none =>
                    rw [hy1] at h6
                    exact .inl ⟨st1 hy1, M6, μ6, n5.trans nx6, rh6, hn6, h6⟩
                  | some d1 =>
                    rw [hy1] at h6
                    simp only at h6
                    obtain ⟨g3, g4⟩ := go1 d1 hy1
                    refine .inr ⟨g3, fun H' => ∃ M μ, Nx μ5 H5 μ H' ∧ RH X.prog X.w X.K Γ μ M H' ∧ μ[M1.length]? = some D' ∧
                      Pst X.prog X.w X.K Γ (relV X.K) W σ μ H' ((match lcN yd1.y p1 (lcB t1 f M1.length) (wipeD ζ2 vs1) k (j + 1) M with
                        | .ok _ M' => lcN yd.y p (lcB2 t s1 p1 vs1 t1 f M1.length) (wipeD ζ vs) m (i + 1) M'
                        | _ => .no).bind fun _ M2 => .ok (.ref M1.length) M2) Q, fun H' q => ⟨k, Nat.lt_succ_self _, q⟩, fun x1 H7 hx1 => ?_⟩
                    obtain ⟨μ7, nx7, rh7, rv7⟩ := g4 x1 H7 hx1
                    refine ⟨d1, M6, μ7, rh7, rv7, ?_⟩
                    cases hl1 : bindP p1 d1 with
                    | none => rw [hl1] at h6; exact h6.elim
                    | some l1 =>
                      rw [hl1] at h6
                      simp only at h6
                      intro l1' br1
                      have hs1 : ∀ q ∈ l1', q.1 ∈ vs1 := br_slots br1 fun q hq => hp1 _ (bindP_slots p1 hl1 q hq)
                      refine ⟨(wipe_setAll hs1).trans (wipe_wipe fun _ h => h), ?_⟩
                      have sl7 : RSl X.K H7 μ7 (setAll (wipeD ζ2 vs1) l1) (setAll (wipe σ2 vs1) l1') := RSl.setAll br1 ((((sl3.mono nx4).mono nx5).mono (nx6.trans nx7)).wiped vs1)
                      have hn7 := nx7.pre _ _ hn6
                      refine lcB_of (W := W) (σ0 := σ) (C := fun r => (match (match r with
                          | .ok _ M' => lcN yd1.y p1 (lcB t1 f M1.length) (wipeD ζ2 vs1) k (j + 1) M'
                          | _ => .no) with
                        | .ok _ M' => lcN yd.y p (lcB2 t s1 p1 vs1 t1 f M1.length) (wipeD ζ vs) m (i + 1) M'
                        | _ => .no).bind fun _ M2 => .ok (.ref M1.length) M2) (Q := Q) ⟨sl7, rh7⟩ hn7 (fun r => by cases r <;> rfl) (fun M8 μ8 H8 nx8 rh8 h8 => ?_) ?_
                      · exact ⟨M8, μ8, (nx6.trans nx7).trans nx8, rh8, nx8.pre _ _ hn7, h8⟩
                      · exact Pst.mono h6 nx7
theorem ex_lc2 (hc : X.calm = true) (hN : X.N.Nodup) (hi : EI X Γ W tg iter s) (ok : BlkOk X.N X.env.scope scope own) (hv : ∀ i ∈ vs1, i ∈ own.map (·.2)) (hp : ∀ i ∈ p.slots, i ∈ own.map (·.2)) (hp1 : ∀ i ∈ p1.slots, i ∈ vs1)
    (hg : ∀ (s : Shared) (H : Hp) (C : Addr) (cl : List (Str × Addr)) (fp : List Addr), EG (X.blk s H scope (compEnvC scope cl C X.env) fp) Γ tg p) (ht : ∀ (s : Shared) (H : Hp) (C : Addr) (cl : List (Str × Addr)) (fp : List Addr), ETs (X.blk s H scope (compEnvC scope cl C X.env) fp) Γ W0 ifs t)
    (hi1 : ∀ (s : Shared) (H : Hp) (C : Addr) (cl : List (Str × Addr)) (fp : List Addr), EI (X.blk s H scope (compEnvC scope cl C X.env) fp) Γ W0 tg1 iter1 s1)
    (hg1 : ∀ (s : Shared) (H : Hp) (C : Addr) (cl : List (Str × Addr)) (fp : List Addr), EG (X.blk s H scope (compEnvC scope cl C X.env) fp) Γ tg1 p1) (ht1 : ∀ (s : Shared) (H : Hp) (C : Addr) (cl : List (Str × Addr)) (fp : List Addr), ETs (X.blk s H scope (compEnvC scope cl C X.env) fp) Γ W0 ifs1 t1)
    (he : ∀ (s : Shared) (H : Hp) (C : Addr) (cl : List (Str × Addr)) (fp : List Addr), EX (X.blk s H scope (compEnvC scope cl C X.env) fp) Γ W0 elt f) (hs : ∀ x, foldedSetIterable iter X.env x = pure x := by intro _; rfl) (hs1 : ∀ env x, foldedSetIterable iter1 env x = pure x := by intro _ _; rfl) :
    EX X Γ W (.ListComp elt [⟨tg, iter, ifs, 0⟩, ⟨tg1, iter1, ifs1, 0⟩] scope pos) (xLc2 s (own.map (·.2)) p t s1 p1 vs1 t1 f) :=
  PE.imp (pe_lc2 hc hN hi ok hv hg ht hi1 hg1 ht1 he hs hs1) fun σ H Q h => tLc2_of hp hp1 hv h
/-- name = [..], the name a local on one line -/
theorem es_setLc2 (i : Nat) {y : Str} {py spos : Pos} (hc : X.calm = true) (hN : X.N.Nodup) (hi : EI X Γ W tg iter s) (ok : BlkOk X.N X.env.scope scope own) (hv : ∀ i ∈ vs1, i ∈ own.map (·.2)) (hp : ∀ i ∈ p.slots, i ∈ own.map (·.2)) (hp1 : ∀ i ∈ p1.slots, i ∈ vs1)
    (hg : ∀ (s : Shared) (H : Hp) (C : Addr) (cl : List (Str × Addr)) (fp : List Addr), EG (X.blk s H scope (compEnvC scope cl C X.env) fp) Γ tg p) (ht : ∀ (s : Shared) (H : Hp) (C : Addr) (cl : List (Str × Addr)) (fp : List Addr), ETs (X.blk s H scope (compEnvC scope cl C X.env) fp) Γ W0 ifs t)
    (hi1 : ∀ (s : Shared) (H : Hp) (C : Addr) (cl : List (Str × Addr)) (fp : List Addr), EI (X.blk s H scope (compEnvC scope cl C X.env) fp) Γ W0 tg1 iter1 s1)
    (hg1 : ∀ (s : Shared) (H : Hp) (C : Addr) (cl : List (Str × Addr)) (fp : List Addr), EG (X.blk s H scope (compEnvC scope cl C X.env) fp) Γ tg1 p1) (ht1 : ∀ (s : Shared) (H : Hp) (C : Addr) (cl : List (Str × Addr)) (fp : List Addr), ETs (X.blk s H scope (compEnvC scope cl C X.env) fp) Γ W0 ifs1 t1)
    (he : ∀ (s : Shared) (H : Hp) (C : Addr) (cl : List (Str × Addr)) (fp : List Addr), EX (X.blk s H scope (compEnvC scope cl C X.env) fp) Γ W0 elt f)
    (hsw : swapsWith (.ListComp elt [⟨tg, iter, ifs, 0⟩, ⟨tg1, iter1, ifs1, 0⟩] scope pos) (some (.Name y py)) spos.line X.env = pure true) (hy : X.N[i]? = some y := by rfl) (hyl : X.env.scope.names.lookup y = some .local := by rfl)
    (hs : ∀ x, foldedSetIterable iter X.env x = pure x := by intro _; rfl) (hs1 : ∀ env x, foldedSetIterable iter1 env x = pure x := by intro _ _; rfl) : ES X Γ W (.Assign [.Name y py] (.ListComp elt [⟨tg, iter, ifs, 0⟩, ⟨tg1, iter1, ifs1, 0⟩] scope pos) spos) (sSet i (xLc2 s (own.map (·.2)) p t s1 p1 vs1 t1 f)) :=
  PS.imp (ps_setLc2 hc hN hy hyl hsw hi ok hv hg ht hi1 hg1 ht1 he hs hs1) fun E σ H ⟨ζ, M, μ, rr, h⟩ => tLc2_of hp hp1 hv ⟨ζ, M, μ, rr, PstS.then h rr.sl fun v H1 d M1 μ1 nx rh rv h1 => h1 _ _ _ (Nx.refl _ _) rh ((rr.sl.mono nx).set rv i)⟩
end

def rgD (a b : Int) : List D := (List.range (b - a).toNat).map fun i => D.int (a + (i : Nat))
theorem rvs_rg {K : PySem.W.Frag} {H : Hp} {μ : List Addr} (a b : Int) : RVs K H μ (rgD a b) (rgV a b) := RVs.map _ _ (fun i => .int _) _
def okRgV (b : Int) : Bool := match b with
  | .ofNat m => Nat.ble m 16777216
  | _ => false
theorem okRgV_ok {b : Int} (h : okRgV b = true) : 0 ≤ b ∧ b ≤ 16777216 := by
  cases b with
  | ofNat m =>
    have := Nat.le_of_ble_eq_true (show Nat.ble m 16777216 = true from h)
    rw [show Int.ofNat m = (m : Int) from rfl]
    omega
  | negSucc m => cases h
theorem okRgV_mk {b : Int} (h0 : 0 ≤ b) (h1 : b ≤ 16777216) : okRgV b = true := by
  cases b with
  | ofNat m =>
    rw [show Int.ofNat m = (m : Int) from rfl] at h0 h1
    exact Nat.ble_eq_true_of_le (show m ≤ 16777216 by omega)
  | negSucc m => rw [Int.negSucc_eq] at h0; omega
/-- list(range(..)) of one number -/
def gListRg : GL := fun ds M => match ds with
  | [.int b] => if okRgV b = true then some (.ref M.length, M ++ [.lst (rgD 0 b)]) else none
  | _ => none
def gTupRg : GL := fun ds M => match ds with
  | [.int b] => if okRgV b = true then some (.tup (rgD 0 b), M) else none
  | _ => none
def gRev : GL := fun ds M => match ds with
  | [.ref n] => match hSeq M (.ref n) with
    | some xs => some (.ref M.length, M ++ [.lst xs.reverse])
    | none => none
  | _ => none
section
variable {X : Cx} {Γ : Gm} {W : WX} {e : Expr} {fe : MX} {p p2 pos pos2 p1 p3 : Pos}
theorem b_one {g : GL} {σ : L2.St} {H : Hp} {Q : VK} {P : D → Hs → List Addr → Hp → V → Prop} (h : tX X.prog X.w X.K Γ W (xB g (aCons fe aNil)) σ H Q)
    (k : ∀ d v M1 μ1 H1, RH X.prog X.w X.K Γ μ1 M1 H1 → RV X.K H1 μ1 d v → Pk X.prog X.w X.K Γ (relV X.K) μ1 H1 (g [d] M1) Q → P d M1 μ1 H1 v) : tX X.prog X.w X.K Γ W fe σ H fun v H1 => ∃ d M1 μ1, P d M1 μ1 H1 v := by
  obtain ⟨ζ, M, μ, rr, h⟩ := h
  refine ⟨ζ, M, μ, rr, ?_⟩
  unfold xB aCons aNil at h
  refine Pst.then (k := fun d M1 => R.of (g [d] M1)) (by
    cases hf : fe ζ M with
    | ok d M1 => rw [hf] at h; exact h
    | ex c fs M1 => rw [hf] at h; exact h
    | no => rw [hf] at h; exact h) fun v H1 d M1 μ1 nx rh rv h1 => ⟨d, M1, μ1, k d v M1 μ1 H1 rh rv h1.of⟩
theorem ex_listRg (hc : X.calm = true) (he : EX X Γ W e fe) (hm : X.mg "list" = none) (hm2 : X.mg "range" = none) (hg : Gl X "list" := by rfl) (hg2 : Gl X "range" := by rfl) (h1 : starEach [e] X.env = (false, eval e X.env) :: starEach [] X.env := by rfl) :
    EX X Γ W (.Call (.Name "list" p) [.Call (.Name "range" p2) [e] [] pos2] [] pos) (xB gListRg (aCons fe aNil)) :=
  PE.imp (pe_listRg hc hg hm (prg_1 hg2 hm2 he (na := h1))) fun σ H Q h => by
    obtain ⟨ζ, M, μ, rr, h⟩ := b_one (P := fun d M1 μ1 H1 v => ∃ n, v = .int n ∧ RgOk 0 n ∧ ∀ q, H1 q = none → Q (.ref q) (upd H1 q (.lst (rgV 0 n)))) h fun d v M1 μ1 H1 rh rv h1 => by
      unfold gListRg at h1
      split at h1
      · rename_i b e1
        cases e1
        cases rv
        split at h1
        · rename_i hb
          have hb := okRgV_ok hb
          exact ⟨b, rfl, RgOk.of_le (Int.le_refl _) hb.2 (by omega) hb.1, fun q hq => Pk.new rh h1 hq ⟨_, upd_same, rvs_rg 0 b⟩⟩
        · exact h1.elim
      · exact h1.elim
    refine ⟨ζ, M, μ, rr, Pst.imp h fun v H1 ⟨d, M1, μ1, n, e, r, q⟩ => ⟨n, e, r, q⟩⟩
theorem ex_tupRg (hc : X.calm = true) (he : EX X Γ W e fe) (hm : X.mg "tuple" = none) (hm2 : X.mg "range" = none) (hg : Gl X "tuple" := by rfl) (hg2 : Gl X "range" := by rfl) (h1 : starEach [e] X.env = (false, eval e X.env) :: starEach [] X.env := by rfl) :
    EX X Γ W (.Call (.Name "tuple" p) [.Call (.Name "range" p2) [e] [] pos2] [] pos) (xB gTupRg (aCons fe aNil)) :=
  PE.imp (pe_tupRg hc hg hm (prg_1 hg2 hm2 he (na := h1))) fun σ H Q h => by
    obtain ⟨ζ, M, μ, rr, h⟩ := b_one (P := fun d M1 μ1 H1 v => ∃ n, v = .int n ∧ RgOk 0 n ∧ ∀ q, H1 q = none → Q (.ref q) (upd H1 q (.tup (rgV 0 n)))) h fun d v M1 μ1 H1 rh rv h1 => by
      unfold gTupRg at h1
      split at h1
      · rename_i b e1
        cases e1
        cases rv
        split at h1
        · rename_i hb
          have hb := okRgV_ok hb
          exact ⟨b, rfl, RgOk.of_le (Int.le_refl _) hb.2 (by omega) hb.1, fun q hq => Pk.tup rh h1 hq (rvs_rg 0 b)⟩
        · exact h1.elim
      · exact h1.elim
    refine ⟨ζ, M, μ, rr, Pst.imp h fun v H1 ⟨d, M1, μ1, n, e, r, q⟩ => ⟨n, e, r, q⟩⟩
theorem ex_rev {k : Nat} (he : EX X Γ W e fe) : EX X Γ W (.Subscript e (.Slice none none (some (.UnaryOp .USub (.Constant (.int 1) k p1) p2)) p3) pos) (xB gRev (aCons fe aNil)) :=
  PE.imp (pe_revL he) fun σ H Q h => by
    obtain ⟨ζ, M, μ, rr, h⟩ := b_one (P := fun d M1 μ1 H1 v => ∃ a xs, v = .ref a ∧ SqL X.K H1 a xs ∧ ∀ p, H1 p = none → Q (.ref p) (upd H1 p (.lst xs.reverse))) h fun d v M1 μ1 H1 rh rv h1 => by
      unfold gRev at h1
      split at h1
      · rename_i n e1
        cases e1
        split at h1
        · rename_i xs hx
          obtain ⟨l, vs, rfl, hs, r⟩ := hRef_ok rh hx rv
          exact ⟨l, vs, rfl, hs, fun p hp => Pk.new rh h1 hp ⟨_, upd_same, (r.mono (Nx.fresh hp _)).reverse⟩⟩
        · exact h1.elim
      · exact h1.elim
    refine ⟨ζ, M, μ, rr, Pst.imp h fun v H1 ⟨d, M1, μ1, a, xs, e, r, q⟩ => ⟨a, xs, e, r, q⟩⟩
end
end Mi
end
section
set_option maxRecDepth 100000
set_option maxHeartbeats 4000000
set_option autoImplicit false
namespace Mi
open PySem PySem.Spec PyProof.Rows L2

section
variable {X : Cx} {Γ : Gm} {W : WX}
/-- what a store into the new dict asks -/
def PutK (P : Program) (w : World) (K : PySem.W.Frag) (Γ : Gm) (a : Addr) (y z : V) (H : Hp) (N : Hp → Prop) : Prop := ∃ d e M μ n, RH P w K Γ μ M H ∧ RV K H μ d y ∧ RV K H μ e z ∧ μ[n]? = some a ∧ ∃ kvs q, hDct M n = some kvs ∧ keyOf d = some q ∧ kvs.length < sizeLine ∧
  ∀ H' μ', Nx μ H μ' H' → RH P w K Γ μ' (M.set n (.dct (dPut kvs q d e))) H' → N H'
theorem putK_ok {pins : List (Addr × Obj)} {σ : L2.St} {H : Hp} {s : Shared} {E : Value → Shared → Prop} {a : Addr} {y z : V} {u r : Value} {Q : Unit → Shared → Prop} {N : Hp → Prop} (hr : Room 1 X.A) (I : Inv X pins σ H s) (ry : RelV y u) (rz : RelV z r) (h : PutK X.prog X.w X.K Γ a y z H N)
    (q : ∀ s' H', Inv X pins σ H' s' → N H' → Q () s') : wpAny (model X.prog X.w) X.A (dictSet a u r) Q E s := by
  have hu := hr.un
  obtain ⟨d, e, M, μ, n, rh, rd, re, ea, kvs, k, hk, hq, hl, fin⟩ := h
  obtain ⟨es, g, rp⟩ := ndct rh hk ea
  obtain ⟨xs, p, hd, hs, hz⟩ := dict_at I rp (.inl g)
  obtain ⟨c, rfl, rfl, hi⟩ := key_is I hq rd ry
  obtain ⟨k1, k2, k3⟩ := keyOf_ok hq
  have hlen : xs.length < sizeLine := by have l1 := Paired.length rp; have l2 := Paired.length p; omega
  obtain ⟨es', r', p'⟩ := puts_of k1 k2 rd re rz rp p
  have hm : Mut (H a) := by rw [g]; trivial
  refine wpAny_dictSet_heap (by show X.A.units + 8 < cLine; omega) hi hd (fun h' hd' sb => ?_) hz
  have new : ObjOk X.prog X.w (upd H a (dHO X.prog X.w a es')) h' a (dHO X.prog X.w a es') := by
    obtain ⟨o', ds', ep', ho', hx', hdt', he', _, hn'⟩ := hd'
    refine ⟨⟨_, p', o', ds', ep', ho', hx', hdt', he', hn', hs, ?_⟩, ⟨_, ho'⟩, dExt⟩
    unfold storedH
    split <;> (simp; omega)
  have hex : ∃ u, h'.get? a = some u := by obtain ⟨o', _, _, ho', _⟩ := hd'; exact ⟨o', ho'⟩
  exact q _ _ (I.write (x := a) (e := a) (o := dHO X.prog X.w a es') (t' := s.toks + (nestedKind X.prog X.w).draws k) hm (.inl rfl) (fun c ob hc hb => (sb.2 c hc).trans hb) hex new) (fin _ _ (Nx.write hm) (rh.write ea hm ⟨es', upd_same, Paired.imp r' fun _ _ => REn.mono (Nx.write hm)⟩))
variable {kx vx tg iter : Expr} {ifs : List Expr} {scope : Scope} {own : List (Str × Nat)} {pos : Pos}
/-- {k: v for target in iter if ..}: a the new dict -/
def tDk (P : Program) (w : World) (K : PySem.W.Frag) (Γ : Gm) (wi : TI) (g : TG) (tt : TT) (tk tv : TE) (vs : List Nat) : TE := fun σ H Q => wi σ H fun J H1 => ∀ a, H1 a = none → ∃ Z : Nat → Nat → Hp → Prop, (∃ m, Z 0 m (upd H1 a (dHO P w a []))) ∧ ∀ i m H, Z i m H →
  (J.stop i H ∧ Q (.ref a) H) ∨ (J.go i H ∧ ∃ N : Hp → Prop, (∀ H', N H' → ∃ m', m' < m ∧ Z (i + 1) m' H') ∧ ∀ x H', J.yld i H x H' → g x (wipe σ vs) H' fun σ2 H2 => wipe σ2 vs = wipe σ vs ∧ tt σ2 H2 fun b H3 =>
    if b = true then tk σ2 H3 fun y H4 => tv σ2 H4 fun z H5 => PutK P w K Γ a y z H5 N else N H3)
abbrev BlkEX (X : Cx) (scope : Scope) (e : Expr) (t : TE) : Prop := ∀ (s : Shared) (H : Hp) (C : Addr) (cl : List (Str × Addr)) (fp : List Addr), PE (X.blk s H scope (compEnvC scope cl C X.env) fp) e t
theorem dk_core {wi : TI} {g : TG} {tt : TT} {tk tv : TE} {pins : List (Addr × Obj)} {s : Shared} {σ : L2.St} {H : Hp} {Q : VK} {pos' : Pos} {use : Option (Value → Sem Unit)} {Qf : Value → Shared → Prop} (hr : Room 1 X.A) (hc : X.calm = true) (hN : X.N.Nodup) (I : Inv X pins σ H s) (hi : PI X tg iter wi) (ok : BlkOk X.N X.env.scope scope own)
    (hg : ∀ (s : Shared) (H : Hp) (C : Addr) (cl : List (Str × Addr)) (fp : List Addr), PG (X.blk s H scope (compEnvC scope cl C X.env) fp) tg g) (ht : ∀ (s : Shared) (H : Hp) (C : Addr) (cl : List (Str × Addr)) (fp : List Addr), PTs (X.blk s H scope (compEnvC scope cl C X.env) fp) ifs tt)
    (hk : BlkEX X scope kx tk) (hv : BlkEX X scope vx tv) (hs : ∀ x, foldedSetIterable iter X.env x = pure x) (h : tDk X.prog X.w X.K Γ wi g tt tk tv (own.map (·.2)) σ H Q)
    (hRR : ∀ a C s' m H', Inv X pins σ H' s' → Q (.ref a) H' → s'.heap.Ns C m → FpOk X pins H' C → compPost (model X.prog X.w) X.A X.xe use Qf (.ref a) C (.ok .next) s') :
    wpAny (model X.prog X.w) X.A (comprehension (.DictComp kx vx [⟨tg, iter, ifs, 0⟩] scope pos) scope X.env pos' newDict false (eval iter X.env) use) Qf X.xe s := by
  have cells : ∀ y ∈ scope.names, y.2 = .free → ∃ c, X.env.cells.lookup y.1 = some c := fun y hy e => (ok.free y hy e).elim (fun k => I.ok.has _ (.inl k)) fun k => I.ok.has _ (.inr k)
  refine wpAny_comprehension_free (use := use) rfl hs (closure_ok cells) ok.kind (fun y hy e => by rw [ok.uniq y hy, e]) (thn (hi.run pins s σ H _ I h) fun xv s1 hx => thn hx fun itv s2 h2 => ?_)
  obtain ⟨it, fp, tn, J, H2, rfl, I2, T, st2, f2, q⟩ := h2
  refine wpAny_newObj_type (newEnv_comp ?_)
  obtain ⟨a, ea⟩ : ∃ a, a = s2.heap.objs.size := ⟨_, rfl⟩
  rw [← ea]
  obtain ⟨Z, ⟨m0, z0⟩, turn⟩ := q a (I2.hok.fresh (Nat.le_of_eq ea.symm))
  obtain ⟨s3, es3⟩ : ∃ s3 : Shared, s3 = { s2 with heap := s2.heap.push { cls := .type "dict", data := .dict #[] } } := ⟨_, rfl⟩
  obtain ⟨H3, eH3⟩ : ∃ H3 : Hp, H3 = upd H2 a (dHO X.prog X.w a []) := ⟨_, rfl⟩
  have hget : s3.heap.get? a = some { cls := .type "dict", data := .dict #[] } := by rw [es3, ea]; exact Heap.get?_push_size _ rfl
  have I3 : Inv X pins σ H3 s3 := by
    rw [eH3, es3]
    refine I2.laid (t' := s2.toks) (fun b o e => Heap.get?_push_of_some _ e) (Nat.le_of_eq ea.symm) ⟨⟨[], .nil, _, #[], 0, by rw [es3] at hget; exact hget, ⟨rfl, rfl, rfl⟩, rfl, rfl, List.nodup_nil, ?_, Nat.zero_le _⟩, ⟨_, by rw [es3] at hget; exact hget⟩, dExt⟩
    exact beq_eq_false_iff_ne.mpr (Ne.symm (by rw [ea]; exact Nat.ne_of_lt I2.big))
  have h3 : s3.heap.objs.size = s2.heap.objs.size + 1 := by rw [es3]; exact Heap.size_push ..
  have old : ∀ b ∈ fp, b < s2.heap.objs.size := fun b hb => let ⟨o, e, _⟩ := T.obj _ _ st2 b hb; Heap.lt_size e
  have f3 : ∀ b ∈ fp, FpOk X pins H3 b ∧ b < s3.heap.objs.size := fun b hb => by
    have hlt := old b hb
    refine ⟨⟨?_, (f2 b hb).2⟩, by rw [h3]; exact Nat.lt_succ_of_lt hlt⟩
    rw [eH3, upd_ne (by rw [ea]; exact Nat.ne_of_lt hlt)]
    exact (f2 b hb).1
  have up3 : ∀ b o, s2.heap.get? b = some o → s3.heap.get? b = some o := fun b o e => by rw [es3]; exact Heap.get?_push_of_some _ e
  have st3 : tn 0 s3.heap := T.keep _ _ _ st2 fun b _ o e => up3 b o e
  have I4 := block_start I3 ok hN f3
  have go : codeAny (model X.prog X.w) X.A (.compStart (.DictComp kx vx [⟨tg, iter, ifs, 0⟩] scope pos) 0 (.ref it) (.ref a) (compEnvC scope (cellsFrom (s3.heap.objs.size + 1) scope.names (cloFrom X.env.cells scope.names [])) s3.heap.objs.size X.env))
      (compPost (model X.prog X.w) X.A X.xe use Qf (.ref a) s3.heap.objs.size) { s3 with heap := pushCells (s3.heap.push { cls := .type "dict", data := .dict #[] }) scope.names } := by
    have pg := hg s3 H3 s3.heap.objs.size (cellsFrom (s3.heap.objs.size + 1) scope.names (cloFrom X.env.cells scope.names [])) fp
    have pt := ht s3 H3 s3.heap.objs.size (cellsFrom (s3.heap.objs.size + 1) scope.names (cloFrom X.env.cells scope.names [])) fp
    have pk := hk s3 H3 s3.heap.objs.size (cellsFrom (s3.heap.objs.size + 1) scope.names (cloFrom X.env.cells scope.names [])) fp
    have pv := hv s3 H3 s3.heap.objs.size (cellsFrom (s3.heap.objs.size + 1) scope.names (cloFrom X.env.cells scope.names [])) fp
    have free0 : ∀ b ∈ fp, H3 b = none := fun b hb => (f3 b hb).1.1
    generalize ece : compEnvC scope (cellsFrom (s3.heap.objs.size + 1) scope.names (cloFrom X.env.cells scope.names [])) s3.heap.objs.size X.env = ce at I4 pg pt pk pv ⊢
    have loc : ce.locals = s3.heap.objs.size := by rw [← ece]; rfl
    generalize es4 : ({ s3 with heap := pushCells (s3.heap.push { cls := .type "dict", data := .dict #[] }) scope.names } : Shared) = s4 at I4 ⊢
    have st4 : tn 0 s4.heap := T.keep _ _ _ st3 fun b _ o e => by rw [← es4]; exact pushCells_keeps _ _ _ _ (Heap.get?_push_of_some _ e)
    have hz0 : Z 0 m0 H3 := by rw [eH3]; exact z0
    have fpk : ∀ {σ' : L2.St} {H' : Hp} {s' : Shared}, Inv (X.blk s3 H3 scope ce fp) [] σ' H' s' → (∀ b ∈ fp, H' b = none) → ∀ b ∈ fp, FpOk (X.blk s3 H3 scope ce fp) [] H' b := fun {σ' H' s'} J' n b hb =>
      ⟨n b hb, (J'.ok.exf b hb).1, J'.ok.exfs b hb, .inl hb, fun x c e => (J'.ok.exf b hb).2 x c e, fun p hp => absurd (show p ∈ ([] : List (Addr × Obj)) ++ [] from hp) (by simp)⟩
    have loop : codeAny (model X.prog X.w) X.A (.compLoop (.DictComp kx vx [⟨tg, iter, ifs, 0⟩] scope pos) 0 (.ref it) (.ref a) ce) (compPost (model X.prog X.w) X.A X.xe use Qf (.ref a) s3.heap.objs.size) s4 := by
      refine compLoop_anyD (fun n s' => ∃ i H', Inv (X.blk s3 H3 scope ce fp) [] (wipe σ (own.map (·.2))) H' s' ∧ tn i s'.heap ∧ (∀ b ∈ fp, H' b = none) ∧ Z i n H') ?_ m0 ⟨0, H3, I4, st4, free0, hz0⟩
      rintro n s5 ⟨i, H5, I5, st5, n5, z5⟩
      rcases turn i n H5 z5 with ⟨stop, qq⟩ | ⟨goes, N, hN', step⟩
      · refine thnF (T.done (X.blk s3 H3 scope ce fp) rfl rfl rfl hc i [] s5 _ H5 (fun _ _ => False) I5 (fpk I5 n5) st5 stop) fun r s6 ⟨er, I6⟩ => ?_
        subst er
        have I7 : Inv X pins σ H5 s6 := I3.call' (ch := fp) I6.os I6.base I6.hok I6.bare fun b hb => let z := (f3 b hb).1; ⟨z.2.2.2.1, z.2.1, z.2.2.2.2.1, z.2.2.2.2.2⟩
        have nC : H5 s3.heap.objs.size = none := by rw [← loc]; exact I6.free
        obtain ⟨m, hns, _⟩ := I6.loc
        have hns : s6.heap.Ns ce.locals m := hns
        rw [loc] at hns
        exact hRR a s3.heap.objs.size s6 m H5 I7 qq hns (I3.fpOk (Nat.le_refl _) nC)
      · refine thnF (T.item (X.blk s3 H3 scope ce fp) rfl rfl rfl hc i [] s5 _ H5 (fun _ _ => False) I5 (fpk I5 n5) st5 goes) fun r s6 ⟨u, er, h6⟩ => ?_
        subst er
        refine thnF h6 fun _ s7 ⟨x, H7, I7, r7, y7, st7, n7⟩ => ?_
        refine thnF (pg.run _ s7 _ H7 x u _ (I7.pinned (fpk I7 n7) (T.obj _ _ st7)) r7 (step x H7 y7)) fun _ s8 ⟨σ8, H8, I8, w8, q8⟩ => ?_
        refine thnF (pt.run _ s8 σ8 H8 _ I8 q8) fun b s9 ⟨H9, I9, q9⟩ => ?_
        have turnEnd : ∀ {s' : Shared} {H' : Hp}, Inv (X.blk s3 H3 scope ce fp) ([] ++ pinsAt fp s7.heap) σ8 H' s' → N H' → ∃ m, m < n ∧ ∃ i H', Inv (X.blk s3 H3 scope ce fp) [] (wipe σ (own.map (·.2))) H' s' ∧ tn i s'.heap ∧ (∀ b ∈ fp, H' b = none) ∧ Z i m H' := fun {s' H'} I' hn => by
          obtain ⟨m', hm, z'⟩ := hN' H' hn
          have pins' : ∀ b ∈ fp, ∀ o, s7.heap.get? b = some o → s'.heap.get? b = some o ∧ H' b = none := fun b hb o e => let z := I'.pin (b, o) (List.mem_append_right _ (List.mem_append_right _ (mem_pinsAt hb e))); ⟨z.1, z.2.1⟩
          refine ⟨m', hm, i + 1, H', (I'.unpinned (pins := [])).weak (by rw [← w8, wipe_length]) (fun j v e => ?_), T.keep _ _ _ st7 fun b hb o e => (pins' b hb o e).1, fun b hb => ?_, z'⟩
          · rw [← w8] at e; exact (wipe_some e).1
          · obtain ⟨o, e, _⟩ := T.obj _ _ st7 b hb; exact (pins' b hb o e).2
        cases b with
        | false =>
          simp only [Bool.false_eq_true, if_false] at q9 ⊢
          exact turnEnd I9 q9
        | true =>
          simp only [if_true] at q9 ⊢
          refine thnF (pk.run _ s9 σ8 H9 _ I9 q9) fun z s10 ⟨yk, H10, I10, r10, q10⟩ => ?_
          refine thnF (pv.run _ s10 σ8 H10 _ I10 q10) fun z2 s11 ⟨yv, H11, I11, r11, hput⟩ => ?_
          exact putK_ok (X := X.blk s3 H3 scope ce fp) (Γ := Γ) hr I11 r10 r11 hput fun s12 H12 I12 hn => turnEnd I12 hn
    exact codeAny_compStart_dict loop (T.self X.A 0 _ _ _ st4 loop)
  subst es3
  exact go
theorem ex_dk0 {wi : TI} {g : TG} {tt : TT} {tk tv : TE} (hr : Room 1 X.A) (hc : X.calm = true) (hN : X.N.Nodup) (hi : PI X tg iter wi) (ok : BlkOk X.N X.env.scope scope own)
    (hg : ∀ (s : Shared) (H : Hp) (C : Addr) (cl : List (Str × Addr)) (fp : List Addr), PG (X.blk s H scope (compEnvC scope cl C X.env) fp) tg g) (ht : ∀ (s : Shared) (H : Hp) (C : Addr) (cl : List (Str × Addr)) (fp : List Addr), PTs (X.blk s H scope (compEnvC scope cl C X.env) fp) ifs tt)
    (hk : BlkEX X scope kx tk) (hv : BlkEX X scope vx tv) (hs : ∀ x, foldedSetIterable iter X.env x = pure x := by intro _; rfl) : PE X (.DictComp kx vx [⟨tg, iter, ifs, 0⟩] scope pos) (tDk X.prog X.w X.K Γ wi g tt tk tv (own.map (·.2))) := by
  refine ⟨fun pins s σ H Q I h => ?_⟩
  rw [arm_eval_DictComp]
  refine dk_core hr hc hN I hi ok hg ht hk hv hs h fun a C s' m H' I' q hn f => ⟨m, hn, fun h'' sb => ?_⟩
  obtain ⟨f0, f1, f2, f3, f4, f5⟩ := f
  exact ⟨.ref a, H', I'.turned (t' := s'.toks) (fun b o hb e => (sb.2 b hb).trans e) f0 f1 f3 f4 f5, rfl, q⟩
/-- name = {..}, the name a local on one line -/
theorem ps_dk {i : Nat} {y : Str} {py spos : Pos} {wi : TI} {g : TG} {tt : TT} {tk tv : TE} (hr : Room 1 X.A) (hc : X.calm = true) (hN : X.N.Nodup) (hy : X.N[i]? = some y) (hyl : X.env.scope.names.lookup y = some .local) (hsw : swapsWith (.DictComp kx vx [⟨tg, iter, ifs, 0⟩] scope pos) (some (.Name y py)) spos.line X.env = pure true)
    (hi : PI X tg iter wi) (ok : BlkOk X.N X.env.scope scope own)
    (hg : ∀ (s : Shared) (H : Hp) (C : Addr) (cl : List (Str × Addr)) (fp : List Addr), PG (X.blk s H scope (compEnvC scope cl C X.env) fp) tg g) (ht : ∀ (s : Shared) (H : Hp) (C : Addr) (cl : List (Str × Addr)) (fp : List Addr), PTs (X.blk s H scope (compEnvC scope cl C X.env) fp) ifs tt)
    (hk : BlkEX X scope kx tk) (hv : BlkEX X scope vx tv) (hs : ∀ x, foldedSetIterable iter X.env x = pure x) : PS X (.Assign [.Name y py] (.DictComp kx vx [⟨tg, iter, ifs, 0⟩] scope pos) spos) (tAsg (tDk X.prog X.w X.K Γ wi g tt tk tv (own.map (·.2))) (gName i)) := by
  refine ⟨fun pins s σ H D I h => ?_⟩
  rw [exec_Assign_Name_used _ _ _ _ hsw]
  refine wpAny_bind (wpAny_standAt (wpAny_bind ?_))
  show wpAny _ X.A (do let _ ← comprehension (.DictComp kx vx [⟨tg, iter, ifs, 0⟩] scope pos) scope X.env (firstIterPos [⟨tg, iter, ifs, 0⟩] pos) newDict false (eval iter X.env) (some (assign (.Name y py) X.env))) _ _ s
  refine wpAny_bind (thn (dk_core (Qf := fun _ s' => SP X pins D .next s') (Q := fun x H1 => gName i x σ H1 D.nx) hr hc hN I hi ok hg ht hk hv hs h fun a C s' m H' I' q hn f => ?_) fun _ s' hq => wpAny_pure (wpAny_pure hq))
  show wpAny _ _ (assign (.Name y py) X.env (.ref a)) _ _ _
  refine wpAny_assign_Name (store_ok2 (v := V.ref a) I' hN hy (.inl hyl) rfl (fun s2 I2 ⟨b, sb, hb⟩ => ?_) (.inr hyl))
  obtain ⟨f0, f1, f2, f3, f4, f5⟩ := f
  have ne : C ≠ b := hb.elim (fun z => by rw [z]; exact f1) fun z e => f4 y b z e.symm
  exact ⟨m, hn.sameBut sb ne, fun h3 sb3 => ⟨_, H', I2.turned (t' := s2.toks) (fun b o hb e => (sb3.2 b hb).trans e) f0 f1 f3 f4 f5, q⟩⟩
theorem sw_dict {gs : List Comprehension} {py : Pos} {y : Str} {l : Nat} {env : Env} (hk : env.scope.kind = .function) (hy : env.scope.names.lookup y = some .local) (hl : (py.line == pos.line) = true)
    (ha : (scope.names.any fun (n, k) => n == y && (k == .local || k == .cell)) = false) : swapsWith (.DictComp kx vx gs scope pos) (some (.Name y py)) l env = pure true := by
  have k1 : env.kindOf y = some .local := hy
  have k2 : env.blockKind = .function := by unfold Env.blockKind; rw [hk]; rfl
  unfold swapsWith
  simp only [k1, k2, ha, Expr.pos, hl]
  rfl
end
def dput (n : Nat) (k v : D) (M : Hs) : R Unit := match hDct M n with
  | some kvs => match keyOf k with
    | some q => if kvs.length < sizeLine then .ok () (M.set n (.dct (dPut kvs q k v))) else .no
    | none => .no
  | none => .no
def dcB (t : MT) (fk fv : MX) (n : Nat) : Sl → Hs → R Unit := fun ζ M => match t ζ M with
  | .ok false M1 => .ok () M1
  | .ok true M1 => match fk ζ M1 with
    | .ok k M2 => match fv ζ M2 with
      | .ok v M3 => dput n k v M3
      | _ => .no
    | _ => .no
  | _ => .no
def xDc (s : MY) (vs : List Nat) (p : Pt) (t : MT) (fk fv : MX) : MX := fun ζ M => (s ζ M).bind fun yd M1 => (lcN yd.y p (dcB t fk fv M1.length) (wipeD ζ vs) yd.fuel 0 (M1 ++ [.dct []])).bind fun _ M2 => .ok (.ref M1.length) M2
section
variable {X : Cx} {Γ : Gm} {W : WX} {kx vx tg iter : Expr} {ifs : List Expr} {scope : Scope} {own : List (Str × Nat)} {pos : Pos} {s : MY} {p : Pt} {t : MT} {fk fv : MX}
theorem tDk_of {vs : List Nat} {σ : L2.St} {H : Hp} {Q : VK} (hp : ∀ i ∈ p.slots, i ∈ vs) (h : tX X.prog X.w X.K Γ W (xDc s vs p t fk fv) σ H Q) :
    tDk X.prog X.w X.K Γ (iY X.prog X.w X.K Γ W s) (gP X.prog X.w X.K Γ p) (tT X.prog X.w X.K Γ W0 t) (tX X.prog X.w X.K Γ W0 fk) (tX X.prog X.w X.K Γ W0 fv) vs σ H Q := by
  obtain ⟨ζ, M, μ, rr, h⟩ := h
  refine ⟨ζ, M, μ, rr, Pst.then h fun J H1 yd M1 μ1 nx rh rv h1 => fun D' hD => ?_⟩
  have nx0 : Nx μ1 H1 (μ1 ++ [D']) (upd H1 D' (dHO X.prog X.w D' [])) := Nx.fresh hD [D']
  have rh0 : RH X.prog X.w X.K Γ (μ1 ++ [D']) (M1 ++ [.dct []]) (upd H1 D' (dHO X.prog X.w D' [])) := rh.alloc hD ⟨[], upd_same, .nil⟩
  refine ⟨fun i m H => ∃ M μ, Nx μ1 H1 μ H ∧ RH X.prog X.w X.K Γ μ M H ∧ μ[M1.length]? = some D' ∧
    Pst X.prog X.w X.K Γ (relV X.K) W σ μ H ((lcN yd.y p (dcB t fk fv M1.length) (wipeD ζ vs) m i M).bind fun _ M2 => .ok (.ref M1.length) M2) Q,
    ⟨yd.fuel, _, _, nx0, rh0, rh.last, Pst.mono h1 nx0⟩, ?_⟩
  rintro i m H2 ⟨M2, μ2, nx2, rh2, hn, h2⟩
  cases m with
  | zero => exact h2.elim
  | succ m =>
    obtain ⟨st, go⟩ := rv i H2 μ2 M2 nx2 rh2
    simp only [lcN] at h2
    split at h2
    · exact h2.elim
    · rename_i hy
      exact .inl ⟨st hy, h2 _ _ _ (Nx.refl _ _) rh2 (.ref hn)⟩
    · rename_i d hy
      obtain ⟨g1, g2⟩ := go d hy
      refine .inr ⟨g1, fun H' => ∃ M μ, Nx μ1 H1 μ H' ∧ RH X.prog X.w X.K Γ μ M H' ∧ μ[M1.length]? = some D' ∧
        Pst X.prog X.w X.K Γ (relV X.K) W σ μ H' ((lcN yd.y p (dcB t fk fv M1.length) (wipeD ζ vs) m (i + 1) M).bind fun _ M2 => .ok (.ref M1.length) M2) Q, fun H' q => ⟨m, Nat.lt_succ_self _, q⟩, fun x H3 hx => ?_⟩
      obtain ⟨μ3, nx3, rh3, rv3⟩ := g2 x H3 hx
      refine ⟨d, M2, μ3, rh3, rv3, ?_⟩
      split at h2
      · exact h2.elim
      · rename_i l hl
        rw [hl]
        intro l' br
        have hs : ∀ q ∈ l', q.1 ∈ vs := br_slots br fun q hq => hp _ (bindP_slots p hl q hq)
        refine ⟨(wipe_setAll hs).trans (wipe_wipe fun _ h => h), ?_⟩
        have sl3 : RSl X.K H3 μ3 (setAll (wipeD ζ vs) l) (setAll (wipe σ vs) l') := RSl.setAll br (((rr.sl.mono nx).mono (nx2.trans nx3)).wiped vs)
        have n3 := nx2.trans nx3
        have hn3 := nx3.pre _ _ hn
        have h3 := Pst.mono h2 nx3
        generalize setAll (wipeD ζ vs) l = ζ2 at sl3 h3 ⊢
        refine ⟨ζ2, M2, μ3, ⟨sl3, rh3⟩, ?_⟩
        unfold dcB at h3
        cases ht : t ζ2 M2 with
        | ex c fs M4 => rw [ht] at h3; exact h3.elim
        | no => rw [ht] at h3; exact h3.elim
        | ok b M4 =>
          rw [ht] at h3
          intro b' H4 μ4 nx4 rh4 rb
          have rb : b = b' := rb
          subst rb
          have h4 := Pst.mono h3 nx4
          cases b with
          | false =>
            rw [if_neg Bool.false_ne_true]
            exact ⟨M4, μ4, n3.trans nx4, rh4, nx4.pre _ _ hn3, h4⟩
          | true =>
            rw [if_pos rfl]
            refine ⟨ζ2, M4, μ4, ⟨sl3.mono nx4, rh4⟩, ?_⟩
            simp only at h4
            cases hk : fk ζ2 M4 with
            | ex c fs M5 => rw [hk] at h4; exact h4.elim
            | no => rw [hk] at h4; exact h4.elim
            | ok k M5 =>
              rw [hk] at h4
              intro y H5 μ5 nx5 rh5 ry
              have h5 := Pst.mono h4 nx5
              simp only at h5
              refine ⟨ζ2, M5, μ5, ⟨(sl3.mono nx4).mono nx5, rh5⟩, ?_⟩
              cases hv : fv ζ2 M5 with
              | ex c fs M6 => rw [hv] at h5; exact h5.elim
              | no => rw [hv] at h5; exact h5.elim
              | ok v M6 =>
                rw [hv] at h5
                intro z H6 μ6 nx6 rh6 rz
                have h6 := Pst.mono h5 nx6
                simp only at h6
                have hn6 := nx6.pre _ _ (nx5.pre _ _ (nx4.pre _ _ hn3))
                unfold dput at h6
                split at h6
                · rename_i u M7 e7
                  split at e7
                  · rename_i kvs hkv
                    split at e7
                    · rename_i q hq
                      split at e7
                      · rename_i hl7
                        cases e7
                        exact ⟨k, v, M6, μ6, M1.length, rh6, RV.mono nx6 ry, rz, hn6, kvs, q, hkv, hq, hl7, fun H7 μ7 nx7 rh7 => ⟨_, μ7, (((n3.trans nx4).trans nx5).trans nx6).trans nx7, rh7, nx7.pre _ _ hn6, Pst.mono h6 nx7⟩⟩
                      · cases e7
                    · cases e7
                  · cases e7
                · exact h6.elim
theorem ex_dc (hr : Room 1 X.A) (hc : X.calm = true) (hN : X.N.Nodup) (hi : EI X Γ W tg iter s) (ok : BlkOk X.N X.env.scope scope own) (hp : ∀ i ∈ p.slots, i ∈ own.map (·.2))
    (hg : ∀ (s : Shared) (H : Hp) (C : Addr) (cl : List (Str × Addr)) (fp : List Addr), EG (X.blk s H scope (compEnvC scope cl C X.env) fp) Γ tg p) (ht : ∀ (s : Shared) (H : Hp) (C : Addr) (cl : List (Str × Addr)) (fp : List Addr), ETs (X.blk s H scope (compEnvC scope cl C X.env) fp) Γ W0 ifs t)
    (hk : ∀ (s : Shared) (H : Hp) (C : Addr) (cl : List (Str × Addr)) (fp : List Addr), EX (X.blk s H scope (compEnvC scope cl C X.env) fp) Γ W0 kx fk) (hv : ∀ (s : Shared) (H : Hp) (C : Addr) (cl : List (Str × Addr)) (fp : List Addr), EX (X.blk s H scope (compEnvC scope cl C X.env) fp) Γ W0 vx fv)
    (hs : ∀ x, foldedSetIterable iter X.env x = pure x := by intro _; rfl) : EX X Γ W (.DictComp kx vx [⟨tg, iter, ifs, 0⟩] scope pos) (xDc s (own.map (·.2)) p t fk fv) :=
  PE.imp (ex_dk0 (Γ := Γ) hr hc hN hi ok hg ht hk hv hs) fun σ H Q h => tDk_of hp h
theorem es_setDc (i : Nat) {y : Str} {py spos : Pos} (hr : Room 1 X.A) (hc : X.calm = true) (hN : X.N.Nodup) (hi : EI X Γ W tg iter s) (ok : BlkOk X.N X.env.scope scope own) (hp : ∀ i ∈ p.slots, i ∈ own.map (·.2))
    (hg : ∀ (s : Shared) (H : Hp) (C : Addr) (cl : List (Str × Addr)) (fp : List Addr), EG (X.blk s H scope (compEnvC scope cl C X.env) fp) Γ tg p) (ht : ∀ (s : Shared) (H : Hp) (C : Addr) (cl : List (Str × Addr)) (fp : List Addr), ETs (X.blk s H scope (compEnvC scope cl C X.env) fp) Γ W0 ifs t)
    (hk : ∀ (s : Shared) (H : Hp) (C : Addr) (cl : List (Str × Addr)) (fp : List Addr), EX (X.blk s H scope (compEnvC scope cl C X.env) fp) Γ W0 kx fk) (hv : ∀ (s : Shared) (H : Hp) (C : Addr) (cl : List (Str × Addr)) (fp : List Addr), EX (X.blk s H scope (compEnvC scope cl C X.env) fp) Γ W0 vx fv)
    (hsw : swapsWith (.DictComp kx vx [⟨tg, iter, ifs, 0⟩] scope pos) (some (.Name y py)) spos.line X.env = pure true) (hy : X.N[i]? = some y := by rfl) (hyl : X.env.scope.names.lookup y = some .local := by rfl)
    (hs : ∀ x, foldedSetIterable iter X.env x = pure x := by intro _; rfl) : ES X Γ W (.Assign [.Name y py] (.DictComp kx vx [⟨tg, iter, ifs, 0⟩] scope pos) spos) (sSet i (xDc s (own.map (·.2)) p t fk fv)) :=
  PS.imp (ps_dk (Γ := Γ) hr hc hN hy hyl hsw hi ok hg ht hk hv hs) fun E σ H ⟨ζ, M, μ, rr, h⟩ => tDk_of hp ⟨ζ, M, μ, rr, PstS.then h rr.sl fun v H1 d M1 μ1 nx rh rv h1 => h1 _ _ _ (Nx.refl _ _) rh ((rr.sl.mono nx).set rv i)⟩
end
end Mi
end
section
set_option maxRecDepth 100000
set_option maxHeartbeats 4000000
set_option autoImplicit false
namespace Mi
open PySem PySem.Spec PyProof.Rows L2

mutual
def pdT : D → Option PyData
  | .non => some .none
  | .bl b => some (.bool b)
  | .int i => some (.int i)
  | .str x => some (.str x)
  | .tup xs => (pdTs xs).map .tuple
  | .ref _ => none
  | .klst _ => none
  | .exc .. => none
def pdTs : List D → Option (List PyData)
  | [] => some []
  | x :: xs => match pdT x, pdTs xs with
    | some k, some ks => some (k :: ks)
    | _, _ => none
end
section
variable {X : Cx} {Γ : Gm} {pins : List (Addr × Obj)} {σ : L2.St} {H : Hp} {s : Shared} {μ : List Addr} {M : Hs}
mutual
theorem pd_reads (I : Inv X pins σ H s) : ∀ {d : D} {v : V} {u : Value} {p : PyData}, RV X.K H μ d v → RelV v u → pdT d = some p → Reads s.heap u p []
  | _, _, _, _, .non, r, h => by cases r; simp only [pdT] at h; cases h; exact .none
  | _, _, _, _, .bl b, r, h => by cases r; simp only [pdT] at h; cases h; exact .bool b
  | _, _, _, _, .int i, r, h => by obtain ⟨t, rfl⟩ := r; simp only [pdT] at h; cases h; exact .int i t
  | _, _, _, _, .str x, r, h => by obtain ⟨t, rfl⟩ := r; simp only [pdT] at h; cases h; exact .str x t
  | _, _, _, _, .tup g rs, r, h => by
    cases r
    simp only [pdT] at h
    obtain ⟨its, rv, ⟨o, ho, hc, n, hd⟩, _⟩ := I.tuple g
    cases e : pdTs _ with
    | none => rw [e] at h; cases h
    | some ks =>
      rw [e] at h
      cases h
      exact .tuple ho hc hd (pds_reads I rs (by simpa using rv) e)
  | _, _, _, _, .ref _, _, h => by simp [pdT] at h
  | _, _, _, _, .kls _ _, _, h => by simp [pdT] at h
  | _, _, _, _, .excN, _, h => by simp [pdT] at h
  | _, _, _, _, .excD _ _ _, _, h => by simp [pdT] at h
theorem pds_reads (I : Inv X pins σ H s) : ∀ {ds : List D} {vs : List V} {us : List Value} {ps : List PyData}, RVs X.K H μ ds vs → Vals vs us → pdTs ds = some ps → ReadsAll s.heap us ps []
  | _, _, _, _, .nil, r, h => by cases r; simp only [pdTs] at h; cases h; exact .nil
  | _, _, _, _, .cons a b, r, h => by
    cases r with
    | cons r1 r2 =>
      simp only [pdTs] at h
      split at h
      · rename_i k ks h1 h2
        cases h
        exact .cons (as := []) (bs := []) (pd_reads I a r1 h1) (pds_reads I b r2 h2)
      · cases h
end
/-- the order of data -/
def ltP (p q : PyData) : Bool := PyProof.Rows.lexLt PyProof.Rows.itemOrd (PySem.W.keyToks p) (PySem.W.keyToks q)
/-- things that are sorted by what they read as -/
structure SrtK (κ : Type) (f : κ → D) (enc : κ → PyData) : Prop where
  pd : ∀ k, pdT (f k) = some (enc k)
  inj : ∀ k l, PySem.W.keyToks (enc k) = PySem.W.keyToks (enc l) → k = l
  al : ∀ k l, PySem.W.alike (enc k) (enc l) = true
  tp : ∀ k, ∃ x r, enc k = .tuple (x :: r)
  dp : ∀ k, (enc k).depth ≤ 8
variable {κ : Type} {f : κ → D} {enc : κ → PyData}
def ltK (enc : κ → PyData) (k l : κ) : Bool := ltP (enc k) (enc l)
theorem SrtK.swo (S : SrtK κ f enc) : SrtO.Swo (ltK enc) := by
  refine ⟨fun x y h => ?_, fun x y z h1 h2 => ?_⟩
  · cases e : ltK enc y x with
    | false => rfl
    | true =>
      have a := (PyProof.Rows.listOrd PyProof.Rows.itemOrd).trans _ _ _ h e
      have b := (PyProof.Rows.listOrd PyProof.Rows.itemOrd).irrefl (PySem.W.keyToks (enc x))
      exact absurd (a.symm.trans b) (by decide)
  · cases e : ltK enc z x with
    | false => rfl
    | true =>
      rcases (PyProof.Rows.listOrd PyProof.Rows.itemOrd).negTrans _ (PySem.W.keyToks (enc y)) _ e with a | a
      · exact absurd (a.symm.trans h2) (by decide)
      · exact absurd (a.symm.trans h1) (by decide)
theorem SrtK.eq (S : SrtK κ f enc) (x y : κ) (h : SrtO.eqv (ltK enc) x y = true) : y = x := by
  obtain ⟨h1, h2⟩ := SrtO.eqv_iff.mp h
  exact (S.inj _ _ ((PyProof.Rows.listOrd PyProof.Rows.itemOrd).total _ _ h1 h2)).symm
theorem SrtK.sorted [Inhabited κ] (S : SrtK κ f enc) {E : Value → Shared → Prop} {Q : VK} (hr : Room 1 X.A) (hc : X.calm = true) (I : Inv X pins σ H s) (rh : RH X.prog X.w X.K Γ μ M H) {n : Nat} {a : Addr} {ks : List κ}
    (h : itemsA M (.ref n) = some (ks.map f)) (ea : μ[n]? = some a) (hq : ∀ p, H p = none → ∀ vs, RVs X.K H μ ((srtB (ltK enc) ks).map f) vs → Q (.ref p) (upd H p (.lst vs))) : wpAny (model X.prog X.w) X.A (call (.builtin "sorted") [.ref a]) (EP X pins σ Q) E s := by
  have hu := hr.un
  refine sorted_go S.swo S.eq f hc I rh (fun hq => collect_A (A := X.A.in1) (I.ok.hd hc) I rh h ea hq) (fun h' tk us I1 sh => ?_) hq
  have each : PySem.W.EachIs (fun u (k : κ) => Reads h' u (enc k) []) us ks := by
    obtain ⟨vs, r, t⟩ := sh
    clear h ea rh hq
    induction ks generalizing us vs with
    | nil => cases r; cases t; exact .nil
    | cons k ks ih =>
      cases r with
      | cons r1 r2 => cases t with
        | cons t1 t2 => exact .cons (pd_reads (s := { s with heap := h', toks := tk }) I1 r1 t1 (S.pd k)) (ih _ _ r2 t2)
  have one : ∀ {u : Value} {k l : κ}, Reads h' u (enc k) [] → Reads h' u (enc l) [] → k = l := fun r1 r2 => S.inj _ _ (by rw [(r1.unique _ _ r2).1])
  obtain ⟨g, hg, hgr⟩ : ∃ g : Value → κ, us.map g = ks ∧ ∀ u ∈ us, Reads h' u (enc (g u)) [] := by
    classical
    refine ⟨fun u => if x : ∃ k : κ, Reads h' u (enc k) [] then x.choose else default, ?_, ?_⟩
    · clear h ea rh hq sh
      induction each with
      | nil => rfl
      | @cons u k us ks h1 t ih =>
        have x : ∃ k : κ, Reads h' u (enc k) [] := ⟨k, h1⟩
        rw [List.map_cons, ih, dif_pos x, one x.choose_spec h1]
    · intro u hu
      obtain ⟨k, _, h1⟩ := each.left u hu
      have x : ∃ k : κ, Reads h' u (enc k) [] := ⟨k, h1⟩
      dsimp only
      rw [dif_pos x]
      exact x.choose_spec
  refine ⟨g, hg, fun h2 h₁ l hl kp => ?_⟩
  intro h'' hk
  have up : ∀ b o, h'.get? b = some o → h''.get? b = some o := fun b o e => hk b o (kp b o e).1 (kp b o e).2
  have e2 : PySem.W.EachIs (fun v d => ∃ as, Reads h'' v d as) us (us.map fun u => enc (g u)) := by
    clear hg h2 hl hk each sh
    induction us with
    | nil => exact .nil
    | cons u us ih => exact .cons ⟨[], PyProof.Rows.Reads.keeps up (hgr u List.mem_cons_self)⟩ (ih fun w hw => hgr w (List.mem_cons_of_mem _ hw))
  have al : PySem.W.AllAlike (us.map fun u => enc (g u)) := PySem.W.AllAlike.of (enc := fun u => enc (g u)) fun _ _ => S.al _ _
  have T := PySem.W.SortsAt.data (prog := X.prog) (w := X.w) (A := X.A.in1.in1) (s := { s with heap := h'', toks := tk }) e2 al (PySem.W.Sortable.tuples (enc := fun u => enc (g u)) fun _ => S.tp _) (fun d hd => by
    obtain ⟨u, _, rfl⟩ := List.mem_map.mp hd
    have := S.dp (g u)
    show X.A.units + 2 + _ < cLine
    omega)
  obtain ⟨kd, hlt, hkind⟩ := T.kind
  refine ⟨kd, fun Q E hq => hkind h2 E hq, ?_⟩
  intro p q hp hq
  have key : ∀ v ∈ us, (PySem.W.dataKind h'' (us.map fun u => enc (g u))).keyOf v = some (PySem.W.keyToks (enc (g v))) := fun v hv => PySem.W.dataKind_some al (List.mem_map.mpr ⟨v, hv, rfl⟩) (PyProof.Rows.Reads.keeps up (hgr v hv))
  exact hlt _ _ _ _ _ (key _ hp) (key _ hq) ⟨rfl, rfl⟩
end
abbrev P6 := T3 × T3
def p6D (p : P6) : D := .tup [tr3 p.1, tr3 p.2]
def t3P (t : T3) : PyData := .tuple [.int t.1, .int t.2.1, .int t.2.2]
def p6P (p : P6) : PyData := .tuple [t3P p.1, t3P p.2]
theorem srt_p6 : SrtK P6 p6D p6P where
  pd := fun ⟨a, b⟩ => by simp [p6D, tr3, pdT, pdTs, p6P, t3P]
  inj := fun ⟨⟨a1, a2, a3⟩, ⟨b1, b2, b3⟩⟩ ⟨⟨c1, c2, c3⟩, ⟨d1, d2, d3⟩⟩ h => by
    simp [p6P, t3P, PySem.W.keyToks, PySem.W.keyToksAll] at h
    simp [h]
  al := fun ⟨a, b⟩ ⟨c, d⟩ => by simp [p6P, t3P, PySem.W.alike, PySem.W.alikeAll]
  tp := fun p => ⟨_, _, rfl⟩
  dp := fun p => by simp [p6P, t3P, PyData.depth, PyData.depthAll]
abbrev lt6 : P6 → P6 → Bool := ltK p6P
def t3of : D → Option T3
  | .tup [.int i, .int j, .int k] => some (i, j, k)
  | _ => none
theorem t3of_ok {d : D} {t : T3} (h : t3of d = some t) : d = tr3 t := by
  unfold t3of at h
  split at h
  · cases h; rfl
  · cases h
def p6s : List D → Option (List P6)
  | [] => some []
  | .tup [a, b] :: r => match t3of a, t3of b, p6s r with
    | some x, some y, some ps => some ((x, y) :: ps)
    | _, _, _ => none
  | _ => none
theorem p6s_ok : ∀ {xs : List D} {ps : List P6}, p6s xs = some ps → xs = ps.map p6D
  | [], ps, h => by cases h; rfl
  | x :: xs, ps, h => by
    unfold p6s at h
    split at h
    · rename_i e; cases e
    · rename_i a b r e
      cases e
      split at h
      · rename_i x y qs h1 h2 h3
        cases h
        rw [p6s_ok h3, t3of_ok h1, t3of_ok h2]
        rfl
      · cases h
    · cases h
/-- sorted of ints, pairs of ints, pairs of triples -/
def gSortedA : GL := fun ds M => match gSorted ds M with
  | some r => some r
  | none => match ds with
    | [.ref n] => match itemsA M (.ref n) with
      | some xs => match p6s xs with
        | some ps => some (.ref M.length, M ++ [.lst ((srtB lt6 ps).map p6D)])
        | none => none
      | none => none
    | _ => none
section
variable {X : Cx} {Γ : Gm}
theorem b_sortedA (hr : Room 1 X.A) (hc : X.calm = true) : CB X Γ (.builtin "sorted") gSortedA := by
  intro pins s σ H xs us Q I r ⟨ds, M, μ, rh, rv, hq⟩
  unfold gSortedA at hq
  split at hq
  · rename_i e
    exact b_sorted hc pins s σ H xs us Q I r ⟨ds, M, μ, rh, rv, by rw [e]; exact hq⟩
  · split at hq
    · obtain ⟨v, rfl, r1⟩ := one_rel rv
      obtain ⟨a, rfl, ea⟩ := ref_rel r1
      obtain ⟨u, rfl, ru⟩ := Vals.one r
      cases ru
      split at hq
      · rename_i ys hx
        split at hq
        · rename_i ps hp
          have e := p6s_ok hp
          subst e
          exact srt_p6.sorted hr hc I rh hx ea fun p hp vs rv => Pk.new rh hq hp ⟨_, upd_same, rv.mono (Nx.fresh hp _)⟩
        · exact hq.elim
      · exact hq.elim
    · exact hq.elim
end
end Mi
end
section
set_option maxRecDepth 100000
set_option maxHeartbeats 2000000
set_option autoImplicit false
namespace Mi
open PySem PySem.Spec PyProof.Rows L2

/-- the def at m of the class c does what F does -/
structure MetD (P : Program) (w : World) (K : PySem.W.Frag) (mg : Str → Option Value) (base : Heap) (Γ : Gm) (k c : Nat) (m : Str) (n : Nat) (F : MF) : Prop where
  i : ∃ f fd ps, Meth K (Γ.cA c) m f ∧ FnOk P w K mg base (L2.CX P w) k f fd ps (spF P w K Γ n F) ∧ Binds K fd ps []
theorem MetD.mono {P : Program} {w : World} {K : PySem.W.Frag} {mg : Str → Option Value} {base : Heap} {Γ : Gm} {j k c : Nat} {m : Str} {n : Nat} {F : MF} (T : MetD P w K mg base Γ j c m n F) (h : j ≤ k) : MetD P w K mg base Γ k c m n F :=
  let ⟨f, fd, ps, a, b, d⟩ := T.i; ⟨⟨f, fd, ps, a, b.mono h, d⟩⟩
/-- the getter of a property -/
structure GetD (P : Program) (w : World) (K : PySem.W.Frag) (mg : Str → Option Value) (base : Heap) (Γ : Gm) (k c : Nat) (m : Str) (F : MF) : Prop where
  i : ∃ p f fd ps, PropOf K (Γ.cA c) m p f ∧ FnOk P w K mg base (L2.CX P w) k f fd ps (spF P w K Γ 1 F) ∧ Binds K fd ps []
def xMet (c n : Nat) (F : MF) (fo : MX) (ga : MA) : MX := fun ζ M => (fo ζ M).bind fun x M1 => match slAt c x M1 with
  | some _ => (ga ζ M1).bind fun ds M2 => if ds.length + 1 = n then F (x :: ds) M2 else .no
  | none => .no
def okR {α : Type} : R α → Option (α × Hs)
  | .ok a M => some (a, M)
  | _ => none
def xPrp (c : Nat) (F : MF) (fo : MX) : MX := fun ζ M => (fo ζ M).bind fun x M1 => match slAt c x M1 with
  | some _ => R.of (okR (F [x] M1))
  | none => .no
/-- no exception -/
abbrev E0 : XK := fun _ _ _ => False
theorem cx_none {P : Program} {w : World} {o : List Env} (H : Hp) (s : Shared) (e : Value) (s' : Shared) : L2.CX P w o H s E0 e s' → False := fun ⟨_, _, _, _, _, _, _, _, _, _, _, _, z⟩ => z
theorem spF_ok {P : Program} {w : World} {K : PySem.W.Frag} {Γ : Gm} {n : Nat} {F : MF} {ds : List D} {vs : List V} {M : Hs} {μ : List Addr} {H : Hp} {Q : VK} (rh : RH P w K Γ μ M H) (r : RVs K H μ ds vs) (hl : ds.length = n) (h : Pk P w K Γ (relV K) μ H (okR (F ds M)) Q) : spF P w K Γ n F vs H Q E0 := by
  refine ⟨ds, M, μ, rh, r, hl, ?_⟩
  cases e : F ds M with
  | ok d M' => rw [e] at h; exact h
  | ex c fs M' => rw [e] at h; exact h.elim
  | no => rw [e] at h; exact h.elim
theorem slAt_slt {P : Program} {w : World} {K : PySem.W.Frag} {Γ : Gm} {μ : List Addr} {M : Hs} {H : Hp} {c : Nat} {x : D} {v : V} {q : Nat × List (Option D)} (rh : RH P w K Γ μ M H) (r : RV K H μ x v) (h : slAt c x M = some q) : ∃ a dx vs, v = .ref a ∧ SlX.Slt H a (Γ.cA c) dx vs := by
  obtain ⟨n, fs⟩ := q
  obtain ⟨rfl, hm⟩ := slAt_ok h
  obtain ⟨a, rfl, ea⟩ := ref_rel r
  obtain ⟨dx, vs, h2, _⟩ := rh.at_ _ _ _ hm ea
  exact ⟨a, dx, vs, rfl, h2⟩
section
variable {X : Cx} {Γ : Gm} {W : WX} {e o : Expr} {es : List Expr} {fo fe : MX} {ga : MA} {f m : Str} {c k n : Nat} {pos apos : Pos} {F : MF}
theorem ex_met {pl : Sem Bool} (S : SlX.SCls X.K (Γ.cA c)) (T : MetD X.prog X.w X.K X.mg X.base Γ k c m n F) (hr : Room k X.A) (tk : Takes X W) (ho : EX X Γ W o fo) (ha : EA X Γ W (e :: es) ga)
    (hst : starEach (e :: es) X.env = (false, eval e X.env) :: starEach es X.env := by rfl) (hpl : (backTo pos (starEach es X.env)).any (·.1) = false := by rfl)
    (ht : eval (.Call (.Attribute o m apos) (e :: es) [] pos) X.env = (do
      let ov ← eval o X.env
      standAt apos.atName
      let (f, first) ← holding [ov] (getMethod ov m pl)
      callWith pos f first (backTo pos (starEach (e :: es) X.env)) (backToKw pos (keywordEach [] X.env))) := by rfl) : EX X Γ W (.Call (.Attribute o m apos) (e :: es) [] pos) (xMet c n F fo ga) := by
  obtain ⟨f, fd, ps, hm, F1, hb⟩ := T.i
  refine ⟨fun pins s σ H Q I ⟨ζ, M, μ, rr, h⟩ => ?_⟩
  have h' : tX X.prog X.w X.K Γ W fo σ H fun x H1 => ∃ a dx vs, x = .ref a ∧ SlX.Slt H1 a (Γ.cA c) dx vs ∧ tA X.prog X.w X.K Γ W ga σ H1 fun us H2 => spF X.prog X.w X.K Γ n F (x :: us) H2 Q (WE W σ) :=
    ⟨ζ, M, μ, rr, Pst.then h fun v H1 d M1 μ1 nx rh rv h1 => by
      cases hs : slAt c d M1 with
      | none => rw [hs] at h1; exact h1.elim
      | some q =>
        rw [hs] at h1
        obtain ⟨a, dx, vs, rfl, h2⟩ := slAt_slt rh rv hs
        exact ⟨a, dx, vs, rfl, h2, ζ, M1, μ1, ⟨rr.sl.mono nx, rh⟩, Pst.then h1 fun us H2 ds M2 μ2 nx2 rh2 rvs h3 => spF_of (W := W) rh2 (.cons (RV.mono nx2 rv) rvs) (by simpa using h3)⟩⟩
  refine PySem.W.methodCall_KW (pl := pl) (thn (ho.run pins s σ H _ I h') fun u s1 ⟨x, H1, I1, rx, a, dx, vs, ex, hs, q⟩ => ?_) ht
  subst ex
  obtain rfl : u = Value.ref a := rx
  refine SlX.getmethsl_ok I1 hs S hm (PySem.W.callWith_K (first := [.ref a]) (h₀ := X.base) I.ok.mod.kin hm.kp (thn (ha.run pos pins s1 σ H1 _ I1 q) fun us s2 ⟨ws, H2, I2, r, q2⟩ => ⟨I2.kIn, ?_⟩) hst hpl)
  exact run_fnS (us := .ref a :: us) (vs := .ref a :: ws) F1 hr hb (passAt tk σ) I2 (.cons rfl r) q2
theorem ex_prp (S : SlX.SCls X.K (Γ.cA c)) (T : GetD X.prog X.w X.K X.mg X.base Γ k c f F) (hr : Room (k + 1) X.A) (he : EX X Γ W e fe) (hb : attributeBase e f X.env (eval e X.env) = eval e X.env := by rfl) : EX X Γ W (.Attribute e f pos) (xPrp c F fe) := by
  obtain ⟨p, g, fd, ps, hp, F1, hbi⟩ := T.i
  refine PE.imp (SlX.pe_propSl he S hp.at_ hp.get hp.tak hp.rec_ (FnOk.raw F1 hbi .nil) hr cx_none hb) fun σ H Q ⟨ζ, M, μ, rr, h⟩ => ⟨ζ, M, μ, rr, Pst.then h fun v H1 d M1 μ1 nx rh rv h1 => ?_⟩
  cases hs : slAt c d M1 with
  | none => rw [hs] at h1; exact h1.elim
  | some q =>
    rw [hs] at h1
    obtain ⟨a, dx, vs, rfl, h2⟩ := slAt_slt rh rv hs
    refine ⟨a, dx, vs, rfl, h2, ?_⟩
    exact spF_ok rh (.cons rv .nil) rfl h1.of
def isLs (y : D) (M : Hs) : Bool := match y with
  | .ref n => (hLst M n).isSome
  | _ => false
def gEqC (c : Nat) (F : MF) (x y : D) (M : Hs) : Option (D × Hs) := match slAt c x M with
  | some _ => if ((slAt c y M).isSome || isLs y M) = true then okR (F [x, y] M) else none
  | none => none
theorem m_eqC (S : SlX.SCls X.K (Γ.cA c)) (T : MetD X.prog X.w X.K X.mg X.base Γ k c "__eq__" 2 F) (hn : PySem.W.notFirst X.K (Γ.cA c) (.type "list") = true) (hr : Room k X.A) : Op2 X Γ (compareOp .Eq) (gEqC c F) := by
  obtain ⟨f, fd, ps, hm, F1, hb⟩ := T.i
  have hx : Passes (L2.CX X.prog X.w) X E0 := fun _ _ _ _ _ _ _ z => (cx_none _ _ _ _ z).elim
  intro pins s σ H x y v u Q I rx ry ⟨d, e, M, μ, rh, rd, re, hq⟩
  unfold gEqC at hq
  cases hs : slAt c d M with
  | none => rw [hs] at hq; exact hq.elim
  | some q =>
    rw [hs] at hq
    obtain ⟨a, dx, vs, rfl, h2⟩ := slAt_slt rh rd hs
    dsimp only at hq
    split at hq
    · rename_i hy
      have sp := spF_ok (n := 2) rh (.cons rd (.cons re .nil)) rfl hq
      cases hs2 : slAt c e M with
      | some q2 =>
        obtain ⟨b, dy, ws, rfl, h3⟩ := slAt_slt rh re hs2
        refine SlX.op_own (op := .Eq) (fun _ _ => rfl) hm.at_ hm.fn (FnOk.raw F1 hb .nil) hr hx pins s σ H _ _ v u Q I rx ry ⟨a, dx, vs, b, Γ.cA c, dy, ws, rfl, rfl, h2, h3, ?_, ?_⟩
        · unfold PySem.W.notFirst
          simp
        · exact sp
      | none =>
        rw [hs2] at hy
        unfold isLs at hy
        cases e with
        | ref n =>
          obtain ⟨b, rfl, eb⟩ := ref_rel re
          simp only [Option.isSome_none, Bool.false_or] at hy
          obtain ⟨xs, hl⟩ := Option.isSome_iff_exists.mp hy
          obtain ⟨ws, g, _⟩ := nlst rh (hLst_ok rh hl) eb
          cases (show v = Value.ref a from rx)
          cases (show u = Value.ref b from ry)
          obtain ⟨sl, od, _, J, _⟩ := SlX.slt_inst I h2
          obtain ⟨m0, hF⟩ := I.fr
          obtain ⟨_, its, nn, _, h5⟩ := (show ObjOk X.prog X.w H s.heap b (.lst ws) from I.hok b _ g)
          have LT : PySem.W.Looks (model X.prog X.w) s.heap (typeOf (.ref b)) (.type "list") := (PySem.W.kitx_list (K := X.K)).ty _ _ I.kIn ⟨_, h5, rfl⟩
          show wpAny (model X.prog X.w) X.A (richCompare .Eq (.ref a) (.ref b)) _ _ s
          refine PySem.W.cmp_K (op := .Eq) (tb := .type "list") hr.units0 hF I.ok.mod.kin J LT hn hm.at_ hm.fn ?_
          refine wpAny_mono (wpAny_call (run_fnR (us := [.ref a, .ref b]) (vs := [.ref a, .ref b]) (FnOk.raw F1 hb .nil) hr hx I (.cons rfl (.cons rfl .nil)) sp)) (fun w' s' z => ?_) fun _ _ x => x
          obtain ⟨z', H', I', rz, qz⟩ := z
          exact SlX.cmpback rz ⟨z', H', I', rz, qz⟩
        | _ => cases hy
    · exact hq.elim
def xIsC (c : Nat) (f : MX) : MX := fun ζ M => (f ζ M).bind fun x M1 => if (slAt c x M1).isSome = true then .ok (.bl true) M1 else if isLs x M1 = true then .ok (.bl false) M1 else .no
theorem ex_isC {x : Str} {p p2 : Pos} (S : SlX.SCls X.K (Γ.cA c)) (Si : SlX.SIsi X.K (Γ.cA c)) (h1 : PySem.W.kitOne X.K (.ref (Γ.cA c)) (.ref (Γ.cA c)) = some true) (h2 : PySem.W.kitOne X.K (.type "list") (.ref (Γ.cA c)) = some false) (he : EX X Γ W e fe)
    (hC : PE X (.Name x p2) (tC (.ref (Γ.cA c)))) (hm : X.mg "isinstance" = none) (hg : Gl X "isinstance" := by rfl)
    (he1 : starEach [e, .Name x p2] X.env = (false, eval e X.env) :: starEach [.Name x p2] X.env := by rfl) : EX X Γ W (.Call (.Name "isinstance" p) [e, .Name x p2] [] pos) (xIsC c fe) := by
  have cr : CallR X (.builtin "isinstance") (fun xs H Q => SlX.rIsiSl X.K (.ref (Γ.cA c)) xs H Q ∨ rIsi X.K xs H Q) := fun pins s σ H xs us Q I r h => by
    rcases h with h | h
    · exact SlX.call_isiSl (.ref (Γ.cA c)) pins s σ H xs us Q I r h
    · exact call_isi pins s σ H xs us Q I r h
  refine PE.imp (pe_callB cr hg hm boot_isinstance (pa_cons he (pa_cons hC pa_nil) he1) (by decide) (by decide) he1) fun σ H Q ⟨ζ, M, μ, rr, h⟩ => ⟨ζ, M, μ, rr, Pst.then h fun v H1 d M1 μ1 nx rh rv h3 => ?_⟩
  split at h3
  · rename_i hs
    obtain ⟨q, hs⟩ := Option.isSome_iff_exists.mp hs
    obtain ⟨a, dx, vs, rfl, h4⟩ := slAt_slt rh rv hs
    exact .inl ⟨a, Γ.cA c, dx, vs, .ref (Γ.cA c), true, rfl, rfl, fun w h => h, h4, S, Si, h1, h3 _ _ _ (Nx.refl _ _) rh (.bl _)⟩
  · split at h3
    · rename_i hl
      unfold isLs at hl
      cases d with
      | ref n =>
        obtain ⟨b, rfl, eb⟩ := ref_rel rv
        obtain ⟨xs, hl⟩ := Option.isSome_iff_exists.mp hl
        obtain ⟨ws, g, _⟩ := nlst rh (hLst_ok rh hl) eb
        exact .inr ⟨.ref b, .ref (Γ.cA c), .type "list", .ref (Γ.cA c), false, rfl, .own _, .base (.lst g), h2, h3 _ _ _ (Nx.refl _ _) rh (.bl _)⟩
      | _ => cases hl
    · exact h3.elim
def fldOf (nm : Nat → List Str) (c : Nat) (f : Str) (fs : List D) : Option D := ((nm c).zip fs).lookup f
theorem lookup_zip {K : PySem.W.Frag} {H : Hp} {μ : List Addr} {f : Str} {d : D} : ∀ {ns : List Str} {fs : List D} {vs : List V}, RVs K H μ fs vs → (ns.zip fs).lookup f = some d → ∃ v, (ns.zip vs).lookup f = some v ∧ RV K H μ d v
  | [], _, _, _, h => by simp at h
  | n :: ns, _, _, .nil, h => by simp at h
  | n :: ns, _, _, .cons r t, h => by
    rw [List.zip_cons_cons, List.lookup_cons] at h ⊢
    cases hb : f == n with
    | true => rw [hb] at h; cases h; exact ⟨_, rfl, r⟩
    | false => rw [hb] at h; exact lookup_zip t h
def xXf2 (nm : Nat → List Str) (a : Addr) (d : Option Addr) (c : Nat) (ok : Nat → Bool) (f : Str) (fe : MX) : MX := fun ζ M => if ok c = true then (fe ζ M).bind fun y M1 => match y with
  | .exc a' d' c' ns fs => if a' = a ∧ c' = c ∧ d' = d ∧ ns = nm c ∧ d.isSome = true then match fldOf nm c f fs with
    | some z => .ok z M1
    | none => .no else .no
  | _ => .no else .no
theorem ex_xf2 {a : Addr} {oe : Obj} {d : Option Addr} {pn : List (Addr × Obj)} {ok : Nat → Bool} (hz : Zc (.ref (Γ.cA c)) d oe) (hf : ∃ vs, oe.data = .fields vs) (T : ok c = true → XfC X.K (Γ.cA c) ∧ PySem.W.findIn X.K (.ref (Γ.cA c)) f = some none)
    (he : EX (X.suite a ((a, oe) :: pn)) Γ W e fe) (hb : attributeBase e f X.env (eval e X.env) = eval e X.env := by rfl) : EX (X.suite a ((a, oe) :: pn)) Γ W (.Attribute e f pos) (xXf2 Γ.cN a d c ok f fe) := by
  by_cases hok : ok c = true
  · obtain ⟨T1, T2⟩ := T hok
    refine PE.imp (pe_xf (cls := .ref (Γ.cA c)) T1 T2 hz hf he hb) fun σ H Q ⟨ζ, M, μ, rr, h⟩ => ⟨ζ, M, μ, rr, ?_⟩
    unfold xXf2 at h
    rw [if_pos hok] at h
    refine Pst.then h fun v H1 y M1 μ1 nx rh rv h1 => ?_
    split at h1
    · rename_i a' d' c' ns fs
      split at h1
      · rename_i hh
        obtain ⟨rfl, rfl, rfl, rfl, hd⟩ := hh
        split at h1
        · rename_i z hz'
          obtain ⟨dd, rfl⟩ := Option.isSome_iff_exists.mp hd
          obtain ⟨rfl, hx⟩ := exc_dict rv
          obtain ⟨vs, g1, g2, g3⟩ := hx dd rfl
          obtain ⟨u, g4, g5⟩ := lookup_zip g3 hz'
          exact ⟨rfl, rfl, dd, _, u, rfl, g1, g4, h1 _ _ _ (Nx.refl _ _) rh g5⟩
        · exact h1.elim
      · exact h1.elim
    · exact h1.elim
  · refine ⟨fun pins s σ H Q I ⟨ζ, M, μ, rr, h⟩ => ?_⟩
    unfold xXf2 at h
    rw [if_neg hok] at h
    exact h.elim
def gMulA (x y : D) (M : Hs) : Option (D × Hs) := match x, y with
  | .int i, .int j => gMul (.int i) (.int j) M
  | .tup xs, .int k => if xs ≠ [] ∧ 2 ≤ k ∧ k ≤ 1000 ∧ xs.length ≤ 1000 then some (.tup (List.replicate k.toNat xs).flatten, M) else none
  | .ref n, .int k => match hLst M n with
    | some xs => if -(2 ^ 63) ≤ k ∧ k < 2 ^ 63 ∧ xs.length * k.toNat ≤ sizeLine then some (.ref M.length, M ++ [.lst (List.replicate k.toNat xs).flatten]) else none
    | none => none
  | _, _ => none
theorem RVs.rep {K : PySem.W.Frag} {H : Hp} {μ : List Addr} {ds : List D} {vs : List V} (r : RVs K H μ ds vs) : ∀ m : Nat, RVs K H μ (List.replicate m ds).flatten (List.replicate m vs).flatten
  | 0 => .nil
  | m + 1 => by
    rw [List.replicate_succ, List.replicate_succ, List.flatten_cons, List.flatten_cons]
    exact r.append (RVs.rep r m)
theorem m_mulA : Op2 X Γ (binaryOp .Mult) gMulA := by
  intro pins s σ H x y v u Q I rx ry ⟨d, e, M, μ, rh, rd, re, hq⟩
  unfold gMulA at hq
  split at hq
  · exact m_mul pins s σ H x y v u Q I rx ry ⟨_, _, M, μ, rh, rd, re, hq⟩
  · cases rd with
    | tup h1 r1 =>
      cases re
      split at hq
      · rename_i hc
        refine op_repT pins s σ H _ _ v u Q I rx ry ⟨_, _, _, rfl, rfl, h1, fun z => ?_, hc.2.1, hc.2.2.1, by rw [← r1.length]; exact hc.2.2.2, fun p hp => Pk.tup rh hq hp (r1.rep _)⟩
        subst z
        cases r1
        exact hc.1 rfl
      · exact hq.elim
  · obtain ⟨a, rfl, ea⟩ := ref_rel rd
    cases re
    split at hq
    · rename_i xs hl
      obtain ⟨vs, g, r⟩ := nlst rh (hLst_ok rh hl) ea
      split at hq
      · rename_i hc
        exact op_rep pins s σ H _ _ v u Q I rx ry ⟨a, _, vs, rfl, rfl, g, hc.1, hc.2.1, by rw [← r.length]; exact hc.2.2, fun p hp => Pk.new rh hq hp ⟨_, upd_same, (r.rep _).mono (Nx.fresh hp _)⟩⟩
      · exact hq.elim
    · exact hq.elim
  · exact hq.elim
end
end Mi
end
section
set_option maxRecDepth 100000
set_option maxHeartbeats 2000000
set_option autoImplicit false
namespace Mi
open PySem PySem.Spec PyProof.Rows L2

def inAt (c : Nat) (x : D) (M : Hs) : Option (Nat × List D) := match x with
  | .ref n => match M[n]? with
    | some (.ins c' fs) => if c' = c then some (n, fs) else none
    | _ => none
  | _ => none
theorem inAt_ok {c n : Nat} {x : D} {M : Hs} {fs : List D} (h : inAt c x M = some (n, fs)) : x = .ref n ∧ M[n]? = some (.ins c fs) := by
  unfold inAt at h
  split at h
  · split at h
    · split at h
      · rename_i e hc
        cases h
        subst hc
        exact ⟨rfl, e⟩
      · cases h
    · cases h
  · cases h
def putI (i : Nat) (d : D) (fs : List D) : Option (List D) := if i < fs.length then some (fs.set i d) else if i = fs.length then some (fs ++ [d]) else none
def xFldI (c i : Nat) (f : MX) : MX := fun ζ M => (f ζ M).bind fun x M1 => match inAt c x M1 with
  | some (_, fs) => match fs[i]? with
    | some d => .ok d M1
    | none => .no
  | none => .no
def sFldI (c i : Nat) (fo fv : MX) : MS := fun ζ M => RS.of ζ (fv ζ M) fun y M1 => RS.of ζ (fo ζ M1) fun x M2 => match inAt c x M2 with
  | some (n, fs) => match putI i y fs with
    | some fs' => .nx ζ (M2.set n (.ins c fs'))
    | none => .no
  | none => .no
/-- the field's name stands at i among the class's names -/
structure InF (K : PySem.W.Frag) (Γ : Gm) (c : Nat) (f : Str) (i : Nat) : Prop where
  cl : Cls K (Γ.cA c)
  n : NoAttr K (Γ.cA c) f
  ix : (Γ.cN c)[i]? = some f
  nd : (Γ.cN c).Nodup
  l : (Γ.cN c).length < 900
section
variable {P : Program} {w : World} {K : PySem.W.Frag} {Γ : Gm} {μ : List Addr} {H : Hp} {M : Hs}
theorem zip_lookup {β : Type} {f : Str} {v : β} : ∀ {ns : List Str} {vs : List β} {i : Nat}, ns.Nodup → ns[i]? = some f → vs[i]? = some v → (ns.zip vs).lookup f = some v
  | [], _, _, _, h, _ => by simp at h
  | n :: ns, [], i, _, _, h => by simp at h
  | n :: ns, u :: vs, 0, nd, h, g => by
    simp at h g
    subst h g
    simp [List.lookup_cons]
  | n :: ns, u :: vs, i + 1, nd, h, g => by
    have hne : (f == n) = false := by
      refine beq_eq_false_iff_ne.mpr fun e => ?_
      subst e
      rw [List.nodup_cons] at nd
      exact nd.1 (List.mem_of_getElem? (by simpa using h))
    rw [List.zip_cons_cons, List.lookup_cons, hne]
    exact zip_lookup (List.nodup_cons.mp nd).2 (by simpa using h) (by simpa using g)
theorem zip_none {β : Type} {f : Str} : ∀ {ns : List Str} {vs : List β}, f ∉ ns → (ns.zip vs).lookup f = none
  | [], _, _ => rfl
  | _ :: _, [], _ => by simp
  | n :: ns, u :: vs, h => by
    have hne : (f == n) = false := beq_eq_false_iff_ne.mpr fun e => h (by rw [e]; exact List.mem_cons_self)
    rw [List.zip_cons_cons, List.lookup_cons, hne]
    exact zip_none fun z => h (List.mem_cons_of_mem _ z)
theorem putF_zip {f : Str} {v : V} : ∀ {ns : List Str} {vs : List V} {i : Nat}, ns.Nodup → ns[i]? = some f → (i < vs.length → putF f v (ns.zip vs) = ns.zip (vs.set i v)) ∧ (i = vs.length → putF f v (ns.zip vs) = ns.zip (vs ++ [v]))
  | [], _, _, _, h => by simp at h
  | n :: ns, [], i, nd, h => ⟨fun z => by simp at z, fun z => by
      subst z
      simp at h
      subst h
      simp [putF]⟩
  | n :: ns, u :: vs, 0, nd, h => ⟨fun _ => by
      simp at h
      subst h
      simp [putF], fun z => by simp at z⟩
  | n :: ns, u :: vs, i + 1, nd, h => by
    have hne : n ≠ f := fun e => by
      subst e
      rw [List.nodup_cons] at nd
      exact nd.1 (List.mem_of_getElem? (by simpa using h))
    obtain ⟨h1, h2⟩ := putF_zip (v := v) (vs := vs) (List.nodup_cons.mp nd).2 (by simpa using h)
    refine ⟨fun z => ?_, fun z => ?_⟩
    · rw [List.zip_cons_cons, putF, if_neg hne, List.set_cons_succ, List.zip_cons_cons, h1 (by simpa using z)]
    · rw [List.zip_cons_cons, putF, if_neg hne, List.cons_append, List.zip_cons_cons, h2 (by simpa using z)]
theorem inAt_at {c : Nat} {x : D} {v : V} {n : Nat} {fs : List D} (rh : RH P w K Γ μ M H) (r : RV K H μ x v) (h : inAt c x M = some (n, fs)) : ∃ a dx vs, v = .ref a ∧ μ[n]? = some a ∧ M[n]? = some (.ins c fs) ∧ RVs K H μ fs vs ∧ H a = some (.ins (Γ.cA c) dx ((Γ.cN c).zip vs)) ∧ vs.length ≤ (Γ.cN c).length := by
  obtain ⟨rfl, hm⟩ := inAt_ok h
  obtain ⟨a, rfl, ea⟩ := ref_rel r
  obtain ⟨dx, vs, h1, h2, h3⟩ := rh.at_ _ _ _ hm ea
  exact ⟨a, dx, vs, rfl, ea, hm, h1, h2, h3⟩
end
def xMetI (c n : Nat) (F : MF) (fo : MX) (ga : MA) : MX := fun ζ M => (fo ζ M).bind fun x M1 => match inAt c x M1 with
  | some _ => (ga ζ M1).bind fun ds M2 => if ds.length + 1 = n then F (x :: ds) M2 else .no
  | none => .no
def xPrpI (c : Nat) (F : MF) (fo : MX) : MX := fun ζ M => (fo ζ M).bind fun x M1 => match inAt c x M1 with
  | some _ => R.of (okR (F [x] M1))
  | none => .no
/-- len of an instance with its own one, or of what the built-in takes -/
def xLenI (c : Nat) (F : MF) (fo : MX) : MX := fun ζ M => (fo ζ M).bind fun x M1 => match inAt c x M1 with
  | some _ => match okR (F [x] M1) with
    | some (.int i, M2) => if 0 ≤ i ∧ i < 16777216 then .ok (.int i) M2 else .no
    | _ => .no
  | none => .no
section
variable {X : Cx} {Γ : Gm} {W : WX} {e o v : Expr} {es : List Expr} {fo fe fv : MX} {ga : MA} {f m x : Str} {c k n i : Nat} {pos pos' apos p : Pos} {F : MF}
theorem ex_fldI (T : InF X.K Γ c f i) (he : EX X Γ W e fe) (hb : attributeBase e f X.env (eval e X.env) = eval e X.env := by rfl) : EX X Γ W (.Attribute e f pos) (xFldI c i fe) :=
  PE.imp (pe_fld he hb) fun σ H Q ⟨ζ, M, μ, rr, h⟩ => ⟨ζ, M, μ, rr, Pst.then h fun v H1 d M1 μ1 nx rh rv h1 => by
    cases hs : inAt c d M1 with
    | none => rw [hs] at h1; exact h1.elim
    | some q =>
      obtain ⟨n, fs⟩ := q
      rw [hs] at h1
      obtain ⟨a, dx, vs, rfl, ea, hm, h2, h3, h4⟩ := inAt_at rh rv hs
      dsimp only at h1
      split at h1
      · rename_i z hz
        obtain ⟨u, g1, g2⟩ := h2.get hz
        exact ⟨a, _, dx, _, u, rfl, h3, T.cl, T.n, zip_lookup T.nd T.ix g1, h1 _ _ _ (Nx.refl _ _) rh g2⟩
      · exact h1.elim⟩
theorem es_fldI (T : InF X.K Γ c f i) (ho : EX X Γ W o fo) (hv : EX X Γ W v fv) (hs : swapsWith v (some (.Attribute o f pos')) pos.line X.env = pure false := by rfl) : ES X Γ W (.Assign [.Attribute o f pos'] v pos) (sFldI c i fo fv) :=
  PS.imp (ps_fld ho hv hs) fun E σ H ⟨ζ, M, μ, rr, h⟩ => ⟨ζ, M, μ, rr, PstS.then h rr.sl fun y H1 d M1 μ1 nx rh rv h1 => ⟨ζ, M1, μ1, ⟨rr.sl.mono nx, rh⟩, PstS.then h1 (rr.sl.mono nx) fun u H2 z M2 μ2 nx2 rh2 ru h2 => by
    cases hq : inAt c z M2 with
    | none => rw [hq] at h2; exact h2.elim
    | some q =>
      obtain ⟨n, fs⟩ := q
      rw [hq] at h2
      obtain ⟨a, dx, vs, rfl, ea, hm, g2, g3, g4⟩ := inAt_at rh2 ru hq
      dsimp only at h2
      have hix := (List.getElem?_eq_some_iff.mp T.ix).1
      have mu : Mut (H2 a) := by rw [g3]; exact True.intro
      have rv2 := RV.mono nx2 rv
      split at h2
      · rename_i fs' hf
        refine ⟨a, _, dx, _, rfl, g3, T.cl, T.n, ?_, ?_⟩
        · rw [List.length_zip]; have := T.l; omega
        · unfold putI at hf
          obtain ⟨z1, z2⟩ := putF_zip (v := y) (vs := vs) T.nd T.ix
          split at hf
          · rename_i hlt
            cases hf
            rw [z1 (by rw [← g2.length]; exact hlt)]
            refine h2 _ _ _ (Nx.write mu) (rh2.write ea mu ⟨dx, _, (RVs.set rv2 i g2).mono (Nx.write mu), upd_same, by rw [List.length_set]; exact g4⟩) (((rr.sl.mono nx).mono nx2).mono (Nx.write mu))
          · split at hf
            · rename_i hnl heq
              cases hf
              have hl : vs.length = i := by rw [← g2.length]; exact heq.symm
              rw [z2 hl.symm]
              refine h2 _ _ _ (Nx.write mu) (rh2.write ea mu ⟨dx, _, (g2.append (.cons rv2 .nil)).mono (Nx.write mu), upd_same, by rw [List.length_append, hl]; exact hix⟩) (((rr.sl.mono nx).mono nx2).mono (Nx.write mu))
            · cases hf
      · exact h2.elim⟩⟩
theorem ex_metI {pl : Sem Bool} (S : Cls X.K (Γ.cA c)) (hnf : ((Γ.cN c).contains m) = false) (T : MetD X.prog X.w X.K X.mg X.base Γ k c m n F) (hr : Room k X.A) (tk : Takes X W) (ho : EX X Γ W o fo) (ha : EA X Γ W (e :: es) ga)
    (hst : starEach (e :: es) X.env = (false, eval e X.env) :: starEach es X.env := by rfl) (hpl : (backTo pos (starEach es X.env)).any (·.1) = false := by rfl)
    (ht : eval (.Call (.Attribute o m apos) (e :: es) [] pos) X.env = (do
      let ov ← eval o X.env
      standAt apos.atName
      let (f, first) ← holding [ov] (getMethod ov m pl)
      callWith pos f first (backTo pos (starEach (e :: es) X.env)) (backToKw pos (keywordEach [] X.env))) := by rfl) : EX X Γ W (.Call (.Attribute o m apos) (e :: es) [] pos) (xMetI c n F fo ga) := by
  obtain ⟨f, fd, ps, hm, F1, hb⟩ := T.i
  have hmn : m ∉ Γ.cN c := fun z => by
    have : (Γ.cN c).contains m = true := List.contains_iff_mem.mpr z
    rw [hnf] at this
    cases this
  refine ⟨fun pins s σ H Q I ⟨ζ, M, μ, rr, h⟩ => ?_⟩
  have h' : tX X.prog X.w X.K Γ W fo σ H fun x H1 => ∃ a dx fs, x = .ref a ∧ H1 a = some (.ins (Γ.cA c) dx fs) ∧ fs.lookup m = none ∧ tA X.prog X.w X.K Γ W ga σ H1 fun us H2 => spF X.prog X.w X.K Γ n F (x :: us) H2 Q (WE W σ) :=
    ⟨ζ, M, μ, rr, Pst.then h fun v H1 d M1 μ1 nx rh rv h1 => by
      cases hs : inAt c d M1 with
      | none => rw [hs] at h1; exact h1.elim
      | some q =>
        rw [hs] at h1
        obtain ⟨a, dx, vs, rfl, ea, hmm, h2, h3, h4⟩ := inAt_at (fs := q.2) (n := q.1) rh rv hs
        exact ⟨a, dx, _, rfl, h3, zip_none hmn, ζ, M1, μ1, ⟨rr.sl.mono nx, rh⟩, Pst.then h1 fun us H2 ds M2 μ2 nx2 rh2 rvs h5 => spF_of (W := W) rh2 (.cons (RV.mono nx2 rv) rvs) (by simpa using h5)⟩⟩
  refine PySem.W.methodCall_KW (pl := pl) (thn (ho.run pins s σ H _ I h') fun u s1 ⟨x, H1, I1, rx, a, dx, fs, ex, hs, hl, q⟩ => ?_) ht
  subst ex
  obtain rfl : u = Value.ref a := rx
  refine getmeth_ok I1 hs S hm hl (PySem.W.callWith_K (first := [.ref a]) (h₀ := X.base) I.ok.mod.kin hm.kp (thn (ha.run pos pins s1 σ H1 _ I1 q) fun us s2 ⟨ws, H2, I2, r, q2⟩ => ⟨I2.kIn, ?_⟩) hst hpl)
  exact run_fnS (us := .ref a :: us) (vs := .ref a :: ws) F1 hr hb (passAt tk σ) I2 (.cons rfl r) q2
theorem ex_metI0 {pl : Sem Bool} (S : Cls X.K (Γ.cA c)) (hnf : ((Γ.cN c).contains m) = false) (T : MetD X.prog X.w X.K X.mg X.base Γ k c m n F) (hr : Room k X.A) (tk : Takes X W) (ho : EX X Γ W o fo)
    (ht : eval (.Call (.Attribute o m apos) [] [] pos) X.env = (do
      let ov ← eval o X.env
      standAt apos.atName
      let (f, first) ← holding [ov] (getMethod ov m pl)
      callWith pos f first (backTo pos (starEach [] X.env)) (backToKw pos (keywordEach [] X.env))) := by rfl) : EX X Γ W (.Call (.Attribute o m apos) [] [] pos) (xMetI c n F fo aNil) := by
  obtain ⟨f, fd, ps, hm, F1, hb⟩ := T.i
  have hmn : m ∉ Γ.cN c := fun z => by
    have : (Γ.cN c).contains m = true := List.contains_iff_mem.mpr z
    rw [hnf] at this
    cases this
  refine ⟨fun pins s σ H Q I ⟨ζ, M, μ, rr, h⟩ => ?_⟩
  have h' : tX X.prog X.w X.K Γ W fo σ H fun x H1 => ∃ a dx fs, x = .ref a ∧ H1 a = some (.ins (Γ.cA c) dx fs) ∧ fs.lookup m = none ∧ spF X.prog X.w X.K Γ n F [x] H1 Q (WE W σ) :=
    ⟨ζ, M, μ, rr, Pst.then h fun v H1 d M1 μ1 nx rh rv h1 => by
      cases hs : inAt c d M1 with
      | none => rw [hs] at h1; exact h1.elim
      | some q =>
        rw [hs] at h1
        obtain ⟨a, dx, vs, rfl, ea, hmm, h2, h3, h4⟩ := inAt_at (fs := q.2) (n := q.1) rh rv hs
        exact ⟨a, dx, _, rfl, h3, zip_none hmn, spF_of (W := W) rh (.cons rv .nil) h1⟩⟩
  refine PySem.W.methodCall_KW (pl := pl) (thn (ho.run pins s σ H _ I h') fun u s1 ⟨x, H1, I1, rx, a, dx, fs, ex, hs, hl, q⟩ => ?_) ht
  subst ex
  obtain rfl : u = Value.ref a := rx
  refine getmeth_ok I1 hs S hm hl (PySem.W.callWith_K0 (first := [.ref a]) I1.kIn hm.kp ?_)
  exact run_fnS (us := [.ref a]) (vs := [.ref a]) F1 hr hb (passAt tk σ) I1 (.cons rfl .nil) q
theorem ex_prpI (S : Cls X.K (Γ.cA c)) (T : GetD X.prog X.w X.K X.mg X.base Γ k c f F) (hr : Room (k + 1) X.A) (he : EX X Γ W e fe) (hb : attributeBase e f X.env (eval e X.env) = eval e X.env := by rfl) : EX X Γ W (.Attribute e f pos) (xPrpI c F fe) := by
  obtain ⟨p, g, fd, ps, hp, F1, hbi⟩ := T.i
  refine PE.imp (pe_prop (dvs := []) (ds := []) (E := E0) he S hp F1 hr hbi .nil (fun _ _ _ _ _ _ _ z => (cx_none _ _ _ _ z).elim) hb) fun σ H Q ⟨ζ, M, μ, rr, h⟩ => ⟨ζ, M, μ, rr, Pst.then h fun v H1 d M1 μ1 nx rh rv h1 => ?_⟩
  cases hs : inAt c d M1 with
  | none => rw [hs] at h1; exact h1.elim
  | some q =>
    rw [hs] at h1
    obtain ⟨a, dx, vs, rfl, ea, hmm, h2, h3, h4⟩ := inAt_at (fs := q.2) (n := q.1) rh rv hs
    exact ⟨a, dx, _, rfl, h3, spF_ok rh (.cons rv .nil) rfl h1.of⟩
/-- len(x), x an instance with its own one -/
theorem ex_lenI (S : Cls X.K (Γ.cA c)) (T : MetD X.prog X.w X.K X.mg X.base Γ k c "__len__" 1 F) (hr : Room (k + 1) X.A) (hm : X.mg "len" = none) (he : EX X Γ W e fe) (hg : Gl X "len" := by rfl)
    (he1 : starEach [e] X.env = (false, eval e X.env) :: starEach [] X.env := by rfl) (hpl : (backTo pos (starEach [] X.env)).any (·.1) = false := by rfl) : EX X Γ W (.Call (.Name "len" p) [e] [] pos) (xLenI c F fe) := by
  obtain ⟨g, fd, ps, hmt, F1, hb⟩ := T.i
  have cr : CallR X (.builtin "len") (fun xs H Q => ∃ a dx fs, xs = [V.ref a] ∧ H a = some (.ins (Γ.cA c) dx fs) ∧ spF X.prog X.w X.K Γ 1 F [.ref a] H (fun z H' => ∃ i : Int, z = .int i ∧ (0 ≤ i ∧ i < 16777216) ∧ Q z H') E0) := by
    intro pins s σ H xs us Q I r ⟨a, dx, fs, ex, ha, q⟩
    subst ex
    cases r with
    | cons ru rr =>
      cases rr
      rename_i u
      obtain rfl : u = Value.ref a := ru
      obtain ⟨mA, O, _⟩ := ins_get I.hok ha
      obtain ⟨od, J, _⟩ := O.look
      obtain ⟨m0, hF⟩ := I.fr
      refine PySem.W.len_K hF I.ok.mod.kin J hmt.at_ hmt.fn ?_
      refine wpAny_call (codeAny_mono (FnOk.raw F1 hb .nil X.A.in1 X.stack s H [.ref a] [.ref a] _ E0 hr.in1 I.env0.in1 (.cons rfl .nil) q) fun r s' hq => ?_)
      cases r with
      | error er => exact (cx_none _ _ _ _ hq).elim
      | ok fl =>
        cases fl with
        | ret u' =>
          obtain ⟨z, H', I', rz, j, ez, hj, qz⟩ := I.after hq
          subst ez
          obtain ⟨t, et⟩ := (show ∃ t, u' = Value.int j t from rz)
          subst et
          exact ⟨⟨hj.1, by omega⟩, .int j, H', I'.tok _, ⟨_, rfl⟩, qz⟩
        | next => exact False.elim hq
        | brk => exact False.elim hq
        | cont => exact False.elim hq
  refine PE.imp (pe_callB cr hg hm (show bootBuiltins "len" = some (.builtin "len") from by first | rfl | exact boot_len) (pa_cons he pa_nil he1) (by decide) (by decide) he1 hpl) fun σ H Q ⟨ζ, M, μ, rr, h⟩ => ⟨ζ, M, μ, rr, Pst.then h fun v H1 d M1 μ1 nx rh rv h1 => ?_⟩
  cases hs : inAt c d M1 with
  | none => rw [hs] at h1; exact h1.elim
  | some q =>
    rw [hs] at h1
    obtain ⟨a, dx, vs, rfl, ea, hmm, h2, h3, h4⟩ := inAt_at (fs := q.2) (n := q.1) rh rv hs
    refine ⟨a, dx, _, rfl, h3, ?_⟩
    dsimp only at h1
    split at h1
    · rename_i j M2 hj
      split at h1
      · rename_i hji
        refine spF_ok rh (.cons rv .nil) rfl ?_
        rw [hj]
        intro z H' μ' nx' rh' rz
        cases rz
        exact ⟨j, rfl, hji, Pst.mono h1 nx' _ _ _ (Nx.refl _ _) rh' (.int _)⟩
      · exact h1.elim
    · exact h1.elim
theorem made_ins {P : Program} {w : World} {K : PySem.W.Frag} {Γ : Gm} {μ : List Addr} {M : Hs} {H : Hp} {x dx : Addr} (rh : RH P w K Γ μ M H) (h1 : H x = none) (h2 : H dx = none) (h3 : dx ≠ x) :
    Nx μ H (μ ++ [x]) (upd (upd H dx (.own x)) x (.ins (Γ.cA c) dx [])) ∧ RH P w K Γ (μ ++ [x]) (M ++ [.ins c []]) (upd (upd H dx (.own x)) x (.ins (Γ.cA c) dx [])) := by
  have h4 : upd H dx (.own x) x = none := by rw [upd_ne (Ne.symm h3)]; exact h1
  refine ⟨(Nx.fresh0 h2).trans (Nx.fresh h4 [x]), (rh.fresh h2).alloc h4 ⟨dx, [], .nil, ?_, Nat.zero_le _⟩⟩
  rw [upd_same, List.zip_nil_right]
theorem ex_makeI (T : Mkd X.prog X.w X.K X.mg X.base Γ k c x n F) (hr : Room (k + 1) X.A) (tk : Takes X W) (ha : EA X Γ W (e :: es) ga) (hg : Gl X x := by rfl) (hdb : (x == ("__debug__" : Str)) = false := by decide)
    (he : starEach (e :: es) X.env = (false, eval e X.env) :: starEach es X.env := by rfl) (hpl : (backTo pos (starEach es X.env)).any (·.1) = false := by rfl) : EX X Γ W (.Call (.Name x p) (e :: es) [] pos) (xMake (.ins c []) n F ga) := by
  obtain ⟨f, fd, ps, Mc, F1, hb⟩ := T.i
  refine ⟨fun pins s σ H Q I ⟨ζ, M, μ, rr, h⟩ => ?_⟩
  refine wpAny_Call_Name_kw (ld_glob I hg T.g ?_ hdb)
  have h' : tA X.prog X.w X.K Γ W ga σ H fun vs H1 => ∀ x dx, H1 x = none → H1 dx = none → dx ≠ x → spF X.prog X.w X.K Γ n F (.ref x :: vs) (upd (upd H1 dx (.own x)) x (.ins (Γ.cA c) dx [])) (fun v H2 => v = .non ∧ Q (.ref x) H2) (WE W σ) :=
    ⟨ζ, M, μ, rr, Pst.then h fun vs H1 ds M1 μ1 nx rh rv h1 => fun x dx h2 h3 h4 => by
      replace rv : RVs X.K H1 μ1 ds vs := rv
      obtain ⟨nx2, rh2⟩ := made_ins (c := c) rh h2 h3 h4
      have hx : (μ1 ++ [x])[M1.length]? = some x := rh.last
      split at h1
      · rename_i hl
        refine ⟨_, _, _, rh2, .cons (.ref hx) (rv.mono nx2), hl, ?_⟩
        have h5 := Pst.mono h1 nx2
        cases hF : F (.ref M1.length :: ds) (M1 ++ [.ins c []]) with
        | ok d M' =>
          rw [hF] at h5
          intro v H' μ' nx3 rh3 rv3
          have h6 := Pst.mono h5 nx3
          cases d with
          | non => cases rv3; exact ⟨rfl, h6 _ _ _ (Nx.refl _ _) rh3 (.ref (nx3.pre _ _ hx))⟩
          | _ => exact h6.elim
        | ex c' fs M' => rw [hF] at h5; exact h5
        | no => rw [hF] at h5; exact h5
      · exact h1.elim⟩
  refine PySem.W.callWith_K (h₀ := X.base) I.ok.mod.kin Mc.kp (thn (ha.run pos pins s σ H _ I h') fun us s1 ⟨vs, H1, I1, r, q⟩ => ⟨I1.kIn, ?_⟩) he hpl
  exact run_makeAt Mc F1 hr hb (passAt tk σ) I1 r q
end
end Mi
end
section
set_option maxRecDepth 100000
set_option maxHeartbeats 2000000
set_option autoImplicit false
namespace Mi
open PySem PySem.Spec PyProof.Rows L2

section
variable {X : Cx} {Γ : Gm} {W : WX} {e : Expr} {es : List Expr} {fe : MX} {p : Pt} {ps : List Pt} {pos : Pos} {k : Nat}
def gLst (K : PySem.W.Frag) (n : Nat) (t : TGs) : TG := fun v σ H Q => ∃ a xs, v = .ref a ∧ SqL K H a xs ∧ xs.length = n ∧ t xs σ H Q
theorem pg_lst {t : TGs} {n : Nat} (hc : X.calm = true) (h : PGs X es t)
    (hn : (assignEach es X.env).length = n := by rfl) (hst : (assignEach es X.env).findIdx? (·.1) = none := by rfl) : PG X (.Tuple es k pos) (gLst X.K n t) := by
  refine ⟨fun pins s σ H v u Q I r hw => ?_⟩
  obtain ⟨a, xs, e1, hq, hl, hw⟩ := hw
  subst e1
  cases r
  obtain ⟨its, rv, ht, hz⟩ := I.list hq
  have hl2 : its.toArray.size = n := by simp [← hl, rv.length]
  rw [assign_Tuple]
  refine wpAny_bind (wpAny_standAt ?_)
  unfold unpack
  rw [hn, hst]
  refine wpAny_bind (wpAny_holding ?_)
  rw [← hl2]
  refine PySem.W.kun_itemsOf (I.ok.hd hc) ht.isList fun h' hx => ?_
  have I1 : Inv X pins σ H { s with heap := h' } := I.kept (t' := s.toks) fun b o e => hx b o (Nat.ne_of_lt (Heap.lt_size e)) e
  exact h.run pins _ σ H xs _ Q I1 (by simpa using rv) hw
def gPL (P : Program) (w : World) (K : PySem.W.Frag) (Γ : Gm) (ps : List Pt) : TG := fun v σ H Q => ∃ n M μ, RH P w K Γ μ M H ∧ RV K H μ (.ref n) v ∧ match hSeq M (.ref n) with
  | some xs => (match bindPs ps xs with
    | some l => ∀ l', BR K H μ l l' → Q (setAll σ l') H
    | none => False)
  | none => False
theorem eg_lst (hc : X.calm = true) (h : EGs X Γ es ps) (hn : (assignEach es X.env).length = ps.length := by rfl) (hst : (assignEach es X.env).findIdx? (·.1) = none := by rfl) : PG X (.Tuple es k pos) (gPL X.prog X.w X.K Γ ps) :=
  PG.imp (pg_lst hc h hn hst) fun v σ H Q ⟨n, M, μ, rh, r, h⟩ => by
    obtain ⟨a, rfl, ea⟩ := ref_rel r
    cases hs : hSeq M (.ref n) with
    | none => rw [hs] at h; exact h.elim
    | some xs =>
      rw [hs] at h
      obtain ⟨b, vs, e, hs2, rr⟩ := hRef_ok rh hs (.ref ea)
      cases e
      refine ⟨_, vs, rfl, hs2, ?_, xs, M, μ, rh, rr, h⟩
      dsimp only at h
      cases hb : bindPs ps xs with
      | none => rw [hb] at h; exact h.elim
      | some l =>
        rw [← rr.length]
        exact eg_tup.bindPs_len hb
/-- a, b = .., a list -/
def sAsgL (f : MX) (ps : List Pt) : MS := fun ζ M => RS.of ζ (f ζ M) fun d M1 => match d with
  | .ref n => (match hSeq M1 (.ref n) with
    | some xs => (match bindPs ps xs with
      | some l => .nx (setAll ζ l) M1
      | none => .no)
    | none => .no)
  | _ => .no
theorem es_asgL {tg : Expr} (he : EX X Γ W e fe) (hg : PG X tg (gPL X.prog X.w X.K Γ ps)) (hs : swapsWithSole [tg] e pos.line X.env = pure false := by rfl) (hw : swappedStores [tg] e X.env = pure none := by rfl)
    (h1 : (assignEach [tg] X.env).map (·.2) = [assign tg X.env] := by rfl) : ES X Γ W (.Assign [tg] e pos) (sAsgL fe ps) :=
  PS.imp (ps_asg he hg hs hw h1) fun E σ H ⟨ζ, M, μ, rr, h⟩ => ⟨ζ, M, μ, rr, PstS.then h rr.sl fun v H1 d M1 μ1 nx rh rv h1 => by
    cases d with
    | ref n =>
      dsimp only at h1
      refine ⟨n, M1, μ1, rh, rv, ?_⟩
      cases hq : hSeq M1 (.ref n) with
      | none => rw [hq] at h1; exact h1.elim
      | some xs =>
        rw [hq] at h1
        dsimp only at h1
        cases hb : bindPs ps xs with
        | none => rw [hb] at h1; exact h1.elim
        | some l =>
          rw [hb] at h1
          dsimp only
          rw [hb]
          exact fun l' br => h1 _ _ _ (Nx.refl _ _) rh (RSl.setAll br (rr.sl.mono nx))
    | _ => exact h1.elim⟩
end
end Mi
end
section
set_option maxRecDepth 100000
set_option maxHeartbeats 4000000
set_option autoImplicit false
namespace Mi
open PySem PySem.Spec PyProof.Rows L2

section
variable {X : Cx} {st : Stmt} {t : TS}
theorem ps_ghost (h : PS X st t) : PS X st (fun E σ H => t { E with nx := fun σ' H' => ∃ d u, H' d = some u ∧ Mut (some u) ∧ ∀ od, E.nx σ' (upd H' d (.frz od u)) } σ H) := by
  refine ⟨fun pins s σ H E I hw => ?_⟩
  refine thn (h.run pins s σ H _ I hw) fun f s1 q => ?_
  cases f with
  | next =>
    obtain ⟨σ', H', J, d, u, hd, mu, q⟩ := q
    obtain ⟨od, J1⟩ := J.lock hd mu
    exact ⟨σ', _, J1, q od⟩
  | brk => exact q
  | cont => exact q
  | ret v => exact q
end
def sFrz (i : Nat) (f : MS) : MS := fun ζ M => match f ζ M with
  | .nx ζ' M' => match ζ'[i]? with
    | some (some (.ref n)) => match hDct M' n with
      | some kvs => .nx ζ' (M'.set n (.fdc kvs))
      | none => .no
    | _ => .no
  | r => r
section
variable {X : Cx} {Γ : Gm} {W : WX} {st : Stmt} {f : MS}
theorem es_frz (i : Nat) (h : ES X Γ W st f) : ES X Γ W st (sFrz i f) :=
  PS.imp (ps_ghost h) fun E σ H ⟨ζ, M, μ, rr, h⟩ => ⟨ζ, M, μ, rr, by
    unfold sFrz at h
    cases hf : f ζ M with
    | nx ζ1 M1 =>
      rw [hf] at h
      intro σ' H' μ' nx rh sl
      dsimp only at h
      split at h
      · rename_i n hz
        split at h
        · rename_i kvs hk
          obtain ⟨v, hv, rv⟩ := sl.at_ i _ hz
          cases rv with
          | ref ea =>
            rename_i a
            obtain ⟨es, g, rp⟩ := ndct rh hk ea
            have hm : Mut (H' a) := by rw [g]; trivial
            exact ⟨a, dHO X.prog X.w a es, g, trivial, fun od => h σ' (upd H' a (.frz od (dHO X.prog X.w a es))) μ' (nx.trans (Nx.write hm)) (rh.write ea hm ⟨es, ⟨od, upd_same⟩, Paired.imp rp fun _ _ => REn.mono (Nx.write hm)⟩) (sl.mono (Nx.write hm))⟩
        · exact h.elim
      · exact h.elim
    | rt d M1 => rw [hf] at h; exact h
    | bk ζ1 M1 => rw [hf] at h; exact h
    | ct ζ1 M1 => rw [hf] at h; exact h
    | ex c fs ζ1 M1 => rw [hf] at h; exact h
    | no => rw [hf] at h; exact h⟩
end

theorem mi_meets_items {prog : Program} {w : World} (d : Addr) (hd : (d == sysModules) = false) :
    MeetsIn prog w (Builtin.«dict.items» ⟨[.ref d], []⟩) (fun _ R s => s.TypeIs (.ref d) "dict" ∧ R (.ok (.ret (.ref s.heap.objs.size))) { s with heap := s.heap.push (DSub.viewOb "dict_items" d) }) :=
  .of_wp fun A R s hh => by
    obtain ⟨hT, h⟩ := hh
    unfold Builtin.«dict.items»
    refine wpAny_bind ?_
    unfold Builtin.Dict.noArgs
    refine wpAny_bind (wpAny_notOrdered_dict hT ?_)
    show wpAny _ _ (pure d) _ _ s
    refine wpAny_pure ?_
    show wpAny _ _ (Builtin.Dict.showsAll d >>= _) _ _ s
    unfold Builtin.Dict.showsAll
    rw [if_neg (by rw [hd]; decide)]
    exact wpAny_bind (wpAny_pure (wpAny_bind (wpAny_newObj_type (wpAny_pure ⟨_, rfl, h⟩))))
/-- what the frozen dict's object is -/
structure FzAt (P : Program) (w : World) (h : Heap) (a : Addr) (o : Obj) (es : List (NestedKey × Addr × V)) (ds : Array DictEntry) (ep : Nat) (xs : List (NestedKey × Addr × Value)) : Prop where
  get : h.get? a = some o
  ex : o.ExactDict
  dat : o.data = .dict ds ep
  ent : ds.toList = xs.map (entryOfKey (nestedKind P w))
  par : Paired (fun (p : NestedKey × Addr × V) (q : NestedKey × Addr × Value) => p.1 = q.1 ∧ p.2.1 = q.2.1 ∧ RelV p.2.2 q.2.2) es xs
  sm : (a == sysModules) = false
  size : ds.size = es.length
theorem fz_at {X : Cx} {pins : List (Addr × Obj)} {σ : L2.St} {H : Hp} {s : Shared} {a : Addr} {o : Obj} {es : List (NestedKey × Addr × V)} (I : Inv X pins σ H s) (h : H a = some (.frz o (dHO X.prog X.w a es))) : ∃ ds ep xs, FzAt X.prog X.w s.heap a o es ds ep xs := by
  obtain ⟨e, ⟨xs, p, o', ds, ep, ho, hx, hd, he, hn, hs, hl⟩, _⟩ := (show ObjOk X.prog X.w H s.heap a (.frz o (dHO X.prog X.w a es)) from I.hok a _ h)
  have eo : o' = o := Option.some.inj (ho.symm.trans e)
  subst eo
  refine ⟨ds, ep, xs, e, hx, hd, he, p, hs, ?_⟩
  have e1 : ds.size = xs.length := by
    have := congrArg List.length he
    simpa using this
  rw [e1, Paired.length p]
theorem FzAt.entry {P : Program} {w : World} {h : Heap} {a : Addr} {o : Obj} {es : List (NestedKey × Addr × V)} {ds : Array DictEntry} {ep : Nat} {xs : List (NestedKey × Addr × Value)} (z : FzAt P w h a o es ds ep xs) {i : Nat} {x : NestedKey × Addr × V} (hx : es[i]? = some x) : ∃ e, ds[i]? = some e ∧ e.key = .ref x.2.1 ∧ RelV x.2.2 e.val := by
  obtain ⟨y, hy, e1, e2, e3⟩ := paired_get z.par hx
  have q : ds[i]? = (xs[i]?).map (entryOfKey (nestedKind P w)) := entry_at z.ent i
  rw [hy] at q
  exact ⟨_, q, by rw [e2]; rfl, e3⟩
/-- the pairs of the frozen dict at a, each a new tuple -/
def ItF (P : Program) (w : World) (a : Addr) (o : Obj) (es : List (NestedKey × Addr × V)) : It :=
  ⟨fun i H => H a = some (.frz o (dHO P w a es)) ∧ i < es.length, fun i H x H' => ∃ T e, es[i]? = some e ∧ x = .ref T ∧ H T = none ∧ H' = upd H T (.tup [.ref e.2.1, e.2.2]), fun i H => H a = some (.frz o (dHO P w a es)) ∧ es.length ≤ i⟩
theorem turn_itemsF {P : Program} {w : World} {K : PySem.W.Frag} {a : Addr} {o : Obj} {es : List (NestedKey × Addr × V)} {ds : Array DictEntry} {ep : Nat} {elts : List Expr} {kk : Nat} {tpos : Pos} (it : Addr) (hod : o.data = .dict ds ep) :
    Turn P w K (.Tuple elts kk tpos) (ItF P w a o es) [it] it (fun i h => ∃ k v, h.get? it = some (DVw.itmOb a .none i es.length ep k v)) where
  mem := by simp
  obj := fun i h st b hb => by
    have z : b = it := by simpa using hb
    subst z
    obtain ⟨k, v, q⟩ := st
    exact ⟨_, q, fun v z => nomatch z⟩
  keep := fun i h h' st kp => let ⟨k, v, q⟩ := st; ⟨k, v, kp it (by simp) _ q⟩
  item := by
    intro X hP hw hK hc i pins s σ H E I hf st hg
    subst hP hw hK
    obtain ⟨hd, hi⟩ := hg
    obtain ⟨ds', ep', xs, Z⟩ := fz_at I hd
    obtain ⟨q1, q2⟩ := dict_ep hod Z.dat
    obtain ⟨x, hx⟩ : ∃ x, es[i]? = some x := ⟨es[i], List.getElem?_eq_getElem hi⟩
    obtain ⟨e, he, hkey, ru⟩ := Z.entry hx
    obtain ⟨k, v, hit0⟩ := st
    have hit : s.heap.get? it = some (DVw.itmOb a .none i es.length ep' k v) := by rw [q2]; exact hit0
    have hlt : it < s.heap.objs.size := Heap.lt_size hit
    refine DVw.itm_item hit Z.get Z.dat Z.size he fun h' b1 b2 b3 b4 => ?_
    refine ⟨_, rfl, wpAny_letOwnedTupleGo_items (s := { s with heap := h' }) (d := a) (i := i + 1) (n := es.length) (ep := ep') (ok := e.key) (ov := e.val) b1 fun h2 g2 sb => ?_⟩
    have hT : h2.get? s.heap.objs.size = some { cls := .type "tuple", data := .seq #[e.key, e.val] } := (sb.2 _ (Nat.ne_of_gt hlt)).trans b2
    have new : ObjOk X.prog X.w (upd H s.heap.objs.size (.tup [.ref x.2.1, x.2.2])) h2 s.heap.objs.size (.tup [.ref x.2.1, x.2.2]) :=
      ⟨by show 2 ≤ sizeLine; decide, [e.key, e.val], .cons (show RelV (.ref x.2.1) e.key from hkey) (.cons ru .nil), ⟨_, hT, rfl, _, rfl⟩⟩
    have J : Inv X pins σ (upd H s.heap.objs.size (.tup [.ref x.2.1, x.2.2])) { s with heap := h2 } :=
      I.turnedNew (t' := s.toks) (ch := [it]) (fun b ob hb z => (sb.2 b (by simpa using hb)).trans (b4 b ob (by simpa using hb) z)) hf (Nat.le_refl _) new
    refine ⟨.ref s.heap.objs.size, _, J, rfl, ⟨_, x, hx, rfl, I.hok.fresh (Nat.le_refl _), rfl⟩, ⟨e.key, e.val, by rw [← q2]; exact g2⟩, fun b hb => ?_⟩
    have z : b = it := by simpa using hb
    rw [z, upd_ne (Nat.ne_of_lt hlt)]
    exact (hf it (by simp)).1
  done := by
    intro X hP hw hK hc i pins s σ H E I hf st hg
    subst hP hw hK
    obtain ⟨hd, hi⟩ := hg
    obtain ⟨f0, f1, f2, f3, f4, f5⟩ := hf it (by simp)
    obtain ⟨ds', ep', xs, Z⟩ := fz_at I hd
    obtain ⟨q1, q2⟩ := dict_ep hod Z.dat
    obtain ⟨k, v, hit0⟩ := st
    have hit : s.heap.get? it = some (DVw.itmOb a .none i es.length ep' k v) := by rw [q2]; exact hit0
    exact DVw.itm_end (I.ok.hd hc) hit Z.get Z.dat Z.size (Array.getElem?_eq_none (by rw [Z.size]; exact hi)) fun h' eb => ⟨rfl, I.turned (t' := s.toks) (fun b ob hb e => eb b ob hb e) f0 f1 f3 f4 f5⟩
  self := fun A i s Q E st h => let ⟨_, _, e⟩ := st; PySem.W.kcp_self e h
section
variable {X : Cx} {e : Expr} {td : TE} {apos cpos : Pos} {elts : List Expr} {kk : Nat} {tpos : Pos}
theorem pi_itemsF (he : PE X e td) (hbase : attributeBase e "items" X.env (eval e X.env) = eval e X.env := by rfl) (hline : (apos.endLine == cpos.line) = true := by rfl) :
    PI X (.Tuple elts kk tpos) (.Call (.Attribute e "items" apos) [] [] cpos) (fun σ H R => td σ H fun x H1 => ∃ a o es, x = .ref a ∧ H1 a = some (.frz o (dHO X.prog X.w a es)) ∧ R (ItF X.prog X.w a o es) H1) := by
  refine ⟨fun pins s σ H R I h => ?_⟩
  refine wpAny_Call_method (T := "dict") (id := "dict.items") hbase rfl hline F.plainAttrs_dict F.slot_dict_items F.type_dict_items (thn (he.run pins s σ H _ I h) fun u s1 ⟨x, H1, J, rx, a, o, es, ex, hd, q⟩ => ?_)
  subst ex
  obtain rfl : u = Value.ref a := rx
  obtain ⟨ds, ep, xs, Z⟩ := fz_at J hd
  have hT : s1.TypeIs (.ref a) "dict" := ⟨o, Z.get, Z.ex.1⟩
  refine ⟨hT, fun b hb => ?_, ?_⟩
  · cases hb
    exact ⟨o, Z.get, Z.ex.2.1⟩
  have J2 : Inv X pins σ H1 { s1 with heap := s1.heap.push (DSub.viewOb "dict_items" a) } := J.kept (t' := s1.toks) fun b ob z => Heap.get?_push_of_some _ z
  have fin : wpAny (model X.prog X.w) X.A (pyIter (.ref s1.heap.objs.size)) (PIE X pins σ (.Tuple elts kk tpos) R) X.xe { s1 with heap := s1.heap.push (DSub.viewOb "dict_items" a) } := by
    refine DSub.iter_itms (Heap.get?_push_size _ rfl) (Heap.get?_push_of_some _ Z.get) Z.dat (pi_one (tk := s1.toks) J2 _ (turn_itemsF _ Z.dat) ⟨.none, .none, ?_⟩ q)
    rw [← Z.size]
    exact Heap.get?_push_size _ rfl
  show wpAny _ _ (callWith cpos (.builtin "dict.items") [.ref a] [] []) _ X.xe s1
  exact method_meetsIn F.slot_dict_items F.entry_dict_items rfl (PySem.evalArgs_none ⟨rfl, hT, F.args_dict_items_1 _, _, mi_meets_items a Z.sm, hT, fin⟩)
end
def hFdc (M : Hs) (n : Nat) : Option (List (D × D)) := match M[n]? with
  | some (.fdc kvs) => some kvs
  | _ => none
def yItems (f : MX) : MY := fun ζ M => (f ζ M).bind fun d M1 => match d with
  | .ref n => match hFdc M1 n with
    | some kvs => .ok ⟨fun i _ => some (match kvs[i]? with | some p => some (.tup [p.1, p.2]) | none => none), kvs.length + 1⟩ M1
    | none => .no
  | _ => .no
section
variable {P : Program} {w : World} {K : PySem.W.Frag} {Γ : Gm} {μ0 : List Addr} {H0 : Hp}
theorem hFdc_ok {M : Hs} {n : Nat} {kvs : List (D × D)} (h : hFdc M n = some kvs) : M[n]? = some (.fdc kvs) := by
  unfold hFdc at h
  split at h
  · cases h
    assumption
  · cases h
theorem y_items {a : Addr} {o : Obj} {es : List (NestedKey × Addr × V)} {kvs : List (D × D)} {f : Nat} (g : H0 a = some (.frz o (dHO P w a es))) (r : Paired (REn K H0 μ0) kvs es) : YOk P w K Γ H0 μ0 ⟨fun i _ => some (match kvs[i]? with | some p => some (.tup [p.1, p.2]) | none => none), f⟩ (ItF P w a o es) := by
  intro i H μ M nx rh
  have g' := nx.frz _ _ _ g
  refine ⟨fun h => ?_, fun d h => ?_⟩
  · simp only at h
    split at h
    · cases h
    · rename_i hx
      exact ⟨g', by rw [← Paired.length r]; exact List.getElem?_eq_none_iff.mp hx⟩
  · simp only at h
    split at h
    · rename_i z hz
      cases h
      obtain ⟨x, h1, h2⟩ := paired_get r hz
      refine ⟨⟨g', (List.getElem?_eq_some_iff.mp h1).1⟩, fun v H2 hy => ?_⟩
      obtain ⟨T, y, e1, e2, hT, e3⟩ := hy
      rw [h1] at e1
      cases e1
      subst e2 e3
      have n1 : Nx μ H μ (upd H T (.tup [.ref x.2.1, x.2.2])) := Nx.fresh0 hT
      exact ⟨μ, n1, rh.fresh hT, .tup (SqT.of upd_same) (.cons ((h2.2.2.1.mono nx).mono n1) (.cons ((h2.2.2.2.mono nx).mono n1) .nil))⟩
    · cases h
end
section
variable {X : Cx} {Γ : Gm} {W : WX} {e : Expr} {fe : MX} {apos cpos tpos : Pos} {elts : List Expr} {kk : Nat}
theorem ei_items (he : EX X Γ W e fe) (hbase : attributeBase e "items" X.env (eval e X.env) = eval e X.env := by rfl) (hline : (apos.endLine == cpos.line) = true := by rfl) : EI X Γ W (.Tuple elts kk tpos) (.Call (.Attribute e "items" apos) [] [] cpos) (yItems fe) :=
  PI.imp (pi_itemsF he hbase hline) fun σ H R ⟨ζ, M, μ, rr, h⟩ => ⟨ζ, M, μ, rr, Pst.then h fun v H1 d M1 μ1 nx rh rv h1 => by
    replace rv : RV X.K H1 μ1 d v := rv
    cases rv with
    | ref e1 =>
      simp only at h1
      split at h1
      · rename_i kvs hk
        obtain ⟨a, ha, es, ⟨o, g⟩, r⟩ := rh.addr (hFdc_ok hk)
        rw [e1] at ha
        cases ha
        exact ⟨_, o, es, rfl, g, h1 _ _ _ (Nx.refl _ _) rh (y_items g r)⟩
      · exact h1.elim
    | _ => exact h1.elim⟩
end

def xDict1 (fk fv : MX) : MX := fun ζ M => (fk ζ (M ++ [.dct []])).bind fun k M1 => (fv ζ M1).bind fun v M2 => match keyOf k, hDct M2 M.length with
  | some _, some [] => .ok (.ref M.length) (M2.set M.length (.dct [(k, v)]))
  | _, _ => .no
section
variable {X : Cx} {Γ : Gm} {W : WX} {ke ve : Expr} {fk fv : MX} {pos : Pos}
theorem ex_dict1 (hr : Room 1 X.A) (hk : EX X Γ W ke fk) (hv : EX X Γ W ve fv) : EX X Γ W (.Dict [some ke] [ve] pos) (xDict1 fk fv) := ⟨fun pins s σ H Q I ⟨ζ, M, μ, rr, h⟩ => by
  have hu := hr.un
  have hp := I.hok.fresh (Nat.le_refl s.heap.objs.size)
  have sh : eval (.Dict [some ke] [ve] pos) X.env = (do standAt pos; dictDisplay ([(eval ke X.env, (eval ve X.env >>= fun x => standAt pos >>= fun _ => pure x))].map fun p => (some p.1, p.2))) := rfl
  rw [sh, dictDisplay_pairs _ (by simp) (by show 1 < 17; decide)]
  refine wpAny_bind (wpAny_standAt (wpAny_bind (wpAny_subDictH (knd := nestedKind X.prog X.w) (by show X.A.units + 8 < cLine; omega) (by show 1 ≤ 15; decide) ?_)))
  obtain ⟨a, ea⟩ : ∃ a, a = s.heap.objs.size := ⟨_, rfl⟩
  have ho := Heap.get?_push_size s.heap (o := { cls := .type "dict", data := .dict #[] }) rfl
  have I0 : Inv X pins σ (upd H a (dHO X.prog X.w a [])) { s with heap := s.heap.push { cls := .type "dict", data := .dict #[] } } := by
    rw [ea]
    refine I.laid (t' := s.toks) (fun _ _ q => Heap.get?_push_of_some _ q) (Nat.le_refl _) ⟨⟨[], .nil, _, #[], 0, ho, ⟨rfl, rfl, rfl⟩, rfl, rfl, List.nodup_nil, beq_eq_false_iff_ne.mpr (Ne.symm (Nat.ne_of_lt I.big)), Nat.zero_le _⟩, ⟨_, ho⟩, dExt⟩
  rw [← ea] at hp ⊢
  have n0 : Nx μ H (μ ++ [a]) (upd H a (dHO X.prog X.w a [])) := Nx.fresh hp [a]
  have rh0 : RH X.prog X.w X.K Γ (μ ++ [a]) (M ++ [.dct []]) (upd H a (dHO X.prog X.w a [])) := rr.hp.alloc hp ⟨[], upd_same, .nil⟩
  have g0 : (μ ++ [a])[M.length]? = some a := rr.hp.last
  unfold xDict1 at h
  refine evalPairs_cons (thn (hk.run pins _ σ _ _ I0 ⟨ζ, _, _, ⟨rr.sl.mono n0, rh0⟩, Pst.bind (Pst.mono h n0)⟩) fun u s1 q1 => ?_)
  obtain ⟨y, H1, I1, ry, d, M1, μ1, nx, rh, rv, h1⟩ := q1
  refine wpAny_bind (thn (hv.run pins s1 σ H1 _ I1 ⟨ζ, M1, μ1, ⟨(rr.sl.mono n0).mono nx, rh⟩, Pst.bind h1⟩) fun u2 s2 q2 => wpAny_bind (wpAny_standAt (wpAny_pure (evalPairs_nil ?_))))
  obtain ⟨z, H2, I2, rz, e, M2, μ2, nx2, rh2, re, h2⟩ := q2
  split at h2
  · rename_i k hq hk2
    have e2 : μ2[M.length]? = some a := nx2.pre _ _ (nx.pre _ _ g0)
    obtain ⟨es, g, rp⟩ := ndct rh2 hk2 e2
    cases rp
    obtain ⟨xs, p, hd, hs, hz⟩ := dict_at I2 (kvs := []) (es := []) (μ := μ2) .nil (.inl g)
    cases p
    obtain ⟨c, e3, e4, hi⟩ := key_is I2 hq (RV.mono nx2 rv) ry
    subst e3 e4
    obtain ⟨k1, k2, k3⟩ := keyOf_ok hq
    have hm : Mut (H2 a) := by rw [g]; trivial
    refine ⟨[(k, c, u2)], ⟨rfl, rfl, hi, trivial⟩, hd, fun h' tk hd' sb => wpAny_pure ?_⟩
    have p' : Paired (fun (p : NestedKey × Addr × V) (q : NestedKey × Addr × Value) => p.1 = q.1 ∧ p.2.1 = q.2.1 ∧ RelV p.2.2 q.2.2) [(k, c, z)] [(k, c, u2)] := .cons ⟨rfl, rfl, rz⟩ .nil
    have hex : ∃ u, h'.get? a = some u := by obtain ⟨o', _, _, ho', _⟩ := hd'; exact ⟨o', ho'⟩
    have new : ObjOk X.prog X.w (upd H2 a (dHO X.prog X.w a [(k, c, z)])) h' a (dHO X.prog X.w a [(k, c, z)]) := by
      obtain ⟨o', ds', ep', ho', hx', hdt', he', _, hn'⟩ := hd'
      exact ⟨⟨_, p', o', ds', ep', ho', hx', hdt', he', hn', hs, by show 1 ≤ sizeLine; decide⟩, ⟨_, ho'⟩, dExt⟩
    have J : Inv X pins σ (upd H2 a (dHO X.prog X.w a [(k, c, z)])) { s2 with heap := h', toks := tk } := I2.write (x := a) (e := a) (o := dHO X.prog X.w a [(k, c, z)]) (t' := tk) hm (.inl rfl) (fun c ob hc hb => (sb.2 c hc).trans hb) hex new
    have nw : Nx μ2 H2 μ2 (upd H2 a (dHO X.prog X.w a [(k, c, z)])) := Nx.write hm
    exact ⟨.ref a, _, J, rfl, h2 (.ref a) _ μ2 nw (rh2.write e2 hm ⟨[(k, c, z)], upd_same, .cons ⟨k1, k2, RV.mono nw (RV.mono nx2 rv), RV.mono nw re⟩ .nil⟩) (.ref e2)⟩
  · exact h2.elim⟩
end

theorem mi_same0 {prog : Program} {w : World} {A : Around} {E : Value → Shared → Prop} {s : Shared} {nm : String} {a b : Addr} {oa ob : Obj} {es : Array DictEntry} {ep ep' : Nat} {Q : Bool → Shared → Prop} (ha : (a == sysModules) = false) (hb : (b == sysModules) = false)
    (hoa : s.heap.get? a = some oa) (hda : oa.data = .dict es ep) (hob : s.heap.get? b = some ob) (hdb : ob.data = .dict #[] ep') (h : Q (decide (es.size = 0)) s) : wpAny (model prog w) A (Builtin.Dict.samePairs nm a b) Q E s := by
  unfold Builtin.Dict.samePairs Builtin.Dict.showsAll
  rw [if_neg (by rw [ha]; decide), if_neg (by rw [hb]; decide)]
  refine wpAny_bind (wpAny_pure (wpAny_bind (wpAny_pure (wpAny_bind (wpAny_dictEntries hoa hda ?_)))))
  dsimp only
  refine wpAny_bind (wpAny_dictEntries hob hdb ?_)
  by_cases hz : es.size = 0
  · rw [if_neg (by simp [hz])]
    rw [decide_eq_true hz] at h
    refine wpAny_bind (wpAny_dictEpoch hoa hda (wpAny_bind ?_))
    rw [Std.Legacy.Range.forIn_eq_forIn_range']
    simp only [Std.Legacy.Range.size, Nat.sub_zero, Nat.add_sub_cancel, Nat.div_one, hz, List.range'_zero, List.forIn_nil]
    exact wpAny_pure (wpAny_pure h)
  · rw [if_pos (by simpa using hz)]
    rw [decide_eq_false hz] at h
    exact wpAny_bind (wpAny_rule (wpAny_pure h))
theorem mi_ne0 {prog : Program} {w : World} {A : Around} {E : Value → Shared → Prop} {s : Shared} {a b : Addr} {oa ob : Obj} {es : Array DictEntry} {ep ep' : Nat} {Q : Value → Shared → Prop} (ha : (a == sysModules) = false) (hb : (b == sysModules) = false)
    (hoa : s.heap.get? a = some oa) (xa : oa.ExactDict) (hda : oa.data = .dict es ep) (hob : s.heap.get? b = some ob) (xb : ob.ExactDict) (hdb : ob.data = .dict #[] ep') (hu : A.units < cLine) (h : Q (.bool (!decide (es.size = 0))) s) :
    wpAny (model prog w) A (compareOp .NotEq (.ref a) (.ref b)) Q E s := by
  have ta : s.TypeIs (.ref a) "dict" := ⟨oa, hoa, xa.1⟩
  have tb : s.TypeIs (.ref b) "dict" := ⟨ob, hob, xb.1⟩
  refine wpAny_richCompare_same_room (op := .NotEq) ta tb PySem.F.slot_dict_ne (wpAny_call_entry PySem.F.slot_dict_ne ta PySem.F.entry_dict_ne ?_ (PySem.F.args_dict_ne_2 _ _)) hu
  show wpAny _ _ (Builtin.Dict.dictSlotArgs "__ne__" ⟨[.ref a, .ref b], []⟩ >>= _) _ _ s
  refine wpAny_bind ?_
  unfold Builtin.Dict.dictSlotArgs
  refine wpAny_bind (wpAny_notOrdered_dict ta ?_)
  show wpAny _ _ (pure (Value.ref a, Value.ref b)) _ _ s
  refine wpAny_pure (wpAny_bind (wpAny_isInstance (T := "dict") tb PySem.F.sub_dict_dict ?_))
  simp only [Bool.not_true, Bool.false_eq_true, if_false]
  refine wpAny_bind (wpAny_pure (wpAny_bind (wpAny_pure (wpAny_bind (mi_same0 ha hb hoa hda hob hdb ?_)))))
  refine wpAny_pure ⟨_, rfl, ?_, ?_⟩
  · exact fun z => nomatch z
  · simpa using h
def gNeD (x y : D) (M : Hs) : Option (D × Hs) := match x, y with
  | .ref m, .ref n => match hFdc M m, hDct M n with
    | some kvs, some [] => some (.bl (!decide (kvs.length = 0)), M)
    | _, _ => none
  | _, _ => none
theorem m_neD {X : Cx} {Γ : Gm} (hu : X.A.units + 64 < cLine) : Op2 X Γ (compareOp .NotEq) gNeD := by
  intro pins s σ H x y v u Q I rx ry hq
  obtain ⟨d, e, M, μ, rh, rd, re, hq⟩ := hq
  unfold gNeD at hq
  split at hq
  · rename_i m n
    split at hq
    · rename_i kvs h1 h2
      obtain ⟨a, rfl, ea⟩ := ref_rel rd
      obtain ⟨b, rfl, eb⟩ := ref_rel re
      cases rx
      cases ry
      obtain ⟨a', ha', es, ⟨o, g⟩, r⟩ := rh.addr (hFdc_ok h1)
      rw [ea] at ha'
      cases ha'
      obtain ⟨ds, ep, xs, Z⟩ := fz_at I g
      obtain ⟨es2, g2, r2⟩ := ndct rh h2 eb
      cases r2
      obtain ⟨⟨xs2, p2, o2, ds2, ep2, ho2, hx2, hd2, he2, hn2, hs2, hl2⟩, _⟩ := (show ObjOk X.prog X.w H s.heap b (dHO X.prog X.w b []) from I.hok b _ g2)
      cases p2
      have e0 : ds2 = #[] := by
        have : ds2.toList = [] := he2
        exact Array.toList_eq_nil_iff.mp this
      subst e0
      refine mi_ne0 Z.sm hs2 Z.get Z.ex Z.dat ho2 hx2 hd2 (by omega) ?_
      rw [Z.size, ← Paired.length r]
      exact ⟨.bl _, H, I, rfl, Pk.here rh hq (.bl _)⟩
    · exact hq.elim
  · exact hq.elim
end Mi
end
section
set_option maxRecDepth 100000
set_option maxHeartbeats 4000000
set_option autoImplicit false
namespace Ga
open Mi

section
variable {α : Type}
inductive Rt (R : α → α → Prop) : α → α → Prop
  | refl (x : α) : Rt R x x
  | tail {x y z : α} : Rt R x y → R y z → Rt R x z
variable {R S : α → α → Prop}
theorem Rt.one {x y : α} (h : R x y) : Rt R x y := .tail (.refl x) h
theorem Rt.trans {x y z : α} (a : Rt R x y) (b : Rt R y z) : Rt R x z := by
  induction b with
  | refl => exact a
  | tail b h ih => exact .tail ih h
theorem Rt.imp (f : ∀ x y, R x y → S x y) {x y : α} (a : Rt R x y) : Rt S x y := by
  induction a with
  | refl => exact .refl _
  | tail a h ih => exact .tail ih (f _ _ h)
theorem Rt.map {β : Type} {S : β → β → Prop} (g : α → β) (f : ∀ x y, R x y → S (g x) (g y)) {x y : α} (a : Rt R x y) : Rt S (g x) (g y) := by
  induction a with
  | refl => exact .refl _
  | tail a h ih => exact .tail ih (f _ _ h)
/-- a walk of a step at least -/
def Tc (R : α → α → Prop) (x y : α) : Prop := ∃ z, Rt R x z ∧ R z y
theorem Tc.rt {x y : α} (h : Tc R x y) : Rt R x y := let ⟨_, a, b⟩ := h; .tail a b
theorem Tc.one {x y : α} (h : R x y) : Tc R x y := ⟨x, .refl x, h⟩
theorem Tc.imp (f : ∀ x y, R x y → S x y) {x y : α} (h : Tc R x y) : Tc S x y := let ⟨z, a, b⟩ := h; ⟨z, a.imp f, f _ _ b⟩
theorem Rt.tc {x y z : α} (a : Rt R x y) (b : Tc R y z) : Tc R x z := let ⟨w, c, d⟩ := b; ⟨w, a.trans c, d⟩
theorem Rt.cases {x y : α} (a : Rt R x y) : x = y ∨ Tc R x y := by
  cases a with
  | refl => exact .inl rfl
  | tail b h => exact .inr ⟨_, b, h⟩
theorem Tc.trans {x y z : α} (a : Tc R x y) (b : Tc R y z) : Tc R x z := a.rt.tc b
theorem Rt.head {x y : α} (a : Rt R x y) : x = y ∨ ∃ z, R x z ∧ Rt R z y := by
  induction a with
  | refl => exact .inl rfl
  | @tail y z a h ih =>
    rcases ih with rfl | ⟨w, h1, h2⟩
    · exact .inr ⟨z, h, .refl z⟩
    · exact .inr ⟨w, h1, .tail h2 h⟩
theorem Tc.head {x y : α} (a : Tc R x y) : ∃ z, R x z ∧ Rt R z y := by
  obtain ⟨w, h1, h2⟩ := a
  rcases h1.head with rfl | ⟨z, h3, h4⟩
  · exact ⟨y, h2, .refl y⟩
  · exact ⟨z, h3, .tail h4 h2⟩
/-- E' is E with new steps within W -/
structure Grows (E New E' : α → α → Prop) (W : α → Prop) : Prop where
  e : ∀ x y, E' x y ↔ E x y ∨ New x y
  w : ∀ x y, New x y → W x ∧ W y
def Ln (E New : α → α → Prop) (W : α → Prop) (a b : α) : Prop := (Tc E a b ∧ W a ∧ W b) ∨ New a b
variable {E New E' : α → α → Prop} {W : α → Prop}
theorem Grows.up (G : Grows E New E' W) {x y : α} (h : Rt E x y) : Rt E' x y := h.imp fun x y h => (G.e x y).mpr (.inl h)
theorem Grows.ln (G : Grows E New E' W) {x y : α} (h : Ln E New W x y) : Tc E' x y := by
  rcases h with ⟨h, _⟩ | h
  · exact h.imp fun x y h => (G.e x y).mpr (.inl h)
  · exact .one ((G.e x y).mpr (.inr h))
theorem Grows.lns (G : Grows E New E' W) {x y : α} (h : Rt (Ln E New W) x y) : Rt E' x y := by
  induction h with
  | refl => exact .refl _
  | tail a h ih => exact ih.trans (G.ln h).rt
theorem ln_of {x y : α} (h : Rt E x y) (wx : W x) (wy : W y) : Rt (Ln E New W) x y := by
  rcases h.cases with rfl | h
  · exact .refl _
  · exact .one (.inl ⟨h, wx, wy⟩)
theorem Grows.cut (G : Grows E New E' W) {p y : α} (h : Rt E' p y) : Rt E p y ∨ ∃ a z, W a ∧ Rt E p a ∧ W z ∧ Rt (Ln E New W) a z ∧ Rt E z y := by
  induction h with
  | refl => exact .inl (.refl _)
  | @tail y y' a h ih =>
    rcases (G.e _ _).mp h with h | h
    · rcases ih with ih | ⟨a, z, h1, h2, h3, h4, h5⟩
      · exact .inl (.tail ih h)
      · exact .inr ⟨a, z, h1, h2, h3, h4, .tail h5 h⟩
    · obtain ⟨w1, w2⟩ := G.w _ _ h
      rcases ih with ih | ⟨a, z, h1, h2, h3, h4, h5⟩
      · exact .inr ⟨y, y', w1, ih, w2, .one (.inr h), .refl _⟩
      · exact .inr ⟨a, y', h1, h2, w2, .tail (h4.trans (ln_of h5 h3 w1)) (.inr h), .refl _⟩
theorem Grows.win (G : Grows E New E' W) {x y : α} (wx : W x) (wy : W y) (h : Rt E' x y) : Rt (Ln E New W) x y := by
  rcases G.cut h with h | ⟨a, z, h1, h2, h3, h4, h5⟩
  · exact ln_of h wx wy
  · exact ((ln_of h2 wx h1).trans h4).trans (ln_of h5 h3 wy)
theorem Grows.from (G : Grows E New E' W) {x y : α} (wx : W x) (h : Rt E' x y) : ∃ z, W z ∧ Rt (Ln E New W) x z ∧ Rt E z y := by
  rcases G.cut h with h | ⟨a, z, h1, h2, h3, h4, h5⟩
  · exact ⟨x, wx, .refl _, h⟩
  · exact ⟨z, h3, (ln_of h2 wx h1).trans h4, h5⟩
theorem Grows.tc (G : Grows E New E' W) {x y : α} (wx : W x) (wy : W y) : Tc E' x y ↔ Tc (Ln E New W) x y := by
  constructor
  · rintro ⟨z', h1, h2⟩
    obtain ⟨z, wz, h3, h4⟩ := G.from wx h1
    rcases (G.e _ _).mp h2 with h2 | h2
    · exact h3.tc (.one (.inl ⟨h4.tc (.one h2), wz, wy⟩))
    · exact (h3.trans (ln_of h4 wz (G.w _ _ h2).1)).tc (.one (.inr h2))
  · rintro ⟨z, h1, h2⟩
    exact (G.lns h1).tc (G.ln h2)
end

structure Og where
  cs : List (Int × Int × Int)
  rs : List (Int × Int × Int)
  all : Bool
  oct : Int
structure Og.Ok (O : Og) : Prop where
  cm : ∀ c ∈ O.cs, (c.1 = 0 ∨ c.1 = 1) ∧ (c.2.1 = 0 ∨ c.2.1 = 1) ∧ -2 ≤ c.2.2 ∧ c.2.2 ≤ 2
  rm : ∀ r ∈ O.rs, (r.1 = 0 ∨ r.1 = 1) ∧ -2 ≤ r.2.2 ∧ r.2.2 ≤ 2
  oc : O.oct = 0 ∨ O.oct = 2 ∨ O.oct = 3
def Og.l2 (O : Og) : Int := if O.all then 0 else 1
theorem Og.l2_or (O : Og) : O.l2 = 0 ∨ O.l2 = 1 := by unfold Og.l2; split <;> simp
/-- a coupler leads from x to y, in the compass of n keys, without what comes back from above -/
def Ed (O : Og) (n : Int) (x y : T3) : Prop := ∃ c ∈ O.cs, x.2.1 = c.1 ∧ y.2.1 = c.2.1 ∧ x.2.2 = 0 ∧ y.2.2 = O.l2 ∧ (0 ≤ x.1 ∧ x.1 < n) ∧ (0 ≤ y.1 ∧ y.1 < n) ∧ (y.1 = x.1 + c.2.2 ∨ 0 < O.oct ∧ x.1 + c.2.2 < 0 ∧ y.1 = x.1 + c.2.2 + O.oct)
/-- such a step touches the last key -/
def Nw (O : Og) (n : Int) (x y : T3) : Prop := Ed O (n + 1) x y ∧ (x.1 = n ∨ y.1 = n)
/-- what comes back from above the last of n keys -/
def Hi (O : Og) (n : Int) (x y : T3) : Prop := ∃ c ∈ O.cs, x.2.1 = c.1 ∧ y.2.1 = c.2.1 ∧ x.2.2 = 0 ∧ y.2.2 = O.l2 ∧ (0 ≤ x.1 ∧ x.1 < n) ∧ (0 ≤ y.1 ∧ y.1 < n) ∧ 0 < O.oct ∧ n ≤ x.1 + c.2.2 ∧ y.1 = x.1 + c.2.2 - O.oct
def Fin (O : Og) (n : Int) (x y : T3) : Prop := Ed O n x y ∨ Hi O n x y
theorem ed_up {O : Og} {n m : Int} (h : n ≤ m) {x y : T3} (e : Ed O n x y) : Ed O m x y := by
  obtain ⟨c, h1, h2, h3, h4, h5, h6, h7, h8⟩ := e
  exact ⟨c, h1, h2, h3, h4, h5, ⟨h6.1, by omega⟩, ⟨h7.1, by omega⟩, h8⟩
theorem ed_rng {O : Og} {n : Int} {x y : T3} (e : Ed O n x y) : (0 ≤ x.1 ∧ x.1 < n) ∧ (0 ≤ y.1 ∧ y.1 < n) := by
  obtain ⟨c, h1, h2, h3, h4, h5, h6, h7, h8⟩ := e
  exact ⟨h6, h7⟩
/-- the window behind n keys, with the new one -/
def Wn (n : Int) (x : T3) : Prop := n - 3 ≤ x.1 ∧ x.1 ≤ n
theorem grows (O : Og) (ok : O.Ok) (n : Int) (hn : 0 ≤ n) : Grows (Ed O n) (Nw O n) (Ed O (n + 1)) (Wn n) where
  e := fun x y => by
    constructor
    · intro h
      by_cases t : x.1 = n ∨ y.1 = n
      · exact .inr ⟨h, t⟩
      · obtain ⟨c, h1, h2, h3, h4, h5, h6, h7, h8⟩ := h
        exact .inl ⟨c, h1, h2, h3, h4, h5, ⟨h6.1, by omega⟩, ⟨h7.1, by omega⟩, h8⟩
    · rintro (h | h)
      · exact ed_up (by omega) h
      · exact h.1
  w := fun x y ⟨h, t⟩ => by
    obtain ⟨c, h1, h2, h3, h4, h5, h6, h7, h8⟩ := h
    have hc := (ok.cm c h1).2.2
    have ho := ok.oc
    unfold Wn
    omega
theorem growsHi (O : Og) (ok : O.Ok) (n : Int) : Grows (Ed O n) (Hi O n) (Fin O n) (Wn n) where
  e := fun x y => Iff.rfl
  w := fun x y h => by
    obtain ⟨c, h1, h2, h3, h4, h5, h6, h7, h8⟩ := h
    have hc := (ok.cm c h1).2.2
    have ho := ok.oc
    unfold Wn
    omega
/-- the stops' keys of a pipe, in the compass of n keys -/
def En (O : Og) (rank : Int) (pos : Option Int) (n : Int) (e : T3) : Prop := ∃ r ∈ O.rs, r.2.1 = rank ∧ e.2.1 = r.1 ∧ (0 ≤ e.2.2 ∧ e.2.2 ≤ O.l2) ∧ (0 ≤ e.1 ∧ e.1 < n) ∧ ∃ p, pos = some p ∧ (0 ≤ p ∧ p < n) ∧ (e.1 + r.2.2 = p ∨ 0 < O.oct ∧ e.1 + r.2.2 < 0 ∧ e.1 + r.2.2 + O.oct = p)
def EnHi (O : Og) (rank : Int) (pos : Option Int) (n : Int) (e : T3) : Prop := ∃ r ∈ O.rs, r.2.1 = rank ∧ e.2.1 = r.1 ∧ (0 ≤ e.2.2 ∧ e.2.2 ≤ O.l2) ∧ (0 ≤ e.1 ∧ e.1 < n) ∧ ∃ p, pos = some p ∧ (0 ≤ p ∧ p < n) ∧ 0 < O.oct ∧ n ≤ e.1 + r.2.2 ∧ e.1 + r.2.2 - O.oct = p
/-- pressed keys -/
def Ps (pr : Int → Int → Prop) (n : Int) (x : T3) : Prop := pr x.1 x.2.1 ∧ x.2.2 = 0 ∧ (x.2.1 = 0 ∨ x.2.1 = 1) ∧ 0 ≤ x.1 ∧ x.1 < n
/-- the pipe sounds, in the compass of n keys -/
def Snd (O : Og) (rank : Int) (pr : Int → Int → Prop) (pos : Option Int) (n : Int) : Prop := ∃ p e, Ps pr n p ∧ (En O rank pos n e ∨ EnHi O rank pos n e) ∧ Rt (Fin O n) p e
end Ga
end
section
set_option maxRecDepth 100000
set_option maxHeartbeats 4000000
set_option autoImplicit false
namespace Ga
open Mi

structure St where
  many : Int
  links : List P6
  started : List T3
  ending : List T3
  age : Option Int
  done : Bool
def older (x : T3) : T3 := (x.1 + 1, x.2.1, x.2.2)
def stDone : St := ⟨3, [], [], [], some 3, true⟩
def stFirst : St := ⟨0, [], [], [], none, false⟩
def upTo (n : Int) : List Int := (List.range n.toNat).map fun i : Nat => (i : Int)
theorem mem_upTo {n k : Int} : k ∈ upTo n ↔ 0 ≤ k ∧ k < n := by
  unfold upTo
  rw [List.mem_map]
  constructor
  · rintro ⟨i, hi, rfl⟩
    have := List.mem_range.mp hi
    omega
  · rintro ⟨h1, h2⟩
    exact ⟨k.toNat, List.mem_range.mpr (by omega), by omega⟩
def mxI (a b : Int) : Int := if b > a then b else a
def mnI (a b : Int) : Int := if b < a then b else a
def lowF (oct s many : Int) : List (Int × Int) := (upTo (many + 1)).filterMap fun k => if 0 < oct ∧ k + s < 0 ∧ k + s + oct ≤ many ∧ mxI k (k + s + oct) = many then some (k, k + s + oct) else none
def highF (oct s many : Int) : List (Int × Int) := (upTo (mnI many 3)).filterMap fun b => if 0 < oct ∧ b < s ∧ b - s + oct < many then some (b, b - s + oct) else none
theorem mem_lowF {oct s many k p : Int} : (k, p) ∈ lowF oct s many ↔ 0 ≤ k ∧ k ≤ many ∧ 0 < oct ∧ k + s < 0 ∧ p = k + s + oct ∧ p ≤ many ∧ (k = many ∨ p = many) := by
  unfold lowF
  simp only [List.mem_filterMap, mem_upTo]
  constructor
  · rintro ⟨a, ha, h⟩
    split at h
    · rename_i hc
      cases h
      unfold mxI at hc
      split at hc <;> omega
    · cases h
  · rintro ⟨h1, h2, h3, h4, h5, h6, h7⟩
    refine ⟨k, by omega, ?_⟩
    rw [if_pos]
    · rw [h5]
    · unfold mxI
      split <;> omega
theorem mem_highF {oct s many b p : Int} : (b, p) ∈ highF oct s many ↔ 0 ≤ b ∧ b < many ∧ b < 3 ∧ 0 < oct ∧ b < s ∧ p = b - s + oct ∧ p < many := by
  unfold highF
  simp only [List.mem_filterMap, mem_upTo]
  constructor
  · rintro ⟨a, ha, h⟩
    split at h
    · rename_i hc
      cases h
      unfold mnI at ha
      split at ha <;> omega
    · cases h
  · rintro ⟨h1, h2, h3, h4, h5, h6, h7⟩
    refine ⟨b, by unfold mnI; split <;> omega, ?_⟩
    rw [if_pos (by omega), h6]
variable (O : Og)
def baseF (many : Int) (c : Int × Int × Int) : List P6 := if c.2.2 = 0 then [((0, c.1, 0), (0, c.2.1, O.l2))] else if c.2.2 > 0 ∧ many ≥ c.2.2 then [((c.2.2, c.1, 0), (0, c.2.1, O.l2))] else if c.2.2 < 0 ∧ many ≥ -c.2.2 then [((0, c.1, 0), (-c.2.2, c.2.1, O.l2))] else []
def newLinksF (many : Int) : List P6 := O.cs.flatMap fun c => baseF O many c ++ (if many < 3 then (lowF O.oct c.2.2 many).map fun q => ((many - q.1, c.1, 0), (many - q.2, c.2.1, O.l2)) else [])
def endsAt (rank many a : Int) (r : Int × Int × Int) : List (Int × Int) := (if r.2.2 = -a ∨ a = 0 ∧ 0 ≤ r.2.2 ∧ r.2.2 ≤ many then [(mxI r.2.2 0, r.1)] else []) ++ (if many < 3 ∧ a ≤ many then (lowF O.oct r.2.2 many).filterMap fun q => if q.2 = many - a then some (many - q.1, r.1) else none else [])
def newEndsF (rank many : Int) (age : Option Int) : List (Int × Int) := O.rs.flatMap fun r => match age with
  | some a => if r.2.1 = rank then endsAt O rank many a r else []
  | none => []
def layF (some : List (Int × Int)) : List T3 := some.flatMap fun q => (upTo (O.l2 + 1)).map fun l => (q.1, q.2, l)
theorem mem_layF {some : List (Int × Int)} {x : T3} : x ∈ layF O some ↔ (x.1, x.2.1) ∈ some ∧ 0 ≤ x.2.2 ∧ x.2.2 ≤ O.l2 := by
  unfold layF
  simp only [List.mem_flatMap, List.mem_map, mem_upTo]
  constructor
  · rintro ⟨q, hq, l, hl, rfl⟩
    exact ⟨hq, hl.1, by show l ≤ O.l2; omega⟩
  · rintro ⟨h1, h2, h3⟩
    exact ⟨_, h1, x.2.2, by omega, rfl⟩
def prs (l : List P6) (a b : T3) : Prop := (a, b) ∈ l
open Classical in
noncomputable def cloL (pairs : List P6) : List P6 := srtB lt6 (unq (((pairs.map (·.1)).flatMap fun a => (pairs.map (·.2)).map fun b => (a, b)).filter fun p => decide (Tc (prs pairs) p.1 p.2)))
open Classical in
theorem mem_clo {pairs : List P6} {p : P6} : p ∈ cloL pairs ↔ Tc (prs pairs) p.1 p.2 := by
  unfold cloL
  rw [(srtB_perm _ _).mem_iff, mem_unq, List.mem_filter, decide_eq_true_eq]
  constructor
  · exact fun h => h.2
  · intro h
    refine ⟨?_, h⟩
    obtain ⟨z, h1, _⟩ := h.head
    obtain ⟨w, _, h2⟩ := h
    exact List.mem_flatMap.mpr ⟨p.1, List.mem_map.mpr ⟨_, h1, rfl⟩, List.mem_map.mpr ⟨p.2, List.mem_map.mpr ⟨_, h2, rfl⟩, rfl⟩⟩
noncomputable def reachedF (links : List P6) (started : List T3) : List T3 := srtB lt3 (unq (started ++ (links.filter fun p => decide (p.1 ∈ started)).map (·.2)))
noncomputable def endsF (links : List P6) (ending : List T3) : List T3 := srtB lt3 (unq (ending ++ (links.filter fun p => decide (p.2 ∈ ending)).map (·.1)))
theorem mem_reached {links : List P6} {started : List T3} {x : T3} : x ∈ reachedF links started ↔ x ∈ started ∨ ∃ y ∈ started, (y, x) ∈ links := by
  unfold reachedF
  rw [(srtB_perm _ _).mem_iff, mem_unq, List.mem_append]
  simp only [List.mem_map, List.mem_filter, decide_eq_true_eq]
  constructor
  · rintro (h | ⟨p, ⟨h1, h2⟩, rfl⟩)
    · exact .inl h
    · exact .inr ⟨p.1, h2, h1⟩
  · rintro (h | ⟨y, h1, h2⟩)
    · exact .inl h
    · exact .inr ⟨(y, x), ⟨h2, h1⟩, rfl⟩
theorem mem_ends {links : List P6} {ending : List T3} {x : T3} : x ∈ endsF links ending ↔ x ∈ ending ∨ ∃ y ∈ ending, (x, y) ∈ links := by
  unfold endsF
  rw [(srtB_perm _ _).mem_iff, mem_unq, List.mem_append]
  simp only [List.mem_map, List.mem_filter, decide_eq_true_eq]
  constructor
  · rintro (h | ⟨p, ⟨h1, h2⟩, rfl⟩)
    · exact .inl h
    · exact .inr ⟨p.2, h2, h1⟩
  · rintro (h | ⟨y, h1, h2⟩)
    · exact .inl h
    · exact .inr ⟨(x, y), ⟨h2, h1⟩, rfl⟩
def nearP (p : P6) : Bool := decide (p.1.1 < 3) && decide (p.2.1 < 3)
def near (x : T3) : Bool := decide (x.1 < 3)
/-- settled -/
noncomputable def setF (many : Int) (pairs : List P6) (started ending : List T3) (age : Option Int) (done : Bool) : St :=
  let L := cloL pairs
  let r := reachedF L started
  let e := endsF L ending
  if (done || r.any fun x => decide (x ∈ e)) = true then stDone else ⟨many, L.filter nearP, r.filter near, e.filter near, age, false⟩
def ageF (isPipe : Bool) (age : Option Int) : Option Int := if isPipe then some 0 else age.map fun a => mnI (a + 1) 3
noncomputable def stepF (rank : Int) (st : St) (mans : List Int) (isPipe : Bool) : St :=
  setF (mnI (st.many + 1) 3) (st.links.map (fun p => (older p.1, older p.2)) ++ newLinksF O st.many) (st.started.map older ++ mans.map fun m => (0, m, 0)) (st.ending.map older ++ layF O (newEndsF O rank st.many (ageF isPipe st.age))) (ageF isPipe st.age) st.done
def highL (many : Int) : List P6 := O.cs.flatMap fun c => (highF O.oct c.2.2 many).map fun q => ((q.1, c.1, 0), (q.2, c.2.1, O.l2))
def highE (rank many : Int) (age : Option Int) : List T3 := O.rs.flatMap fun r => if r.2.1 = rank then layF O ((highF O.oct r.2.2 many).filterMap fun q => if some q.2 = age then some (q.1, r.1) else none) else []
noncomputable def sndF (rank : Int) (st : St) : Bool := (setF st.many (st.links ++ highL O st.many) st.started (st.ending ++ highE O rank st.many st.age) st.age st.done).done
end Ga
end
section
set_option maxRecDepth 100000
set_option maxHeartbeats 4000000
set_option autoImplicit false
namespace Ga
open Mi

theorem Tc.map {α β : Type} {R : α → α → Prop} {S : β → β → Prop} (g : α → β) (f : ∀ x y, R x y → S (g x) (g y)) {x y : α} (h : Tc R x y) : Tc S (g x) (g y) := let ⟨z, a, b⟩ := h; ⟨g z, a.map g f, f _ _ b⟩
/-- the node of a spot, behind n keys; and back -/
def nd (n : Int) (a : T3) : T3 := (n - 1 - a.1, a.2.1, a.2.2)
theorem nd_nd (n : Int) (a : T3) : nd n (nd n a) = a := by
  obtain ⟨a1, a2, a3⟩ := a
  simp only [nd, Prod.mk.injEq, and_true]
  omega
theorem nd_older (n : Int) (a : T3) : nd (n + 1) (older a) = nd n a := by
  obtain ⟨a1, a2, a3⟩ := a
  simp only [nd, older, Prod.mk.injEq, and_true]
  omega
theorem nd1 {n : Int} {a : T3} : (nd n a).1 = n - 1 - a.1 := rfl
theorem t3_ext {a b : T3} (h1 : a.1 = b.1) (h2 : a.2.1 = b.2.1) (h3 : a.2.2 = b.2.2) : a = b := Prod.ext h1 (Prod.ext h2 h3)
def ageAt (pos : Option Int) (n : Int) : Option Int := match pos with
  | some p => if p < n then some (mnI (n - 1 - p) 3) else none
  | none => none
def posOk (pos : Option Int) : Prop := ∀ p, pos = some p → 0 ≤ p
theorem age_step {pos : Option Int} {n : Int} {f : Bool} (h : f = true ↔ pos = some n) : ageF f (ageAt pos n) = ageAt pos (n + 1) := by
  unfold ageF ageAt
  cases f with
  | true =>
    rw [h.mp rfl]
    simp only [if_true]
    rw [if_pos (by omega)]
    unfold mnI
    rw [if_neg (by omega)]
    congr 1
    omega
  | false =>
    simp only [Bool.false_eq_true, if_false]
    cases pos with
    | none => rfl
    | some p =>
      have hp : p ≠ n := fun e => by rw [e] at h; exact absurd (h.mpr rfl) (by decide)
      dsimp only
      by_cases hc : p < n
      · rw [if_pos hc, if_pos (by omega)]
        simp only [Option.map_some, Option.some.injEq]
        unfold mnI
        repeat' split
        all_goals omega
      · rw [if_neg hc, if_neg (by omega)]
        rfl
section
variable {O : Og} (ok : O.Ok) {n : Int} (hn : 0 ≤ n)
include ok hn
theorem mem_newLinks {a b : T3} : (a, b) ∈ newLinksF O (mnI n 3) ↔ Nw O n (nd (n + 1) a) (nd (n + 1) b) := by
  obtain ⟨a1, a2, a3⟩ := a
  obtain ⟨b1, b2, b3⟩ := b
  have hm : (mnI n 3 = n ∧ n ≤ 3) ∨ (mnI n 3 = 3 ∧ 3 < n) := by unfold mnI; split <;> omega
  unfold newLinksF Nw Ed
  rw [List.mem_flatMap]
  generalize mnI n 3 = many at hm
  have ho := ok.oc
  simp only [nd]
  constructor
  · rintro ⟨c, hc, h⟩
    have hs := (ok.cm c hc).2.2
    rcases List.mem_append.mp h with h | h
    · unfold baseF at h
      split at h
      · simp only [List.mem_singleton, Prod.mk.injEq] at h
        obtain ⟨⟨rfl, rfl, rfl⟩, rfl, rfl, rfl⟩ := h
        exact ⟨⟨c, hc, rfl, rfl, rfl, rfl, by omega, by omega, by omega⟩, by omega⟩
      · split at h
        · simp only [List.mem_singleton, Prod.mk.injEq] at h
          obtain ⟨⟨rfl, rfl, rfl⟩, rfl, rfl, rfl⟩ := h
          exact ⟨⟨c, hc, rfl, rfl, rfl, rfl, by omega, by omega, by omega⟩, by omega⟩
        · split at h
          · simp only [List.mem_singleton, Prod.mk.injEq] at h
            obtain ⟨⟨rfl, rfl, rfl⟩, rfl, rfl, rfl⟩ := h
            exact ⟨⟨c, hc, rfl, rfl, rfl, rfl, by omega, by omega, by omega⟩, by omega⟩
          · cases h
    · split at h
      · obtain ⟨⟨k, p⟩, hq, he⟩ := List.mem_map.mp h
        obtain ⟨h1, h2, h3, h4, h5, h6, h7⟩ := mem_lowF.mp hq
        simp only [Prod.mk.injEq] at he
        obtain ⟨⟨rfl, rfl, rfl⟩, rfl, rfl, rfl⟩ := he
        exact ⟨⟨c, hc, rfl, rfl, rfl, rfl, by omega, by omega, by omega⟩, by omega⟩
      · cases h
  · rintro ⟨⟨c, hc, h1, h2, h3, h4, h5, h6, h7⟩, h8⟩
    have hs := (ok.cm c hc).2.2
    subst h1 h2 h3 h4
    refine ⟨c, hc, List.mem_append.mpr ?_⟩
    rcases h7 with h7 | ⟨h7, h9, h10⟩
    · refine .inl ?_
      unfold baseF
      by_cases s0 : c.2.2 = 0
      · rw [if_pos s0]
        simp only [List.mem_singleton, Prod.mk.injEq, and_true]
        omega
      · rw [if_neg s0]
        by_cases s1 : c.2.2 > 0
        · rw [if_pos (by omega)]
          simp only [List.mem_singleton, Prod.mk.injEq, and_true]
          omega
        · rw [if_neg (by omega), if_pos (by omega)]
          simp only [List.mem_singleton, Prod.mk.injEq, and_true]
          omega
    · refine .inr ?_
      rw [if_pos (by omega)]
      refine List.mem_map.mpr ⟨(n - a1, n - b1), mem_lowF.mpr (by omega), ?_⟩
      simp only [Prod.mk.injEq, and_true]
      omega
variable {rank : Int} {pos : Option Int} (hp : posOk pos)
include hp
theorem newEnds_to {x : T3} (h : x ∈ layF O (newEndsF O rank (mnI n 3) (ageAt pos (n + 1)))) : En O rank pos (n + 1) (nd (n + 1) x) ∧ Wn n (nd (n + 1) x) := by
  obtain ⟨x1, x2, x3⟩ := x
  have hm : (mnI n 3 = n ∧ n ≤ 3) ∨ (mnI n 3 = 3 ∧ 3 < n) := by unfold mnI; split <;> omega
  generalize mnI n 3 = many at hm h
  have ho := ok.oc
  obtain ⟨h, hl⟩ := (mem_layF O).mp h
  dsimp only at h hl
  unfold newEndsF at h
  obtain ⟨r, hr, h⟩ := List.mem_flatMap.mp h
  have hs := (ok.rm r hr).2
  cases hpos : pos with
  | none => rw [hpos] at h; simp [ageAt] at h
  | some p =>
    have hp0 := hp p hpos
    rw [hpos] at h
    simp only [ageAt] at h
    by_cases hpn : p < n + 1
    · rw [if_pos hpn] at h
      dsimp only at h
      split at h
      · rename_i hrk
        have ha : (mnI (n + 1 - 1 - p) 3 = n - p ∧ n - p ≤ 3) ∨ (mnI (n + 1 - 1 - p) 3 = 3 ∧ 3 < n - p) := by unfold mnI; split <;> omega
        generalize mnI (n + 1 - 1 - p) 3 = a at ha h
        unfold endsAt at h
        rcases List.mem_append.mp h with h | h
        · split at h
          · rename_i hc
            simp only [List.mem_singleton, Prod.mk.injEq] at h
            obtain ⟨h1, h2⟩ := h
            have hx : x1 = if 0 > r.2.2 then 0 else r.2.2 := h1
            subst h2
            have : x1 = 0 ∧ r.2.2 < 0 ∨ x1 = r.2.2 ∧ 0 ≤ r.2.2 := by split at hx <;> omega
            unfold Wn
            simp only [nd]
            refine ⟨⟨r, hr, hrk, rfl, hl, by dsimp only; omega, p, rfl, by omega, .inl ?_⟩, by omega⟩
            dsimp only
            omega
          · cases h
        · split at h
          · rename_i hc
            obtain ⟨⟨k, q⟩, hq, he⟩ := List.mem_filterMap.mp h
            obtain ⟨h1, h2, h3, h4, h5, h6, h7⟩ := mem_lowF.mp hq
            dsimp only at he
            split at he
            · rename_i hqa
              simp only [Option.some.injEq, Prod.mk.injEq] at he
              obtain ⟨he1, rfl⟩ := he
              unfold Wn
              simp only [nd]
              refine ⟨⟨r, hr, hrk, rfl, hl, by dsimp only; omega, p, rfl, by omega, .inr ⟨h3, ?_, ?_⟩⟩, by omega⟩
              · dsimp only; omega
              · dsimp only; omega
            · cases he
          · cases h
      · cases h
    · rw [if_neg hpn] at h
      cases h
theorem newEnds_of {e : T3} (h : En O rank pos (n + 1) e) : En O rank pos n e ∨ nd (n + 1) e ∈ layF O (newEndsF O rank (mnI n 3) (ageAt pos (n + 1))) := by
  obtain ⟨e1, e2, e3⟩ := e
  obtain ⟨r, hr, hrk, h2, h3, h4, p, hpos, h5, h6⟩ := h
  dsimp only at h2 h3 h4 h6
  have hs := (ok.rm r hr).2
  have ho := ok.oc
  by_cases old : e1 < n ∧ p < n
  · exact .inl ⟨r, hr, hrk, h2, h3, by dsimp only; omega, p, hpos, by omega, h6⟩
  · refine .inr ((mem_layF O).mpr ⟨?_, h3⟩)
    have hm : (mnI n 3 = n ∧ n ≤ 3) ∨ (mnI n 3 = 3 ∧ 3 < n) := by unfold mnI; split <;> omega
    generalize mnI n 3 = many at hm
    unfold newEndsF
    refine List.mem_flatMap.mpr ⟨r, hr, ?_⟩
    simp only [ageAt, hpos]
    rw [if_pos (by omega)]
    dsimp only
    rw [if_pos hrk]
    have ha : (mnI (n + 1 - 1 - p) 3 = n - p ∧ n - p ≤ 3) ∨ (mnI (n + 1 - 1 - p) 3 = 3 ∧ 3 < n - p) := by unfold mnI; split <;> omega
    generalize mnI (n + 1 - 1 - p) 3 = a at ha
    unfold endsAt
    simp only [nd]
    refine List.mem_append.mpr ?_
    rcases h6 with h6 | ⟨h6, h7, h8⟩
    · refine .inl ?_
      rw [if_pos (by omega)]
      simp only [List.mem_singleton, Prod.mk.injEq]
      refine ⟨?_, h2⟩
      unfold mxI
      split <;> omega
    · refine .inr ?_
      rw [if_pos (by omega)]
      refine List.mem_filterMap.mpr ⟨(e1, p), mem_lowF.mpr (by omega), ?_⟩
      dsimp only
      rw [if_pos (by omega)]
      simp only [Option.some.injEq, Prod.mk.injEq]
      exact ⟨by omega, h2.symm⟩
end
end Ga
end
section
set_option maxRecDepth 100000
set_option maxHeartbeats 4000000
set_option autoImplicit false
namespace Ga
open Mi

structure Canon (st : St) : Prop where
  l : SrtO.Srtd lt6 st.links ∧ st.links.Nodup
  s : SrtO.Srtd lt3 st.started ∧ st.started.Nodup
  e : SrtO.Srtd lt3 st.ending ∧ st.ending.Nodup
structure Rep (O : Og) (rank : Int) (pr : Int → Int → Prop) (pos : Option Int) (n : Int) (st : St) : Prop where
  dnd : st.done = true → st = stDone
  dn : st.done = true ↔ ∃ p e, Ps pr n p ∧ En O rank pos n e ∧ Rt (Ed O n) p e
  many : st.done = false → st.many = mnI n 3
  lk : st.done = false → ∀ a b, (a, b) ∈ st.links ↔ (a.1 < 3 ∧ b.1 < 3) ∧ Tc (Ed O n) (nd n a) (nd n b)
  sd : st.done = false → ∀ a, a ∈ st.started ↔ a.1 < 3 ∧ ∃ p, Ps pr n p ∧ Rt (Ed O n) p (nd n a)
  en : st.done = false → ∀ a, a ∈ st.ending ↔ a.1 < 3 ∧ ∃ e, En O rank pos n e ∧ Rt (Ed O n) (nd n a) e
  ag : st.done = false → st.age = ageAt pos n
  cn : Canon st
theorem canon_set {many : Int} {pairs : List P6} {started ending : List T3} {age : Option Int} {done : Bool} : Canon (setF many pairs started ending age done) := by
  have c : Canon ⟨many, (cloL pairs).filter nearP, (reachedF (cloL pairs) started).filter near, (endsF (cloL pairs) ending).filter near, age, false⟩ :=
    ⟨⟨(srtB_srtd srt_p6.swo _).filter _, ((srtB_perm _ _).nodup_iff.mpr (nd_unq _)).filter _⟩, ⟨(srtB_srtd swo_3 _).filter _, ((srtB_perm _ _).nodup_iff.mpr (nd_unq _)).filter _⟩, ⟨(srtB_srtd swo_3 _).filter _, ((srtB_perm _ _).nodup_iff.mpr (nd_unq _)).filter _⟩⟩
  unfold setF
  dsimp only
  split
  · exact ⟨⟨.nil, .nil⟩, ⟨.nil, .nil⟩, ⟨.nil, .nil⟩⟩
  · exact c
theorem en_up {O : Og} {rank : Int} {pos : Option Int} {n m : Int} (h : n ≤ m) {e : T3} (x : En O rank pos n e) : En O rank pos m e := by
  obtain ⟨r, h1, h2, h3, h4, h5, p, h6, h7, h8⟩ := x
  exact ⟨r, h1, h2, h3, h4, ⟨h5.1, by omega⟩, p, h6, ⟨h7.1, by omega⟩, h8⟩
theorem ps_up {pr : Int → Int → Prop} {n m : Int} (h : n ≤ m) {x : T3} (p : Ps pr n x) : Ps pr m x := ⟨p.1, p.2.1, p.2.2.1, p.2.2.2.1, by have := p.2.2.2.2; omega⟩
theorem rt_rng {O : Og} {n : Int} {x y : T3} (h : Rt (Ed O n) x y) : x = y ∨ (0 ≤ x.1 ∧ x.1 < n) ∧ (0 ≤ y.1 ∧ y.1 < n) := by
  rcases h.cases with h | h
  · exact .inl h
  · obtain ⟨z, h1, h2⟩ := h.head
    obtain ⟨w, h3, h4⟩ := h
    exact .inr ⟨(ed_rng h1).1, (ed_rng h4).2⟩
theorem tc_rng {O : Og} {n : Int} {x y : T3} (h : Tc (Ed O n) x y) : (0 ≤ x.1 ∧ x.1 < n) ∧ (0 ≤ y.1 ∧ y.1 < n) := by
  obtain ⟨z, h1, h2⟩ := h.head
  obtain ⟨w, h3, h4⟩ := h
  exact ⟨(ed_rng h1).1, (ed_rng h4).2⟩
section
variable {O : Og} (ok : O.Ok) {n : Int} (hn : 0 ≤ n) {rank : Int} {pr : Int → Int → Prop} {pos : Option Int} (hp : posOk pos)
include ok hn hp
theorem rep_step {st : St} {mans : List Int} {f : Bool} (R : Rep O rank pr pos n st) (hm : ∀ m, m ∈ mans ↔ pr n m ∧ (m = 0 ∨ m = 1)) (hf : f = true ↔ pos = some n) : Rep O rank pr pos (n + 1) (stepF O rank st mans f) := by
  have G := grows O ok n hn
  by_cases hd : st.done = true
  · -- done already
    obtain ⟨p, e, h1, h2, h3⟩ := R.dn.mp hd
    have e1 : stepF O rank st mans f = stDone := by unfold stepF setF; dsimp only; rw [hd]; rfl
    rw [e1]
    refine ⟨fun _ => rfl, ⟨fun _ => ⟨p, e, ps_up (by omega) h1, en_up (by omega) h2, G.up h3⟩, fun _ => rfl⟩, fun h => (by cases h), fun h => (by cases h), fun h => (by cases h), fun h => (by cases h), fun h => (by cases h), ⟨⟨.nil, .nil⟩, ⟨.nil, .nil⟩, ⟨.nil, .nil⟩⟩⟩
  · have hd : st.done = false := by cases h : st.done with
      | true => exact absurd h hd
      | false => rfl
    have eage : ageF f st.age = ageAt pos (n + 1) := by rw [R.ag hd]; exact age_step hf
    have emany : st.many = mnI n 3 := R.many hd
    -- the pairs
    have hpr : ∀ a b, (a, b) ∈ st.links.map (fun p => (older p.1, older p.2)) ++ newLinksF O st.many ↔ Ln (Ed O n) (Nw O n) (Wn n) (nd (n + 1) a) (nd (n + 1) b) := fun a b => by
      rw [List.mem_append, emany, mem_newLinks ok hn]
      unfold Ln
      refine or_congr ⟨?_, ?_⟩ Iff.rfl
      · intro h
        obtain ⟨⟨x, y⟩, h1, h2⟩ := List.mem_map.mp h
        simp only [Prod.mk.injEq] at h2
        obtain ⟨rfl, rfl⟩ := h2
        obtain ⟨⟨b1, b2⟩, h3⟩ := (R.lk hd _ _).mp h1
        rw [nd_older, nd_older]
        have := tc_rng h3
        simp only [nd1] at this
        exact ⟨h3, ⟨by simp only [nd1]; omega, by simp only [nd1]; omega⟩, ⟨by simp only [nd1]; omega, by simp only [nd1]; omega⟩⟩
      · rintro ⟨h1, h2, h3⟩
        have r := tc_rng h1
        unfold Wn at h2 h3
        refine List.mem_map.mpr ⟨(nd n (nd (n + 1) a), nd n (nd (n + 1) b)), (R.lk hd _ _).mpr ⟨⟨?_, ?_⟩, by rw [nd_nd, nd_nd]; exact h1⟩, ?_⟩
        · rw [nd1]; omega
        · rw [nd1]; omega
        · simp only [Prod.mk.injEq]
          constructor
          · rw [← nd_nd (n + 1) (older _), nd_older, nd_nd, nd_nd]
          · rw [← nd_nd (n + 1) (older _), nd_older, nd_nd, nd_nd]
    generalize ePairs : st.links.map (fun p => (older p.1, older p.2)) ++ newLinksF O st.many = pairs at hpr
    have hwn : ∀ x y, Ln (Ed O n) (Nw O n) (Wn n) x y → Wn n x ∧ Wn n y := fun x y h => h.elim (fun h => h.2) (G.w x y)
    have tcP : ∀ a b, Tc (prs pairs) a b ↔ Tc (Ln (Ed O n) (Nw O n) (Wn n)) (nd (n + 1) a) (nd (n + 1) b) := fun a b => by
      constructor
      · exact Tc.map (nd (n + 1)) fun x y h => (hpr x y).mp h
      · intro h
        have := Tc.map (S := prs pairs) (nd (n + 1)) (fun x y h => (hpr _ _).mpr (by rw [nd_nd, nd_nd]; exact h)) h
        rwa [nd_nd, nd_nd] at this
    have hclo : ∀ a b, (a, b) ∈ cloL pairs ↔ (Wn n (nd (n + 1) a) ∧ Wn n (nd (n + 1) b)) ∧ Tc (Ed O (n + 1)) (nd (n + 1) a) (nd (n + 1) b) := fun a b => by
      rw [mem_clo, tcP]
      constructor
      · intro h
        obtain ⟨z, h1, _⟩ := h.head
        obtain ⟨w, _, h2⟩ := id h
        have w1 := (hwn _ _ h1).1
        have w2 := (hwn _ _ h2).2
        exact ⟨⟨w1, w2⟩, (G.tc w1 w2).mpr h⟩
      · rintro ⟨⟨w1, w2⟩, h⟩
        exact (G.tc w1 w2).mp h
    -- what is reached
    have hbeg : ∀ a, a ∈ st.started.map older ++ (mans.map fun m => ((0, m, 0) : T3)) ↔ (Wn n (nd (n + 1) a) ∧ (∃ p, Ps pr n p ∧ Rt (Ed O n) p (nd (n + 1) a))) ∨ (Ps pr (n + 1) (nd (n + 1) a) ∧ (nd (n + 1) a).1 = n) := fun a => by
      rw [List.mem_append]
      refine or_congr ?_ ?_
      · constructor
        · intro h
          obtain ⟨x, h1, rfl⟩ := List.mem_map.mp h
          obtain ⟨b1, p, h2, h3⟩ := (R.sd hd x).mp h1
          rw [nd_older]
          have hr : (nd n x).1 < n ∧ 0 ≤ (nd n x).1 := by
            rcases rt_rng h3 with e | e
            · rw [← e]; exact ⟨h2.2.2.2.2, h2.2.2.2.1⟩
            · exact ⟨e.2.2, e.2.1⟩
          rw [nd1] at hr
          exact ⟨⟨by rw [nd1]; omega, by rw [nd1]; omega⟩, p, h2, h3⟩
        · rintro ⟨w, p, h2, h3⟩
          unfold Wn at w
          have hr : (nd (n + 1) a).1 < n := by
            rcases rt_rng h3 with e | e
            · rw [← e]; exact h2.2.2.2.2
            · exact e.2.2
          refine List.mem_map.mpr ⟨nd n (nd (n + 1) a), (R.sd hd _).mpr ⟨by rw [nd1]; omega, p, h2, by rw [nd_nd]; exact h3⟩, ?_⟩
          rw [← nd_nd (n + 1) (older _), nd_older, nd_nd, nd_nd]
      · constructor
        · intro h
          obtain ⟨m, h1, rfl⟩ := List.mem_map.mp h
          obtain ⟨h2, h3⟩ := (hm m).mp h1
          have e0 : (nd (n + 1) ((0, m, 0) : T3)).1 = n := by rw [nd1]; show n + 1 - 1 - 0 = n; omega
          exact ⟨⟨by rw [e0]; exact h2, rfl, h3, by rw [e0]; exact hn, by rw [e0]; omega⟩, e0⟩
        · rintro ⟨h1, h2⟩
          refine List.mem_map.mpr ⟨a.2.1, (hm _).mpr ⟨by have := h1.1; rw [h2] at this; exact this, h1.2.2.1⟩, ?_⟩
          refine t3_ext ?_ rfl h1.2.1.symm
          rw [nd1] at h2
          show 0 = a.1
          omega
    generalize eBeg : st.started.map older ++ (mans.map fun m => ((0, m, 0) : T3)) = begun at hbeg
    have begS : ∀ a, a ∈ begun → Wn n (nd (n + 1) a) ∧ ∃ p, Ps pr (n + 1) p ∧ Rt (Ed O (n + 1)) p (nd (n + 1) a) := fun a h => by
      rcases (hbeg a).mp h with ⟨w, p, h1, h2⟩ | ⟨h1, h2⟩
      · exact ⟨w, p, ps_up (by omega) h1, G.up h2⟩
      · exact ⟨⟨by omega, by omega⟩, _, h1, .refl _⟩
    have hrea : ∀ a, a ∈ reachedF (cloL pairs) begun ↔ Wn n (nd (n + 1) a) ∧ ∃ p, Ps pr (n + 1) p ∧ Rt (Ed O (n + 1)) p (nd (n + 1) a) := fun a => by
      rw [mem_reached]
      constructor
      · rintro (h | ⟨y, h1, h2⟩)
        · exact begS a h
        · obtain ⟨w, p, h3, h4⟩ := begS y h1
          obtain ⟨⟨w1, w2⟩, h5⟩ := (hclo _ _).mp h2
          exact ⟨w2, p, h3, h4.trans h5.rt⟩
      · rintro ⟨w, p, h1, h2⟩
        -- a spot of the window from which the walk goes on
        have key : ∃ y, y ∈ begun ∧ Rt (Ed O (n + 1)) (nd (n + 1) y) (nd (n + 1) a) := by
          by_cases pn : p.1 = n
          · exact ⟨nd (n + 1) p, (hbeg _).mpr (.inr ⟨by rw [nd_nd]; exact h1, by rw [nd_nd]; exact pn⟩), by rw [nd_nd]; exact h2⟩
          · have hpo : Ps pr n p := ⟨h1.1, h1.2.1, h1.2.2.1, h1.2.2.2.1, by have := h1.2.2.2.2; omega⟩
            rcases G.cut h2 with h2 | ⟨x, z, h3, h4, h5, h6, h7⟩
            · exact ⟨a, (hbeg _).mpr (.inl ⟨w, p, hpo, h2⟩), .refl _⟩
            · exact ⟨nd (n + 1) x, (hbeg _).mpr (.inl ⟨by rw [nd_nd]; exact h3, p, hpo, by rw [nd_nd]; exact h4⟩), by rw [nd_nd]; exact (G.lns h6).trans (G.up h7)⟩
        obtain ⟨y, hy, hw⟩ := key
        rcases hw.cases with e | h
        · have : y = a := by rw [← nd_nd (n + 1) y, e, nd_nd]
          subst this
          exact .inl hy
        · exact .inr ⟨y, hy, (hclo _ _).mpr ⟨⟨(begS y hy).1, w⟩, h⟩⟩
    -- what reaches the pipe
    have hend : ∀ a, a ∈ st.ending.map older ++ layF O (newEndsF O rank st.many (ageF f st.age)) → Wn n (nd (n + 1) a) ∧ ∃ e, En O rank pos (n + 1) e ∧ Rt (Ed O (n + 1)) (nd (n + 1) a) e := fun a h => by
      rcases List.mem_append.mp h with h | h
      · obtain ⟨x, h1, rfl⟩ := List.mem_map.mp h
        obtain ⟨b1, e, h2, h3⟩ := (R.en hd x).mp h1
        rw [nd_older]
        have hr : (nd n x).1 < n ∧ 0 ≤ (nd n x).1 := by
          rcases rt_rng h3 with z | z
          · rw [z]; obtain ⟨r, _, _, _, _, h5, _⟩ := h2; exact ⟨h5.2, h5.1⟩
          · exact ⟨z.1.2, z.1.1⟩
        rw [nd1] at hr
        exact ⟨⟨by rw [nd1]; omega, by rw [nd1]; omega⟩, e, en_up (by omega) h2, G.up h3⟩
      · rw [emany, eage] at h
        obtain ⟨h1, h2⟩ := newEnds_to ok hn hp h
        exact ⟨h2, _, h1, .refl _⟩
    have hend2 : ∀ z, Wn n z → (∃ e, En O rank pos n e ∧ Rt (Ed O n) z e) → nd (n + 1) z ∈ st.ending.map older ++ layF O (newEndsF O rank st.many (ageF f st.age)) := fun z w ⟨e, h2, h3⟩ => by
      unfold Wn at w
      have hr : z.1 < n := by
        rcases rt_rng h3 with y | y
        · rw [y]; obtain ⟨r, _, _, _, _, h5, _⟩ := h2; exact h5.2
        · exact y.1.2
      refine List.mem_append_left _ (List.mem_map.mpr ⟨nd n z, (R.en hd _).mpr ⟨by rw [nd1]; omega, e, h2, by rw [nd_nd]; exact h3⟩, ?_⟩)
      rw [← nd_nd (n + 1) (older _), nd_older, nd_nd]
    have hend3 : ∀ e, En O rank pos (n + 1) e → En O rank pos n e ∨ nd (n + 1) e ∈ st.ending.map older ++ layF O (newEndsF O rank st.many (ageF f st.age)) := fun e h => by
      rcases newEnds_of ok hn hp h with h | h
      · exact .inl h
      · refine .inr (List.mem_append_right _ ?_)
        rw [emany, eage]
        exact h
    generalize eEnd : st.ending.map older ++ layF O (newEndsF O rank st.many (ageF f st.age)) = ends0 at hend hend2 hend3
    have hens : ∀ a, a ∈ endsF (cloL pairs) ends0 ↔ Wn n (nd (n + 1) a) ∧ ∃ e, En O rank pos (n + 1) e ∧ Rt (Ed O (n + 1)) (nd (n + 1) a) e := fun a => by
      rw [mem_ends]
      constructor
      · rintro (h | ⟨y, h1, h2⟩)
        · exact hend a h
        · obtain ⟨w, e, h3, h4⟩ := hend y h1
          obtain ⟨⟨w1, w2⟩, h5⟩ := (hclo _ _).mp h2
          exact ⟨w1, e, h3, h5.rt.trans h4⟩
      · rintro ⟨w, e, h1, h2⟩
        have key : ∃ y, y ∈ ends0 ∧ Rt (Ed O (n + 1)) (nd (n + 1) a) (nd (n + 1) y) := by
          rcases hend3 e h1 with h | h
          · obtain ⟨z, wz, h3, h4⟩ := G.from w h2
            exact ⟨nd (n + 1) z, hend2 z wz ⟨e, h, h4⟩, by rw [nd_nd]; exact G.lns h3⟩
          · exact ⟨nd (n + 1) e, h, by rw [nd_nd]; exact h2⟩
        obtain ⟨y, hy, hw⟩ := key
        rcases hw.cases with e | h
        · have : y = a := by rw [← nd_nd (n + 1) y, ← e, nd_nd]
          subst this
          exact .inl hy
        · exact .inr ⟨y, hy, (hclo _ _).mpr ⟨⟨w, (hend y hy).1⟩, h⟩⟩
    -- done now
    have hdn : ((reachedF (cloL pairs) begun).any fun x => decide (x ∈ endsF (cloL pairs) ends0)) = true ↔ ∃ p e, Ps pr (n + 1) p ∧ En O rank pos (n + 1) e ∧ Rt (Ed O (n + 1)) p e := by
      simp only [List.any_eq_true, decide_eq_true_eq]
      constructor
      · rintro ⟨x, h1, h2⟩
        obtain ⟨_, p, h3, h4⟩ := (hrea x).mp h1
        obtain ⟨_, e, h5, h6⟩ := (hens x).mp h2
        exact ⟨p, e, h3, h5, h4.trans h6⟩
      · rintro ⟨p, e, h1, h2, h3⟩
        have mk : ∀ x, Wn n x → Rt (Ed O (n + 1)) p x → Rt (Ed O (n + 1)) x e → ∃ x, x ∈ reachedF (cloL pairs) begun ∧ x ∈ endsF (cloL pairs) ends0 := fun x w h4 h5 =>
          ⟨nd (n + 1) x, (hrea _).mpr (by rw [nd_nd]; exact ⟨w, p, h1, h4⟩), (hens _).mpr (by rw [nd_nd]; exact ⟨w, e, h2, h5⟩)⟩
        rcases G.cut h3 with h3' | ⟨x, z, h4, h5, h6, h7, h8⟩
        · by_cases pn : p.1 = n
          · exact mk p ⟨by omega, by omega⟩ (.refl _) h3
          · rcases hend3 e h2 with h | h
            · have hpo : Ps pr n p := ⟨h1.1, h1.2.1, h1.2.2.1, h1.2.2.2.1, by have := h1.2.2.2.2; omega⟩
              have := R.dn.mpr ⟨p, e, hpo, h, h3'⟩
              rw [hd] at this
              cases this
            · have w := (hend _ h).1
              rw [nd_nd] at w
              exact mk e w h3 (.refl _)
        · exact mk x h4 (G.up h5) ((G.lns h7).trans (G.up h8))
    unfold stepF
    rw [ePairs, eBeg, eEnd, hd, eage]
    have eq : setF (mnI (st.many + 1) 3) pairs begun ends0 (ageAt pos (n + 1)) false = if ((reachedF (cloL pairs) begun).any fun x => decide (x ∈ endsF (cloL pairs) ends0)) = true then stDone else ⟨mnI (st.many + 1) 3, (cloL pairs).filter nearP, (reachedF (cloL pairs) begun).filter near, (endsF (cloL pairs) ends0).filter near, ageAt pos (n + 1), false⟩ := by
      unfold setF
      simp only [Bool.false_or]
    have cn := canon_set (many := mnI (st.many + 1) 3) (pairs := pairs) (started := begun) (ending := ends0) (age := ageAt pos (n + 1)) (done := false)
    rw [eq] at cn ⊢
    by_cases hdd : ((reachedF (cloL pairs) begun).any fun x => decide (x ∈ endsF (cloL pairs) ends0)) = true
    · rw [if_pos hdd] at cn ⊢
      exact ⟨fun _ => rfl, ⟨fun _ => hdn.mp hdd, fun _ => rfl⟩, fun h => (by cases h), fun h => (by cases h), fun h => (by cases h), fun h => (by cases h), fun h => (by cases h), cn⟩
    · rw [if_neg hdd] at cn ⊢
      have near3 : ∀ a : T3, 0 ≤ (nd (n + 1) a).1 → (nd (n + 1) a).1 < n + 1 → (a.1 < 3 ↔ near a = true ∧ Wn n (nd (n + 1) a)) := fun a h0 h1 => by
        unfold near Wn
        rw [nd1] at h0 h1 ⊢
        rw [decide_eq_true_eq]
        omega
      refine ⟨fun h => (by cases h), ⟨fun h => (by cases h), fun h => absurd (hdn.mpr h) hdd⟩, fun _ => ?_, fun _ a b => ?_, fun _ a => ?_, fun _ a => ?_, fun _ => rfl, cn⟩
      · show mnI (st.many + 1) 3 = mnI (n + 1) 3
        rw [emany]
        unfold mnI
        repeat' split
        all_goals omega
      · show (a, b) ∈ (cloL pairs).filter nearP ↔ _
        rw [List.mem_filter, hclo]
        unfold nearP
        rw [Bool.and_eq_true, decide_eq_true_eq, decide_eq_true_eq]
        constructor
        · rintro ⟨⟨_, h⟩, h2⟩
          exact ⟨h2, h⟩
        · rintro ⟨h2, h⟩
          have r := tc_rng h
          exact ⟨⟨⟨((near3 a r.1.1 r.1.2).mp h2.1).2, ((near3 b r.2.1 r.2.2).mp h2.2).2⟩, h⟩, h2⟩
      · show a ∈ (reachedF (cloL pairs) begun).filter near ↔ _
        rw [List.mem_filter, hrea]
        constructor
        · rintro ⟨⟨w, h⟩, h2⟩
          exact ⟨of_decide_eq_true h2, h⟩
        · rintro ⟨h2, p, h3, h4⟩
          have r : 0 ≤ (nd (n + 1) a).1 ∧ (nd (n + 1) a).1 < n + 1 := by
            rcases rt_rng h4 with e | e
            · rw [← e]; exact ⟨h3.2.2.2.1, h3.2.2.2.2⟩
            · exact e.2
          have := (near3 a r.1 r.2).mp h2
          exact ⟨⟨this.2, p, h3, h4⟩, this.1⟩
      · show a ∈ (endsF (cloL pairs) ends0).filter near ↔ _
        rw [List.mem_filter, hens]
        constructor
        · rintro ⟨⟨w, h⟩, h2⟩
          exact ⟨of_decide_eq_true h2, h⟩
        · rintro ⟨h2, e, h3, h4⟩
          have r : 0 ≤ (nd (n + 1) a).1 ∧ (nd (n + 1) a).1 < n + 1 := by
            rcases rt_rng h4 with z | z
            · rw [z]; obtain ⟨r, _, _, _, _, h5, _⟩ := h3; exact h5
            · exact z.1
          have := (near3 a r.1 r.2).mp h2
          exact ⟨⟨this.2, e, h3, h4⟩, this.1⟩
end
end Ga
end
section
set_option maxRecDepth 100000
set_option maxHeartbeats 4000000
set_option autoImplicit false
namespace Ga
open Mi

theorem rep_first {O : Og} {rank : Int} {pr : Int → Int → Prop} {pos : Option Int} (hp : posOk pos) : Rep O rank pr pos 0 stFirst := by
  have no : ∀ x y : T3, ¬ Tc (Ed O 0) x y := fun x y h => by have := tc_rng h; omega
  refine ⟨fun h => (by cases h), ⟨fun h => (by cases h), ?_⟩, fun _ => rfl, fun _ a b => ?_, fun _ a => ?_, fun _ a => ?_, fun _ => ?_, ⟨⟨.nil, .nil⟩, ⟨.nil, .nil⟩, ⟨.nil, .nil⟩⟩⟩
  · rintro ⟨p, e, h1, _⟩
    have h := h1.2.2.2
    omega
  · exact ⟨fun h => (by cases h), fun h => absurd h.2 (no _ _)⟩
  · refine ⟨fun h => (by cases h), ?_⟩
    rintro ⟨_, p, h1, _⟩
    have h := h1.2.2.2
    omega
  · refine ⟨fun h => (by cases h), ?_⟩
    rintro ⟨_, e, ⟨r, _, _, _, _, h5, _⟩, _⟩
    omega
  · unfold ageAt
    cases h : pos with
    | none => rfl
    | some p =>
      have := hp p h
      dsimp only
      rw [if_neg (by omega)]
      rfl
section
variable {O : Og} (ok : O.Ok) {n : Int} (hn : 0 ≤ n)
include ok hn
theorem mem_highL {a b : T3} : (a, b) ∈ highL O (mnI n 3) ↔ Hi O n (nd n a) (nd n b) := by
  obtain ⟨a1, a2, a3⟩ := a
  obtain ⟨b1, b2, b3⟩ := b
  have hm : (mnI n 3 = n ∧ n ≤ 3) ∨ (mnI n 3 = 3 ∧ 3 < n) := by unfold mnI; split <;> omega
  unfold highL Hi
  rw [List.mem_flatMap]
  generalize mnI n 3 = many at hm
  have ho := ok.oc
  simp only [nd]
  constructor
  · rintro ⟨c, hc, h⟩
    have hs := (ok.cm c hc).2.2
    obtain ⟨⟨k, p⟩, hq, he⟩ := List.mem_map.mp h
    obtain ⟨h1, h2, h3, h4, h5, h6, h7⟩ := mem_highF.mp hq
    simp only [Prod.mk.injEq] at he
    obtain ⟨⟨rfl, rfl, rfl⟩, rfl, rfl, rfl⟩ := he
    exact ⟨c, hc, rfl, rfl, rfl, rfl, by omega, by omega, h4, by omega, by omega⟩
  · rintro ⟨c, hc, h1, h2, h3, h4, h5, h6, h7, h8, h9⟩
    have hs := (ok.cm c hc).2.2
    subst h1 h2 h3 h4
    refine ⟨c, hc, List.mem_map.mpr ⟨(a1, b1), mem_highF.mpr (by omega), rfl⟩⟩
variable {rank : Int} {pos : Option Int} (hp : posOk pos)
include hp
theorem mem_highE {x : T3} : x ∈ highE O rank (mnI n 3) (ageAt pos n) ↔ EnHi O rank pos n (nd n x) := by
  obtain ⟨x1, x2, x3⟩ := x
  have hm : (mnI n 3 = n ∧ n ≤ 3) ∨ (mnI n 3 = 3 ∧ 3 < n) := by unfold mnI; split <;> omega
  generalize mnI n 3 = many at hm
  have ho := ok.oc
  unfold highE EnHi
  rw [List.mem_flatMap]
  simp only [nd]
  constructor
  · rintro ⟨r, hr, h⟩
    have hs := (ok.rm r hr).2
    split at h
    · rename_i hrk
      obtain ⟨h, hl⟩ := (mem_layF O).mp h
      dsimp only at h hl
      obtain ⟨⟨k, q⟩, hq, he⟩ := List.mem_filterMap.mp h
      obtain ⟨h1, h2, h3, h4, h5, h6, h7⟩ := mem_highF.mp hq
      dsimp only at he
      split at he
      · rename_i hqa
        simp only [Option.some.injEq, Prod.mk.injEq] at he
        obtain ⟨rfl, rfl⟩ := he
        cases hpos : pos with
        | none => rw [hpos] at hqa; cases hqa
        | some p =>
          have hp0 := hp p hpos
          rw [hpos] at hqa
          simp only [ageAt] at hqa
          split at hqa
          · rename_i hpn
            have e := Option.some.inj hqa
            unfold mnI at e
            refine ⟨r, hr, hrk, rfl, hl, by omega, p, rfl, by omega, h4, by omega, ?_⟩
            split at e <;> omega
          · cases hqa
      · cases he
    · cases h
  · rintro ⟨r, hr, hrk, h2, h3, h4, p, hpos, h5, h6, h7, h8⟩
    have hs := (ok.rm r hr).2
    refine ⟨r, hr, ?_⟩
    rw [if_pos hrk]
    refine (mem_layF O).mpr ⟨List.mem_filterMap.mpr ⟨(x1, n - 1 - p), mem_highF.mpr (by omega), ?_⟩, h3⟩
    dsimp only
    rw [if_pos]
    · simp only [h2]
    · simp only [ageAt, hpos]
      rw [if_pos (by omega)]
      congr 1
      unfold mnI
      split <;> omega
variable {pr : Int → Int → Prop}
theorem snd_ok {st : St} (R : Rep O rank pr pos n st) : sndF O rank st = true ↔ Snd O rank pr pos n := by
  have G := growsHi O ok n
  by_cases hd : st.done = true
  · obtain ⟨p, e, h1, h2, h3⟩ := R.dn.mp hd
    refine ⟨fun _ => ⟨p, e, h1, .inl h2, G.up h3⟩, fun _ => ?_⟩
    unfold sndF setF
    dsimp only
    rw [hd]
    rfl
  · have hd : st.done = false := by cases h : st.done with
      | true => exact absurd h hd
      | false => rfl
    have emany : st.many = mnI n 3 := R.many hd
    have hpr : ∀ a b, (a, b) ∈ st.links ++ highL O st.many ↔ Ln (Ed O n) (Hi O n) (Wn n) (nd n a) (nd n b) := fun a b => by
      rw [List.mem_append, emany, mem_highL ok hn, R.lk hd]
      unfold Ln
      refine or_congr ⟨?_, ?_⟩ Iff.rfl
      · rintro ⟨⟨b1, b2⟩, h⟩
        have r := tc_rng h
        refine ⟨h, ?_, ?_⟩ <;> (unfold Wn; simp only [nd1] at r ⊢; omega)
      · rintro ⟨h, w1, w2⟩
        unfold Wn at w1 w2
        simp only [nd1] at w1 w2
        exact ⟨⟨by omega, by omega⟩, h⟩
    generalize eP : st.links ++ highL O st.many = pairs at hpr
    have hwn : ∀ x y, Ln (Ed O n) (Hi O n) (Wn n) x y → Wn n x ∧ Wn n y := fun x y h => h.elim (fun h => h.2) (G.w x y)
    have tcP : ∀ a b, Tc (prs pairs) a b ↔ Tc (Ln (Ed O n) (Hi O n) (Wn n)) (nd n a) (nd n b) := fun a b => by
      constructor
      · exact Tc.map (nd n) fun x y h => (hpr x y).mp h
      · intro h
        have := Tc.map (S := prs pairs) (nd n) (fun x y h => (hpr _ _).mpr (by rw [nd_nd, nd_nd]; exact h)) h
        rwa [nd_nd, nd_nd] at this
    have hclo : ∀ a b, (a, b) ∈ cloL pairs ↔ (Wn n (nd n a) ∧ Wn n (nd n b)) ∧ Tc (Fin O n) (nd n a) (nd n b) := fun a b => by
      rw [mem_clo, tcP]
      constructor
      · intro h
        obtain ⟨z, h1, _⟩ := h.head
        obtain ⟨w, _, h2⟩ := id h
        have w1 := (hwn _ _ h1).1
        have w2 := (hwn _ _ h2).2
        exact ⟨⟨w1, w2⟩, (G.tc w1 w2).mpr h⟩
      · rintro ⟨⟨w1, w2⟩, h⟩
        exact (G.tc w1 w2).mp h
    have inW : ∀ x y : T3, Rt (Ed O n) x y → x.1 < n → 0 ≤ x.1 → y.1 < n ∧ 0 ≤ y.1 := fun x y h h0 h1 => by
      rcases rt_rng h with e | e
      · rw [← e]; exact ⟨h0, h1⟩
      · exact ⟨e.2.2, e.2.1⟩
    have hbeg : ∀ a, a ∈ st.started ↔ Wn n (nd n a) ∧ ∃ p, Ps pr n p ∧ Rt (Ed O n) p (nd n a) := fun a => by
      rw [R.sd hd]
      constructor
      · rintro ⟨b1, p, h1, h2⟩
        have := inW _ _ h2 h1.2.2.2.2 h1.2.2.2.1
        refine ⟨?_, p, h1, h2⟩
        unfold Wn
        simp only [nd1] at this ⊢
        omega
      · rintro ⟨w, p, h1, h2⟩
        unfold Wn at w
        simp only [nd1] at w
        exact ⟨by omega, p, h1, h2⟩
    have begS : ∀ a, a ∈ st.started → Wn n (nd n a) ∧ ∃ p, Ps pr n p ∧ Rt (Fin O n) p (nd n a) := fun a h => by
      obtain ⟨w, p, h1, h2⟩ := (hbeg a).mp h
      exact ⟨w, p, h1, G.up h2⟩
    have hrea : ∀ a, a ∈ reachedF (cloL pairs) st.started ↔ Wn n (nd n a) ∧ ∃ p, Ps pr n p ∧ Rt (Fin O n) p (nd n a) := fun a => by
      rw [mem_reached]
      constructor
      · rintro (h | ⟨y, h1, h2⟩)
        · exact begS a h
        · obtain ⟨w, p, h3, h4⟩ := begS y h1
          obtain ⟨⟨w1, w2⟩, h5⟩ := (hclo _ _).mp h2
          exact ⟨w2, p, h3, h4.trans h5.rt⟩
      · rintro ⟨w, p, h1, h2⟩
        have key : ∃ y, y ∈ st.started ∧ Rt (Fin O n) (nd n y) (nd n a) := by
          rcases G.cut h2 with h2 | ⟨x, z, h3, h4, h5, h6, h7⟩
          · exact ⟨a, (hbeg _).mpr ⟨w, p, h1, h2⟩, .refl _⟩
          · exact ⟨nd n x, (hbeg _).mpr ⟨by rw [nd_nd]; exact h3, p, h1, by rw [nd_nd]; exact h4⟩, by rw [nd_nd]; exact (G.lns h6).trans (G.up h7)⟩
        obtain ⟨y, hy, hw⟩ := key
        rcases hw.cases with e | h
        · have : y = a := by rw [← nd_nd n y, e, nd_nd]
          subst this
          exact .inl hy
        · exact .inr ⟨y, hy, (hclo _ _).mpr ⟨⟨(begS y hy).1, w⟩, h⟩⟩
    have enr : ∀ e, En O rank pos n e ∨ EnHi O rank pos n e → 0 ≤ e.1 ∧ e.1 < n := fun e h => by
      rcases h with ⟨r, _, _, _, _, h5, _⟩ | ⟨r, _, _, _, _, h5, _⟩ <;> exact h5
    have hend : ∀ a, a ∈ st.ending ++ highE O rank st.many st.age → Wn n (nd n a) ∧ ∃ e, (En O rank pos n e ∨ EnHi O rank pos n e) ∧ Rt (Fin O n) (nd n a) e := fun a h => by
      rcases List.mem_append.mp h with h | h
      · obtain ⟨b1, e, h2, h3⟩ := (R.en hd a).mp h
        have hr : (nd n a).1 < n ∧ 0 ≤ (nd n a).1 := by
          rcases rt_rng h3 with z | z
          · rw [z]; have := enr e (.inl h2); exact ⟨this.2, this.1⟩
          · exact ⟨z.1.2, z.1.1⟩
        refine ⟨?_, e, .inl h2, G.up h3⟩
        unfold Wn
        simp only [nd1] at hr ⊢
        omega
      · rw [emany, R.ag hd] at h
        have h := (mem_highE ok hn hp).mp h
        refine ⟨?_, _, .inr h, .refl _⟩
        obtain ⟨r, hr, hrk, h2, h3, h4, p, hpos, h5, h6, h7, h8⟩ := h
        have hs := (ok.rm r hr).2
        unfold Wn
        omega
    have hend2 : ∀ z, Wn n z → (∃ e, En O rank pos n e ∧ Rt (Ed O n) z e) → nd n z ∈ st.ending ++ highE O rank st.many st.age := fun z w ⟨e, h2, h3⟩ => by
      unfold Wn at w
      exact List.mem_append_left _ ((R.en hd _).mpr ⟨by rw [nd1]; omega, e, h2, by rw [nd_nd]; exact h3⟩)
    have hend3 : ∀ e, EnHi O rank pos n e → nd n e ∈ st.ending ++ highE O rank st.many st.age := fun e h => by
      refine List.mem_append_right _ ?_
      rw [emany, R.ag hd]
      exact (mem_highE ok hn hp).mpr (by rw [nd_nd]; exact h)
    generalize eE : st.ending ++ highE O rank st.many st.age = ends0 at hend hend2 hend3
    have hens : ∀ a, a ∈ endsF (cloL pairs) ends0 ↔ Wn n (nd n a) ∧ ∃ e, (En O rank pos n e ∨ EnHi O rank pos n e) ∧ Rt (Fin O n) (nd n a) e := fun a => by
      rw [mem_ends]
      constructor
      · rintro (h | ⟨y, h1, h2⟩)
        · exact hend a h
        · obtain ⟨w, e, h3, h4⟩ := hend y h1
          obtain ⟨⟨w1, w2⟩, h5⟩ := (hclo _ _).mp h2
          exact ⟨w1, e, h3, h5.rt.trans h4⟩
      · rintro ⟨w, e, h1, h2⟩
        have key : ∃ y, y ∈ ends0 ∧ Rt (Fin O n) (nd n a) (nd n y) := by
          rcases h1 with h | h
          · obtain ⟨z, wz, h3, h4⟩ := G.from w h2
            exact ⟨nd n z, hend2 z wz ⟨e, h, h4⟩, by rw [nd_nd]; exact G.lns h3⟩
          · exact ⟨nd n e, hend3 e h, by rw [nd_nd]; exact h2⟩
        obtain ⟨y, hy, hw⟩ := key
        rcases hw.cases with e | h
        · have : y = a := by rw [← nd_nd n y, ← e, nd_nd]
          subst this
          exact .inl hy
        · exact .inr ⟨y, hy, (hclo _ _).mpr ⟨⟨w, (hend y hy).1⟩, h⟩⟩
    have hdn : ((reachedF (cloL pairs) st.started).any fun x => decide (x ∈ endsF (cloL pairs) ends0)) = true ↔ Snd O rank pr pos n := by
      simp only [List.any_eq_true, decide_eq_true_eq]
      constructor
      · rintro ⟨x, h1, h2⟩
        obtain ⟨_, p, h3, h4⟩ := (hrea x).mp h1
        obtain ⟨_, e, h5, h6⟩ := (hens x).mp h2
        exact ⟨p, e, h3, h5, h4.trans h6⟩
      · rintro ⟨p, e, h1, h2, h3⟩
        have mk : ∀ x, Wn n x → Rt (Fin O n) p x → Rt (Fin O n) x e → ∃ x, x ∈ reachedF (cloL pairs) st.started ∧ x ∈ endsF (cloL pairs) ends0 := fun x w h4 h5 =>
          ⟨nd n x, (hrea _).mpr (by rw [nd_nd]; exact ⟨w, p, h1, h4⟩), (hens _).mpr (by rw [nd_nd]; exact ⟨w, e, h2, h5⟩)⟩
        rcases G.cut h3 with h3' | ⟨x, z, h4, h5, h6, h7, h8⟩
        · rcases h2 with h | h
          · have := R.dn.mpr ⟨p, e, h1, h, h3'⟩
            rw [hd] at this
            cases this
          · have w := (hend _ (hend3 e h)).1
            rw [nd_nd] at w
            exact mk e w h3 (.refl _)
        · exact mk x h4 (G.up h5) ((G.lns h7).trans (G.up h8))
    unfold sndF setF
    dsimp only
    rw [hd, Bool.false_or, eP, eE]
    by_cases hdd : ((reachedF (cloL pairs) st.started).any fun x => decide (x ∈ endsF (cloL pairs) ends0)) = true
    · rw [if_pos hdd]
      exact ⟨fun _ => hdn.mp hdd, fun _ => rfl⟩
    · rw [if_neg hdd]
      exact ⟨fun h => (by cases h), fun h => absurd (hdn.mpr h) hdd⟩
end
end Ga
end
section
set_option maxRecDepth 100000
set_option maxHeartbeats 4000000
set_option autoImplicit false
namespace Ga
open Mi

def sh (d : Int) (x : T3) : T3 := (x.1 + d, x.2.1, x.2.2)
theorem sh1 {d : Int} {x : T3} : (sh d x).1 = x.1 + d := rfl
theorem sh_sh (d e : Int) (x : T3) : sh d (sh e x) = sh (e + d) x := by
  obtain ⟨x1, x2, x3⟩ := x
  simp only [sh, Prod.mk.injEq, and_true]
  omega
theorem sh_0 (x : T3) : sh 0 x = x := by
  obtain ⟨x1, x2, x3⟩ := x
  simp only [sh, Prod.mk.injEq, and_true]
  omega
theorem sh_nd (n d : Int) (a : T3) : sh d (nd n a) = nd (n + d) a := by
  obtain ⟨a1, a2, a3⟩ := a
  simp only [sh, nd, Prod.mk.injEq, and_true]
  omega
theorem Rt.flip {α : Type} {R : α → α → Prop} {x y : α} (h : Rt (fun a b => R b a) x y) : Rt R y x := by
  induction h with
  | refl => exact .refl _
  | tail _ h ih => exact (Rt.one h).trans ih
/-- a relation among the rows from lo on -/
def Abv (E : T3 → T3 → Prop) (lo : Int) (x y : T3) : Prop := E x y ∧ lo ≤ x.1 ∧ lo ≤ y.1
theorem Abv.e {E : T3 → T3 → Prop} {lo : Int} {x y : T3} (h : Rt (Abv E lo) x y) : Rt E x y := h.imp fun _ _ h => h.1
theorem Abv.mono {E : T3 → T3 → Prop} {lo lo' : Int} (hl : lo' ≤ lo) {x y : T3} (h : Rt (Abv E lo) x y) : Rt (Abv E lo') x y := h.imp fun _ _ h => ⟨h.1, by have := h.2.1; omega, by have := h.2.2; omega⟩
/-- what a crossing needs -/
structure Crs (E F : T3 → T3 → Prop) (lo : Int) : Prop where
  st : ∀ x y, E x y → lo ≤ x.1 → x.1 - 2 ≤ y.1
  sf : ∀ x y, E x y → lo ≤ x.1 → lo ≤ y.1 → ∀ d : Int, 0 ≤ d → d ≤ 12 → F (sh d x) (sh d y)
  cl : ∀ x y, E x y → (y.2.1 = 0 ∨ y.2.1 = 1) ∧ y.2.2 = 0
section
variable {E F : T3 → T3 → Prop} {lo : Int} (C : Crs E F lo)
include C
theorem Crs.pass {t : Int} (ht : lo ≤ t) {w v : T3} (h : Rt E w v) (hw : t < w.1) (hv : v.1 ≤ t) : ∃ f, f.1 ≤ t ∧ t - 1 ≤ f.1 ∧ Rt (Abv E (t - 1)) w f ∧ Rt E f v ∧ ((f.2.1 = 0 ∨ f.2.1 = 1) ∧ f.2.2 = 0) := by
  have key : (t < v.1 ∧ Rt (Abv E (t - 1)) w v) ∨ ∃ f, f.1 ≤ t ∧ t - 1 ≤ f.1 ∧ Rt (Abv E (t - 1)) w f ∧ Rt E f v ∧ ((f.2.1 = 0 ∨ f.2.1 = 1) ∧ f.2.2 = 0) := by
    clear hv
    induction h with
    | refl => exact .inl ⟨hw, .refl _⟩
    | @tail y z _ h ih =>
      rcases ih with ⟨h1, h2⟩ | ⟨f, h1, h2, h3, h4, h5⟩
      · have s := C.st _ _ h (by omega)
        have up : Rt (Abv E (t - 1)) w z := .tail h2 ⟨h, by omega, by omega⟩
        by_cases hz : t < z.1
        · exact .inl ⟨hz, up⟩
        · exact .inr ⟨z, by omega, by omega, up, .refl _, C.cl _ _ h⟩
      · exact .inr ⟨f, h1, h2, h3, .tail h4 h, h5⟩
  rcases key with ⟨h1, _⟩ | h
  · omega
  · exact h
/-- the next level's first passage -/
theorem Crs.next {t : Int} (ht : lo ≤ t - 1) {f v : T3} (h1 : f.1 ≤ t) (h2 : t - 1 ≤ f.1) (h3 : Rt E f v) (h4 : (f.2.1 = 0 ∨ f.2.1 = 1) ∧ f.2.2 = 0) (hv : v.1 ≤ t - 1) :
    ∃ g, g.1 ≤ t - 1 ∧ t - 1 - 1 ≤ g.1 ∧ Rt (Abv E (t - 1 - 1)) f g ∧ Rt E g v ∧ ((g.2.1 = 0 ∨ g.2.1 = 1) ∧ g.2.2 = 0) := by
  by_cases hf : f.1 ≤ t - 1
  · exact ⟨f, hf, by omega, .refl _, h3, h4⟩
  · exact C.pass ht h3 (by omega) hv
theorem Crs.pump {x : T3} {l : Int} (hl : l = 1 ∨ l = 2 ∨ l = 3 ∨ l = 4) (h : Rt (Abv E lo) (sh l x) x) : Rt F (sh 12 x) x := by
  have one : ∀ d : Int, 0 ≤ d → d ≤ 12 → Rt F (sh (l + d) x) (sh d x) := fun d h0 h1 => by
    have := Rt.map (S := F) (sh d) (fun a b (h : Abv E lo a b) => C.sf a b h.1 h.2.1 h.2.2 d h0 h1) h
    rwa [sh_sh] at this
  have many : ∀ k : Nat, l * k ≤ 12 → Rt F (sh (l * k) x) x := by
    intro k
    induction k with
    | zero =>
      intro _
      have e : l * ((0 : Nat) : Int) = 0 := by simp
      rw [e, sh_0]
      exact .refl _
    | succ k ih =>
      intro hk
      have e : l * ((k + 1 : Nat) : Int) = l + l * (k : Int) := by rw [Int.natCast_add, Int.mul_add]; omega
      rw [e] at hk ⊢
      have h0 : 0 ≤ l * (k : Int) := Int.mul_nonneg (by omega) (by omega)
      exact (one _ h0 (by omega)).trans (ih (by omega))
  rcases hl with rfl | rfl | rfl | rfl
  · exact many 12 (by decide)
  · exact many 6 (by decide)
  · exact many 4 (by decide)
  · exact many 3 (by decide)
theorem Crs.down {w v : T3} (h : Rt E w v) (hw : lo + 6 ≤ w.1) (hv : v.1 < lo) : ∃ x, Rt (Abv E lo) w x ∧ Rt E x v ∧ Rt F (sh 12 x) x := by
  obtain ⟨f0, a1, a2, a3, a4, a5⟩ := C.pass (t := lo + 5) (by omega) h (by omega) (by omega)
  obtain ⟨f1, b1, b2, b3, b4, b5⟩ := C.next (by omega) a1 a2 a4 a5 (by omega)
  obtain ⟨f2, c1, c2, c3, c4, c5⟩ := C.next (by omega) b1 b2 b4 b5 (by omega)
  obtain ⟨f3, d1, d2, d3, d4, d5⟩ := C.next (by omega) c1 c2 c4 c5 (by omega)
  obtain ⟨f4, e1, e2, e3, e4, e5⟩ := C.next (by omega) d1 d2 d4 d5 (by omega)
  have r0 : Rt (Abv E lo) w f0 := Abv.mono (by omega) a3
  have r1 : Rt (Abv E lo) f0 f1 := Abv.mono (by omega) b3
  have r2 : Rt (Abv E lo) f1 f2 := Abv.mono (by omega) c3
  have r3 : Rt (Abv E lo) f2 f3 := Abv.mono (by omega) d3
  have r4 : Rt (Abv E lo) f3 f4 := Abv.mono (by omega) e3
  have fin : ∀ (x y : T3) (l : Int), (l = 1 ∨ l = 2 ∨ l = 3 ∨ l = 4) → x.1 = y.1 + l → x.2.1 = y.2.1 → x.2.2 = 0 → y.2.2 = 0 → Rt (Abv E lo) w x → Rt (Abv E lo) x y → Rt E y v → ∃ x, Rt (Abv E lo) w x ∧ Rt E x v ∧ Rt F (sh 12 x) x := fun x y l hl h1 h2 h3 h4 h5 h6 h7 => by
    have e : x = sh l y := t3_ext h1 h2 (h3.trans h4.symm)
    subst e
    exact ⟨y, h5.trans h6, h7, C.pump hl h6⟩
  have s1 := r0.trans r1
  have s2 := s1.trans r2
  have s3 := s2.trans r3
  by_cases k01 : f0.1 = f1.1 + 1 ∧ f0.2.1 = f1.2.1
  · exact fin f0 f1 1 (by omega) k01.1 k01.2 a5.2 b5.2 r0 r1 b4
  by_cases k02 : f0.1 = f2.1 + 2 ∧ f0.2.1 = f2.2.1
  · exact fin f0 f2 2 (by omega) k02.1 k02.2 a5.2 c5.2 r0 (r1.trans r2) c4
  by_cases k03 : f0.1 = f3.1 + 3 ∧ f0.2.1 = f3.2.1
  · exact fin f0 f3 3 (by omega) k03.1 k03.2 a5.2 d5.2 r0 ((r1.trans r2).trans r3) d4
  by_cases k04 : f0.1 = f4.1 + 4 ∧ f0.2.1 = f4.2.1
  · exact fin f0 f4 4 (by omega) k04.1 k04.2 a5.2 e5.2 r0 (((r1.trans r2).trans r3).trans r4) e4
  by_cases k12 : f1.1 = f2.1 + 1 ∧ f1.2.1 = f2.2.1
  · exact fin f1 f2 1 (by omega) k12.1 k12.2 b5.2 c5.2 s1 r2 c4
  by_cases k13 : f1.1 = f3.1 + 2 ∧ f1.2.1 = f3.2.1
  · exact fin f1 f3 2 (by omega) k13.1 k13.2 b5.2 d5.2 s1 (r2.trans r3) d4
  by_cases k14 : f1.1 = f4.1 + 3 ∧ f1.2.1 = f4.2.1
  · exact fin f1 f4 3 (by omega) k14.1 k14.2 b5.2 e5.2 s1 ((r2.trans r3).trans r4) e4
  by_cases k23 : f2.1 = f3.1 + 1 ∧ f2.2.1 = f3.2.1
  · exact fin f2 f3 1 (by omega) k23.1 k23.2 c5.2 d5.2 s2 r3 d4
  by_cases k24 : f2.1 = f4.1 + 2 ∧ f2.2.1 = f4.2.1
  · exact fin f2 f4 2 (by omega) k24.1 k24.2 c5.2 e5.2 s2 (r3.trans r4) e4
  by_cases k34 : f3.1 = f4.1 + 1 ∧ f3.2.1 = f4.2.1
  · exact fin f3 f4 1 (by omega) k34.1 k34.2 d5.2 e5.2 s3 r4 e4
  exfalso
  have a5 := a5.1; have b5 := b5.1; have c5 := c5.1; have d5 := d5.1; have e5 := e5.1
  generalize f0.1 = x0 at *
  generalize f1.1 = x1 at *
  generalize f2.1 = x2 at *
  generalize f3.1 = x3 at *
  generalize f4.1 = x4 at *
  generalize f0.2.1 = y0 at *
  generalize f1.2.1 = y1 at *
  generalize f2.2.1 = y2 at *
  generalize f3.2.1 = y3 at *
  generalize f4.2.1 = y4 at *
  clear C r0 r1 r2 r3 r4 s1 s2 s3 a3 a4 b3 b4 c3 c4 d3 d4 e3 e4 fin h
  rcases a5 with rfl | rfl <;> rcases b5 with rfl | rfl <;> rcases c5 with rfl | rfl <;> rcases d5 with rfl | rfl <;> rcases e5 with rfl | rfl <;> simp only [and_true, and_false, not_false_eq_true, Int.reduceEq, eq_self] at k01 k02 k03 k04 k12 k13 k14 k23 k24 k34 <;> omega
end
end Ga
end
section
set_option maxRecDepth 100000
set_option maxHeartbeats 4000000
set_option autoImplicit false
namespace Ga
open Mi

structure Crx (E F : T3 → T3 → Prop) (lo : Int) : Prop where
  dn : ∀ w v, Rt E w v → lo + 6 ≤ w.1 → v.1 < lo → ∃ x, Rt (Abv E lo) w x ∧ Rt E x v ∧ Rt F (sh 12 x) x
  up : ∀ v w, Rt E v w → v.1 < lo → lo + 6 ≤ w.1 → ∃ x, Rt E v x ∧ Rt (Abv E lo) x w ∧ Rt F x (sh 12 x)
  sf : ∀ x y, E x y → lo ≤ x.1 → lo ≤ y.1 → F (sh 12 x) (sh 12 y)
  mo : ∀ x y, E x y → F x y
theorem ed_lin {O : Og} (ok : O.Ok) {n : Int} {x y : T3} (h : Ed O n x y) (h2 : 3 ≤ x.1 ∨ 3 ≤ y.1) : ∃ c ∈ O.cs, x.2.1 = c.1 ∧ y.2.1 = c.2.1 ∧ x.2.2 = 0 ∧ y.2.2 = O.l2 ∧ (0 ≤ x.1 ∧ x.1 < n) ∧ (0 ≤ y.1 ∧ y.1 < n) ∧ y.1 = x.1 + c.2.2 ∧ -2 ≤ c.2.2 ∧ c.2.2 ≤ 2 := by
  obtain ⟨c, h1, h3, h4, h5, h6, h7, h8, h9⟩ := h
  have hc := (ok.cm c h1).2.2
  have ho := ok.oc
  exact ⟨c, h1, h3, h4, h5, h6, h7, h8, by omega, hc⟩
theorem ed_sh {O : Og} (ok : O.Ok) {n : Int} {x y : T3} (h : Ed O n x y) (h2 : 3 ≤ x.1 ∨ 3 ≤ y.1) {d m : Int} (hd : 0 ≤ d) (hm : n + d ≤ m) : Ed O m (sh d x) (sh d y) := by
  obtain ⟨c, h1, h3, h4, h5, h6, h7, h8, h9, _⟩ := ed_lin ok h h2
  exact ⟨c, h1, h3, h4, h5, h6, by rw [sh1]; omega, by rw [sh1]; omega, .inl (by rw [sh1, sh1]; omega)⟩
theorem crx {O : Og} (ok : O.Ok) {n lo : Int} (hl : 3 ≤ lo) : Crx (Ed O n) (Ed O (n + 12)) lo := by
  have sf : ∀ x y, Ed O n x y → lo ≤ x.1 → lo ≤ y.1 → ∀ d : Int, 0 ≤ d → d ≤ 12 → Ed O (n + 12) (sh d x) (sh d y) := fun x y h h1 h2 d h3 h4 => ed_sh ok h (.inl (by omega)) h3 (by omega)
  cases ha : O.all with
  | true =>
    have l0 : O.l2 = 0 := by unfold Og.l2; rw [ha]; rfl
    have C1 : Crs (Ed O n) (Ed O (n + 12)) lo := ⟨fun x y h h1 => by
      obtain ⟨c, _, _, _, _, _, _, _, h9, h10⟩ := ed_lin ok h (.inl (by omega))
      omega, sf, fun x y h => by
      obtain ⟨c, h1, h3, h4, h5, h6, _⟩ := h
      exact ⟨by rw [h4]; exact (ok.cm c h1).2.1, by rw [h6, l0]⟩⟩
    have C2 : Crs (fun x y => Ed O n y x) (fun x y => Ed O (n + 12) y x) lo := ⟨fun x y h h1 => by
      obtain ⟨c, _, _, _, _, _, _, _, h9, h10⟩ := ed_lin ok h (.inr (by omega))
      omega, fun x y h h1 h2 d h3 h4 => sf y x h h2 h1 d h3 h4, fun x y h => by
      obtain ⟨c, h1, h3, h4, h5, h6, _⟩ := h
      exact ⟨by rw [h3]; exact (ok.cm c h1).1, h5⟩⟩
    refine ⟨fun w v h h1 h2 => C1.down h h1 h2, fun v w h h1 h2 => ?_, fun x y h h1 h2 => sf x y h h1 h2 12 (by omega) (by omega), fun x y h => ed_up (by omega) h⟩
    obtain ⟨x, a, b, c⟩ := C2.down (Rt.flip (R := fun a b => Ed O n b a) h) h2 h1
    refine ⟨x, b.flip, ?_, c.flip⟩
    exact (a.imp (S := fun a b => Abv (Ed O n) lo b a) fun x y h => ⟨h.1, h.2.2, h.2.1⟩).flip
  | false =>
    have l1 : O.l2 = 1 := by unfold Og.l2; rw [ha]; rfl
    have short : ∀ x y, Rt (Ed O n) x y → x = y ∨ Ed O n x y := fun x y h => by
      cases h with
      | refl => exact .inl rfl
      | tail h h2 =>
        cases h with
        | refl => exact .inr h2
        | tail _ h3 =>
          obtain ⟨c, _, _, _, _, h6, _⟩ := h3
          obtain ⟨c', _, _, _, h5, _⟩ := h2
          rw [h5, l1] at h6
          exact absurd h6 (by decide)
    refine ⟨fun w v h h1 h2 => ?_, fun v w h h1 h2 => ?_, fun x y h h1 h2 => sf x y h h1 h2 12 (by omega) (by omega), fun x y h => ed_up (by omega) h⟩
    · exfalso
      rcases short _ _ h with rfl | h
      · omega
      · obtain ⟨c, _, _, _, _, _, _, _, h9, h10⟩ := ed_lin ok h (.inl (by omega))
        omega
    · exfalso
      rcases short _ _ h with rfl | h
      · omega
      · obtain ⟨c, _, _, _, _, _, _, _, h9, h10⟩ := ed_lin ok h (.inr (by omega))
        omega
section
variable {E F : T3 → T3 → Prop} {lo : Int} (C : Crx E F lo)
include C
/-- where a walk of E from x, seen from z in F, is -/
def At (E F : T3 → T3 → Prop) (lo : Int) (z y : T3) : Prop := (∃ h : T3, lo + 6 ≤ h.1 ∧ Rt F z (sh 12 h) ∧ Rt (Abv E lo) h y ∧ lo ≤ y.1) ∨ ∃ l : T3, l.1 < lo ∧ Rt F z l ∧ Rt E l y ∧ y.1 < lo + 6
theorem Crx.sfs {x y : T3} (h : Rt (Abv E lo) x y) : Rt F (sh 12 x) (sh 12 y) := h.map (sh 12) fun a b h => C.sf a b h.1 h.2.1 h.2.2
theorem Crx.at_ {x y z : T3} (h : Rt E x y) (h0 : At E F lo z x) : At E F lo z y := by
  induction h with
  | refl => exact h0
  | @tail y w _ h ih =>
    rcases ih with ⟨g, h1, h2, h3, h4⟩ | ⟨l, h1, h2, h3, h4⟩
    · by_cases hw : lo ≤ w.1
      · exact .inl ⟨g, h1, h2, .tail h3 ⟨h, h4, hw⟩, hw⟩
      · obtain ⟨x0, a, b, c⟩ := C.dn g w (.tail (Abv.e h3) h) h1 (by omega)
        exact .inr ⟨w, by omega, ((h2.trans (C.sfs a)).trans c).trans (b.imp C.mo), .refl _, by omega⟩
    · by_cases hw : w.1 < lo + 6
      · exact .inr ⟨l, h1, h2, .tail h3 h, hw⟩
      · obtain ⟨x0, a, b, c⟩ := C.up l w (.tail h3 h) h1 (by omega)
        exact .inl ⟨w, by omega, ((h2.trans (a.imp C.mo)).trans c).trans (C.sfs b), .refl _, by omega⟩
theorem At.hi {z y : T3} (h : At E F lo z y) (hy : lo + 6 ≤ y.1) : Rt F z (sh 12 y) := by
  rcases h with ⟨g, h1, h2, h3, h4⟩ | ⟨l, h1, h2, h3, h4⟩
  · exact h2.trans (C.sfs h3)
  · omega
theorem At.low {z y : T3} (h : At E F lo z y) (hy : y.1 < lo) : Rt F z y := by
  rcases h with ⟨g, h1, h2, h3, h4⟩ | ⟨l, h1, h2, h3, h4⟩
  · omega
  · exact h2.trans (h3.imp C.mo)
theorem Crx.hh {x y : T3} (h : Rt E x y) (hx : lo + 6 ≤ x.1) (hy : lo + 6 ≤ y.1) : Rt F (sh 12 x) (sh 12 y) := At.hi C (C.at_ h (.inl ⟨x, hx, .refl _, .refl _, by omega⟩)) hy
theorem Crx.hl {x y : T3} (h : Rt E x y) (hx : lo + 6 ≤ x.1) (hy : y.1 < lo) : Rt F (sh 12 x) y := At.low C (C.at_ h (.inl ⟨x, hx, .refl _, .refl _, by omega⟩)) hy
theorem Crx.lh {x y : T3} (h : Rt E x y) (hx : x.1 < lo) (hy : lo + 6 ≤ y.1) : Rt F x (sh 12 y) := At.hi C (C.at_ h (.inr ⟨x, hx, .refl _, .refl _, by omega⟩)) hy
end
section
variable {O : Og} (ok : O.Ok) {n lo : Int} (hl : 3 ≤ lo)
include ok hl
theorem tc_sh {x y : T3} (h : Tc (Ed O n) x y) (hx : lo + 8 ≤ x.1) (hy : lo + 8 ≤ y.1) : Tc (Ed O (n + 12)) (sh 12 x) (sh 12 y) := by
  obtain ⟨z, h1, h2⟩ := h.head
  obtain ⟨c, _, _, _, _, _, _, _, h9, h10⟩ := ed_lin ok h1 (.inl (by omega))
  have e := (crx ok (n := n) hl).sf x z h1 (by omega) (by omega)
  rcases ((crx ok (n := n) hl).hh h2 (by omega) (by omega)).cases with q | q
  · rw [← q]; exact .one e
  · exact (Rt.one e).tc q
/-- where the pressed keys stand: below lo, or all from lo on alike -/
structure Low (pr : Int → Int → Prop) (pos : Option Int) (lo : Int) : Prop where
  pr : ∀ k m, (m = 0 ∨ m = 1) → lo ≤ k → (pr k m ↔ pr (k + 12) m)
  pos : ∀ p, pos = some p → p + 2 < lo
variable {rank : Int} {pr : Int → Int → Prop} {pos : Option Int} (L : Low pr pos lo) (hn : lo + 11 ≤ n)
include L hn
theorem en_low {e : T3} (h : En O rank pos n e) : e.1 < lo := by
  obtain ⟨r, h1, h2, h3, h4, h5, p, h6, h7, h8⟩ := h
  have hs := (ok.rm r h1).2
  have hp := L.pos p h6
  have ho := ok.oc
  omega
/-- what is reached at twelve keys more -/
theorem started_sh {x : T3} (hx : lo + 8 ≤ x.1) (h : ∃ p, Ps pr n p ∧ Rt (Ed O n) p x) : ∃ p, Ps pr (n + 12) p ∧ Rt (Ed O (n + 12)) p (sh 12 x) := by
  obtain ⟨p, h1, h2⟩ := h
  have C := crx ok (n := n) hl
  -- either all the walk stays above lo, or it is low somewhere
  have key : (lo ≤ x.1 ∧ lo ≤ p.1 ∧ Rt (Abv (Ed O n) lo) p x) ∨ ∃ v, v.1 < lo ∧ Rt (Ed O n) p v ∧ Rt (Ed O n) v x := by
    clear hx
    induction h2 with
    | refl =>
      by_cases hp : lo ≤ p.1
      · exact .inl ⟨hp, hp, .refl _⟩
      · exact .inr ⟨p, by omega, .refl _, .refl _⟩
    | @tail y z h3 h4 ih =>
      rcases ih with ⟨h5, h6, h7⟩ | ⟨v, h5, h6, h7⟩
      · by_cases hz : lo ≤ z.1
        · exact .inl ⟨hz, h6, .tail h7 ⟨h4, h5, hz⟩⟩
        · exact .inr ⟨z, by omega, .tail h3 h4, .refl _⟩
      · exact .inr ⟨v, h5, h6, .tail h7 h4⟩
  rcases key with ⟨_, h3, h4⟩ | ⟨v, h3, h4, h5⟩
  · refine ⟨sh 12 p, ⟨(L.pr _ _ h1.2.2.1 h3).mp h1.1, h1.2.1, h1.2.2.1, ?_, ?_⟩, C.sfs h4⟩
    · rw [sh1]; omega
    · rw [sh1]; have := h1.2.2.2.2; omega
  · exact ⟨p, ps_up (by omega) h1, (h4.imp C.mo).trans (C.lh h5 h3 (by omega))⟩
theorem rep_sh {st st' : St} (R : Rep O rank pr pos n st) (R' : Rep O rank pr pos (n + 12) st') : (st.done = true → st'.done = true) ∧ (st'.done = false → (∀ p ∈ st.links, p ∈ st'.links) ∧ (∀ x ∈ st.started, x ∈ st'.started) ∧ ∀ x ∈ st.ending, x ∈ st'.ending) := by
  have C := crx ok (n := n) hl
  have d1 : st.done = true → st'.done = true := fun h => by
    obtain ⟨p, e, h1, h2, h3⟩ := R.dn.mp h
    exact R'.dn.mpr ⟨p, e, ps_up (by omega) h1, en_up (by omega) h2, h3.imp C.mo⟩
  refine ⟨d1, fun h' => ?_⟩
  have h : st.done = false := by cases e : st.done with
    | true => rw [d1 e] at h'; cases h'
    | false => rfl
  have hi : ∀ a : T3, a.1 < 3 → lo + 8 ≤ (nd n a).1 := fun a h => by rw [nd1]; omega
  refine ⟨fun p hp => ?_, fun x hx => ?_, fun x hx => ?_⟩
  · obtain ⟨h1, h2⟩ := (R.lk h p.1 p.2).mp hp
    refine (R'.lk h' p.1 p.2).mpr ⟨h1, ?_⟩
    rw [← sh_nd, ← sh_nd]
    exact tc_sh ok hl h2 (hi _ h1.1) (hi _ h1.2)
  · obtain ⟨h1, h2⟩ := (R.sd h x).mp hx
    refine (R'.sd h' x).mpr ⟨h1, ?_⟩
    rw [← sh_nd]
    exact started_sh ok hl L hn (hi _ h1) h2
  · obtain ⟨h1, e, h2, h3⟩ := (R.en h x).mp hx
    refine (R'.en h' x).mpr ⟨h1, e, en_up (by omega) h2, ?_⟩
    rw [← sh_nd]
    exact C.hl h3 (by have := hi x h1; omega) (en_low ok hl L hn h2)
end
end Ga
end
section
set_option maxRecDepth 100000
set_option maxHeartbeats 4000000
set_option autoImplicit false
namespace Ga
open Mi

def spots : List T3 := (upTo 3).flatMap fun b => (upTo 2).flatMap fun m => (upTo 2).map fun l => (b, m, l)
theorem spots_len : spots.length = 12 := by decide
theorem mem_spots {x : T3} (h1 : 0 ≤ x.1) (h2 : x.1 < 3) (h3 : x.2.1 = 0 ∨ x.2.1 = 1) (h4 : 0 ≤ x.2.2 ∧ x.2.2 ≤ 1) : x ∈ spots := by
  unfold spots
  simp only [List.mem_flatMap, List.mem_map, mem_upTo]
  exact ⟨x.1, ⟨h1, h2⟩, x.2.1, by omega, x.2.2, by omega, rfl⟩
def spots2 : List P6 := spots.flatMap fun a => spots.map fun b => (a, b)
theorem spots2_len : spots2.length = 144 := by decide
theorem mem_spots2 {p : P6} (h1 : p.1 ∈ spots) (h2 : p.2 ∈ spots) : p ∈ spots2 := List.mem_flatMap.mpr ⟨p.1, h1, List.mem_map.mpr ⟨p.2, h2, rfl⟩⟩
theorem ed_cl {O : Og} (ok : O.Ok) {n : Int} {x y : T3} (h : Ed O n x y) : ((x.2.1 = 0 ∨ x.2.1 = 1) ∧ (0 ≤ x.2.2 ∧ x.2.2 ≤ 1)) ∧ ((y.2.1 = 0 ∨ y.2.1 = 1) ∧ (0 ≤ y.2.2 ∧ y.2.2 ≤ 1)) := by
  obtain ⟨c, h1, h3, h4, h5, h6, _⟩ := h
  have hc := ok.cm c h1
  have hl := O.l2_or
  rw [h3, h4]
  exact ⟨⟨hc.1, by omega⟩, hc.2.1, by omega⟩
theorem mem_of_len {α : Type} {l m : List α} (hn : l.Nodup) (hs : ∀ x ∈ l, x ∈ m) (hl : m.length ≤ l.length) : ∀ x ∈ m, x ∈ l := fun x hx => by
  by_cases h : x ∈ l
  · exact h
  · have := len_in (l := x :: l) (m := m) (List.nodup_cons.mpr ⟨h, hn⟩) fun y hy => by
      rcases List.mem_cons.mp hy with rfl | hy
      · exact hx
      · exact hs y hy
    rw [List.length_cons] at this
    omega
theorem sorted_eq {α : Type} {lt : α → α → Bool} (S : SrtO.Swo lt) (E : ∀ x y, SrtO.eqv lt x y = true → y = x) {l m : List α} (h1 : SrtO.Srtd lt l ∧ l.Nodup) (h2 : SrtO.Srtd lt m ∧ m.Nodup) (h : ∀ x, x ∈ l ↔ x ∈ m) : l = m :=
  SrtO.stb_uniq S h1.1 h2.1 (stb_perm E ((List.perm_ext_iff_of_nodup h1.2 h2.2).mpr h))
section
variable {O : Og} (ok : O.Ok) {rank : Int} {pr : Int → Int → Prop} {pos : Option Int}
include ok
/-- the state's spots stand in the window -/
theorem rep_rng {n : Int} {st : St} (R : Rep O rank pr pos n st) : (∀ p ∈ st.links, p.1 ∈ spots ∧ p.2 ∈ spots) ∧ (∀ x ∈ st.started, x ∈ spots) ∧ ∀ x ∈ st.ending, x ∈ spots := by
  by_cases hd : st.done = true
  · rw [R.dnd hd]
    exact ⟨fun p hp => (by cases hp), fun p hp => (by cases hp), fun p hp => (by cases hp)⟩
  · have hd : st.done = false := by cases h : st.done with
      | true => exact absurd h hd
      | false => rfl
    have hl := O.l2_or
    refine ⟨fun p hp => ?_, fun x hx => ?_, fun x hx => ?_⟩
    · obtain ⟨h1, h2⟩ := (R.lk hd p.1 p.2).mp hp
      have r := tc_rng h2
      obtain ⟨z, h3, _⟩ := h2.head
      obtain ⟨w, _, h4⟩ := h2
      simp only [nd1] at r
      exact ⟨mem_spots (by omega) h1.1 (ed_cl ok h3).1.1 (ed_cl ok h3).1.2, mem_spots (by omega) h1.2 (ed_cl ok h4).2.1 (ed_cl ok h4).2.2⟩
    · obtain ⟨h1, p, h2, h3⟩ := (R.sd hd x).mp hx
      rcases h3.cases with e | ⟨w, _, h4⟩
      · have r := h2.2.2.2
        have m := h2.2.2.1
        have l := h2.2.1
        rw [e] at r m l
        rw [nd1] at r
        exact mem_spots (by omega) h1 m ⟨by rw [show x.2.2 = 0 from l]; omega, by rw [show x.2.2 = 0 from l]; omega⟩
      · have r := (ed_rng h4).2
        rw [nd1] at r
        exact mem_spots (by omega) h1 (ed_cl ok h4).2.1 (ed_cl ok h4).2.2
    · obtain ⟨h1, e, h2, h3⟩ := (R.en hd x).mp hx
      rcases h3.head with q | ⟨w, h4, _⟩
      · obtain ⟨r, hr, h5, h6, h7, h8, _⟩ := h2
        rw [← q] at h6 h7 h8
        rw [nd1] at h8
        exact mem_spots (by omega) h1 (by rw [show x.2.1 = r.1 from h6]; exact (ok.rm r hr).1) ⟨h7.1, by have := h7.2; show x.2.2 ≤ 1; have e : (nd n x).2.2 = x.2.2 := rfl; omega⟩
      · have r := (ed_rng h4).1
        rw [nd1] at r
        exact mem_spots (by omega) h1 (ed_cl ok h4).1.1 (ed_cl ok h4).1.2
def meas (st : St) : Nat := if st.done = true then 200 else st.links.length + st.started.length + st.ending.length
theorem meas_le {n : Int} {st : St} (R : Rep O rank pr pos n st) : meas st ≤ 200 := by
  obtain ⟨h1, h2, h3⟩ := rep_rng ok R
  have l1 := len_in R.cn.l.2 (m := spots2) fun p hp => mem_spots2 (h1 p hp).1 (h1 p hp).2
  have l2 := len_in R.cn.s.2 h2
  have l3 := len_in R.cn.e.2 h3
  rw [spots2_len] at l1
  rw [spots_len] at l2 l3
  unfold meas
  split <;> omega
theorem meas_up {n lo : Int} (hl : 3 ≤ lo) (L : Low pr pos lo) (hn : lo + 11 ≤ n) {st st' : St} (R : Rep O rank pr pos n st) (R' : Rep O rank pr pos (n + 12) st') : meas st ≤ meas st' ∧ (meas st = meas st' → st = st') := by
  obtain ⟨h1, h2⟩ := rep_sh ok hl L hn R R'
  by_cases hd : st.done = true
  · have hd' := h1 hd
    have e : st = st' := by rw [R.dnd hd, R'.dnd hd']
    subst e
    exact ⟨Nat.le_refl _, fun _ => rfl⟩
  · have hd : st.done = false := by cases h : st.done with
      | true => exact absurd h hd
      | false => rfl
    by_cases hd' : st'.done = true
    · have lt : meas st < 200 := by
        obtain ⟨r1, r2, r3⟩ := rep_rng ok R
        have l1 := len_in R.cn.l.2 (m := spots2) fun p hp => mem_spots2 (r1 p hp).1 (r1 p hp).2
        have l2 := len_in R.cn.s.2 r2
        have l3 := len_in R.cn.e.2 r3
        rw [spots2_len] at l1
        rw [spots_len] at l2 l3
        unfold meas
        rw [hd, if_neg Bool.false_ne_true]
        omega
      have e : meas st' = 200 := by unfold meas; rw [hd', if_pos rfl]
      exact ⟨by omega, fun h => by omega⟩
    · have hd' : st'.done = false := by cases h : st'.done with
        | true => exact absurd h hd'
        | false => rfl
      obtain ⟨s1, s2, s3⟩ := h2 hd'
      have l1 := len_in R.cn.l.2 s1
      have l2 := len_in R.cn.s.2 s2
      have l3 := len_in R.cn.e.2 s3
      have e1 : meas st = st.links.length + st.started.length + st.ending.length := by unfold meas; rw [hd, if_neg Bool.false_ne_true]
      have e2 : meas st' = st'.links.length + st'.started.length + st'.ending.length := by unfold meas; rw [hd', if_neg Bool.false_ne_true]
      refine ⟨by omega, fun h => ?_⟩
      have q1 := sorted_eq srt_p6.swo srt_p6.eq R.cn.l R'.cn.l fun x => ⟨s1 x, mem_of_len R.cn.l.2 s1 (by omega) x⟩
      have q2 := sorted_eq swo_3 eq_3 R.cn.s R'.cn.s fun x => ⟨s2 x, mem_of_len R.cn.s.2 s2 (by omega) x⟩
      have q3 := sorted_eq swo_3 eq_3 R.cn.e R'.cn.e fun x => ⟨s3 x, mem_of_len R.cn.e.2 s3 (by omega) x⟩
      have q4 : st.many = st'.many := by
        rw [R.many hd, R'.many hd']
        have a : ¬ (3 : Int) < n → False := fun h => by omega
        unfold mnI
        repeat' split
        all_goals omega
      have q5 : st.age = st'.age := by
        rw [R.ag hd, R'.ag hd']
        unfold ageAt
        cases hp : pos with
        | none => rfl
        | some p =>
          have := L.pos p hp
          dsimp only
          rw [if_pos (by omega), if_pos (by omega)]
          congr 1
          unfold mnI
          repeat' split
          all_goals omega
      have q6 : st.done = st'.done := hd.trans hd'.symm
      clear h1 h2 R R' e1 e2 s1 s2 s3 l1 l2 l3 h hd hd'
      cases st
      cases st'
      simp only at q1 q2 q3 q4 q5 q6
      subst q1 q2 q3 q4 q5 q6
      rfl
end
def iter {α : Type} (g : α → α) (x : α) : Nat → α
  | 0 => x
  | i + 1 => g (iter g x i)
theorem iter_add {α : Type} (g : α → α) (x : α) (i : Nat) : ∀ j, iter g x (i + j) = iter g (iter g x i) j
  | 0 => rfl
  | j + 1 => by show g (iter g x (i + j)) = _; rw [iter_add g x i j]; rfl
theorem iter_round {α : Type} {g : α → α} {x : α} {i p : Nat} (h : iter g x (i + p) = iter g x i) : ∀ k, i ≤ k → iter g x (k + p) = iter g x k := fun k hk => by
  obtain ⟨d, rfl⟩ : ∃ d, k = i + d := ⟨k - i, by omega⟩
  have e : i + d + p = (i + p) + d := by omega
  rw [e, iter_add, h, ← iter_add]
section
variable {O : Og} (ok : O.Ok) {rank : Int} {pr : Int → Int → Prop} {pos : Option Int} {n : Int} (hn : 0 ≤ n) (hp : posOk pos) {mans : List Int}
include ok hn hp
/-- a way of like keys, from n keys on -/
theorem rep_iter {st : St} (R : Rep O rank pr pos n st) (hm : ∀ k m, n ≤ k → (m ∈ mans ↔ pr k m ∧ (m = 0 ∨ m = 1))) (hf : ∀ p, pos = some p → p < n) : ∀ i : Nat, Rep O rank pr pos (n + i) (iter (fun s => stepF O rank s mans false) st i)
  | 0 => by
    have e : n + ((0 : Nat) : Int) = n := by simp
    rw [e]
    exact R
  | i + 1 => by
    have := rep_step ok (by omega) hp (rep_iter R hm hf i) (mans := mans) (f := false) (fun m => hm _ m (by omega)) ⟨fun h => (by cases h), fun h => by have := hf _ h; omega⟩
    have e : n + ((i + 1 : Nat) : Int) = n + (i : Int) + 1 := by omega
    rw [e]
    exact this
theorem way_round {st : St} (R : Rep O rank pr pos n st) (hm : ∀ k m, n ≤ k → (m ∈ mans ↔ pr k m ∧ (m = 0 ∨ m = 1))) (hf : ∀ p, pos = some p → p < n) : ∃ N, N ≤ 2430 ∧ iter (fun s => stepF O rank s mans false) st (N + 12) = iter (fun s => stepF O rank s mans false) st N := by
  have RI := rep_iter ok hn hp R hm hf
  generalize hit : iter (fun s => stepF O rank s mans false) st = it at RI ⊢
  have L : Low pr pos (n + 3) := ⟨fun k m h01 hk => by
    have a := hm k m (by omega)
    have b := hm (k + 12) m (by omega)
    constructor
    · intro h; exact (b.mp (a.mpr ⟨h, h01⟩)).1
    · intro h; exact (a.mp (b.mpr ⟨h, h01⟩)).1, fun p h => by have := hf p h; omega⟩
  have up : ∀ j : Nat, meas (it (14 + 12 * j)) ≤ meas (it (14 + 12 * (j + 1))) ∧ (meas (it (14 + 12 * j)) = meas (it (14 + 12 * (j + 1))) → it (14 + 12 * j) = it (14 + 12 * (j + 1))) := fun j => by
    have R1 := RI (14 + 12 * j)
    have R2 := RI (14 + 12 * (j + 1))
    have e : n + ((14 + 12 * (j + 1) : Nat) : Int) = n + ((14 + 12 * j : Nat) : Int) + 12 := by omega
    rw [e] at R2
    exact meas_up ok (lo := n + 3) (by omega) L (by omega) R1 R2
  have grow : ∀ j : Nat, (∃ i, i < j ∧ it (14 + 12 * i) = it (14 + 12 * (i + 1))) ∨ j ≤ meas (it (14 + 12 * j)) := by
    intro j
    induction j with
    | zero => exact .inr (Nat.zero_le _)
    | succ j ih =>
      rcases ih with ⟨i, h1, h2⟩ | ih
      · exact .inl ⟨i, by omega, h2⟩
      · obtain ⟨h1, h2⟩ := up j
        by_cases e : meas (it (14 + 12 * j)) = meas (it (14 + 12 * (j + 1)))
        · exact .inl ⟨j, by omega, h2 e⟩
        · exact .inr (by omega)
  rcases grow 201 with ⟨i, h1, h2⟩ | h
  · exact ⟨14 + 12 * i, by omega, by rw [show 14 + 12 * i + 12 = 14 + 12 * (i + 1) by omega]; exact h2.symm⟩
  · have := meas_le ok (RI (14 + 12 * 201))
    omega
/-- states that follow one another and are all different are few -/
theorem way_few {st : St} (R : Rep O rank pr pos n st) (hm : ∀ k m, n ≤ k → (m ∈ mans ↔ pr k m ∧ (m = 0 ∨ m = 1))) (hf : ∀ p, pos = some p → p < n) {k : Nat} (h : ∀ i j, i < j → j < k → iter (fun s => stepF O rank s mans false) st i ≠ iter (fun s => stepF O rank s mans false) st j) : k ≤ 2450 := by
  obtain ⟨N, h1, h2⟩ := way_round ok hn hp R hm hf
  rcases Nat.lt_or_ge (N + 12) k with hk | hk
  · exact absurd h2.symm (h N (N + 12) (by omega) hk)
  · omega
end
end Ga
end
section
set_option maxRecDepth 100000
set_option maxHeartbeats 4000000
set_option autoImplicit false
namespace Ga
section
variable {S : Type} [DecidableEq S]
/-- A: without the pipe; B p: the pipe is key p, so many keys behind it -/
structure Wld (A : Nat → S) (B : Nat → Nat → S) (f h : S → S) (dn qt tg : S → Bool) : Prop where
  a1 : ∀ n, A (n + 1) = f (A n)
  b0 : ∀ p, B p 0 = h (A p)
  b1 : ∀ p k, B p (k + 1) = f (B p k)
  df : ∀ s, dn s = true → dn (f s) = true
  dh : ∀ s, dn s = true → dn (h s) = true
  qd : ∀ s, qt s = true → dn s = false
  ta : ∀ n, tg (A n) = true
  tb : ∀ p k, tg (B p k) = false
variable {A : Nat → S} {B : Nat → Nat → S} {f h : S → S} {dn qt tg : S → Bool}
def AtL (A : Nat → S) (B : Nat → Nat → S) (n : Nat) (s : S) : Option Nat → Prop
  | none => s = A n
  | some p => p < n ∧ s = B p (n - 1 - p)
def Quiet (B : Nat → Nat → S) (qt : S → Bool) (T p : Nat) : Prop := p ≤ T ∧ qt (B p (T - p)) = true
structure Lv (A : Nat → S) (B : Nat → Nat → S) (dn qt : S → Bool) (n : Nat) (L : List (S × Option Nat)) (seen : List S) : Prop where
  nd : (L.map (·.1)).Nodup
  at_ : ∀ s v, (s, v) ∈ L → AtL A B n s v ∧ dn s = false
  sn : ∀ s ∈ seen, ∃ m v, m < n ∧ AtL A B m s v
  no : ∀ T p, T + 1 < n → ¬ Quiet B qt T p
  all : ∀ T p, Quiet B qt T p → (∀ T' p', T' < T → ¬ Quiet B qt T' p') → n ≤ T + 1 → (n ≤ p → (A n, none) ∈ L) ∧ (p < n → ∃ q, q ≤ p ∧ (B p (n - 1 - p), some q) ∈ L)
/-- what follows a layer -/
structure Fo (f h : S → S) (dn : S → Bool) (n : Nat) (L F : List (S × Option Nat)) : Prop where
  nd : (F.map (·.1)).Nodup
  fs : ∀ s v, (s, v) ∈ F → dn s = false ∧ ∃ t, (v = none ∧ (t, none) ∈ L ∧ s = f t) ∨ ∃ q, v = some q ∧ ((t, some q) ∈ L ∧ s = f t ∨ q = n ∧ (t, none) ∈ L ∧ s = h t)
  f0 : ∀ t, (t, none) ∈ L → dn (f t) = false → (f t, none) ∈ F
  f1 : ∀ t q, (t, some q) ∈ L → dn (f t) = false → ∃ q', q' ≤ q ∧ (f t, some q') ∈ F
  f2 : ∀ t, (t, none) ∈ L → dn (h t) = false → ∃ q', q' ≤ n ∧ (h t, some q') ∈ F
variable (W : Wld A B f h dn qt tg)
include W
theorem Wld.ak (n : Nat) : ∀ j m, A n = A m → A (n + j) = A (m + j)
  | 0, _, e => e
  | j + 1, m, e => by
    rw [← Nat.add_assoc, ← Nat.add_assoc, W.a1, W.a1, Wld.ak n j m e]
theorem Wld.bk (p a : Nat) : ∀ j q b, B p a = B q b → B p (a + j) = B q (b + j)
  | 0, _, _, e => e
  | j + 1, q, b, e => by
    rw [← Nat.add_assoc, ← Nat.add_assoc, W.b1, W.b1, Wld.bk p a j q b e]
theorem Wld.bb {p q : Nat} (e : A p = A q) : ∀ k, B p k = B q k
  | 0 => by rw [W.b0, W.b0, e]
  | k + 1 => by rw [W.b1, W.b1, Wld.bb e k]
theorem Wld.bdn (p : Nat) : ∀ k j, dn (B p (k + j)) = false → dn (B p k) = false
  | k, 0, e => e
  | k, j + 1, e => by
    refine Wld.bdn p k j ?_
    cases hd : dn (B p (k + j)) with
    | false => rfl
    | true =>
      have := W.df _ hd
      rw [← W.b1] at this
      rw [← Nat.add_assoc] at e
      rw [this] at e
      cases e
theorem Wld.adn (n : Nat) : ∀ j, dn (A (n + j)) = false → dn (A n) = false
  | 0, e => e
  | j + 1, e => by
    refine Wld.adn n j ?_
    cases hd : dn (A (n + j)) with
    | false => rfl
    | true =>
      have := W.df _ hd
      rw [← W.a1] at this
      rw [← Nat.add_assoc] at e
      rw [this] at e
      cases e
theorem Wld.pdn {p k : Nat} (e : dn (B p k) = false) : dn (A p) = false := by
  have e0 := W.bdn p 0 k (by rw [Nat.zero_add]; exact e)
  cases hd : dn (A p) with
  | false => rfl
  | true =>
    have := W.dh _ hd
    rw [← W.b0, e0] at this
    cases this
theorem Lv.next {n : Nat} {L F : List (S × Option Nat)} {seen seen' : List S} (V : Lv A B dn qt n L seen) (X : Fo f h dn n L F) (nq : ∀ s q, (s, some q) ∈ L → qt s = false) (hs : ∀ s, s ∈ seen' ↔ s ∈ seen ∨ s ∈ L.map (·.1)) :
    Lv A B dn qt (n + 1) (F.filter fun e => decide (e.1 ∉ seen')) seen' := by
  have sn' : ∀ s ∈ seen', ∃ m v, m < n + 1 ∧ AtL A B m s v := fun s h => by
    rcases (hs s).mp h with h | h
    · obtain ⟨m, v, h1, h2⟩ := V.sn s h
      exact ⟨m, v, by omega, h2⟩
    · obtain ⟨⟨s', v⟩, h1, rfl⟩ := List.mem_map.mp h
      exact ⟨n, v, by omega, (V.at_ _ _ h1).1⟩
  refine ⟨X.nd.sublist (List.filter_sublist.map _), fun s v h => ?_, sn', fun T p hT hq => ?_, fun T p hq hmin hT => ?_⟩
  · obtain ⟨hd, t, h1⟩ := X.fs s v (List.mem_filter.mp h).1
    refine ⟨?_, hd⟩
    rcases h1 with ⟨rfl, h2, rfl⟩ | ⟨q, rfl, ⟨h2, rfl⟩ | ⟨rfl, h2, rfl⟩⟩
    · have := (V.at_ _ _ h2).1
      show f t = A (n + 1)
      rw [W.a1, ← this]
    · obtain ⟨a1, a2⟩ := (V.at_ _ _ h2).1
      refine ⟨by omega, ?_⟩
      rw [a2, show n + 1 - 1 - q = (n - 1 - q) + 1 from by omega, W.b1]
    · have a2 := (V.at_ _ _ h2).1
      refine ⟨by omega, ?_⟩
      rw [show q + 1 - 1 - q = 0 from by omega, W.b0]
      rw [show t = A q from a2]
  · -- nothing is quiet at the top n - 1
    by_cases hT2 : T + 1 < n
    · exact V.no T p hT2 hq
    · have hmin : ∀ T' p', T' < T → ¬ Quiet B qt T' p' := fun T' p' h => V.no T' p' (by omega)
      have hp := hq.1
      obtain ⟨q, _, h1⟩ := (V.all T p hq hmin (by omega)).2 (by omega)
      have := nq _ _ h1
      rw [show n - 1 - p = T - p from by omega] at this
      rw [hq.2] at this
      cases this
  · have hdn := W.qd _ hq.2
    have hpT := hq.1
    obtain ⟨v1, v2⟩ := V.all T p hq hmin (by omega)
    constructor
    · intro hnp
      have m1 := v1 (by omega)
      have d1 : dn (A (n + 1)) = false := W.adn (n + 1) (p - (n + 1)) (by rw [show n + 1 + (p - (n + 1)) = p from by omega]; exact W.pdn hdn)
      rw [W.a1] at d1
      have m2 := X.f0 _ m1 d1
      rw [← W.a1] at m2
      refine List.mem_filter.mpr ⟨m2, decide_eq_true fun hin => ?_⟩
      obtain ⟨m, v, hm, ha⟩ := sn' _ hin
      cases v with
      | some q =>
        have e1 := W.ta (n + 1)
        have e2 : A (n + 1) = B q (m - 1 - q) := ha.2
        rw [e2, W.tb] at e1
        cases e1
      | none =>
        have e1 : A (n + 1) = A m := ha
        have e2 := W.ak (n + 1) (p - (n + 1)) m e1
        rw [show n + 1 + (p - (n + 1)) = p from by omega] at e2
        refine hmin (T - (n + 1 - m)) (m + (p - (n + 1))) (by omega) ⟨by omega, ?_⟩
        rw [← W.bb e2, show T - (n + 1 - m) - (m + (p - (n + 1))) = T - p from by omega]
        exact hq.2
    · intro hpn
      have key : ∀ q', q' ≤ p → (B p (n + 1 - 1 - p), some q') ∈ F → ∃ q, q ≤ p ∧ (B p (n + 1 - 1 - p), some q) ∈ F.filter fun e => decide (e.1 ∉ seen') := fun q' hq' hF => by
        refine ⟨q', hq', List.mem_filter.mpr ⟨hF, decide_eq_true fun hin => ?_⟩⟩
        obtain ⟨m, v, hm, ha⟩ := sn' _ hin
        cases v with
        | none =>
          have e1 := W.ta m
          rw [← (show _ = A m from ha), W.tb] at e1
          cases e1
        | some r =>
          obtain ⟨a1, a2⟩ := ha
          have e2 := W.bk p (n + 1 - 1 - p) (T - n) r (m - 1 - r) a2
          rw [show n + 1 - 1 - p + (T - n) = T - p from by omega] at e2
          refine hmin (m - 1 + (T - n)) r (by omega) ⟨by omega, ?_⟩
          rw [show m - 1 + (T - n) - r = m - 1 - r + (T - n) from by omega, ← e2]
          exact hq.2
      by_cases hnp : n = p
      · subst hnp
        have m1 := v1 (Nat.le_refl _)
        have d1 : dn (B n 0) = false := W.bdn n 0 (T - n) (by rw [Nat.zero_add]; exact hdn)
        rw [W.b0] at d1
        obtain ⟨q', h1, h2⟩ := X.f2 _ m1 d1
        rw [← W.b0] at h2
        exact key q' h1 (by rw [show n + 1 - 1 - n = 0 from by omega]; exact h2)
      · obtain ⟨q, h1, h2⟩ := v2 (by omega)
        have d1 : dn (B p (n - 1 - p + 1)) = false := W.bdn p (n - 1 - p + 1) (T - n) (by rw [show n - 1 - p + 1 + (T - n) = T - p from by omega]; exact hdn)
        rw [W.b1] at d1
        obtain ⟨q', h3, h4⟩ := X.f1 _ _ h2 d1
        rw [← W.b1] at h4
        exact key q' (by omega) (by rw [show n + 1 - 1 - p = n - 1 - p + 1 from by omega]; exact h4)
/-- the first layer -/
theorem Lv.first (h0 : dn (A 0) = false) : Lv A B dn qt 0 [(A 0, none)] [] :=
  ⟨by simp, fun s v h => by simp at h; obtain ⟨rfl, rfl⟩ := h; exact ⟨rfl, h0⟩, fun s h => (by cases h), fun T p h => by omega, fun T p _ _ _ => ⟨fun _ => List.mem_cons_self, fun h => by omega⟩⟩
omit W
theorem Quiet.least {T p : Nat} (hq : Quiet B qt T p) : ∃ T' p', T' ≤ T ∧ Quiet B qt T' p' ∧ ∀ T'' p'', T'' < T' → ¬ Quiet B qt T'' p'' := by
  induction T using Nat.strongRecOn generalizing p with
  | _ T ih =>
    by_cases h : ∃ T' p', T' < T ∧ Quiet B qt T' p'
    · obtain ⟨T', p', h1, h2⟩ := h
      obtain ⟨a, b, c, d, e⟩ := ih T' h1 h2
      exact ⟨a, b, by omega, d, e⟩
    · exact ⟨T, p, Nat.le_refl _, hq, fun T'' p'' h1 h2 => h ⟨T'', p'', h1, h2⟩⟩
/-- the walk has ended: nothing is quiet -/
theorem Lv.end_ {n : Nat} {seen : List S} (V : Lv A B dn qt n [] seen) (T p : Nat) : ¬ Quiet B qt T p := fun hq => by
  obtain ⟨T', p', _, h1, h2⟩ := hq.least
  have hn : n ≤ T' + 1 := by
    rcases Nat.lt_or_ge (T' + 1) n with h | h
    · exact absurd h1 (V.no _ _ h)
    · exact h
  obtain ⟨v1, v2⟩ := V.all T' p' h1 h2 hn
  rcases Nat.lt_or_ge p' n with h | h
  · obtain ⟨q, _, h3⟩ := v2 h
    cases h3
  · cases v1 h
/-- something quiet in a layer: the least top; and each quiet pipe there has one that is no greater in the layer -/
theorem Lv.found {n : Nat} {L : List (S × Option Nat)} {seen : List S} (V : Lv A B dn qt n L seen) {s : S} {q : Nat} (h : (s, some q) ∈ L) (hq : qt s = true) : 0 < n ∧ Quiet B qt (n - 1) q ∧ (∀ T p, T < n - 1 → ¬ Quiet B qt T p) ∧ ∀ p, Quiet B qt (n - 1) p → ∃ s' q', q' ≤ p ∧ (s', some q') ∈ L ∧ qt s' = true := by
  obtain ⟨a1, a2⟩ := (V.at_ _ _ h).1
  have hmin : ∀ T p, T < n - 1 → ¬ Quiet B qt T p := fun T p h => V.no T p (by omega)
  refine ⟨by omega, ⟨by omega, by rw [← a2]; exact hq⟩, hmin, fun p hp => ?_⟩
  have hp1 := hp.1
  obtain ⟨q', h1, h2⟩ := (V.all (n - 1) p hp hmin (by omega)).2 (by omega)
  exact ⟨_, q', h1, h2, by have := hp.2; exact this⟩
end
end Ga
end
section
set_option maxRecDepth 100000
set_option maxHeartbeats 4000000
set_option autoImplicit false
namespace Ga
open Mi
noncomputable local instance decSt : DecidableEq St := fun a b => Classical.propDecidable _
theorem rep_agree2 {O : Og} {rank : Int} {pr pr' : Int → Int → Prop} {pos pos' : Option Int} {n : Int} {st : St} (h1 : ∀ k m, 0 ≤ k → k < n → (pr k m ↔ pr' k m)) (h2 : ∀ p, p < n → (pos = some p ↔ pos' = some p)) (R : Rep O rank pr pos n st) : Rep O rank pr' pos' n st := by
  have ps : ∀ x, Ps pr n x ↔ Ps pr' n x := fun x => by
    unfold Ps
    constructor
    · rintro ⟨a, b, c, d, e⟩; exact ⟨(h1 _ _ d e).mp a, b, c, d, e⟩
    · rintro ⟨a, b, c, d, e⟩; exact ⟨(h1 _ _ d e).mpr a, b, c, d, e⟩
  have en : ∀ x, En O rank pos n x ↔ En O rank pos' n x := fun x => by
    unfold En
    constructor
    · rintro ⟨r, a, b, c, d, e, p, f, g, h⟩; exact ⟨r, a, b, c, d, e, p, (h2 p g.2).mp f, g, h⟩
    · rintro ⟨r, a, b, c, d, e, p, f, g, h⟩; exact ⟨r, a, b, c, d, e, p, (h2 p g.2).mpr f, g, h⟩
  have ag : ageAt pos n = ageAt pos' n := by
    have key : ∀ q q' : Option Int, (∀ p, p < n → (q = some p ↔ q' = some p)) → ∀ p, q = some p → p < n → ageAt q n = ageAt q' n := fun q q' h p e hp => by rw [e, (h p hp).mp e]
    cases pos with
    | some p =>
      by_cases hp : p < n
      · exact key _ _ h2 p rfl hp
      · cases pos' with
        | none => unfold ageAt; dsimp only; rw [if_neg hp]
        | some p' =>
          by_cases hp' : p' < n
          · exact (key _ _ (fun p hp => (h2 p hp).symm) p' rfl hp').symm
          · unfold ageAt; dsimp only; rw [if_neg hp, if_neg hp']
    | none =>
      cases pos' with
      | none => rfl
      | some p' =>
        by_cases hp' : p' < n
        · exact (key _ _ (fun p hp => (h2 p hp).symm) p' rfl hp').symm
        · unfold ageAt; dsimp only; rw [if_neg hp']
  exact ⟨R.dnd, by rw [R.dn]; simp only [ps, en], R.many, R.lk, fun hd a => by rw [R.sd hd a]; simp only [ps], fun hd a => by rw [R.en hd a]; simp only [en], fun hd => by rw [R.ag hd, ag], R.cn⟩
section
variable (O : Og) (rank : Int) (mans : List Int)
noncomputable def gF : St → St := fun s => stepF O rank s mans false
noncomputable def hF : St → St := fun s => stepF O rank s mans true
noncomputable def wA (n : Nat) : St := iter (gF O rank mans) stFirst n
noncomputable def wB (p k : Nat) : St := iter (gF O rank mans) (hF O rank mans (wA O rank mans p)) k
noncomputable def qtF (s : St) : Bool := !sndF O rank s
def tgF (s : St) : Bool := s.age.isNone
variable {O rank mans} (ok : O.Ok) (hm : ∀ m ∈ mans, m = 0 ∨ m = 1)
include ok hm
theorem repA (n : Nat) : Rep O rank (fun _ m => m ∈ mans) none n (wA O rank mans n) := by
  have := rep_iter ok (Int.le_refl 0) (pos := none) (fun p h => (by cases h)) (mans := mans) (pr := fun _ m => m ∈ mans) (rep_first (O := O) (rank := rank) (fun p h => (by cases h))) (fun k m _ => ⟨fun h => ⟨h, hm m h⟩, fun h => h.1⟩) (fun p h => (by cases h)) n
  rw [Int.zero_add] at this
  exact this
theorem repB0 (p : Nat) : Rep O rank (fun _ m => m ∈ mans) (some (p : Int)) ((p : Int) + 1) (hF O rank mans (wA O rank mans p)) := by
  have R := rep_agree2 (pos' := some (p : Int)) (pr' := fun _ m => m ∈ mans) (fun k m _ _ => Iff.rfl) (fun q hq => ⟨fun h => (by cases h), fun h => by cases h; omega⟩) (repA ok hm (rank := rank) p)
  exact rep_step ok (by omega) (fun q h => by cases h; omega) R (fun m => ⟨fun h => ⟨h, hm m h⟩, fun h => h.1⟩) ⟨fun _ => rfl, fun _ => rfl⟩
theorem repB (p k : Nat) : Rep O rank (fun _ m => m ∈ mans) (some (p : Int)) ((p : Int) + 1 + k) (wB O rank mans p k) :=
  rep_iter ok (by omega) (fun q h => by cases h; omega) (repB0 ok hm p) (fun k m _ => ⟨fun h => ⟨h, hm m h⟩, fun h => h.1⟩) (fun q h => by cases h; omega) k
theorem step_done {s : St} (hd : s.done = true) (f : Bool) : stepF O rank s mans f = stDone := by
  unfold stepF setF
  dsimp only
  rw [hd]
  rfl
theorem a_live (n : Nat) : (wA O rank mans n).done = false := by
  cases h : (wA O rank mans n).done with
  | false => rfl
  | true =>
    obtain ⟨p, e, _, ⟨r, _, _, _, _, _, q, hq, _⟩, _⟩ := (repA ok hm n).dn.mp h
    cases hq
theorem wld : Wld (wA O rank mans) (wB O rank mans) (gF O rank mans) (hF O rank mans) (fun s => s.done) (qtF O rank) tgF where
  a1 := fun n => rfl
  b0 := fun p => rfl
  b1 := fun p k => rfl
  df := fun s h => by
    have : gF O rank mans s = stDone := step_done ok hm h false
    rw [this]
    rfl
  dh := fun s h => by
    have : hF O rank mans s = stDone := step_done ok hm h true
    rw [this]
    rfl
  qd := fun s h => by
    cases hd : s.done with
    | false => rfl
    | true =>
      unfold qtF sndF setF at h
      dsimp only at h
      rw [hd] at h
      simp [stDone] at h
  ta := fun n => by
    unfold tgF
    rw [(repA ok hm n).ag (a_live ok hm n)]
    rfl
  tb := fun p k => by
    unfold tgF
    cases hd : (wB O rank mans p k).done with
    | true => rw [(repB ok hm p k).dnd hd]; rfl
    | false =>
      rw [(repB ok hm p k).ag hd]
      unfold ageAt
      dsimp only
      rw [if_pos (by omega)]
      rfl
theorem quiet_iff {T p : Nat} : Quiet (wB O rank mans) (qtF O rank) T p ↔ p ≤ T ∧ ¬ Snd O rank (fun _ m => m ∈ mans) (some (p : Int)) ((T : Int) + 1) := by
  unfold Quiet
  constructor
  · rintro ⟨h1, h2⟩
    refine ⟨h1, fun h => ?_⟩
    have R := repB ok hm (rank := rank) p (T - p)
    rw [show (p : Int) + 1 + ((T - p : Nat) : Int) = (T : Int) + 1 from by omega] at R
    have := (snd_ok ok (by omega) (fun q h => by cases h; omega) R).mpr h
    unfold qtF at h2
    rw [this] at h2
    cases h2
  · rintro ⟨h1, h2⟩
    refine ⟨h1, ?_⟩
    have R := repB ok hm (rank := rank) p (T - p)
    rw [show (p : Int) + 1 + ((T - p : Nat) : Int) = (T : Int) + 1 from by omega] at R
    unfold qtF
    cases h : sndF O rank (wB O rank mans p (T - p)) with
    | false => rfl
    | true => exact absurd ((snd_ok ok (by omega) (fun q h => by cases h; omega) R).mp h) h2
theorem round_in {g : St → St} {x : St} {N : Nat} (hN : N ≤ 2430) (h : iter g x (N + 12) = iter g x N) : ∀ k, ∃ k', k' < 2442 ∧ iter g x k = iter g x k' := fun k => by
  induction k using Nat.strongRecOn with
  | _ k ih =>
    by_cases hk : k < 2442
    · exact ⟨k, hk, rfl⟩
    · obtain ⟨k', h1, h2⟩ := ih (k - 12) (by omega)
      refine ⟨k', h1, ?_⟩
      rw [← h2]
      have := iter_round h (k - 12) (by omega)
      rw [show k - 12 + 12 = k from by omega] at this
      exact this
omit ok hm
/-- all the states that are met -/
noncomputable def allS (O : Og) (rank : Int) (mans : List Int) : List St := (List.range 2442).map (wA O rank mans) ++ (List.range 2442).flatMap fun p => (List.range 2442).map (wB O rank mans p)
theorem allS_len : (allS O rank mans).length = 5965806 := by
  have key : ∀ (l : List Nat), (l.flatMap fun p => (List.range 2442).map (wB O rank mans p)).length = 2442 * l.length := fun l => by
    induction l with
    | nil => rfl
    | cons a l ih => rw [List.flatMap_cons, List.length_append, ih, List.length_map, List.length_range, List.length_cons]; omega
  unfold allS
  rw [List.length_append, key, List.length_map, List.length_range]
include ok hm
theorem a_in (n : Nat) : ∃ n', n' < 2442 ∧ wA O rank mans n = wA O rank mans n' := by
  obtain ⟨N, h1, h2⟩ := way_round ok (Int.le_refl 0) (pos := none) (fun p h => (by cases h)) (mans := mans) (pr := fun _ m => m ∈ mans) (rep_first (O := O) (rank := rank) (fun p h => (by cases h))) (fun k m _ => ⟨fun h => ⟨h, hm m h⟩, fun h => h.1⟩) (fun p h => (by cases h))
  exact round_in ok hm h1 h2 n
theorem in_allA (n : Nat) : wA O rank mans n ∈ allS O rank mans := by
  obtain ⟨n', h1, h2⟩ := a_in ok hm (rank := rank) n
  rw [h2]
  exact List.mem_append_left _ (List.mem_map.mpr ⟨n', List.mem_range.mpr h1, rfl⟩)
theorem in_allB (p k : Nat) : wB O rank mans p k ∈ allS O rank mans := by
  obtain ⟨p', h1, h2⟩ := a_in ok hm (rank := rank) p
  rw [(wld ok hm).bb h2 k]
  obtain ⟨N, h3, h4⟩ := way_round ok (by omega) (fun q h => by cases h; omega) (repB0 ok hm (rank := rank) p') (fun k m _ => ⟨fun h => ⟨h, hm m h⟩, fun h => h.1⟩) (fun q h => by cases h; omega)
  obtain ⟨k', h5, h6⟩ := round_in ok hm h3 h4 k
  have h6 : wB O rank mans p' k = wB O rank mans p' k' := h6
  rw [h6]
  exact List.mem_append_right _ (List.mem_flatMap.mpr ⟨p', List.mem_range.mpr h1, List.mem_map.mpr ⟨k', List.mem_range.mpr h5, rfl⟩⟩)
end
end Ga
end
section
set_option maxRecDepth 100000
set_option maxHeartbeats 4000000
set_option autoImplicit false
namespace Ga
section
variable {S : Type} [DecidableEq S]
def mnN (a b : Nat) : Nat := if b < a then b else a
def vGet (row : List (S × Option Nat)) (s : S) : Option (Option Nat) := (row.find? fun e => decide (e.1 = s)).map (·.2)
def vPut (row : List (S × Option Nat)) (s : S) (v : Option Nat) : List (S × Option Nat) := if s ∈ row.map (·.1) then row.map fun e => if e.1 = s then (e.1, v) else e else row ++ [(s, v)]
def noteV (row : List (S × Option Nat)) (s : S) (v : Option Nat) : Option Nat := match vGet row s with
  | some (some a) => match v with
    | some b => some (mnN a b)
    | none => none
  | _ => v
def noteF (row : List (S × Option Nat)) (s : S) (v : Option Nat) : List (S × Option Nat) := vPut row s (noteV row s v)
theorem vGet_some {row : List (S × Option Nat)} {s : S} {v : Option Nat} (h : vGet row s = some v) : (s, v) ∈ row := by
  unfold vGet at h
  obtain ⟨e, h1, h2⟩ := Option.map_eq_some_iff.mp h
  have h3 := List.find?_some h1
  have h4 := List.mem_of_find?_eq_some h1
  have h5 : e.1 = s := of_decide_eq_true h3
  rw [← h5, ← h2]
  exact h4
theorem vGet_none {row : List (S × Option Nat)} {s : S} (h : vGet row s = none) : s ∉ row.map (·.1) := by
  unfold vGet at h
  rw [Option.map_eq_none_iff, List.find?_eq_none] at h
  intro hm
  obtain ⟨e, he, rfl⟩ := List.mem_map.mp hm
  exact h e he (decide_eq_true rfl)
theorem vPut_keys {row : List (S × Option Nat)} {s : S} {v : Option Nat} : (vPut row s v).map (·.1) = if s ∈ row.map (·.1) then row.map (·.1) else row.map (·.1) ++ [s] := by
  unfold vPut
  split
  · rw [List.map_map]
    apply List.map_congr_left
    intro e _
    simp only [Function.comp]
    split <;> rfl
  · simp
theorem vPut_nd {row : List (S × Option Nat)} {s : S} {v : Option Nat} (h : (row.map (·.1)).Nodup) : ((vPut row s v).map (·.1)).Nodup := by
  rw [vPut_keys]
  split
  · exact h
  · rename_i hs
    rw [List.nodup_append]
    exact ⟨h, by simp, fun a ha b hb e => by simp at hb; subst hb; subst e; exact hs ha⟩
theorem mem_vPut {row : List (S × Option Nat)} {s s' : S} {v v' : Option Nat} : (s', v') ∈ vPut row s v ↔ (s' = s ∧ v' = v) ∨ (s' ≠ s ∧ (s', v') ∈ row) := by
  unfold vPut
  split
  · rename_i hs
    rw [List.mem_map]
    constructor
    · rintro ⟨e, he, h⟩
      split at h
      · rename_i h1
        cases h
        exact .inl ⟨h1, rfl⟩
      · rename_i h1
        subst h
        exact .inr ⟨h1, he⟩
    · rintro (⟨rfl, rfl⟩ | ⟨h1, h2⟩)
      · obtain ⟨e, he, h3⟩ := List.mem_map.mp hs
        exact ⟨e, he, by rw [if_pos h3, h3]⟩
      · exact ⟨_, h2, by rw [if_neg h1]⟩
  · rename_i hs
    rw [List.mem_append, List.mem_singleton, Prod.mk.injEq]
    constructor
    · rintro (h | h)
      · refine .inr ⟨fun e => hs ?_, h⟩
        rw [← e]
        exact List.mem_map.mpr ⟨_, h, rfl⟩
      · exact .inl h
    · rintro (h | h)
      · exact .inr h
      · exact .inl h.2
/-- the rows that can be: a state without pipe is one -/
structure Rw (tg : S → Bool) (row : List (S × Option Nat)) : Prop where
  nd : (row.map (·.1)).Nodup
  tg : ∀ s v, (s, v) ∈ row → v.isNone = tg s
variable {tg : S → Bool} {row : List (S × Option Nat)} {s : S} {v : Option Nat}
theorem noteV_is (R : Rw tg row) (h : v.isNone = tg s) : (noteV row s v = v ∨ (s, noteV row s v) ∈ row) ∧ (noteV row s v).isNone = tg s ∧ (∀ q, v = some q → ∃ q', q' ≤ q ∧ noteV row s v = some q') ∧ (∀ a, (s, some a) ∈ row → ∃ q', q' ≤ a ∧ noteV row s v = some q') := by
  have one : ∀ a b, (s, a) ∈ row → (s, b) ∈ row → a = b := fun a b h1 h2 => by
    have nd := R.nd
    clear h R
    induction row with
    | nil => cases h1
    | cons e row ih =>
      rw [List.map_cons, List.nodup_cons] at nd
      rcases List.mem_cons.mp h1 with h3 | h3
      · rcases List.mem_cons.mp h2 with h4 | h4
        · rw [← h3] at h4
          cases h4
          rfl
        · exact absurd (List.mem_map.mpr ⟨_, h4, by rw [← h3]⟩) nd.1
      · rcases List.mem_cons.mp h2 with h4 | h4
        · exact absurd (List.mem_map.mpr ⟨_, h3, by rw [← h4]⟩) nd.1
        · exact ih h3 h4 nd.2
  cases hg : vGet row s with
  | none =>
    have e : noteV row s v = v := by unfold noteV; rw [hg]
    rw [e]
    exact ⟨.inl rfl, h, fun q hq => ⟨q, Nat.le_refl _, hq⟩, fun a ha => absurd (List.mem_map.mpr ⟨_, ha, rfl⟩) (vGet_none hg)⟩
  | some w =>
    have hw := vGet_some hg
    have tw := R.tg _ _ hw
    cases w with
    | none =>
      have e : noteV row s v = v := by unfold noteV; rw [hg]
      rw [e]
      exact ⟨.inl rfl, h, fun q hq => ⟨q, Nat.le_refl _, hq⟩, fun a ha => by have := one _ _ hw ha; cases this⟩
    | some a =>
      cases v with
      | none =>
        rw [← tw] at h
        cases h
      | some b =>
        have e : noteV row s (some b) = some (mnN a b) := by unfold noteV; rw [hg]
        rw [e]
        refine ⟨?_, h, fun q hq => ?_, fun a' ha => ?_⟩
        · unfold mnN
          split
          · exact .inl rfl
          · exact .inr hw
        · cases hq
          refine ⟨_, ?_, rfl⟩
          unfold mnN
          split <;> omega
        · have := one _ _ hw ha
          cases this
          refine ⟨_, ?_, rfl⟩
          unfold mnN
          split <;> omega
theorem note_rw (R : Rw tg row) (h : v.isNone = tg s) : Rw tg (noteF row s v) :=
  ⟨vPut_nd R.nd, fun s' v' hm => by
    rcases mem_vPut.mp hm with ⟨rfl, rfl⟩ | ⟨_, h2⟩
    · exact (noteV_is R h).2.1
    · exact R.tg _ _ h2⟩
theorem note_of (R : Rw tg row) (h : v.isNone = tg s) {s' : S} {v' : Option Nat} (hm : (s', v') ∈ noteF row s v) : (s', v') ∈ row ∨ (s' = s ∧ v' = v) := by
  rcases mem_vPut.mp hm with ⟨rfl, rfl⟩ | ⟨_, h2⟩
  · rcases (noteV_is R h).1 with e | e
    · exact .inr ⟨rfl, e⟩
    · exact .inl e
  · exact .inl h2
/-- w stands for v: as it is, or no greater -/
def Lq (row : List (S × Option Nat)) (s : S) : Option Nat → Prop
  | none => (s, none) ∈ row
  | some q => ∃ q', q' ≤ q ∧ (s, some q') ∈ row
theorem note_keep (R : Rw tg row) (h : v.isNone = tg s) {s' : S} {v' : Option Nat} (hm : Lq row s' v') : Lq (noteF row s v) s' v' := by
  by_cases e : s' = s
  · subst e
    cases v' with
    | none =>
      have t1 := R.tg _ _ hm
      have t2 := (noteV_is R h).2.1
      rw [← t1] at t2
      exact mem_vPut.mpr (.inl ⟨rfl, by cases hn : noteV row s' v with
        | none => rfl
        | some x => rw [hn] at t2; cases t2⟩)
    | some q =>
      obtain ⟨q1, h1, h2⟩ := hm
      obtain ⟨q2, h3, h4⟩ := (noteV_is R h).2.2.2 q1 h2
      exact ⟨q2, by omega, mem_vPut.mpr (.inl ⟨rfl, h4.symm⟩)⟩
  · cases v' with
    | none => exact mem_vPut.mpr (.inr ⟨e, hm⟩)
    | some q =>
      obtain ⟨q1, h1, h2⟩ := hm
      exact ⟨q1, h1, mem_vPut.mpr (.inr ⟨e, h2⟩)⟩
theorem note_new (R : Rw tg row) (h : v.isNone = tg s) : Lq (noteF row s v) s v := by
  cases v with
  | none =>
    have t2 := (noteV_is R h).2.1
    rw [← h] at t2
    refine mem_vPut.mpr (.inl ⟨rfl, ?_⟩)
    cases hn : noteV row s none with
    | none => rfl
    | some x => rw [hn] at t2; cases t2
  | some q =>
    obtain ⟨q', h1, h2⟩ := (noteV_is R h).2.2.1 q rfl
    exact ⟨q', h1, mem_vPut.mpr (.inl ⟨rfl, h2.symm⟩)⟩
variable (f h : S → S) (dn : S → Bool) (n : Nat)
/-- one state's followers, put into the row -/
def folE (F : List (S × Option Nat)) (e : S × Option Nat) : List (S × Option Nat) :=
  let F1 := if dn (f e.1) = true then F else noteF F (f e.1) e.2
  if e.2.isNone = true then (if dn (h e.1) = true then F1 else noteF F1 (h e.1) (some n)) else F1
def folF (L : List (S × Option Nat)) : List (S × Option Nat) := L.foldl (folE f h dn n) []
theorem folF_snoc (L : List (S × Option Nat)) (e : S × Option Nat) : folF f h dn n (L ++ [e]) = folE f h dn n (folF f h dn n L) e := by unfold folF; rw [List.foldl_append]; rfl
structure Fp (tg : S → Bool) (D F : List (S × Option Nat)) : Prop where
  rw_ : Rw tg F
  fs : ∀ s v, (s, v) ∈ F → dn s = false ∧ ∃ t, (v = none ∧ (t, none) ∈ D ∧ s = f t) ∨ ∃ q, v = some q ∧ ((t, some q) ∈ D ∧ s = f t ∨ q = n ∧ (t, none) ∈ D ∧ s = h t)
  f1 : ∀ t v, (t, v) ∈ D → dn (f t) = false → Lq F (f t) v
  f2 : ∀ t, (t, none) ∈ D → dn (h t) = false → Lq F (h t) (some n)
variable {f h dn n}
theorem Fp.step {D F : List (S × Option Nat)} (P : Fp f h dn n tg D F) {e : S × Option Nat} (t1 : dn (f e.1) = false → e.2.isNone = tg (f e.1)) (t2 : e.2 = none → dn (h e.1) = false → tg (h e.1) = false) : Fp f h dn n tg (D ++ [e]) (folE f h dn n F e) := by
  obtain ⟨s, v⟩ := e
  -- the first note
  have A : ∃ F1, F1 = (if dn (f s) = true then F else noteF F (f s) v) ∧ Rw tg F1 ∧ (∀ s' v', (s', v') ∈ F1 → (s', v') ∈ F ∨ (dn (f s) = false ∧ s' = f s ∧ v' = v)) ∧ (∀ s' v', Lq F s' v' → Lq F1 s' v') ∧ (dn (f s) = false → Lq F1 (f s) v) := by
    refine ⟨_, rfl, ?_⟩
    cases hd : dn (f s) with
    | true =>
      rw [if_pos rfl]
      exact ⟨P.rw_, fun _ _ h => .inl h, fun _ _ h => h, fun h => (by cases h)⟩
    | false =>
      rw [if_neg Bool.false_ne_true]
      have t := t1 hd
      exact ⟨note_rw P.rw_ t, fun s' v' hm => (note_of P.rw_ t hm).imp id fun h => ⟨rfl, h⟩, fun s' v' hm => note_keep P.rw_ t hm, fun _ => note_new P.rw_ t⟩
  obtain ⟨F1, e1, R1, o1, k1, n1⟩ := A
  have B : ∃ F2, F2 = folE f h dn n F (s, v) ∧ Rw tg F2 ∧ (∀ s' v', (s', v') ∈ F2 → (s', v') ∈ F1 ∨ (v = none ∧ dn (h s) = false ∧ s' = h s ∧ v' = some n)) ∧ (∀ s' v', Lq F1 s' v' → Lq F2 s' v') ∧ (v = none → dn (h s) = false → Lq F2 (h s) (some n)) := by
    refine ⟨_, rfl, ?_⟩
    unfold folE
    dsimp only
    rw [← e1]
    cases v with
    | some q => exact ⟨R1, fun _ _ h => .inl h, fun _ _ h => h, fun h => (by cases h)⟩
    | none =>
      simp only [Option.isNone_none, if_true]
      cases hd : dn (h s) with
      | true =>
        rw [if_pos rfl]
        exact ⟨R1, fun _ _ h => .inl h, fun _ _ h => h, fun _ h => (by cases h)⟩
      | false =>
        rw [if_neg Bool.false_ne_true]
        have t : (some n).isNone = tg (h s) := (t2 rfl hd).symm
        exact ⟨note_rw R1 t, fun s' v' hm => (note_of R1 t hm).imp id fun h => ⟨trivial, rfl, h⟩, fun s' v' hm => note_keep R1 t hm, fun _ _ => note_new R1 t⟩
  obtain ⟨F2, e2, R2, o2, k2, n2⟩ := B
  rw [← e2]
  refine ⟨R2, fun s' v' hm => ?_, fun t w hm hd => ?_, fun t hm hd => ?_⟩
  · rcases o2 s' v' hm with hm | ⟨rfl, hd, rfl, rfl⟩
    · rcases o1 s' v' hm with hm | ⟨hd, rfl, rfl⟩
      · obtain ⟨d, t, h1⟩ := P.fs _ _ hm
        refine ⟨d, t, ?_⟩
        rcases h1 with ⟨a, b, c⟩ | ⟨q, a, ⟨b, c⟩ | ⟨b, c, d⟩⟩
        · exact .inl ⟨a, List.mem_append_left _ b, c⟩
        · exact .inr ⟨q, a, .inl ⟨List.mem_append_left _ b, c⟩⟩
        · exact .inr ⟨q, a, .inr ⟨b, List.mem_append_left _ c, d⟩⟩
      · refine ⟨hd, s, ?_⟩
        cases v' with
        | none => exact .inl ⟨rfl, List.mem_append_right _ List.mem_cons_self, rfl⟩
        | some q => exact .inr ⟨q, rfl, .inl ⟨List.mem_append_right _ List.mem_cons_self, rfl⟩⟩
    · exact ⟨hd, s, .inr ⟨n, rfl, .inr ⟨rfl, List.mem_append_right _ List.mem_cons_self, rfl⟩⟩⟩
  · rcases List.mem_append.mp hm with hm | hm
    · exact k2 _ _ (k1 _ _ (P.f1 t w hm hd))
    · simp at hm
      obtain ⟨rfl, rfl⟩ := hm
      exact k2 _ _ (n1 hd)
  · rcases List.mem_append.mp hm with hm | hm
    · exact k2 _ _ (k1 _ _ (P.f2 t hm hd))
    · simp at hm
      obtain ⟨rfl, rfl⟩ := hm
      exact n2 rfl hd
theorem Fp.fo {L F : List (S × Option Nat)} (P : Fp f h dn n tg L F) : Fo f h dn n L F :=
  ⟨P.rw_.nd, P.fs, fun t ht hd => P.f1 t none ht hd, fun t q ht hd => P.f1 t (some q) ht hd, fun t ht hd => P.f2 t ht hd⟩
theorem Fp.nil : Fp f h dn n tg [] [] := ⟨⟨by simp, fun s v h => (by cases h)⟩, fun s v h => (by cases h), fun t v h => (by cases h), fun t h => (by cases h)⟩
end
end Ga
end
section
set_option maxRecDepth 100000
set_option maxHeartbeats 4000000
set_option autoImplicit false
namespace Mi
open PySem

/-- a list made: at n, nothing old is changed -/
def RL (d : D) (M M' : Hs) (L : List D) : Prop := ∃ n, d = .ref n ∧ M.length ≤ n ∧ M'[n]? = some (.lst L) ∧ Fr No M M'
section
variable {α β : Type} {ζ : Sl} {M M1 : Hs} {N : Sl → Hs → Prop} {T : D → Hs → Prop} {Qd : D → Hs → Prop}
theorem wX_star {f : MX} {ga : MA} {Q : List D → Hs → Prop} : wX (aStar f ga ζ M) Q = wX (f ζ M) fun x M1 => match hSeq M1 x with
  | some ys => wX (ga ζ M1) fun xs M2 => Q (ys ++ xs) M2
  | none => False := by
  unfold aStar
  rw [wX_bind]
  congr
  funext x M1
  cases hSeq M1 x with
  | none => rfl
  | some ys => dsimp only; rw [wX_bind]; rfl
theorem wS_asg {f : MX} {p : Pt} : wS (sAsg f p ζ M) N T = wX (f ζ M) fun d M1 => match bindP p d with
  | some l => N (setAll ζ l) M1
  | none => False := by
  unfold sAsg
  rw [wS_of]
  congr
  funext d M1
  cases bindP p d <;> rfl
theorem wS_par {i j : Nat} {g : MA} : wS (sPar i j g ζ M) N T = wX (g ζ M) fun ds M1 => match ds with
  | [d, e] => N ((ζ.set i (some d)).set j (some e)) M1
  | _ => False := by
  unfold sPar
  rw [wS_of]
  congr
  funext ds M1
  split <;> first | rfl | (rename_i h; split <;> first | rfl | (exact absurd rfl (h _ _)))
theorem wS_aug {i : Nat} {g : D → D → Hs → Option (D × Hs)} {f : MX} : wS (sAug i g f ζ M) N T = match ζ[i]? with
  | some (some x) => wX (f ζ M) fun y M1 => wO (g x y M1) fun d M2 => N (ζ.set i (some d)) M2
  | _ => False := by
  unfold sAug
  cases ζ[i]? with
  | none => rfl
  | some o =>
    cases o with
    | none => rfl
    | some x =>
      dsimp only
      rw [wS_of]
      congr
      funext y M1
      cases g x y M1 with
      | none => rfl
      | some r => obtain ⟨d, M2⟩ := r; rfl
def Src (s : MY) (ζ : Sl) (M : Hs) (xs : List D) (M1 : Hs) (K : Hs → Prop) : Prop := ∃ yd, s ζ M = .ok yd M1 ∧ xs.length < yd.fuel ∧ ∀ M', K M' → ∀ i, yd.y i M' = some xs[i]?
theorem src_d {f : MX} {d : D} {xs : List D} (hf : f ζ M = .ok d M1) (hs : hSeq M1 d = some xs) : Src (ySeq f) ζ M xs M1 fun M' => hSeq M' d = some xs := by
  unfold Src ySeq
  rw [hf]
  show ∃ yd, (match d with
    | .tup xs => R.ok (Yd.mk (fun i _ => some xs[i]?) (xs.length + 1)) M1
    | .klst xs => R.ok (Yd.mk (fun i _ => some xs[i]?) (xs.length + 1)) M1
    | .ref n => match hSeq M1 (.ref n) with
      | some xs => R.ok (Yd.mk (fun i M => match hSeq M (.ref n) with | some ys => some ys[i]? | none => none) (xs.length + 1)) M1
      | none => .no
    | _ => .no) = _ ∧ _
  cases d with
  | tup ys => cases hs; exact ⟨_, rfl, Nat.lt_succ_self _, fun M' _ i => rfl⟩
  | klst ys => cases hs; exact ⟨_, rfl, Nat.lt_succ_self _, fun M' _ i => rfl⟩
  | ref n =>
    dsimp only
    rw [hs]
    refine ⟨_, rfl, Nat.lt_succ_self _, fun M' h i => ?_⟩
    dsimp only
    rw [h]
  | _ => cases hs
theorem upTo_get (j : Int) (i : Nat) : ((Ga.upTo j).map D.int)[i]? = if i < j.toNat then some (.int (0 + (i : Int))) else none := by
  unfold Ga.upTo
  rw [List.map_map, List.getElem?_map]
  by_cases h : i < j.toNat
  · rw [if_pos h, List.getElem?_range h]
    simp
  · rw [if_neg h, List.getElem?_eq_none (by simpa using h)]
    rfl
theorem src_rg1 {f : MX} {j : Int} (hf : f ζ M = .ok (.int j) M1) (hj : okRg j = true) : Src (yRg1 f) ζ M ((Ga.upTo j).map D.int) M1 fun _ => True := by
  unfold Src yRg1
  rw [hf]
  show ∃ yd, (if okRg j = true then R.ok (yRg 0 j.toNat) M1 else .no) = _ ∧ _
  rw [if_pos hj]
  refine ⟨_, rfl, by simp [Ga.upTo, yRg], fun M' _ i => ?_⟩
  rw [upTo_get]
  rfl
/-- for a in as -/
theorem for_list {s : MY} {p : Pt} {b : MS} (e : α → D) {as : List α} {K : Hs → Prop} (S : Src s ζ M (as.map e) M1 K) (I : List α → Sl → Hs → Prop) (h0 : I [] ζ M1) (hk : ∀ done ζ M', I done ζ M' → K M')
    (go : ∀ done a rest ζ M', as = done ++ a :: rest → I done ζ M' → ∃ l, bindP p (e a) = some l ∧ wS (b (setAll ζ l) M') (I (done ++ [a])) T) (fin : ∀ ζ M', I as ζ M' → N ζ M') : wS (sFor s p b ζ M) N T := by
  obtain ⟨yd, h1, h2, h3⟩ := S
  rw [wS_for, h1, wX_ok]
  refine wS_forN (I := fun i ζ M' => I (as.take i) ζ M') as.length (fun i ζ M' hi h => ?_) (fun ζ M' h => ?_) yd.fuel 0 ζ M1 (by simpa using h2) (Nat.zero_le _) (by simpa using h0)
  · obtain ⟨l, h4, h5⟩ := go (as.take i) as[i] (as.drop (i + 1)) ζ M' (by simp) h
    refine ⟨e as[i], l, ?_, h4, ?_⟩
    · rw [h3 M' (hk _ _ _ h) i]
      simp [hi]
    · rw [List.take_succ, List.getElem?_eq_getElem hi]
      exact h5
  · refine ⟨?_, fin ζ M' (by simpa using h)⟩
    rw [h3 M' (hk _ _ _ h)]
    simp
theorem snoc_t {α β : Type} {c : α → Bool} {v : α → β} {l : List α} {a : α} (h : c a = true) : ((l ++ [a]).filter c).map v = (l.filter c).map v ++ [v a] := by
  rw [List.filter_append, List.map_append, List.filter_cons, if_pos h]
  rfl
theorem snoc_f {α β : Type} {c : α → Bool} {v : α → β} {l : List α} {a : α} (h : c a = false) : ((l ++ [a]).filter c).map v = (l.filter c).map v := by
  rw [List.filter_append, List.map_append, List.filter_cons, if_neg (by rw [h]; decide)]
  simp
theorem take_sn {α : Type} {l : List α} {i : Nat} (h : i < l.length) : l.take (i + 1) = l.take i ++ [l[i]] := by rw [List.take_succ, List.getElem?_eq_getElem h]; rfl
theorem hLst_at {M : Hs} {n : Nat} {xs : List D} (h : M[n]? = some (.lst xs)) : hLst M n = some xs := by unfold hLst; rw [h]
theorem fr_lt {M M' : Hs} (f : Fr No M M') {n : Nat} {o : MO} (h : M[n]? = some o) : M'[n]? = some o := f.get h id
/-- [v a for a in as if c a] -/
theorem lc_ret {s : MY} {vs : List Nat} {p : Pt} {t : MT} {f : MX} (e : α → D) (c : α → Bool) (v : α → D) {as : List α} {K : Hs → Prop} (S : Src s ζ M (as.map e) M1 K) (hM : Fr No M M1) (hk : ∀ M', Fr No M1 M' → K M') (hl : as.length < sizeLine)
    (go : ∀ a ∈ as, ∀ M', Fr No M1 M' → ∃ l, bindP p (e a) = some l ∧ wX (t (setAll (wipeD ζ vs) l) M') fun b M2 => b = c a ∧ Fr No M' M2 ∧ (c a = true → wX (f (setAll (wipeD ζ vs) l) M2) fun d M3 => d = v a ∧ Fr No M2 M3)) :
    wX (xLc s vs p t f ζ M) fun d M' => RL d M M' ((as.filter c).map v) := by
  obtain ⟨yd, h1, h2, h3⟩ := S
  rw [wX_lc, h1, wX_ok]
  refine wX_lcN (Q := fun M2 => RL (.ref M1.length) M M2 ((as.filter c).map v)) (fun i M' => Fr No M1 M' ∧ M'[M1.length]? = some (.lst (((as.take i).filter c).map v))) as.length (fun i M' hi ⟨h4, h5⟩ => ?_) (fun M' ⟨h4, h5⟩ => ?_) yd.fuel 0 (M1 ++ [.lst []]) (by simpa using h2) (Nat.zero_le _) ⟨Fr.push _ _, by simp⟩
  · obtain ⟨l, h6, h7⟩ := go as[i] (List.getElem_mem hi) M' h4
    refine ⟨e as[i], l, ?_, h6, ?_⟩
    · rw [h3 M' (hk _ h4) i]
      simp [hi]
    · rw [take_sn hi]
      obtain ⟨b, M2, e2, rfl, f2, h8⟩ := wX_get h7
      unfold lcB
      rw [e2]
      cases hc : c as[i] with
      | false =>
        refine ⟨h4.trans f2, ?_⟩
        rw [fr_lt f2 h5, snoc_f hc]
      | true =>
        obtain ⟨z, M3, e3, rfl, f3⟩ := wX_get (h8 hc)
        dsimp only
        rw [e3]
        have h9 := fr_lt f3 (fr_lt f2 h5)
        unfold lput
        dsimp only
        rw [hLst_at h9]
        dsimp only
        rw [if_pos]
        · refine ⟨((h4.trans f2).trans f3).setHi (Nat.le_refl _), ?_⟩
          rw [set_get h9, snoc_t hc]
        · have := List.length_filter_le c (as.take i)
          rw [List.length_map]
          rw [List.length_take] at this
          omega
  · refine ⟨?_, M1.length, rfl, hM.1, ?_, hM.trans h4⟩
    · rw [h3 M' (hk _ h4)]
      simp
    · rw [List.take_length] at h5
      exact h5
/-- [v a b for a in as if c a for b in bs a if d a b] -/
theorem lc2_ret {s s1 : MY} {vs vs1 : List Nat} {p p1 : Pt} {t t1 : MT} {f : MX} (e : α → D) (c : α → Bool) (bs : α → List β) (e1 : β → D) (c1 : α → β → Bool) (v : α → β → D) {as : List α} {K : Hs → Prop} (S : Src s ζ M (as.map e) M1 K) (hM : Fr No M M1) (hk : ∀ M', Fr No M1 M' → K M')
    (hl : (as.flatMap fun a => bs a).length < sizeLine)
    (go : ∀ a ∈ as, ∀ M', Fr No M1 M' → ∃ l, bindP p (e a) = some l ∧ wX (t (setAll (wipeD ζ vs) l) M') fun b M2 => b = c a ∧ Fr No M' M2 ∧ (c a = true → ∃ M3 K1, Src s1 (setAll (wipeD ζ vs) l) M2 ((bs a).map e1) M3 K1 ∧ Fr No M2 M3 ∧ (∀ M4, Fr No M1 M4 → Fr No M1 M3 → K1 M4) ∧
      ∀ x ∈ bs a, ∀ M4, Fr No M1 M4 → ∃ l1, bindP p1 (e1 x) = some l1 ∧ wX (t1 (setAll (wipeD (setAll (wipeD ζ vs) l) vs1) l1) M4) fun b M5 => b = c1 a x ∧ Fr No M4 M5 ∧ (c1 a x = true → wX (f (setAll (wipeD (setAll (wipeD ζ vs) l) vs1) l1) M5) fun d M6 => d = v a x ∧ Fr No M5 M6))) :
    wX (xLc2 s vs p t s1 p1 vs1 t1 f ζ M) fun d M' => RL d M M' ((as.filter c).flatMap fun a => ((bs a).filter (c1 a)).map (v a)) := by
  obtain ⟨yd, h1, h2, h3⟩ := S
  unfold xLc2
  rw [wX_bind, h1, wX_ok, wX_bind]
  have size : ∀ (i : Nat), (((as.take i).filter c).flatMap fun a => ((bs a).filter (c1 a)).map (v a)).length ≤ ((as.take i).flatMap fun a => bs a).length := fun i => by
    generalize as.take i = l
    induction l with
    | nil => simp
    | cons a l ih =>
      rw [List.filter_cons]
      split
      · rw [List.flatMap_cons, List.flatMap_cons, List.length_append, List.length_append, List.length_map]
        have := List.length_filter_le (c1 a) (bs a)
        omega
      · rw [List.flatMap_cons, List.length_append]
        omega
  refine wX_mono (wX_lcN (Q := fun M2 => RL (.ref M1.length) M M2 ((as.filter c).flatMap fun a => ((bs a).filter (c1 a)).map (v a))) (fun i M' => Fr No M1 M' ∧ M'[M1.length]? = some (.lst (((as.take i).filter c).flatMap fun a => ((bs a).filter (c1 a)).map (v a)))) as.length (fun i M' hi ⟨h4, h5⟩ => ?_) (fun M' ⟨h4, h5⟩ => ?_) yd.fuel 0 (M1 ++ [.lst []]) (by simpa using h2) (Nat.zero_le _) ⟨Fr.push _ _, by simp⟩) fun _ M2 h => h
  · obtain ⟨l, h6, h7⟩ := go as[i] (List.getElem_mem hi) M' h4
    refine ⟨e as[i], l, ?_, h6, ?_⟩
    · rw [h3 M' (hk _ h4) i]
      simp [hi]
    · rw [take_sn hi]
      obtain ⟨b, M2, e2, rfl, f2, h8⟩ := wX_get h7
      unfold lcB2
      rw [e2]
      cases hc : c as[i] with
      | false =>
        refine ⟨h4.trans f2, ?_⟩
        rw [fr_lt f2 h5, List.filter_append, List.filter_cons, if_neg (by rw [hc]; decide)]
        simp
      | true =>
        obtain ⟨M3, K1, ⟨yd1, g1, g2, g3⟩, f3, kk, go1⟩ := h8 hc
        dsimp only
        rw [g1]
        dsimp only
        have f13 := (h4.trans f2).trans f3
        have len1 : (((as.take i).filter c).flatMap fun a => ((bs a).filter (c1 a)).map (v a)).length + (bs as[i]).length < sizeLine := by
          have q := size i
          have q2 : ((as.take i).flatMap fun a => bs a).length + (bs as[i]).length ≤ (as.flatMap fun a => bs a).length := by
            have e3 : as = as.take i ++ as[i] :: as.drop (i + 1) := by simp
            rw [show (as.flatMap fun a => bs a) = ((as.take i ++ as[i] :: as.drop (i + 1)).flatMap fun a => bs a) from by rw [← e3]]
            rw [List.flatMap_append, List.flatMap_cons, List.length_append, List.length_append]
            omega
          omega
        refine wX_mono (wX_lcN (Q := fun M' => Fr No M1 M' ∧ M'[M1.length]? = some (.lst (((as.take i ++ [as[i]]).filter c).flatMap fun a => ((bs a).filter (c1 a)).map (v a)))) (fun j M' => Fr No M1 M' ∧ M'[M1.length]? = some (.lst ((((as.take i).filter c).flatMap fun a => ((bs a).filter (c1 a)).map (v a)) ++ ((((bs as[i]).take j).filter (c1 as[i])).map (v as[i]))))) (bs as[i]).length
          (fun j M' hj ⟨q4, q5⟩ => ?_) (fun M' ⟨q4, q5⟩ => ?_) yd1.fuel 0 M3 (by simpa using g2) (Nat.zero_le _) ⟨f13, by rw [fr_lt f3 (fr_lt f2 h5)]; simp⟩) fun _ M' h => h
        · obtain ⟨l1, q6, q7⟩ := go1 (bs as[i])[j] (List.getElem_mem hj) M' q4
          refine ⟨e1 (bs as[i])[j], l1, ?_, q6, ?_⟩
          · rw [g3 M' (kk _ q4 f13) j]
            simp [hj]
          · rw [take_sn hj]
            obtain ⟨b, M5, e5, rfl, f5, q8⟩ := wX_get q7
            unfold lcB
            rw [e5]
            cases hc1 : c1 as[i] (bs as[i])[j] with
            | false =>
              refine ⟨q4.trans f5, ?_⟩
              rw [fr_lt f5 q5, snoc_f hc1]
            | true =>
              obtain ⟨z, M6, e6, rfl, f6⟩ := wX_get (q8 hc1)
              dsimp only
              rw [e6]
              have q9 := fr_lt f6 (fr_lt f5 q5)
              unfold lput
              dsimp only
              rw [hLst_at q9]
              dsimp only
              rw [if_pos]
              · refine ⟨((q4.trans f5).trans f6).setHi (Nat.le_refl _), ?_⟩
                rw [set_get q9, snoc_t hc1, List.append_assoc]
              · have := List.length_filter_le (c1 as[i]) ((bs as[i]).take j)
                rw [List.length_append, List.length_map]
                rw [List.length_take] at this
                omega
        · refine ⟨?_, q4, ?_⟩
          · rw [g3 M' (kk _ q4 f13)]
            simp
          · rw [List.take_length] at q5
            rw [q5, List.filter_append, List.flatMap_append, List.filter_cons, if_pos hc]
            simp
  · refine ⟨?_, M1.length, rfl, hM.1, ?_, hM.trans h4⟩
    · rw [h3 M' (hk _ h4)]
      simp
    · rw [List.take_length] at h5
      exact h5
end
end Mi
end
section
set_option maxRecDepth 100000
set_option maxHeartbeats 4000000
set_option autoImplicit false
namespace Mi
open PySem

section
variable {M : Hs}
mutual
theorem pd_deep : ∀ (d : D) (p : PyData) (n : Nat), pdT d = some p → p.depth < n → toPD M n d = some p
  | .non, p, n, h, hn => by
    cases n with
    | zero => omega
    | succ n => simp only [pdT] at h; cases h; rfl
  | .bl b, p, n, h, hn => by
    cases n with
    | zero => omega
    | succ n => simp only [pdT] at h; cases h; rfl
  | .int i, p, n, h, hn => by
    cases n with
    | zero => omega
    | succ n => simp only [pdT] at h; cases h; rfl
  | .str x, p, n, h, hn => by
    cases n with
    | zero => omega
    | succ n => simp only [pdT] at h; cases h; rfl
  | .tup xs, p, n, h, hn => by
    simp only [pdT] at h
    cases e : pdTs xs with
    | none => rw [e] at h; cases h
    | some ps =>
      rw [e] at h
      cases h
      cases n with
      | zero => omega
      | succ n =>
        have hd : PyData.depthAll ps < n := by simp only [PyData.depth] at hn; omega
        show (match mapO (toPD M n) xs with | some ps => some (PyData.tuple ps) | none => none) = _
        rw [pds_deep xs ps n e hd]
  | .ref _, p, n, h, hn => by simp [pdT] at h
  | .klst _, p, n, h, hn => by simp [pdT] at h
  | .exc .., p, n, h, hn => by simp [pdT] at h
theorem pds_deep : ∀ (xs : List D) (ps : List PyData) (n : Nat), pdTs xs = some ps → PyData.depthAll ps < n → mapO (toPD M n) xs = some ps
  | [], ps, n, h, hn => by simp only [pdTs] at h; cases h; rfl
  | x :: xs, ps, n, h, hn => by
    simp only [pdTs] at h
    split at h
    · rename_i k ks h1 h2
      cases h
      simp only [PyData.depthAll] at hn
      unfold mapO
      rw [pd_deep x k n h1 (by omega), pds_deep xs ks n h2 (by omega)]
    · cases h
end
/-- things that are compared by value -/
structure Eqk (α : Type) (f : α → D) (enc : α → PyData) : Prop where
  pd : ∀ a, pdT (f a) = some (enc a)
  eq : ∀ a b, PyData.eqv (enc a) (enc b) = true ↔ a = b
  cl : ∀ a, PyData.canLay0 (enc a) = true
  dp : ∀ a, (enc a).depth ≤ 6
variable {α : Type} [DecidableEq α] {f : α → D} {enc : α → PyData} (E : Eqk α f enc)
include E
theorem Eqk.sh (a : α) : SeqAt.shaped (enc a) = true := by
  have := E.dp a
  unfold SeqAt.shaped
  rw [E.cl]
  simp
  omega
theorem Eqk.eqb (a b : α) : PyData.eqv (enc a) (enc b) = decide (a = b) := by
  have h := E.eq a b
  by_cases e : a = b
  · rw [h.mpr e, decide_eq_true e]
  · cases q : PyData.eqv (enc a) (enc b) with
    | true => exact absurd (h.mp q) e
    | false => rw [decide_eq_false e]
theorem Eqk.to (a : α) : toPD M deep (f a) = some (enc a) := pd_deep _ _ _ (E.pd a) (by have := E.dp a; show _ < 12; omega)
theorem Eqk.gEq (a b : α) : Mi.gEq (f a) (f b) M = some (.bl (decide (a = b)), M) := by
  unfold Mi.gEq gEqB
  rw [E.to, E.to]
  dsimp only
  rw [E.sh, E.sh, E.eqb]
  rfl
theorem Eqk.gNe (a b : α) : Mi.gNe (f a) (f b) M = some (.bl (!decide (a = b)), M) := by
  unfold Mi.gNe gEqB
  rw [E.to, E.to]
  dsimp only
  rw [E.sh, E.sh, E.eqb]
  rfl
theorem Eqk.all (xs : List α) : PyData.canLayAll0 (xs.map enc) = true ∧ PyData.depthAll (xs.map enc) ≤ 6 := by
  induction xs with
  | nil => exact ⟨rfl, Nat.zero_le _⟩
  | cons a xs ih =>
    have := E.dp a
    constructor
    · simp only [List.map_cons, PyData.canLayAll0, E.cl, ih.1, Bool.and_self]
    · simp only [List.map_cons, PyData.depthAll]
      omega
theorem Eqk.pds (xs : List α) : pdTs (xs.map f) = some (xs.map enc) := by
  induction xs with
  | nil => rfl
  | cons a xs ih =>
    rw [List.map_cons]
    unfold pdTs
    rw [E.pd, ih]
    rfl
theorem Eqk.tos (xs : List α) : mapO (toPD M 11) (xs.map f) = some (xs.map enc) := pds_deep _ _ _ (E.pds xs) (by have := (E.all xs).2; omega)
theorem Eqk.shL (xs : List α) : SeqAt.shaped (.list (xs.map enc)) = true := by
  obtain ⟨h1, h2⟩ := E.all xs
  unfold SeqAt.shaped
  rw [Bool.and_eq_true, decide_eq_true_eq]
  refine ⟨by simp only [PyData.canLay0]; exact h1, ?_⟩
  simp only [PyData.depth]
  exact Nat.le_trans (Nat.succ_le_succ h2) (by decide)
theorem Eqk.shT (xs : List α) : SeqAt.shaped (.tuple (xs.map enc)) = true := by
  obtain ⟨h1, h2⟩ := E.all xs
  unfold SeqAt.shaped
  rw [Bool.and_eq_true, decide_eq_true_eq]
  refine ⟨by simp only [PyData.canLay0]; exact h1, ?_⟩
  simp only [PyData.depth]
  exact Nat.le_trans (Nat.succ_le_succ h2) (by decide)
theorem Eqk.anyb (xs : List α) (a : α) : ((xs.map enc).any fun z => PyData.eqv z (enc a)) = decide (a ∈ xs) := by
  induction xs with
  | nil => rfl
  | cons x xs ih =>
    rw [List.map_cons, List.any_cons, ih, E.eqb]
    by_cases h1 : x = a <;> by_cases h2 : a ∈ xs
    · subst h1; simp
    · subst h1; simp
    · have h3 : a ≠ x := Ne.symm h1; simp [h1, h2, h3]
    · have h3 : a ≠ x := Ne.symm h1; simp [h1, h2, h3]
/-- a in xs, xs a list or a tuple -/
theorem Eqk.gIn {k : Bool → Bool} {a : α} {d : D} {xs : List α} (hd : (∃ n, d = .ref n ∧ M[n]? = some (.lst (xs.map f))) ∨ d = .tup (xs.map f)) : gInA k (f a) d M = some (.bl (k (decide (a ∈ xs))), M) := by
  rcases hd with ⟨n, rfl, hn⟩ | rfl
  · have e1 : hDct M n = none := by unfold hDct; rw [hn]
    have e2 : toPD M deep (.ref n) = some (.list (xs.map enc)) := by
      have := pd_ref M 11 n _ hn
      rw [E.tos] at this
      exact this
    unfold gInA
    dsimp only
    rw [e1]
    dsimp only
    unfold gInB
    rw [E.to, e2]
    dsimp only
    rw [E.sh, E.shL, E.anyb]
    rfl
  · have e2 : toPD M deep (.tup (xs.map f)) = some (.tuple (xs.map enc)) := by
      show (match mapO (toPD M 11) (xs.map f) with | some ps => some (PyData.tuple ps) | none => none) = _
      rw [E.tos]
    show gInB k (f a) (.tup (xs.map f)) M = _
    unfold gInB
    rw [E.to, e2]
    dsimp only
    rw [E.sh, E.shT, E.anyb]
    rfl
/-- a list that is compared with [] -/
theorem Eqk.gNeNil {m n : Nat} {xs : List α} (h1 : M[m]? = some (.lst (xs.map f))) (h2 : M[n]? = some (.lst [])) : Mi.gNe (.ref m) (.ref n) M = some (.bl (!xs.isEmpty), M) := by
  have e1 : toPD M deep (.ref m) = some (.list (xs.map enc)) := by
    have := pd_ref M 11 m _ h1
    rw [E.tos] at this
    exact this
  have e2 : toPD M deep (.ref n) = some (.list []) := pd_ref M 11 n _ h2
  unfold Mi.gNe gEqB
  rw [e1, e2]
  dsimp only
  rw [E.shL, show SeqAt.shaped (.list []) = true by decide +kernel]
  cases xs with
  | nil => rfl
  | cons x xs => simp [PyData.eqv, PyData.eqvAll]
end
theorem eqk_int : Eqk Int D.int PyData.int where
  pd := fun _ => rfl
  eq := fun a b => by simp [PyData.eqv]
  cl := fun _ => rfl
  dp := fun _ => by simp [PyData.depth]
theorem eqk_t3 : Eqk T3 tr3 t3P where
  pd := fun ⟨a, b, c⟩ => rfl
  eq := fun ⟨a, b, c⟩ ⟨x, y, z⟩ => by simp [t3P, PyData.eqv, PyData.eqvAll]
  cl := fun ⟨a, b, c⟩ => by simp [t3P, PyData.canLay0, PyData.canLayAll0]
  dp := fun ⟨a, b, c⟩ => by simp [t3P, PyData.depth, PyData.depthAll]
theorem eqk_p6 : Eqk P6 p6D p6P where
  pd := fun ⟨a, b⟩ => rfl
  eq := fun ⟨⟨a, b, c⟩, ⟨x, y, z⟩⟩ ⟨⟨a', b', c'⟩, ⟨x', y', z'⟩⟩ => by simp [p6P, t3P, PyData.eqv, PyData.eqvAll]
  cl := fun ⟨⟨a, b, c⟩, ⟨x, y, z⟩⟩ => by simp [p6P, t3P, PyData.canLay0, PyData.canLayAll0]
  dp := fun ⟨⟨a, b, c⟩, ⟨x, y, z⟩⟩ => by simp [p6P, t3P, PyData.depth, PyData.depthAll]

structure Kyk (κ : Type) (f : κ → D) (key : κ → NestedKey) : Prop where
  nk : ∀ k, nkey (f k) = some (key k)
  inj : ∀ k l, key k = key l → k = l
  dp : ∀ k, (key k).depth ≤ 8
  tp : ∀ k, isTupD (f k) = true
section
variable {κ : Type} [DecidableEq κ] {f : κ → D} {key : κ → NestedKey} (Y : Kyk κ f key)
def dcK (f : κ → D) (kvs : List (κ × D)) : List (D × D) := kvs.map fun p => (f p.1, p.2)
def kGet (kvs : List (κ × D)) (k : κ) : Option D := (kvs.find? fun p => decide (p.1 = k)).map (·.2)
def kPut (kvs : List (κ × D)) (k : κ) (v : D) : List (κ × D) := if (kGet kvs k).isSome then kvs.map fun p => if p.1 = k then (p.1, v) else p else kvs ++ [(k, v)]
include Y
theorem Kyk.of (k : κ) : keyOf (f k) = some (key k) := by
  unfold keyOf
  rw [if_pos (Y.tp k), Y.nk]
  dsimp only
  rw [if_pos (Y.dp k)]
theorem Kyk.get (kvs : List (κ × D)) (k : κ) : dGet (dcK f kvs) (key k) = kGet kvs k := by
  unfold dGet dcK kGet
  induction kvs with
  | nil => rfl
  | cons p kvs ih =>
    rw [List.map_cons, List.find?_cons, List.find?_cons]
    by_cases h : p.1 = k
    · have e1 : decide (nkey (f p.1) = some (key k)) = true := decide_eq_true (by rw [h]; exact Y.nk k)
      have e2 : decide (p.1 = k) = true := decide_eq_true h
      simp only [e1, e2, Option.map_some]
    · have e1 : decide (nkey (f p.1) = some (key k)) = false := decide_eq_false (by rw [Y.nk]; exact fun e => h (Y.inj _ _ (Option.some.inj e)))
      have e2 : decide (p.1 = k) = false := decide_eq_false h
      simp only [e1, e2]
      exact ih
theorem Kyk.put (kvs : List (κ × D)) (k : κ) (v : D) : dPut (dcK f kvs) (key k) (f k) v = dcK f (kPut kvs k v) := by
  unfold dPut kPut
  rw [Y.get]
  split
  · unfold dcK
    rw [List.map_map, List.map_map]
    apply List.map_congr_left
    intro p _
    simp only [Function.comp]
    by_cases h : p.1 = k
    · rw [if_pos h, if_pos (by rw [h]; exact Y.nk k)]
    · rw [if_neg h, if_neg (by rw [Y.nk]; exact fun e => h (Y.inj _ _ (Option.some.inj e)))]
  · simp [dcK]
theorem Kyk.gIn {n : Nat} {kvs : List (κ × D)} {M : Hs} {b : Bool → Bool} {k : κ} (h : M[n]? = some (.dct (dcK f kvs))) : gInA b (f k) (.ref n) M = some (.bl (b (kGet kvs k).isSome), M) := by
  have e : hDct M n = some (dcK f kvs) := by unfold hDct; rw [h]
  unfold gInA
  dsimp only
  rw [e]
  dsimp only
  rw [Y.of]
  dsimp only
  rw [Y.get]
theorem Kyk.gIx {n : Nat} {kvs : List (κ × D)} {M : Hs} {k : κ} {d : D} (h : M[n]? = some (.dct (dcK f kvs))) (hd : kGet kvs k = some d) : gIxA (.ref n) (f k) M = some (d, M) := by
  have e : hDct M n = some (dcK f kvs) := by unfold hDct; rw [h]
  unfold gIxA
  dsimp only
  rw [e]
  dsimp only
  rw [Y.of]
  dsimp only
  rw [Y.get, hd]
theorem Kyk.gPut {n : Nat} {kvs : List (κ × D)} {M : Hs} {k : κ} {v : D} (h : M[n]? = some (.dct (dcK f kvs))) (hl : kvs.length < sizeLine) : gPutA (.ref n) (f k) v M = some (M.set n (.dct (dcK f (kPut kvs k v)))) := by
  have e : hDct M n = some (dcK f kvs) := by unfold hDct; rw [h]
  unfold gPutA
  dsimp only
  rw [e]
  dsimp only
  rw [Y.of]
  dsimp only
  rw [if_pos (by unfold dcK; rw [List.length_map]; exact hl), Y.put]
end
section
variable {κ : Type} [DecidableEq κ]
theorem kGet_some {kvs : List (κ × D)} {k : κ} : (kGet kvs k).isSome = decide (k ∈ kvs.map (·.1)) := by
  unfold kGet
  induction kvs with
  | nil => rfl
  | cons p kvs ih =>
    rw [List.find?_cons]
    by_cases h : p.1 = k
    · simp [h]
    · have h2 : k ≠ p.1 := Ne.symm h
      simp only [decide_eq_false h]
      rw [ih]
      simp [h2]
theorem kGet_mem {kvs : List (κ × D)} (nd : (kvs.map (·.1)).Nodup) {k : κ} {d : D} (h : (k, d) ∈ kvs) : kGet kvs k = some d := by
  unfold kGet
  induction kvs with
  | nil => cases h
  | cons p kvs ih =>
    rw [List.map_cons, List.nodup_cons] at nd
    rw [List.find?_cons]
    rcases List.mem_cons.mp h with rfl | h
    · simp
    · have : p.1 ≠ k := fun e => nd.1 (by rw [e]; exact List.mem_map.mpr ⟨_, h, rfl⟩)
      simp only [decide_eq_false this]
      exact ih nd.2 h
theorem kPut_new {kvs : List (κ × D)} {k : κ} {v : D} (h : k ∉ kvs.map (·.1)) : kPut kvs k v = kvs ++ [(k, v)] := by
  unfold kPut
  rw [kGet_some, decide_eq_false h]
  rfl
/-- a set kept in a dict -/
def stK (xs : List κ) : List (κ × D) := xs.map fun k => (k, .bl true)
theorem stK_fst (xs : List κ) : (stK xs).map (·.1) = xs := by
  unfold stK
  rw [List.map_map]
  simp [Function.comp_def]
theorem stK_len (xs : List κ) : (stK xs).length = xs.length := by unfold stK; simp
def addK (xs : List κ) (k : κ) : List κ := if k ∈ xs then xs else xs ++ [k]
theorem stK_put (xs : List κ) (k : κ) : kPut (stK xs) k (.bl true) = stK (addK xs k) := by
  unfold addK
  by_cases h : k ∈ xs
  · rw [if_pos h]
    unfold kPut
    rw [kGet_some, stK_fst, decide_eq_true h, if_pos rfl]
    unfold stK
    rw [List.map_map]
    apply List.map_congr_left
    intro q _
    simp only [Function.comp]
    split <;> rfl
  · rw [if_neg h, kPut_new (by rw [stK_fst]; exact h)]
    simp [stK]
theorem mem_addK {xs : List κ} {k l : κ} : l ∈ addK xs k ↔ l ∈ xs ∨ l = k := by
  unfold addK
  split
  · rename_i h
    constructor
    · exact .inl
    · rintro (h1 | rfl)
      · exact h1
      · exact h
  · simp
theorem nd_addK {xs : List κ} {k : κ} (h : xs.Nodup) : (addK xs k).Nodup := by
  unfold addK
  split
  · exact h
  · rename_i hp
    rw [List.nodup_append]
    exact ⟨h, by simp, fun a ha b hb e => by simp at hb; subst hb; subst e; exact hp ha⟩
end
def t3K (t : T3) : NestedKey := .tup [.num t.1, .num t.2.1, .num t.2.2]
def p6K (p : P6) : NestedKey := .tup [t3K p.1, t3K p.2]
theorem kyk_p6 : Kyk P6 p6D p6K where
  nk := fun ⟨⟨a, b, c⟩, ⟨x, y, z⟩⟩ => by simp [p6D, tr3, nkey, nkeys, p6K, t3K]
  inj := fun ⟨⟨a, b, c⟩, ⟨x, y, z⟩⟩ ⟨⟨a', b', c'⟩, ⟨x', y', z'⟩⟩ h => by simpa [p6K, t3K] using h
  dp := fun ⟨⟨a, b, c⟩, ⟨x, y, z⟩⟩ => by simp [p6K, t3K, NestedKey.depth, NestedKey.depthAll]
  tp := fun _ => rfl
end Mi
end
section
set_option maxRecDepth 100000
set_option maxHeartbeats 4000000
set_option autoImplicit false
namespace Mi
open PySem

theorem size1 : (1000000 : Nat) < sizeLine := by decide
def OgM (M : Hs) (g : Nat) (many : Int) (cs rs : List Tr3) (ch : Str) (oct : Int) : Prop := M[g]? = some (.slo 0 [some (.int oct), some (.tup (cs.map trD)), some (.int many), some (.str ch), some (.tup (rs.map trD))])
section
variable {M M' : Hs} {n m : Nat}
theorem get_app {o : MO} {l : List MO} (h : M[n]? = some o) : (M ++ l)[n]? = some o := by rw [List.getElem?_append_left (lt_of_get h)]; exact h
theorem sl_at {g : Nat} {fs : List (Option D)} (h : M[g]? = some (.slo 0 fs)) : slAt 0 (.ref g) M = some (g, fs) := by
  unfold slAt
  simp only [h, if_true]
theorem s_ref {xs : List D} (h : M[n]? = some (.lst xs)) : hSeq M (.ref n) = some xs := by simp [hSeq, h]
theorem s_tup (xs : List D) : hSeq M (.tup xs) = some xs := rfl
theorem g_eqI {i j : Int} : gEq (.int i) (.int j) M = some (.bl (decide (i = j)), M) := by
  have := (eqk_int).gEq (M := M) i j
  exact this
theorem g_neI {i j : Int} : gNe (.int i) (.int j) M = some (.bl (!decide (i = j)), M) := (eqk_int).gNe (M := M) i j
theorem g_isN : gIs .non .non M = some (.bl true, M) := rfl
theorem g_isI {i : Int} : gIs (.int i) .non M = some (.bl false, M) := rfl
theorem g_isNotN : gIsNot .non .non M = some (.bl false, M) := rfl
theorem g_isNotI {i : Int} : gIsNot (.int i) .non M = some (.bl true, M) := rfl
theorem is_L {xs : List D} (h : M[n]? = some (.lst xs)) : isLst (.ref n) M = true := by
  have e : hLst M n = some xs := by unfold hLst; rw [h]
  unfold isLst
  dsimp only
  rw [e]
  rfl
theorem g_app {xs : List D} {d : D} (h : M[n]? = some (.lst xs)) (hl : xs.length < sizeLine) : gAppend (.ref n) [d] M = some (.non, M.set n (.lst (xs ++ [d]))) := by
  unfold gAppend
  dsimp only
  rw [hLst_at h]
  dsimp only
  rw [if_pos hl]
theorem g_ext {xs ys : List D} (h : M[n]? = some (.lst xs)) (h2 : M[m]? = some (.lst ys)) (hl : xs.length + ys.length ≤ sizeLine) : gExtend (.ref n) [.ref m] M = some (.non, M.set n (.lst (xs ++ ys))) := by
  unfold gExtend
  dsimp only
  rw [hLst_at h, hLst_at h2]
  dsimp only
  rw [if_pos hl]
theorem g_lenD {xs : List D} (h : M[n]? = some (.lst xs)) : gLen [.ref n] M = some (.int xs.length, M) := by
  unfold gLen
  dsimp only
  rw [s_ref h]
theorem g_lenT {xs : List D} : gLen [.tup xs] M = some (.int xs.length, M) := rfl
theorem g_ixR {xs : List D} {k : Int} {d : D} (h : M[n]? = some (.lst xs)) (h0 : 0 ≤ k) (hd : xs[k.toNat]? = some d) : gIxA (.ref n) (.int k) M = some (d, M) := g_ixL (i := k.toNat) h hd (by omega)
theorem g_ixU {xs : List D} {k : Int} {d : D} (h0 : 0 ≤ k) (hd : xs[k.toNat]? = some d) : gIxA (.tup xs) (.int k) M = some (d, M) := g_ixT (i := k.toNat) hd (by omega)
theorem g_ix0 {a : D} {xs : List D} : gIxA (.tup (a :: xs)) (.int 0) M = some (a, M) := g_ixU (by decide) rfl
theorem g_ix1 {a b : D} {xs : List D} : gIxA (.tup (a :: b :: xs)) (.int 1) M = some (b, M) := g_ixU (by decide) rfl
theorem g_ix2 {a b c : D} {xs : List D} : gIxA (.tup (a :: b :: c :: xs)) (.int 2) M = some (c, M) := g_ixU (by decide) rfl
theorem g_ix5 {a b c d e f : D} {xs : List D} : gIxA (.tup (a :: b :: c :: d :: e :: f :: xs)) (.int 5) M = some (f, M) := g_ixU (by decide) rfl
theorem sz_eq : sizeLine = 16777216 := rfl
theorem g_min {i j : Int} : gMin2 [.int i, .int j] M = some (.int (Ga.mnI i j), M) := rfl
theorem g_mx {i j : Int} : gMax2 [.int i, .int j] M = some (.int (Ga.mxI i j), M) := rfl
theorem g_cat {xs ys : List D} (h : M[m]? = some (.lst xs)) (h2 : M[n]? = some (.lst ys)) (hl : (xs ++ ys).length ≤ sizeLine) : gAdd (.ref m) (.ref n) M = some (.ref M.length, M ++ [.lst (xs ++ ys)]) := by
  unfold gAdd newL
  dsimp only
  rw [h, h2]
  dsimp only
  rw [if_pos hl]
theorem g_tupD {d : D} {xs : List D} (h : hSeq M d = some xs) : gTuple [d] M = some (.tup xs, M) := by
  unfold gTuple
  dsimp only
  rw [h]
theorem g_listT {xs : List D} : gListA [.tup xs] M = some (.ref M.length, M ++ [.lst xs]) := rfl
theorem g_listL {xs : List D} (h : M[n]? = some (.lst xs)) : gListA [.ref n] M = some (.ref M.length, M ++ [.lst xs]) := by
  have e1 : hDct M n = none := by unfold hDct; rw [h]
  unfold gListA
  dsimp only
  rw [e1]
  unfold gList
  dsimp only
  rw [s_ref h]
theorem g_listD {kvs : List (D × D)} (h : M[n]? = some (.dct kvs)) : gListA [.ref n] M = some (.ref M.length, M ++ [.lst (kvs.map (·.1))]) := by
  have e1 : hDct M n = some kvs := by unfold hDct; rw [h]
  unfold gListA
  dsimp only
  rw [e1]
theorem g_popL {xs : List D} {d : D} (h : M[n]? = some (.lst (xs ++ [d]))) : gPop (.ref n) [] M = some (d, M.set n (.lst xs)) := by
  unfold gPop
  dsimp only
  rw [hLst_at h]
  simp
theorem blsOf_map (bs : List Bool) : blsOf (bs.map D.bl) = some bs := by
  induction bs with
  | nil => rfl
  | cons b bs ih => rw [List.map_cons]; unfold blsOf; rw [ih]
theorem g_anyL {bs : List Bool} (h : M[n]? = some (.lst (bs.map D.bl))) : gAny [.ref n] M = some (.bl (bs.any id), M) := by
  unfold gAny gBools
  dsimp only
  rw [s_ref h]
  dsimp only
  rw [blsOf_map]
theorem intsOf_map (is : List Int) : intsOf (is.map D.int) = some is := by
  induction is with
  | nil => rfl
  | cons b bs ih => rw [List.map_cons]; unfold intsOf; rw [ih]
theorem t3s_map (ts : List T3) : t3s (ts.map tr3) = some ts := by
  induction ts with
  | nil => rfl
  | cons b bs ih =>
    obtain ⟨x, y, z⟩ := b
    rw [List.map_cons]
    show (match t3s (bs.map tr3) with | some ps => some ((x, y, z) :: ps) | none => none) = _
    rw [ih]
theorem p6s_map (ts : List P6) : p6s (ts.map p6D) = some ts := by
  induction ts with
  | nil => rfl
  | cons b bs ih =>
    obtain ⟨⟨x, y, z⟩, u, v, w⟩ := b
    rw [List.map_cons]
    show (match t3of (tr3 (x, y, z)), t3of (tr3 (u, v, w)), p6s (bs.map p6D) with | some x, some y, some ps => some ((x, y) :: ps) | _, _, _ => none) = _
    rw [ih]
    rfl
theorem g_sset3 {ts : List T3} (h : M[n]? = some (.lst (ts.map tr3))) (h1 : ts.all smallT = true) (h2 : (unq ts).length < 63) : gSortSet [.ref n] M = some (.ref M.length, M ++ [.lst ((srtB lt3 (unq ts)).map tr3)]) := by
  unfold gSortSet
  dsimp only
  rw [s_ref h]
  dsimp only
  cases ts with
  | nil => rfl
  | cons t ts =>
    have e : intsOf ((t :: ts).map tr3) = none := rfl
    rw [e]
    dsimp only
    rw [t3s_map]
    dsimp only
    rw [if_pos (by rw [h1, decide_eq_true h2]; rfl)]
theorem g_ssetI {is : List Int} (h : M[n]? = some (.lst (is.map D.int))) (hl : is.length < 63) : gSortSet [.ref n] M = some (.ref M.length, M ++ [.lst ((srtB ltI (unq is)).map D.int)]) := by
  unfold gSortSet
  dsimp only
  rw [s_ref h]
  dsimp only
  rw [intsOf_map]
  dsimp only
  rw [if_pos hl]
theorem g_sorted6 {xs : List P6} (h : M[n]? = some (.dct (dcK p6D (stK xs)))) : gSortedA [.ref n] M = some (.ref M.length, M ++ [.lst ((srtB lt6 xs).map p6D)]) := by
  have e1 : itemsA M (.ref n) = some (xs.map p6D) := by
    have e : hSeq M (.ref n) = none := by simp [hSeq, h]
    have e2 : hDct M n = some (dcK p6D (stK xs)) := by unfold hDct; rw [h]
    unfold itemsA
    rw [e]
    dsimp only
    rw [e2]
    simp [dcK, stK, Function.comp_def]
  unfold gSortedA
  cases xs with
  | nil =>
    have : gSorted [.ref n] M = some (.ref M.length, M ++ [.lst []]) := by
      unfold gSorted
      dsimp only
      rw [e1]
      rfl
    rw [this]
    rfl
  | cons x xs =>
    have : gSorted [.ref n] M = none := by
      unfold gSorted
      dsimp only
      rw [e1]
      rfl
    rw [this]
    dsimp only
    rw [e1]
    dsimp only
    rw [p6s_map]
end
theorem bp_n {i : Nat} {d : D} : bindP (.n i) d = some [(i, d)] := by simp [bindP]
theorem bp_t {ps : List Pt} {ds : List D} : bindP (.t ps) (.tup ds) = bindPs ps ds := by simp [bindP]
theorem bps_n : bindPs [] [] = some [] := by simp [bindPs]
theorem bps_c {p : Pt} {ps : List Pt} {d : D} {ds : List D} {l r : List (Nat × D)} (h1 : bindP p d = some l) (h2 : bindPs ps ds = some r) : bindPs (p :: ps) (d :: ds) = some (l ++ r) := by
  simp only [bindPs]
  rw [h1, h2]
theorem bps_cn {i : Nat} {ps : List Pt} {d : D} {ds : List D} : bindPs (.n i :: ps) (d :: ds) = (bindPs ps ds).map fun r => (i, d) :: r := by
  simp only [bindPs, bp_n]
  cases bindPs ps ds <;> rfl
theorem sa_n {α : Type} {ζ : List (Option α)} : setAll ζ [] = ζ := rfl
theorem sa_c {α : Type} {ζ : List (Option α)} {i : Nat} {d : α} {r : List (Nat × α)} : setAll ζ ((i, d) :: r) = setAll (ζ.set i (some d)) r := rfl
/-- the state as a tuple -/
def stD (s : Ga.St) : D := .tup [.int s.many, .tup (s.links.map p6D), .tup (s.started.map tr3), .tup (s.ending.map tr3), optD s.age, .bl s.done]
end Mi
end
section
set_option maxRecDepth 100000
set_option maxHeartbeats 2000000
set_option autoImplicit false
namespace Mi
open PySem

abbrev XQ := Nat → List D → Hs → Prop
def wR {α : Type} (r : R α) (Q : α → Hs → Prop) (E : XQ) : Prop := match r with
  | .ok a M => Q a M
  | .ex c fs M => E c fs M
  | .no => False
def wT (r : RS) (N : Sl → Hs → Prop) (T : D → Hs → Prop) (E : Nat → List D → Sl → Hs → Prop) : Prop := match r with
  | .nx ζ M => N ζ M
  | .rt d M => T d M
  | .ex c fs ζ M => E c fs ζ M
  | _ => False
section
variable {α β : Type} {Q Q' : α → Hs → Prop} {ζ : Sl} {M : Hs} {N N' : Sl → Hs → Prop} {T T' : D → Hs → Prop} {E E' : XQ} {G G' : Nat → List D → Sl → Hs → Prop}
theorem wR_x {r : R α} (h : wX r Q) : wR r Q E := by
  cases r with
  | ok a M => exact h
  | _ => exact h.elim
theorem wR_mono {r : R α} (h : wR r Q E) (i : ∀ a M, Q a M → Q' a M) (j : ∀ c fs M, E c fs M → E' c fs M) : wR r Q' E' := by
  cases r with
  | ok a M => exact i a M h
  | ex c fs M => exact j c fs M h
  | no => exact h
theorem wR_ok {a : α} : wR (.ok a M) Q E = Q a M := rfl
theorem wR_get {r : R α} (h : wR r Q E) : (∃ a M, r = .ok a M ∧ Q a M) ∨ ∃ c fs M, r = .ex c fs M ∧ E c fs M := by
  cases r with
  | ok a M => exact .inl ⟨a, M, rfl, h⟩
  | ex c fs M => exact .inr ⟨c, fs, M, rfl, h⟩
  | no => exact h.elim
theorem wX_R {r : R α} (h : wR r Q fun _ _ _ => False) : wX r Q := by
  cases r with
  | ok a M => exact h
  | _ => exact h.elim
theorem wR_bind {r : R α} {k : α → Hs → R β} {Q : β → Hs → Prop} : wR (r.bind k) Q E = wR r (fun a M => wR (k a M) Q E) E := by cases r <;> rfl
theorem wT_s {r : RS} (h : wS r N T) : wT r N T G := by
  cases r with
  | nx a M => exact h
  | rt a M => exact h
  | _ => exact h.elim
theorem wT_mono {r : RS} (h : wT r N T G) (i : ∀ a M, N a M → N' a M) (j : ∀ a M, T a M → T' a M) (k : ∀ c fs ζ M, G c fs ζ M → G' c fs ζ M) : wT r N' T' G' := by
  cases r with
  | nx a M => exact i a M h
  | rt a M => exact j a M h
  | ex c fs ζ M => exact k c fs ζ M h
  | _ => exact h
theorem wT_of {r : R α} {k : α → Hs → RS} : wT (RS.of ζ r k) N T G = wR r (fun a M => wT (k a M) N T G) fun c fs M => G c fs ζ M := by cases r <;> rfl
variable {a b : MS} {f g fo fi fv : MX} {t : MT} {i n c k : Nat} {ga : MA} {F : MF}
theorem wT_seq : wT (sSeq a b ζ M) N T G = wT (a ζ M) (fun ζ M => wT (b ζ M) N T G) T G := by
  unfold sSeq
  cases a ζ M <;> rfl
theorem wT_set : wT (sSet i f ζ M) N T G = wR (f ζ M) (fun d M => N (ζ.set i (some d)) M) fun c fs M => G c fs ζ M := wT_of
theorem wT_ret : wT (sRet f ζ M) N T G = wR (f ζ M) T fun c fs M => G c fs ζ M := wT_of
theorem wT_expr : wT (sExpr f ζ M) N T G = wR (f ζ M) (fun _ M => N ζ M) fun c fs M => G c fs ζ M := wT_of
theorem wT_nx : wT (.nx ζ M) N T G = N ζ M := rfl
theorem wT_rt {d : D} : wT (.rt d M) N T G = T d M := rfl
theorem wT_pass : wT (sPass ζ M) N T G = N ζ M := rfl
theorem wT_if : wT (sIf t a b ζ M) N T G = wR (t ζ M) (fun c M => if c = true then wT (a ζ M) N T G else wT (b ζ M) N T G) fun c fs M => G c fs ζ M := by
  unfold sIf
  rw [wT_of]
  congr
  funext c M
  split <;> rfl
theorem wT_raise0 : wT (sRaise0 c ζ M) N T G = G c [] ζ M := rfl
theorem wT_raise : wT (sRaise c n ga ζ M) N T G = wR (ga ζ M) (fun ds M => if ds.length = n then G c ds.reverse ζ M else False) fun c fs M => G c fs ζ M := by
  unfold sRaise
  rw [wT_of]
  congr
  funext ds M
  split <;> rfl
theorem wT_for {s : MY} {p : Pt} : wT (sFor s p a ζ M) N T G = wR (s ζ M) (fun yd M => wT (forN yd.y p a yd.fuel 0 ζ M) N T G) fun c fs M => G c fs ζ M := wT_of
theorem wT_forN {y : Nat → Hs → Option (Option D)} {p : Pt} (I : Nat → Sl → Hs → Prop) (e : Nat) (go : ∀ i ζ M, i < e → I i ζ M → ∃ d l, y i M = some (some d) ∧ bindP p d = some l ∧ wT (a (setAll ζ l) M) (I (i + 1)) T G) (fin : ∀ ζ M, I e ζ M → y e M = some none ∧ N ζ M) :
    ∀ (m i : Nat) (ζ : Sl) (M : Hs), e - i < m → i ≤ e → I i ζ M → wT (forN y p a m i ζ M) N T G
  | 0, _, _, _, h, _, _ => by omega
  | m + 1, i, ζ, M, h, hi, q => by
    unfold forN
    by_cases hie : i = e
    · subst hie
      obtain ⟨h1, h2⟩ := fin ζ M q
      rw [h1]
      exact h2
    · obtain ⟨d, l, h1, h2, h3⟩ := go i ζ M (by omega) q
      rw [h1]
      dsimp only
      rw [h2]
      dsimp only
      cases hr : a (setAll ζ l) M with
      | nx ζ1 M1 => rw [hr] at h3; exact wT_forN I e go fin m (i + 1) ζ1 M1 (by omega) (by omega) h3
      | rt d M1 => rw [hr] at h3; exact h3
      | bk ζ1 M1 => rw [hr] at h3; exact h3.elim
      | ct ζ1 M1 => rw [hr] at h3; exact h3.elim
      | ex c fs ζ1 M1 => rw [hr] at h3; exact h3
      | no => rw [hr] at h3; exact h3.elim
theorem wR_fn {np nl : Nat} {ds : List D} {Q : D → Hs → Prop} : wR (fnS np nl a ds M) Q E = wT (a (ds.map some ++ List.replicate (nl - np) none) M) (fun _ M => Q .non M) Q fun c fs _ M => E c fs M := by
  unfold fnS
  cases a (ds.map some ++ List.replicate (nl - np) none) M <;> rfl
theorem wR_call {Q : D → Hs → Prop} : wR (xCall n F ga ζ M) Q E = wR (ga ζ M) (fun ds M => if ds.length = n then wR (F ds M) Q E else False) E := by
  unfold xCall
  rw [wR_bind]
  congr
  funext ds M
  split <;> rfl
theorem wR_make {o : MO} {Q : D → Hs → Prop} : wR (xMake o n F ga ζ M) Q E = wR (ga ζ M) (fun ds M1 => if ds.length + 1 = n then wR (F (.ref M1.length :: ds) (M1 ++ [o])) (fun v M2 => match v with
  | .non => Q (.ref M1.length) M2
  | _ => False) E else False) E := by
  unfold xMake
  rw [wR_bind]
  congr
  funext ds M1
  split
  · rw [wR_bind]
    congr
    funext v M2
    cases v <;> rfl
  · rfl
theorem wR_met {Q : D → Hs → Prop} : wR (xMet c n F fo ga ζ M) Q E = wR (fo ζ M) (fun x M1 => match slAt c x M1 with
  | some _ => wR (ga ζ M1) (fun ds M2 => if ds.length + 1 = n then wR (F (x :: ds) M2) Q E else False) E
  | none => False) E := by
  unfold xMet
  rw [wR_bind]
  congr
  funext x M1
  cases slAt c x M1 with
  | none => rfl
  | some q =>
    dsimp only
    rw [wR_bind]
    congr
    funext ds M2
    split <;> rfl
theorem wX_met {Q : D → Hs → Prop} : wX (xMet c n F fo ga ζ M) Q = wX (fo ζ M) (fun x M1 => match slAt c x M1 with
  | some _ => wX (ga ζ M1) (fun ds M2 => if ds.length + 1 = n then wX (F (x :: ds) M2) Q else False)
  | none => False) := by
  unfold xMet
  rw [wX_bind]
  congr
  funext x M1
  cases slAt c x M1 with
  | none => rfl
  | some q =>
    dsimp only
    rw [wX_bind]
    congr
    funext ds M2
    split <;> rfl
theorem wO_okR {r : R α} : wO (okR r) Q = wX r Q := by cases r <;> rfl
theorem wX_prp {Q : D → Hs → Prop} : wX (xPrp c F fo ζ M) Q = wX (fo ζ M) fun x M1 => match slAt c x M1 with
  | some _ => wX (F [x] M1) Q
  | none => False := by
  unfold xPrp
  rw [wX_bind]
  congr
  funext x M1
  cases slAt c x M1 with
  | none => rfl
  | some q =>
    dsimp only
    rw [wX_of, wO_okR]
theorem wX_isC {Q : D → Hs → Prop} : wX (xIsC c f ζ M) Q = wX (f ζ M) fun x M1 => if (slAt c x M1).isSome = true then Q (.bl true) M1 else if isLs x M1 = true then Q (.bl false) M1 else False := by
  unfold xIsC
  rw [wX_bind]
  congr
  funext x M1
  split
  · rfl
  · split <;> rfl
theorem wT_wX {r : R α} {k : α → Hs → RS} (h : wX r fun a M => wT (k a M) N T G) : wT (RS.of ζ r k) N T G := by
  rw [wT_of]
  exact wR_x h
end
theorem sTry_at {nm : Nat → List Str} {b : MS} {l : List CL} {ζ ζ' : Sl} {M M' : Hs} {c : Nat} {fs : List D} {r : RS} (hb : b ζ M = .ex c fs ζ' M') (hr : tryR nm l c fs ζ' M' = r) : sTry nm b l ζ M = r := by
  unfold sTry
  rw [hb]
  exact hr
theorem tryR_yes {nm : Nat → List Str} {h : CL} {l : List CL} {ζ : Sl} {M : Hs} {c : Nat} {fs : List D} {r : RS} (hm : h.ma c = some true) (hs : ∀ a d, suR nm h c fs ζ M a d = r) : tryR nm (h :: l) c fs ζ M = r := by
  simp only [tryR]
  rw [hm]
  exact uni_eq hs
theorem tryR_no {nm : Nat → List Str} {h : CL} {l : List CL} {ζ : Sl} {M : Hs} {c : Nat} {fs : List D} {r : RS} (hm : h.ma c = some false) (hs : tryR nm l c fs ζ M = r) : tryR nm (h :: l) c fs ζ M = r := by
  simp only [tryR]
  rw [hm]
  exact hs
theorem wT_try {nm : Nat → List Str} {b : MS} {l : List CL} {ζ : Sl} {M : Hs} {N : Sl → Hs → Prop} {T : D → Hs → Prop} {G : Nat → List D → Sl → Hs → Prop} (h : wT (b ζ M) N T fun c fs ζ' M' => wT (tryR nm l c fs ζ' M') N T G) : wT (sTry nm b l ζ M) N T G := by
  unfold sTry
  cases hb : b ζ M with
  | nx ζ' M' => rw [hb] at h; exact h
  | rt d M' => rw [hb] at h; exact h
  | ex c fs ζ' M' => rw [hb] at h; exact h
  | bk ζ' M' => rw [hb] at h; exact h.elim
  | ct ζ' M' => rw [hb] at h; exact h.elim
  | no => rw [hb] at h; exact h.elim
end Mi
end
section
set_option maxRecDepth 1000000
set_option maxHeartbeats 4000000
set_option autoImplicit false
namespace Wk
open PySem PySem.Spec PyProof.Rows L2 Mi
def top (i : Nat) : Stmt := PySem.Challenge.pw_couplerreach_k06_whole_silent_pipes.main.body.getD i (.Pass ⟨0, 0, 0, 0⟩)
def inCls (st : Stmt) (j : Nat) : Stmt := match st with
  | .ClassDef (body := b) .. => b.getD j (.Pass ⟨0, 0, 0, 0⟩)
  | _ => .Pass ⟨0, 0, 0, 0⟩
def clsN : List Str := ["Organ", "Console", "Line", "OrganError", "InvalidManuals", "InvalidCoupler", "InvalidStop", "InvalidChain", "InvalidOctave", "InvalidTop", "InvalidKey", "InvalidPipe", "InvalidRank", "InvalidManual", "NotComparable", "InvalidMove", "UnknownKnob", "UnknownIndex", "InvalidText"]
def cN (n : Nat) : List Str := ([[], [], [], [], [], ["index"], ["index"], [], [], [], [], [], [], [], [], [], [], [], []] : List (List Str)).getD n []
def GmK (K : PySem.W.Frag) : Gm := ⟨fun n => He.ga K (clsN.getD n ""), cN⟩
def mt_InvalidRank (n : Nat) : Option Bool := ([none, none, none, none, some false, some false, some false, some false, some false, none, none, none, some true, none, none, none, none, none, none] : List (Option Bool)).getD n none
/-- _law_mix: _law_script, _law_seed, _law_state, _law_cell -/
def f__law_mix : MF := fnS 2 4 (sSeq (sSet 2 (xVar 1))
  (sSeq (sFor (ySeq (xVar 0)) (.n 3) (sSet 2 (x2 gMod (xB gInt (aCons (x2 gAdd (x2 gAdd (x2 gMulA (xVar 2) (xC (.int 48271))) (x2 gMod (xB gInt (aCons (xVar 3) (aNil))) (xC (.int 2147483629)))) (xC (.int 1))) (aNil))) (xC (.int 2147483647)))))
  (sRet (xLst (aCons (xVar 2) (aCons (xB gListA (aCons (xVar 0) (aNil))) (aCons (xC (.int 0)) (aCons (xC (.int 14)) (aNil)))))))))
/-- _law_next: _law_h, _law_bound, _law_cell -/
def f__law_next : MF := fnS 2 3 (sSeq (sSet 2 (x2 gIxA (x2 gAdd (x2 gIxA (xVar 0) (xC (.int 1))) (xLst (aCons (xC (.int 0)) (aNil)))) (x2 gMod (xB gInt (aCons (x2 gIxA (xVar 0) (xC (.int 2))) (aNil))) (xB gMax2 (aCons (xC (.int 1)) (aCons (xB gLen (aCons (x2 gIxA (xVar 0) (xC (.int 1))) (aNil))) (aNil)))))))
  (sSeq (sIf (tB1 (x2 gGe (xVar 2) (x2 gPow (xC (.int 10)) (xC (.int 18))))) (sSeq (sPut gPutA (x2 gIxA (xVar 0) (xC (.int 1))) (x2 gMod (xB gInt (aCons (x2 gIxA (xVar 0) (xC (.int 2))) (aNil))) (xB gLen (aCons (x2 gIxA (xVar 0) (xC (.int 1))) (aNil)))) (x2 gDiv (xVar 2) (xVar 1)))
  (sRet (x2 gMod (xB gInt (aCons (xVar 2) (aNil))) (xVar 1)))) (sPass))
  (sSeq (sPut gPutA (xVar 0) (xC (.int 0)) (x2 gMod (xB gInt (aCons (x2 gAdd (x2 gAdd (x2 gMulA (x2 gIxA (xVar 0) (xC (.int 0))) (xC (.int 48271))) (x2 gMulA (xVar 2) (xC (.int 69621)))) (xC (.int 11))) (aNil))) (xC (.int 2147483647))))
  (sSeq (sPut gPutA (xVar 0) (xC (.int 2)) (x2 gAdd (x2 gIxA (xVar 0) (xC (.int 2))) (xC (.int 1))))
  (sRet (x2 gMod (xB gInt (aCons (x2 gDiv (x2 gIxA (xVar 0) (xC (.int 0))) (xC (.int 7))) (aNil))) (xVar 1)))))))
/-- _law_some: _law_h, _law_things, _law_many, _law_left, _law_found, _law_k -/
def f__law_some : MF := fnS 3 6 (sSeq (sSet 3 (xB gListA (aCons (xVar 1) (aNil))))
  (sSeq (sSet 4 (xLst (aNil)))
  (sSeq (sFor (yRg1 (xVar 2)) (.n 5) (sIf (tB1 (x2 gNe (xVar 3) (xLst (aNil)))) (sExpr (xMeth isLst gAppend (xVar 4) (aCons (xMeth isLst gPopAt (xVar 3) (aCons (xCall 2 f__law_next (aCons (xVar 0) (aCons (xB gLen (aCons (xVar 3) (aNil))) (aNil)))) (aNil))) (aNil)))) (sPass)))
  (sRet (xB gTuple (aCons (xVar 4) (aNil)))))))
/-- _law_couplers: _law_many, _law_found, _law_first, _law_second, _law_shift -/
def f__law_couplers : MF := fnS 1 5 (sSeq (sSet 1 (xLst (aNil)))
  (sSeq (sFor (yRg1 (xVar 0)) (.n 2) (sFor (yRg1 (xVar 0)) (.n 3) (sSet 1 (x2 gAdd (xVar 1) (xLc (yRg2 (xNeg (xC (.int 2))) (xC (.int 3))) [4] (.n 4) (tOr2 (tB1 (x2 gNe (xVar 4) (xC (.int 0)))) (tB1 (x2 gNe (xVar 2) (xVar 3)))) (xTup (aCons (xVar 2) (aCons (xVar 3) (aCons (xVar 4) (aNil))))))))))
  (sRet (xVar 1))))
/-- _law_stops: _law_many, _law_ranks, _law_found, _law_manual, _law_rank, _law_shift -/
def f__law_stops : MF := fnS 2 6 (sSeq (sSet 2 (xLst (aNil)))
  (sSeq (sFor (yRg1 (xVar 0)) (.n 3) (sFor (yRg1 (xVar 1)) (.n 4) (sSet 2 (x2 gAdd (xVar 2) (xLc (yRg2 (xNeg (xC (.int 2))) (xC (.int 3))) [5] (.n 5) (tTrue) (xTup (aCons (xVar 3) (aCons (xVar 4) (aCons (xVar 5) (aNil))))))))))
  (sRet (xVar 2))))
/-- _law_organ: _law_h, _law_links, _law_stops_here, _law_ranks, _law_many, _law_chain, _law_octave, _law_couplers_here -/
def f__law_organ : MF := fnS 4 8 (sSeq (sSet 4 (x2 gAdd (xC (.int 1)) (xB gInt (aCons (x2 gGt (xCall 2 f__law_next (aCons (xVar 0) (aCons (xC (.int 3)) (aNil)))) (xC (.int 0))) (aNil)))))
  (sSeq (sSet 5 (x2 gIxA (xLst (aCons (xC (.str "all")) (aCons (xC (.str "all")) (aCons (xC (.str "pressed")) (aNil))))) (xCall 2 f__law_next (aCons (xVar 0) (aCons (xC (.int 3)) (aNil))))))
  (sSeq (sSet 6 (x2 gIxA (xLst (aCons (xC (.int 0)) (aCons (xC (.int 0)) (aCons (xC (.int 2)) (aCons (xC (.int 3)) (aNil)))))) (xCall 2 f__law_next (aCons (xVar 0) (aCons (xC (.int 4)) (aNil))))))
  (sSeq (sSet 7 (xCall 3 f__law_some (aCons (xVar 0) (aCons (xCall 1 f__law_couplers (aCons (xVar 4) (aNil))) (aCons (xCall 2 f__law_next (aCons (xVar 0) (aCons (x2 gAdd (xVar 1) (xC (.int 1))) (aNil)))) (aNil))))))
  (sRet (xLst (aCons (xVar 4) (aCons (xVar 7) (aCons (xCall 3 f__law_some (aCons (xVar 0) (aCons (xCall 2 f__law_stops (aCons (xVar 4) (aCons (xVar 3) (aNil)))) (aCons (x2 gAdd (xC (.int 1)) (xCall 2 f__law_next (aCons (xVar 0) (aCons (xVar 2) (aNil))))) (aNil))))) (aCons (xVar 5) (aCons (xVar 6) (aNil))))))))))))
/-- is_integer: value, least, most -/
def f_is_integer : MF := fnS 3 3 (sRet (xAnd (xIs "int" (xVar 0)) (xAnd (xNot (xIs "bool" (xVar 0))) (x3 gLe gLe (xVar 1) (xVar 0) (xVar 2)))))
/-- is_coupler: value, many, own -/
def f_is_coupler : MF := fnS 2 3 (sSeq (sIf (tOr2 (tNot1 (tB1 (xIs "tuple" (xVar 0)))) (tOr2 (tB1 (x2 gNe (xB gLen (aCons (xVar 0) (aNil))) (xC (.int 3)))) (tNot1 (tB1 (xB gAll (aCons (xLc (ySeq (xCut (xVar 0) (oNone) (oSome (xC (.int 2))))) [2] (.n 2) (tTrue) (xCall 3 f_is_integer (aCons (xVar 2) (aCons (xC (.int 0)) (aCons (x2 gSub (xVar 1) (xC (.int 1))) (aNil)))))) (aNil))))))) (sRet (xC (.bl false))) (sPass))
  (sRet (xAnd (xCall 3 f_is_integer (aCons (x2 gIxA (xVar 0) (xC (.int 2))) (aCons (xNeg (xC (.int 2))) (aCons (xC (.int 2)) (aNil))))) (xOr (x2 gNe (x2 gIxA (xVar 0) (xC (.int 0))) (x2 gIxA (xVar 0) (xC (.int 1)))) (x2 gNe (x2 gIxA (xVar 0) (xC (.int 2))) (xC (.int 0)))))))
/-- look_at_couplers: value, many, index, one -/
def f_look_at_couplers : MF := fnS 2 4 (sSeq (sIf (tOr2 (tNot1 (tB1 (xIs "tuple" (xVar 0)))) (tB1 (x2 gGt (xB gLen (aCons (xVar 0) (aNil))) (xC (.int 5))))) (sRaise 5 1 (aCons (xC .non) (aNil))) (sPass))
  (sFor (yEnum (xVar 0)) (.t [.n 2, .n 3]) (sIf (tOr2 (tNot1 (tB1 (xCall 2 f_is_coupler (aCons (xVar 3) (aCons (xVar 1) (aNil)))))) (tB1 (x2 (gInA id) (xVar 3) (xCut (xVar 0) (oNone) (oSome (xVar 2)))))) (sRaise 5 1 (aCons (xVar 2) (aNil))) (sPass))))
/-- is_stop: value, many -/
def f_is_stop : MF := fnS 2 2 (sSeq (sIf (tOr2 (tNot1 (tB1 (xIs "tuple" (xVar 0)))) (tOr2 (tB1 (x2 gNe (xB gLen (aCons (xVar 0) (aNil))) (xC (.int 3)))) (tNot1 (tB1 (xCall 3 f_is_integer (aCons (x2 gIxA (xVar 0) (xC (.int 0))) (aCons (xC (.int 0)) (aCons (x2 gSub (xVar 1) (xC (.int 1))) (aNil))))))))) (sRet (xC (.bl false))) (sPass))
  (sRet (xAnd (xCall 3 f_is_integer (aCons (x2 gIxA (xVar 0) (xC (.int 1))) (aCons (xC (.int 0)) (aCons (xC (.int 2)) (aNil))))) (xCall 3 f_is_integer (aCons (x2 gIxA (xVar 0) (xC (.int 2))) (aCons (xNeg (xC (.int 2))) (aCons (xC (.int 2)) (aNil))))))))
/-- look_at_stops: value, many, index, one -/
def f_look_at_stops : MF := fnS 2 4 (sSeq (sIf (tOr2 (tNot1 (tB1 (xIs "tuple" (xVar 0)))) (tNot1 (tB1 (x3 gLe gLe (xC (.int 1)) (xB gLen (aCons (xVar 0) (aNil))) (xC (.int 4)))))) (sRaise 6 1 (aCons (xC .non) (aNil))) (sPass))
  (sFor (yEnum (xVar 0)) (.t [.n 2, .n 3]) (sIf (tOr2 (tNot1 (tB1 (xCall 2 f_is_stop (aCons (xVar 3) (aCons (xVar 1) (aNil)))))) (tB1 (x2 (gInA id) (xVar 3) (xCut (xVar 0) (oNone) (oSome (xVar 2)))))) (sRaise 6 1 (aCons (xVar 2) (aNil))) (sPass))))
/-- Organ.__init__: self, manuals, couplers, stops, chain, octave -/
def f_Organ_init : MF := fnS 6 6 (sSeq (sIf (tNot1 (tB1 (xCall 3 f_is_integer (aCons (xVar 1) (aCons (xC (.int 1)) (aCons (xC (.int 2)) (aNil))))))) (sRaise0 4) (sPass))
  (sSeq (sExpr (xCall 2 f_look_at_couplers (aCons (xVar 2) (aCons (xVar 1) (aNil)))))
  (sSeq (sExpr (xCall 2 f_look_at_stops (aCons (xVar 3) (aCons (xVar 1) (aNil)))))
  (sSeq (sIf (tOr2 (tNot1 (tB1 (xIs "str" (xVar 4)))) (tB1 (x2 (gInA not) (xVar 4) (xC (.tup [(.str "all"), (.str "pressed")]))))) (sRaise0 7) (sPass))
  (sSeq (sIf (tOr2 (tNot1 (tB1 (xCall 3 f_is_integer (aCons (xVar 5) (aCons (xC (.int 0)) (aCons (xC (.int 3)) (aNil))))))) (tB1 (x2 (gInA not) (xVar 5) (xC (.tup [(.int 0), (.int 2), (.int 3)]))))) (sRaise0 8) (sPass))
  (sSeq (sFld 0 2 (xVar 0) (xVar 1))
  (sSeq (sFld 0 1 (xVar 0) (xVar 2))
  (sSeq (sFld 0 4 (xVar 0) (xVar 3))
  (sSeq (sFld 0 3 (xVar 0) (xVar 4))
  (sFld 0 0 (xVar 0) (xVar 5)))))))))))
/-- _law_built: _law_t -/
def f__law_built : MF := fnS 1 1 (sRet (xMake (.slo 0 []) 6 f_Organ_init (aCons (x2 gIxA (xVar 0) (xC (.int 0))) (aCons (x2 gIxA (xVar 0) (xC (.int 1))) (aCons (x2 gIxA (xVar 0) (xC (.int 2))) (aCons (x2 gIxA (xVar 0) (xC (.int 3))) (aCons (x2 gIxA (xVar 0) (xC (.int 4))) (aNil))))))))
/-- look_at_rank: rank -/
def f_look_at_rank : MF := fnS 1 1 (sIf (tNot1 (tB1 (xCall 3 f_is_integer (aCons (xVar 0) (aCons (xC (.int 0)) (aCons (xC (.int 2)) (aNil))))))) (sRaise0 12) (sPass))
/-- first_state:  -/
def f_first_state : MF := fnS 0 0 (sRet (xTup (aCons (xC (.int 0)) (aCons (xTup (aNil)) (aCons (xTup (aNil)) (aCons (xTup (aNil)) (aCons (xC .non) (aCons (xC (.bl false)) (aNil)))))))))
/-- layers_of: organ -/
def f_layers_of : MF := fnS 1 1 (sRet (xIf (tB1 (x2 gEq (xFld 0 3 (xVar 0)) (xC (.str "all")))) (xTup (aCons (xC (.int 0)) (aCons (xC (.int 0)) (aNil)))) (xTup (aCons (xC (.int 0)) (aCons (xC (.int 1)) (aNil))))))
/-- high_pairs: octave, shift, many, found, back, place -/
def f_high_pairs : MF := fnS 3 6 (sSeq (sSet 3 (xLst (aNil)))
  (sSeq (sFor (yRg1 (xB gMin2 (aCons (xVar 2) (aCons (xC (.int 3)) (aNil))))) (.n 4) (sSeq (sSet 5 (x2 gAdd (x2 gSub (xVar 4) (xVar 1)) (xVar 0)))
  (sIf (tAnd2 (tB1 (x2 gGt (xVar 0) (xC (.int 0)))) (tAnd2 (tB1 (x2 gGt (xVar 1) (xVar 4))) (tB1 (x2 gLt (xVar 5) (xVar 2))))) (sExpr (xMeth isLst gAppend (xVar 3) (aCons (xTup (aCons (xVar 4) (aCons (xVar 5) (aNil)))) (aNil)))) (sPass))))
  (sRet (xVar 3))))
/-- with_layers: organ, some, back, manual, layer -/
def f_with_layers : MF := fnS 2 5 (sRet (xLc2 (ySeq (xVar 1)) [2, 3, 4] (.t [.n 2, .n 3]) (tTrue) (yRg1 (x2 gAdd (x2 gIxA (xCall 1 f_layers_of (aCons (xVar 0) (aNil))) (xC (.int 1))) (xC (.int 1)))) (.n 4) [4] (tTrue) (xTup (aCons (xVar 2) (aCons (xVar 3) (aCons (xVar 4) (aNil)))))))
/-- closed: pairs, found, waiting, first, middle, start, goal, pair -/
def f_closed : MF := fnS 1 8 (sSeq (sSet 1 (xDc (ySeq (xVar 0)) [7] (.n 7) (tTrue) (xVar 7) (xC (.bl true))))
  (sSeq (sSet 2 (xB gListA (aCons (xVar 1) (aNil))))
  (sSeq (sWhile (tB1 (x2 gNe (xVar 2) (xLst (aNil)))) (sSeq (sAsg (xMeth isLst gPop (xVar 2) aNil) (.t [.n 3, .n 4]))
  (sFor (ySeq (xB gListA (aCons (xVar 1) (aNil)))) (.t [.n 5, .n 6]) (sSeq (sIf (tAnd2 (tB1 (x2 gEq (xVar 5) (xVar 4))) (tB1 (x2 (gInA not) (xTup (aCons (xVar 3) (aCons (xVar 6) (aNil)))) (xVar 1)))) (sSeq (sPut gPutA (xVar 1) (xTup (aCons (xVar 3) (aCons (xVar 6) (aNil)))) (xC (.bl true)))
  (sExpr (xMeth isLst gAppend (xVar 2) (aCons (xTup (aCons (xVar 3) (aCons (xVar 6) (aNil)))) (aNil))))) (sPass))
  (sIf (tAnd2 (tB1 (x2 gEq (xVar 6) (xVar 3))) (tB1 (x2 (gInA not) (xTup (aCons (xVar 5) (aCons (xVar 4) (aNil)))) (xVar 1)))) (sSeq (sPut gPutA (xVar 1) (xTup (aCons (xVar 5) (aCons (xVar 4) (aNil)))) (xC (.bl true)))
  (sExpr (xMeth isLst gAppend (xVar 2) (aCons (xTup (aCons (xVar 5) (aCons (xVar 4) (aNil)))) (aNil))))) (sPass))))))
  (sRet (xB gSortedA (aCons (xVar 1) (aNil)))))))
/-- settled: many, links, started, ending, age, is_done, reached, ends, near, begun, start, goal, spot -/
def f_settled : MF := fnS 6 13 (sSeq (sSet 1 (xCall 1 f_closed (aCons (xVar 1) (aNil))))
  (sSeq (sSet 6 (xB gSortSet (aCons (xLst (aStar (xVar 2) (aStar (xLc (ySeq (xVar 1)) [10, 11] (.t [.n 10, .n 11]) (tB1 (x2 (gInA id) (xVar 10) (xVar 2))) (xVar 11)) (aNil)))) aNil)))
  (sSeq (sSet 7 (xB gSortSet (aCons (xLst (aStar (xVar 3) (aStar (xLc (ySeq (xVar 1)) [10, 11] (.t [.n 10, .n 11]) (tB1 (x2 (gInA id) (xVar 11) (xVar 3))) (xVar 10)) (aNil)))) aNil)))
  (sSeq (sSet 5 (xOr (xVar 5) (xB gAny (aCons (xLc (ySeq (xVar 6)) [12] (.n 12) (tTrue) (x2 (gInA id) (xVar 12) (xVar 7))) (aNil)))))
  (sSeq (sSet 8 (xB gTuple (aCons (xLc (ySeq (xVar 1)) [10, 11] (.t [.n 10, .n 11]) (tAnd2 (tB1 (x2 gLt (x2 gIxA (xVar 10) (xC (.int 0))) (xC (.int 3)))) (tB1 (x2 gLt (x2 gIxA (xVar 11) (xC (.int 0))) (xC (.int 3))))) (xTup (aCons (xVar 10) (aCons (xVar 11) (aNil))))) (aNil))))
  (sSeq (sIf (tB1 (xVar 5)) (sRet (xC (.tup [(.int 3), (.tup []), (.tup []), (.tup []), (.int 3), (.bl true)]))) (sPass))
  (sSeq (sSet 9 (xB gTuple (aCons (xLc (ySeq (xVar 6)) [12] (.n 12) (tB1 (x2 gLt (x2 gIxA (xVar 12) (xC (.int 0))) (xC (.int 3)))) (xVar 12)) (aNil))))
  (sRet (xTup (aCons (xVar 0) (aCons (xVar 8) (aCons (xVar 9) (aCons (xB gTuple (aCons (xLc (ySeq (xVar 7)) [12] (.n 12) (tB1 (x2 gLt (x2 gIxA (xVar 12) (xC (.int 0))) (xC (.int 3)))) (xVar 12)) (aNil))) (aCons (xVar 4) (aCons (xC (.bl false)) (aNil))))))))))))))))
/-- is_sounding: organ, state, rank, many, links, started, ending, age, is_done, first, second, pairs, start, goal, shift, some, ends, manual, own, back, place -/
def f_is_sounding : MF := fnS 3 21 (sSeq (sAsg (xVar 1) (.t [.n 3, .n 4, .n 5, .n 6, .n 7, .n 8]))
  (sSeq (sAsg (xCall 1 f_layers_of (aCons (xVar 0) (aNil))) (.t [.n 9, .n 10]))
  (sSeq (sSet 11 (xB gListA (aCons (xVar 4) (aNil))))
  (sSeq (sFor (ySeq (xFld 0 1 (xVar 0))) (.t [.n 12, .n 13, .n 14]) (sSeq (sSet 15 (xCall 3 f_high_pairs (aCons (xFld 0 0 (xVar 0)) (aCons (xVar 14) (aCons (xVar 3) (aNil))))))
  (sExpr (xMeth isLst gExtend (xVar 11) (aCons (xLc (ySeq (xVar 15)) [19, 20] (.t [.n 19, .n 20]) (tTrue) (xTup (aCons (xTup (aCons (xVar 19) (aCons (xVar 12) (aCons (xVar 9) (aNil))))) (aCons (xTup (aCons (xVar 20) (aCons (xVar 13) (aCons (xVar 10) (aNil))))) (aNil))))) (aNil))))))
  (sSeq (sSet 16 (xB gListA (aCons (xVar 6) (aNil))))
  (sSeq (sFor (ySeq (xFld 0 4 (xVar 0))) (.t [.n 17, .n 18, .n 14]) (sIf (tB1 (x2 gEq (xVar 18) (xVar 2))) (sSeq (sSet 15 (xCall 3 f_high_pairs (aCons (xFld 0 0 (xVar 0)) (aCons (xVar 14) (aCons (xVar 3) (aNil))))))
  (sExpr (xMeth isLst gExtend (xVar 16) (aCons (xCall 2 f_with_layers (aCons (xVar 0) (aCons (xLc (ySeq (xVar 15)) [19, 20] (.t [.n 19, .n 20]) (tB1 (x2 gEq (xVar 20) (xVar 7))) (xTup (aCons (xVar 19) (aCons (xVar 17) (aNil))))) (aNil)))) (aNil))))) (sPass)))
  (sRet (x2 gIxA (xCall 6 f_settled (aCons (xVar 3) (aCons (xVar 11) (aCons (xVar 5) (aCons (xVar 16) (aCons (xVar 7) (aCons (xVar 8) (aNil)))))))) (xC (.int 5))))))))))
/-- older: spot -/
def f_older : MF := fnS 1 1 (sRet (xTup (aCons (x2 gAdd (x2 gIxA (xVar 0) (xC (.int 0))) (xC (.int 1))) (aCons (x2 gIxA (xVar 0) (xC (.int 1))) (aCons (x2 gIxA (xVar 0) (xC (.int 2))) (aNil))))))
/-- low_pairs: octave, shift, many, found, key, place -/
def f_low_pairs : MF := fnS 3 6 (sSeq (sSet 3 (xLst (aNil)))
  (sSeq (sFor (yRg1 (x2 gAdd (xVar 2) (xC (.int 1)))) (.n 4) (sSeq (sSet 5 (x2 gAdd (x2 gAdd (xVar 4) (xVar 1)) (xVar 0)))
  (sIf (tAnd2 (tB1 (x2 gGt (xVar 0) (xC (.int 0)))) (tAnd2 (tB1 (x2 gLt (x2 gAdd (xVar 4) (xVar 1)) (xC (.int 0)))) (tAnd2 (tB1 (x2 gLe (xVar 5) (xVar 2))) (tB1 (x2 gEq (xB gMax2 (aCons (xVar 4) (aCons (xVar 5) (aNil)))) (xVar 2)))))) (sExpr (xMeth isLst gAppend (xVar 3) (aCons (xTup (aCons (xVar 4) (aCons (xVar 5) (aNil)))) (aNil)))) (sPass))))
  (sRet (xVar 3))))
/-- new_links: organ, many, first, second, found, start, goal, shift, some, key, place -/
def f_new_links : MF := fnS 2 11 (sSeq (sAsg (xCall 1 f_layers_of (aCons (xVar 0) (aNil))) (.t [.n 2, .n 3]))
  (sSeq (sSet 4 (xLst (aNil)))
  (sSeq (sFor (ySeq (xFld 0 1 (xVar 0))) (.t [.n 5, .n 6, .n 7]) (sSeq (sIf (tB1 (x2 gEq (xVar 7) (xC (.int 0)))) (sExpr (xMeth isLst gAppend (xVar 4) (aCons (xTup (aCons (xTup (aCons (xC (.int 0)) (aCons (xVar 5) (aCons (xVar 2) (aNil))))) (aCons (xTup (aCons (xC (.int 0)) (aCons (xVar 6) (aCons (xVar 3) (aNil))))) (aNil)))) (aNil)))) (sIf (tAnd2 (tB1 (x2 gGt (xVar 7) (xC (.int 0)))) (tB1 (x2 gGe (xVar 1) (xVar 7)))) (sExpr (xMeth isLst gAppend (xVar 4) (aCons (xTup (aCons (xTup (aCons (xVar 7) (aCons (xVar 5) (aCons (xVar 2) (aNil))))) (aCons (xTup (aCons (xC (.int 0)) (aCons (xVar 6) (aCons (xVar 3) (aNil))))) (aNil)))) (aNil)))) (sIf (tAnd2 (tB1 (x2 gLt (xVar 7) (xC (.int 0)))) (tB1 (x2 gGe (xVar 1) (xNeg (xVar 7))))) (sExpr (xMeth isLst gAppend (xVar 4) (aCons (xTup (aCons (xTup (aCons (xC (.int 0)) (aCons (xVar 5) (aCons (xVar 2) (aNil))))) (aCons (xTup (aCons (xNeg (xVar 7)) (aCons (xVar 6) (aCons (xVar 3) (aNil))))) (aNil)))) (aNil)))) (sPass))))
  (sIf (tB1 (x2 gLt (xVar 1) (xC (.int 3)))) (sSeq (sSet 8 (xCall 3 f_low_pairs (aCons (xFld 0 0 (xVar 0)) (aCons (xVar 7) (aCons (xVar 1) (aNil))))))
  (sExpr (xMeth isLst gExtend (xVar 4) (aCons (xLc (ySeq (xVar 8)) [9, 10] (.t [.n 9, .n 10]) (tTrue) (xTup (aCons (xTup (aCons (x2 gSub (xVar 1) (xVar 9)) (aCons (xVar 5) (aCons (xVar 2) (aNil))))) (aCons (xTup (aCons (x2 gSub (xVar 1) (xVar 10)) (aCons (xVar 6) (aCons (xVar 3) (aNil))))) (aNil))))) (aNil))))) (sPass))))
  (sRet (xVar 4)))))
/-- new_ends: organ, rank, many, age, found, manual, own, shift, some, key, place -/
def f_new_ends : MF := fnS 4 11 (sSeq (sSet 4 (xLst (aNil)))
  (sSeq (sFor (ySeq (xFld 0 4 (xVar 0))) (.t [.n 5, .n 6, .n 7]) (sIf (tAnd2 (tB1 (x2 gEq (xVar 6) (xVar 1))) (tB1 (x2 gIsNot (xVar 3) (xC .non)))) (sSeq (sIf (tOr2 (tB1 (x2 gEq (xVar 7) (xNeg (xVar 3)))) (tAnd2 (tB1 (x2 gEq (xVar 3) (xC (.int 0)))) (tB1 (x3 gLe gLe (xC (.int 0)) (xVar 7) (xVar 2))))) (sExpr (xMeth isLst gAppend (xVar 4) (aCons (xTup (aCons (xB gMax2 (aCons (xVar 7) (aCons (xC (.int 0)) (aNil)))) (aCons (xVar 5) (aNil)))) (aNil)))) (sPass))
  (sIf (tAnd2 (tB1 (x2 gLt (xVar 2) (xC (.int 3)))) (tB1 (x2 gLe (xVar 3) (xVar 2)))) (sSeq (sSet 8 (xCall 3 f_low_pairs (aCons (xFld 0 0 (xVar 0)) (aCons (xVar 7) (aCons (xVar 2) (aNil))))))
  (sExpr (xMeth isLst gExtend (xVar 4) (aCons (xLc (ySeq (xVar 8)) [9, 10] (.t [.n 9, .n 10]) (tB1 (x2 gEq (xVar 10) (x2 gSub (xVar 2) (xVar 3)))) (xTup (aCons (x2 gSub (xVar 2) (xVar 9)) (aCons (xVar 5) (aNil))))) (aNil))))) (sPass))) (sPass)))
  (sRet (xVar 4))))
/-- step: organ, state, rank, manuals, is_pipe, many, links, started, ending, age, is_done, pairs, begun, ends, start, goal, spot, manual -/
def f_step : MF := fnS 5 18 (sSeq (sAsg (xVar 1) (.t [.n 5, .n 6, .n 7, .n 8, .n 9, .n 10]))
  (sSeq (sSet 9 (xIf (tB1 (xVar 4)) (xC (.int 0)) (xIf (tB1 (x2 gIs (xVar 9) (xC .non))) (xC .non) (xB gMin2 (aCons (x2 gAdd (xVar 9) (xC (.int 1))) (aCons (xC (.int 3)) (aNil)))))))
  (sSeq (sSet 11 (x2 gAdd (xLc (ySeq (xVar 6)) [14, 15] (.t [.n 14, .n 15]) (tTrue) (xTup (aCons (xCall 1 f_older (aCons (xVar 14) (aNil))) (aCons (xCall 1 f_older (aCons (xVar 15) (aNil))) (aNil))))) (xCall 2 f_new_links (aCons (xVar 0) (aCons (xVar 5) (aNil))))))
  (sSeq (sSet 12 (x2 gAdd (xLc (ySeq (xVar 7)) [16] (.n 16) (tTrue) (xCall 1 f_older (aCons (xVar 16) (aNil)))) (xLc (ySeq (xVar 3)) [17] (.n 17) (tTrue) (xTup (aCons (xC (.int 0)) (aCons (xVar 17) (aCons (xC (.int 0)) (aNil))))))))
  (sSeq (sSet 13 (x2 gAdd (xLc (ySeq (xVar 8)) [16] (.n 16) (tTrue) (xCall 1 f_older (aCons (xVar 16) (aNil)))) (xCall 2 f_with_layers (aCons (xVar 0) (aCons (xCall 4 f_new_ends (aCons (xVar 0) (aCons (xVar 2) (aCons (xVar 5) (aCons (xVar 9) (aNil)))))) (aNil))))))
  (sRet (xCall 6 f_settled (aCons (xB gMin2 (aCons (x2 gAdd (xVar 5) (xC (.int 1))) (aCons (xC (.int 3)) (aNil)))) (aCons (xVar 11) (aCons (xVar 12) (aCons (xVar 13) (aCons (xVar 9) (aCons (xVar 10) (aNil))))))))))))))
/-- note: row, state, pipe -/
def f_note : MF := fnS 3 3 (sPut gPutA (xVar 0) (xVar 1) (xIf (tOr2 (tB1 (x2 (gInA not) (xVar 1) (xVar 0))) (tB1 (x2 gIs (xVar 2) (xC .non)))) (xVar 2) (xB gMin2 (aCons (x2 gIxA (xVar 0) (xVar 1)) (aCons (xVar 2) (aNil))))))
/-- silent: organ, rank, every, layer, seen, many, state, pipe, quiet, following, later -/
def f_silent : MF := fnS 2 11 (sSeq (sExpr (xCall 1 f_look_at_rank (aCons (xVar 1) (aNil))))
  (sSeq (sSet 2 (xB gTupRg (aCons (xFld 0 2 (xVar 0)) aNil)))
  (sSeq (sFrz 3 (sSet 3 (xDict1 (xCall 0 f_first_state aNil) (xC .non))))
  (sSeq (sSet 4 (xDict))
  (sSeq (sSet 5 (xC (.int 0)))
  (sSeq (sWhile (tB1 (x2 gNeD (xVar 3) (xDict))) (sSeq (sSet 8 (xLc (yItems (xVar 3)) [6, 7] (.t [.n 6, .n 7]) (tAnd2 (tB1 (x2 gIsNot (xVar 7) (xC .non))) (tNot1 (tB1 (xCall 3 f_is_sounding (aCons (xVar 0) (aCons (xVar 6) (aCons (xVar 1) (aNil)))))))) (xVar 7)))
  (sSeq (sIf (tB1 (x2 gNe (xVar 8) (xLst (aNil)))) (sRet (xTup (aCons (x2 gSub (xVar 5) (xC (.int 1))) (aCons (xB gMinL (aCons (xVar 8) (aNil))) (aNil))))) (sPass))
  (sSeq (sSet 9 (xDict))
  (sSeq (sFrz 9 (sFor (yItems (xVar 3)) (.t [.n 6, .n 7]) (sSeq (sPut gPutA (xVar 4) (xVar 6) (xC (.bl true)))
  (sSeq (sSet 10 (xCall 5 f_step (aCons (xVar 0) (aCons (xVar 6) (aCons (xVar 1) (aCons (xVar 2) (aCons (xC (.bl false)) (aNil))))))))
  (sSeq (sIf (tNot1 (tB1 (x2 gIxA (xVar 10) (xC (.int 5))))) (sExpr (xCall 3 f_note (aCons (xVar 9) (aCons (xVar 10) (aCons (xVar 7) (aNil)))))) (sPass))
  (sIf (tB1 (x2 gIs (xVar 7) (xC .non))) (sSeq (sSet 10 (xCall 5 f_step (aCons (xVar 0) (aCons (xVar 6) (aCons (xVar 1) (aCons (xVar 2) (aCons (xC (.bl true)) (aNil))))))))
  (sIf (tNot1 (tB1 (x2 gIxA (xVar 10) (xC (.int 5))))) (sExpr (xCall 3 f_note (aCons (xVar 9) (aCons (xVar 10) (aCons (xVar 5) (aNil)))))) (sPass))) (sPass)))))))
  (sSeq (sFrz 3 (sSet 3 (xDc (yItems (xVar 9)) [6, 7] (.t [.n 6, .n 7]) (tB1 (x2 (gInA not) (xVar 6) (xVar 4))) (xVar 6) (xVar 7))))
  (sAug 5 (gI (fun _ _ => true) fun i j => .int (i + j)) (xC (.int 1)))))))))
  (sRet (xC .non))))))))
/-- _law_led: _law_t, _law_top, _law_place, _law_shift, _law_found -/
def f__law_led : MF := fnS 4 5 (sSeq (sSet 4 (x2 gAdd (xVar 2) (xVar 3)))
  (sSeq (sIf (tAnd2 (tB1 (x2 gGt (x2 gIxA (xVar 0) (xC (.int 4))) (xC (.int 0)))) (tB1 (x2 gLt (xVar 4) (xC (.int 0))))) (sSet 4 (x2 gAdd (xVar 4) (x2 gIxA (xVar 0) (xC (.int 4))))) (sIf (tAnd2 (tB1 (x2 gGt (x2 gIxA (xVar 0) (xC (.int 4))) (xC (.int 0)))) (tB1 (x2 gGt (xVar 4) (xVar 1)))) (sSet 4 (x2 gSub (xVar 4) (x2 gIxA (xVar 0) (xC (.int 4))))) (sPass)))
  (sRet (xIf (tB1 (x3 gLe gLe (xC (.int 0)) (xVar 4) (xVar 1))) (xVar 4) (xC .non)))))
/-- _law_on: _law_t, _law_top, _law_pressed, _law_known, _law_queue, _law_spot, _law_first, _law_second, _law_shift, _law_key -/
def f__law_on : MF := fnS 3 10 (sSeq (sSet 3 (xDict))
  (sSeq (sSet 4 (xLst (aNil)))
  (sSeq (sFor (ySeq (xVar 2)) (.n 5) (sSeq (sPut gPutA (xVar 3) (xVar 5) (xC (.bl true)))
  (sExpr (xMeth isLst gAppend (xVar 4) (aCons (xVar 5) (aNil))))))
  (sSeq (sWhile (tB1 (x2 gNe (xVar 4) (xLst (aNil)))) (sSeq (sSet 5 (x2 gIxA (xVar 4) (xNeg (xC (.int 1)))))
  (sSeq (sSet 4 (xCut (xVar 4) (oNone) (oSome (xNeg (xC (.int 1))))))
  (sFor (ySeq (x2 gIxA (xVar 0) (xC (.int 1)))) (.t [.n 6, .n 7, .n 8]) (sSeq (sSet 9 (xIf (tB1 (x2 gEq (xVar 6) (x2 gIxA (xVar 5) (xC (.int 0))))) (xCall 4 f__law_led (aCons (xVar 0) (aCons (xVar 1) (aCons (x2 gIxA (xVar 5) (xC (.int 1))) (aCons (xVar 8) (aNil)))))) (xC .non)))
  (sIf (tAnd2 (tB1 (x2 gIsNot (xVar 9) (xC .non))) (tB1 (x2 (gInA not) (xTup (aCons (xVar 7) (aCons (xVar 9) (aNil)))) (xVar 3)))) (sSeq (sPut gPutA (xVar 3) (xTup (aCons (xVar 7) (aCons (xVar 9) (aNil)))) (xC (.bl true)))
  (sIf (tB1 (x2 gEq (x2 gIxA (xVar 0) (xC (.int 3))) (xC (.str "all")))) (sExpr (xMeth isLst gAppend (xVar 4) (aCons (xTup (aCons (xVar 7) (aCons (xVar 9) (aNil)))) (aNil)))) (sPass))) (sPass)))))))
  (sRet (xB gSorted (aCons (xB gListA (aCons (xVar 3) (aNil))) (aNil))))))))
/-- _law_heard: _law_t, _law_top, _law_pressed, _law_found, _law_manual, _law_key, _law_own, _law_rank, _law_shift, _law_pipe -/
def f__law_heard : MF := fnS 3 10 (sSeq (sSet 3 (xDict))
  (sSeq (sFor (ySeq (xCall 3 f__law_on (aCons (xVar 0) (aCons (xVar 1) (aCons (xVar 2) (aNil)))))) (.t [.n 4, .n 5]) (sFor (ySeq (x2 gIxA (xVar 0) (xC (.int 2)))) (.t [.n 6, .n 7, .n 8]) (sSeq (sSet 9 (xIf (tB1 (x2 gEq (xVar 6) (xVar 4))) (xCall 4 f__law_led (aCons (xVar 0) (aCons (xVar 1) (aCons (xVar 5) (aCons (xVar 8) (aNil)))))) (xC .non)))
  (sIf (tB1 (x2 gIsNot (xVar 9) (xC .non))) (sPut gPutA (xVar 3) (xTup (aCons (xVar 7) (aCons (xVar 9) (aNil)))) (xC (.bl true))) (sPass)))))
  (sRet (xB gSorted (aCons (xB gListA (aCons (xVar 3) (aNil))) (aNil))))))
/-- _law_quiet: _law_t, _law_rank, _law_top, _law_every, _law_manual, _law_heard_here, _law_key, _law_pipe -/
def f__law_quiet : MF := fnS 3 8 (sSeq (sSet 3 (xLst (aNil)))
  (sSeq (sFor (yRg1 (x2 gIxA (xVar 0) (xC (.int 0)))) (.n 4) (sSet 3 (x2 gAdd (xVar 3) (xLc (yRg1 (x2 gAdd (xVar 2) (xC (.int 1)))) [6] (.n 6) (tTrue) (xTup (aCons (xVar 4) (aCons (xVar 6) (aNil))))))))
  (sSeq (sSet 5 (xCall 3 f__law_heard (aCons (xVar 0) (aCons (xVar 2) (aCons (xVar 3) (aNil))))))
  (sRet (xLc (yRg1 (x2 gAdd (xVar 2) (xC (.int 1)))) [7] (.n 7) (tB1 (x2 (gInA not) (xTup (aCons (xVar 1) (aCons (xVar 7) (aNil)))) (xVar 5))) (xVar 7))))))
/-- _law_refused: _law_organ_here, _law_rank, _law_told -/
noncomputable def f__law_refused : MF := fnS 2 3 (sSeq (sSet 2 (xC (.bl false)))
  (sSeq (sTry cN (sExpr (xCall 2 f_silent (aCons (xVar 0) (aCons (xVar 1) (aNil))))) [⟨mt_InvalidRank, none, fun a d c fs => sSet 2 (xC (.bl true))⟩])
  (sRet (xVar 2))))
/-- law: _law_script, _law_h, _law_t, _law_organ_here, _law_rank, _law_told, _law_due, _law_top, _law_quiet_here, _law_odd -/
noncomputable def f_law : MF := fnS 1 10 (sSeq (sSet 1 (xCall 2 f__law_mix (aCons (xVar 0) (aCons (xC (.int 6)) (aNil)))))
  (sSeq (sSet 2 (xCall 4 f__law_organ (aCons (xVar 1) (aCons (xC (.int 4)) (aCons (xC (.int 4)) (aCons (xC (.int 3)) (aNil)))))))
  (sSeq (sSet 3 (xCall 1 f__law_built (aCons (xVar 2) (aNil))))
  (sSeq (sFor (yRg1 (xC (.int 3))) (.n 4) (sSeq (sSet 5 (xCall 2 f_silent (aCons (xVar 3) (aCons (xVar 4) (aNil)))))
  (sSeq (sSet 6 (xC .non))
  (sSeq (sFor (yRg1 (xC (.int 10))) (.n 7) (sSeq (sSet 8 (xCall 3 f__law_quiet (aCons (xVar 2) (aCons (xVar 4) (aCons (xVar 7) (aNil))))))
  (sIf (tAnd2 (tB1 (x2 gIs (xVar 6) (xC .non))) (tB1 (x2 gNe (xVar 8) (xLst (aNil))))) (sSet 6 (xTup (aCons (xVar 7) (aCons (x2 gIxA (xVar 8) (xC (.int 0))) (aNil))))) (sPass))))
  (sSeq (sIf (tAnd2 (tB1 (x2 gIsNot (xVar 6) (xC .non))) (tB1 (x2 gNe (xVar 5) (xVar 6)))) (sRet (xC (.bl false))) (sPass))
  (sIf (tAnd2 (tB1 (x2 gIs (xVar 6) (xC .non))) (tB1 (x2 gIsNot (xVar 5) (xC .non)))) (sIf (tOr2 (tB1 (x2 gLt (x2 gIxA (xVar 5) (xC (.int 0))) (xC (.int 10)))) (tAnd2 (tB1 (x2 gLt (x2 gIxA (xVar 5) (xC (.int 0))) (xC (.int 99)))) (tB1 (x2 (gInA not) (x2 gIxA (xVar 5) (xC (.int 1))) (xCall 3 f__law_quiet (aCons (xVar 2) (aCons (xVar 4) (aCons (x2 gIxA (xVar 5) (xC (.int 0))) (aNil))))))))) (sRet (xC (.bl false))) (sPass)) (sPass)))))))
  (sRet (xB gAll (aCons (xLc (ySeq (xLst (aCons (xNeg (xC (.int 1))) (aCons (xC (.int 3)) (aCons (xC (.bl true)) (aCons (xC .non) (aCons (xC (.str "0")) (aNil)))))))) [9] (.n 9) (tTrue) (xCall 2 f__law_refused (aCons (xVar 3) (aCons (xVar 9) (aNil))))) (aNil))))))))
def d__law_mix : DefP := ⟨⟨("_law_mix", none), "_law_mix", "_law_mix", defArgs (top 44), defBody (top 44), defScope (top 44), [], []⟩, false⟩
def d__law_next : DefP := ⟨⟨("_law_next", none), "_law_next", "_law_next", defArgs (top 45), defBody (top 45), defScope (top 45), [], []⟩, false⟩
def d__law_some : DefP := ⟨⟨("_law_some", none), "_law_some", "_law_some", defArgs (top 46), defBody (top 46), defScope (top 46), [], []⟩, false⟩
def d__law_couplers : DefP := ⟨⟨("_law_couplers", none), "_law_couplers", "_law_couplers", defArgs (top 47), defBody (top 47), defScope (top 47), [], []⟩, false⟩
def d__law_stops : DefP := ⟨⟨("_law_stops", none), "_law_stops", "_law_stops", defArgs (top 48), defBody (top 48), defScope (top 48), [], []⟩, false⟩
def d__law_organ : DefP := ⟨⟨("_law_organ", none), "_law_organ", "_law_organ", defArgs (top 49), defBody (top 49), defScope (top 49), [], []⟩, false⟩
def d_is_integer : DefP := ⟨⟨("is_integer", none), "is_integer", "is_integer", defArgs (top 16), defBody (top 16), defScope (top 16), [], []⟩, false⟩
def d_InvalidCoupler_init : DefP := ⟨⟨("InvalidCoupler", some "__init__"), "__init__", "InvalidCoupler.__init__", defArgs (inCls (top 4) 0), defBody (inCls (top 4) 0), defScope (inCls (top 4) 0), [], []⟩, false⟩
def d_is_coupler : DefP := ⟨⟨("is_coupler", none), "is_coupler", "is_coupler", defArgs (top 17), defBody (top 17), defScope (top 17), [], []⟩, false⟩
def d_look_at_couplers : DefP := ⟨⟨("look_at_couplers", none), "look_at_couplers", "look_at_couplers", defArgs (top 19), defBody (top 19), defScope (top 19), [], []⟩, false⟩
def d_InvalidStop_init : DefP := ⟨⟨("InvalidStop", some "__init__"), "__init__", "InvalidStop.__init__", defArgs (inCls (top 5) 0), defBody (inCls (top 5) 0), defScope (inCls (top 5) 0), [], []⟩, false⟩
def d_is_stop : DefP := ⟨⟨("is_stop", none), "is_stop", "is_stop", defArgs (top 18), defBody (top 18), defScope (top 18), [], []⟩, false⟩
def d_look_at_stops : DefP := ⟨⟨("look_at_stops", none), "look_at_stops", "look_at_stops", defArgs (top 20), defBody (top 20), defScope (top 20), [], []⟩, false⟩
def d_Organ_init : DefP := ⟨⟨("Organ", some "__init__"), "__init__", "Organ.__init__", defArgs (inCls (top 21) 1), defBody (inCls (top 21) 1), defScope (inCls (top 21) 1), [], []⟩, false⟩
def d__law_built : DefP := ⟨⟨("_law_built", none), "_law_built", "_law_built", defArgs (top 50), defBody (top 50), defScope (top 50), [], []⟩, false⟩
def d_look_at_rank : DefP := ⟨⟨("look_at_rank", none), "look_at_rank", "look_at_rank", defArgs (top 40), defBody (top 40), defScope (top 40), [], []⟩, false⟩
def d_first_state : DefP := ⟨⟨("first_state", none), "first_state", "first_state", defArgs (top 27), defBody (top 27), defScope (top 27), [], []⟩, false⟩
def d_layers_of : DefP := ⟨⟨("layers_of", none), "layers_of", "layers_of", defArgs (top 28), defBody (top 28), defScope (top 28), [], []⟩, false⟩
def d_high_pairs : DefP := ⟨⟨("high_pairs", none), "high_pairs", "high_pairs", defArgs (top 31), defBody (top 31), defScope (top 31), [], []⟩, false⟩
def d_with_layers : DefP := ⟨⟨("with_layers", none), "with_layers", "with_layers", defArgs (top 33), defBody (top 33), defScope (top 33), [], []⟩, false⟩
def d_closed : DefP := ⟨⟨("closed", none), "closed", "closed", defArgs (top 34), defBody (top 34), defScope (top 34), [], []⟩, false⟩
def d_settled : DefP := ⟨⟨("settled", none), "settled", "settled", defArgs (top 35), defBody (top 35), defScope (top 35), [], []⟩, false⟩
def d_is_sounding : DefP := ⟨⟨("is_sounding", none), "is_sounding", "is_sounding", defArgs (top 38), defBody (top 38), defScope (top 38), [], []⟩, false⟩
def d_older : DefP := ⟨⟨("older", none), "older", "older", defArgs (top 36), defBody (top 36), defScope (top 36), [], []⟩, false⟩
def d_low_pairs : DefP := ⟨⟨("low_pairs", none), "low_pairs", "low_pairs", defArgs (top 30), defBody (top 30), defScope (top 30), [], []⟩, false⟩
def d_new_links : DefP := ⟨⟨("new_links", none), "new_links", "new_links", defArgs (top 29), defBody (top 29), defScope (top 29), [], []⟩, false⟩
def d_new_ends : DefP := ⟨⟨("new_ends", none), "new_ends", "new_ends", defArgs (top 32), defBody (top 32), defScope (top 32), [], []⟩, false⟩
def d_step : DefP := ⟨⟨("step", none), "step", "step", defArgs (top 37), defBody (top 37), defScope (top 37), [], []⟩, false⟩
def d_note : DefP := ⟨⟨("note", none), "note", "note", defArgs (top 42), defBody (top 42), defScope (top 42), [], []⟩, false⟩
def d_silent : DefP := ⟨⟨("silent", none), "silent", "silent", defArgs (top 41), defBody (top 41), defScope (top 41), [], []⟩, false⟩
def d__law_led : DefP := ⟨⟨("_law_led", none), "_law_led", "_law_led", defArgs (top 51), defBody (top 51), defScope (top 51), [], []⟩, false⟩
def d__law_on : DefP := ⟨⟨("_law_on", none), "_law_on", "_law_on", defArgs (top 52), defBody (top 52), defScope (top 52), [], []⟩, false⟩
def d__law_heard : DefP := ⟨⟨("_law_heard", none), "_law_heard", "_law_heard", defArgs (top 53), defBody (top 53), defScope (top 53), [], []⟩, false⟩
def d__law_quiet : DefP := ⟨⟨("_law_quiet", none), "_law_quiet", "_law_quiet", defArgs (top 54), defBody (top 54), defScope (top 54), [], []⟩, false⟩
def d__law_refused : DefP := ⟨⟨("_law_refused", none), "_law_refused", "_law_refused", defArgs (top 55), defBody (top 55), defScope (top 55), [], []⟩, false⟩
def d_law : DefP := ⟨⟨("law", none), "law", "law", defArgs (top 56), defBody (top 56), defScope (top 56), [], []⟩, false⟩
def fn : List DefP := [d__law_mix, d__law_next, d__law_some, d__law_couplers, d__law_stops, d__law_organ, d_is_integer, d_InvalidCoupler_init, d_is_coupler, d_look_at_couplers, d_InvalidStop_init, d_is_stop, d_look_at_stops, d_Organ_init, d__law_built, d_look_at_rank, d_first_state, d_layers_of, d_high_pairs, d_with_layers, d_closed, d_settled, d_is_sounding, d_older, d_low_pairs, d_new_links, d_new_ends, d_step, d_note, d_silent, d__law_led, d__law_on, d__law_heard, d__law_quiet, d__law_refused, d_law]
def fa : List Fx := [.he (.free "int"),
  .he (.free "list"),
  .he (.free "len"),
  .he (.free "max"),
  .he (.free "range"),
  .he (.free "tuple"),
  .he (.free "isinstance"),
  .he (.free "bool"),
  .he (.glo "InvalidManuals"),
  .he (.exc "InvalidManuals"),
  .cst "MOST_COUPLERS" (.int 5),
  .he (.glo "InvalidCoupler"),
  .oex "InvalidCoupler" ["index"],
  .he (.free "enumerate"),
  .he (.free "all"),
  .cst "MOST_SHIFT" (.int 2),
  .cst "MOST_STOPS" (.int 4),
  .he (.glo "InvalidStop"),
  .oex "InvalidStop" ["index"],
  .cst "MOST_RANK" (.int 2),
  .he (.free "str"),
  .cst "CHAINS" (.tup [(.str "all"), (.str "pressed")]),
  .he (.glo "InvalidChain"),
  .he (.exc "InvalidChain"),
  .cst "OCTAVES" (.tup [(.int 0), (.int 2), (.int 3)]),
  .he (.glo "InvalidOctave"),
  .he (.exc "InvalidOctave"),
  .slc "Organ",
  .slt "Organ" "many" 2,
  .slt "Organ" "links" 1,
  .slt "Organ" "ranks" 4,
  .slt "Organ" "passing" 3,
  .slt "Organ" "by" 0,
  .he (.glo "Organ"),
  .he (.mkr "Organ"),
  .he (.glo "InvalidRank"),
  .he (.exc "InvalidRank"),
  .cst "WINDOW" (.int 3),
  .he (.free "min"),
  .he (.free "sorted"),
  .he (.free "set"),
  .he (.free "any"),
  .cst "DONE" (.tup [(.int 3), (.tup []), (.tup []), (.tup []), (.int 3), (.bl true)]),
  .cst "FAR" (.int 3),
  .he (.exm "InvalidManuals" "InvalidRank" false),
  .he (.exm "InvalidCoupler" "InvalidRank" false),
  .he (.exm "InvalidStop" "InvalidRank" false),
  .he (.exm "InvalidChain" "InvalidRank" false),
  .he (.exm "InvalidOctave" "InvalidRank" false),
  .he (.exm "InvalidRank" "InvalidRank" true),
  .he (.glo "_law_mix"),
  .he (.glo "_law_next"),
  .he (.glo "_law_some"),
  .he (.glo "_law_couplers"),
  .he (.glo "_law_stops"),
  .he (.glo "_law_organ"),
  .he (.glo "is_integer"),
  .he (.glo "is_coupler"),
  .he (.glo "look_at_couplers"),
  .he (.glo "is_stop"),
  .he (.glo "look_at_stops"),
  .he (.glo "_law_built"),
  .he (.glo "look_at_rank"),
  .he (.glo "first_state"),
  .he (.glo "layers_of"),
  .he (.glo "high_pairs"),
  .he (.glo "with_layers"),
  .he (.glo "closed"),
  .he (.glo "settled"),
  .he (.glo "is_sounding"),
  .he (.glo "older"),
  .he (.glo "low_pairs"),
  .he (.glo "new_links"),
  .he (.glo "new_ends"),
  .he (.glo "step"),
  .he (.glo "note"),
  .he (.glo "silent"),
  .he (.glo "_law_led"),
  .he (.glo "_law_on"),
  .he (.glo "_law_heard"),
  .he (.glo "_law_quiet"),
  .he (.glo "_law_refused"),
  .he (.glo "law")]
structure Fct (K : PySem.W.Frag) (mg : Str → Option Value) : Prop where
  h : ∃ h : Heap, K.In h ∧ h.Ns mainGlobals mg
  c : SaysM fa fn K
theorem u64 {k : Nat} {A : Around} (hr : Room k A) : A.units + 64 < cLine := by have := hr.un; omega
section
variable {K : PySem.W.Frag} {mg : Str → Option Value} {x f : Str} {d : D} {i : Nat}
theorem Fct.free (T : Fct K mg) (n : Nat) (e : fa[n]? = some (.he (.free x)) := by rfl) : mg x = none := let ⟨_, X, G⟩ := T.h; fx_free X G (T.c.fact n e)
theorem Fct.glo (T : Fct K mg) (n : Nat) (e : fa[n]? = some (.he (.glo x)) := by rfl) : mg x = some (.ref (He.ga K x)) := let ⟨_, X, G⟩ := T.h; fx_glo X G (T.c.fact n e)
theorem Fct.cst (T : Fct K mg) (n : Nat) (e : fa[n]? = some (.cst x d) := by rfl) : CstOk K mg x d := let ⟨_, X, G⟩ := T.h; fx_cst X G (T.c.fact n e)
theorem Fct.exc (T : Fct K mg) (n m : Nat) (e : fa[n]? = some (.he (.glo x)) := by rfl) (e2 : fa[m]? = some (.he (.exc x)) := by rfl) : Rz0 K mg (He.ga K x) x := let ⟨_, X, G⟩ := T.h; fx_exc X G (T.c.fact n e) (T.c.fact m e2)
theorem Fct.scl (T : Fct K mg) (n : Nat) (e : fa[n]? = some (.slc x) := by rfl) : SlX.SCls K (He.ga K x) := fx_scl (T.c.fact n e)
theorem Fct.slt (T : Fct K mg) (n m : Nat) (e : fa[n]? = some (.slc x) := by rfl) (e2 : fa[m]? = some (.slt x f i) := by rfl) : SlF K (He.ga K x) f i := fx_slt (T.c.fact n e) (T.c.fact m e2)
theorem Fct.mx_InvalidRank (T : Fct K mg) (c : Nat) (b : Bool) (h : mt_InvalidRank c = some b) : PySem.W.exmOne K (.ref ((GmK K).cA c)) (.ref (He.ga K "InvalidRank")) = some b := by
  unfold mt_InvalidRank at h
  match c, h with
  | 0, h => cases h
  | 1, h => cases h
  | 2, h => cases h
  | 3, h => cases h
  | 4, h => cases h; exact He.exm_ok (T.c.fact 44 (f := .he (.exm "InvalidManuals" "InvalidRank" false)))
  | 5, h => cases h; exact He.exm_ok (T.c.fact 45 (f := .he (.exm "InvalidCoupler" "InvalidRank" false)))
  | 6, h => cases h; exact He.exm_ok (T.c.fact 46 (f := .he (.exm "InvalidStop" "InvalidRank" false)))
  | 7, h => cases h; exact He.exm_ok (T.c.fact 47 (f := .he (.exm "InvalidChain" "InvalidRank" false)))
  | 8, h => cases h; exact He.exm_ok (T.c.fact 48 (f := .he (.exm "InvalidOctave" "InvalidRank" false)))
  | 9, h => cases h
  | 10, h => cases h
  | 11, h => cases h
  | 12, h => cases h; exact He.exm_ok (T.c.fact 49 (f := .he (.exm "InvalidRank" "InvalidRank" true)))
  | 13, h => cases h
  | 14, h => cases h
  | 15, h => cases h
  | 16, h => cases h
  | 17, h => cases h
  | 18, h => cases h
  | n + 19, h => simp at h
end
section
variable {P : Program} {w : World} {K : PySem.W.Frag} {mg : Str → Option Value} {base : Heap}
theorem s__law_mix : FnScope ["_law_script", "_law_seed", "_law_state", "_law_cell"] ["_law_script", "_law_seed"] (defScope (top 44)) := ⟨rfl, rfl, rfl, by decide +kernel, rfl, by decide +kernel, by decide +kernel⟩
theorem k__law_mix (T : Fct K mg) {fd : FuncData} (FD : FunD K d__law_mix.toDefD.name d__law_mix.toDefD.qual d__law_mix.toDefD.params d__law_mix.toDefD.body d__law_mix.toDefD.scope (d__law_mix.toDefD.dvs K) (d__law_mix.toDefD.kws K) (d__law_mix.adr K) fd) : FnOk P w K mg base (L2.CX P w) 2 (d__law_mix.adr K) fd ["_law_script", "_law_seed"] (spF P w K (GmK K) 2 f__law_mix) := by
  refine fn_mk (k := 1) (N := ["_law_script", "_law_seed", "_law_state", "_law_cell"]) (ps := ["_law_script", "_law_seed"]) FD s__law_mix fun cdv A outer s H E hr => ?_
  have hN : (["_law_script", "_law_seed", "_law_state", "_law_cell"] : List Str).Nodup := (s__law_mix).nd
  have tk := takes_cx (P := P) (w := w) (K := K) (mg := mg) (base := base) (N := ["_law_script", "_law_seed", "_law_state", "_law_cell"]) (qual := "_law_mix") (scope := defScope (top 44)) (i := d__law_mix.adr K) (cdv := cdv) (A := A) (outer := outer) (s := s) (H := H) (E := E)
  have hp := passes_cx (P := P) (w := w) (K := K) (mg := mg) (base := base) (N := ["_law_script", "_law_seed", "_law_state", "_law_cell"]) (qual := "_law_mix") (scope := defScope (top 44)) (i := d__law_mix.adr K) (cdv := cdv) (A := A) (outer := outer) (s := s) (H := H) (E := E)
  exact es_cons (es_set 2 hN (ex_var 1))
    (es_cons (es_for hp rfl (ei_seq (ex_var 0)) (eg_name 3 hN) (es_one (es_set 2 hN (ex_op m_mod (ex_callTy b_int (T.free (x := "int") 0) rfl (ea_cons (ex_op m_add (ex_op m_add (ex_op m_mulA (ex_var 2) (ex_int)) (ex_op m_mod (ex_callTy b_int (T.free (x := "int") 0) rfl (ea_cons (ex_var 3) (ea_nil))) (ex_int))) (ex_int)) (ea_nil))) (ex_int)))))
    (es_one (es_ret (ex_lst (ea_cons (ex_var 2) (ea_cons (ex_callTy (b_listA rfl) (T.free (x := "list") 1) rfl (ea_cons (ex_var 0) (ea_nil))) (ea_cons (ex_int) (ea_cons (ex_int) (ea_nil)))))))))
theorem c__law_mix (T : Fct K mg) : Cal P w K mg base (GmK K) 2 "_law_mix" ["_law_script", "_law_seed"] f__law_mix := let ⟨fd, FD⟩ := T.c.def_ 0 (d := d__law_mix) rfl; ⟨⟨_, fd, k__law_mix T FD, T.glo (x := "_law_mix") 50, FD.kp, FD.bindsN fun _ _ _ _ _ _ us hl => match us, hl with | [_, _], _ => rfl⟩⟩
theorem s__law_next : FnScope ["_law_h", "_law_bound", "_law_cell"] ["_law_h", "_law_bound"] (defScope (top 45)) := ⟨rfl, rfl, rfl, by decide +kernel, rfl, by decide +kernel, by decide +kernel⟩
theorem k__law_next (T : Fct K mg) {fd : FuncData} (FD : FunD K d__law_next.toDefD.name d__law_next.toDefD.qual d__law_next.toDefD.params d__law_next.toDefD.body d__law_next.toDefD.scope (d__law_next.toDefD.dvs K) (d__law_next.toDefD.kws K) (d__law_next.adr K) fd) : FnOk P w K mg base (L2.CX P w) 2 (d__law_next.adr K) fd ["_law_h", "_law_bound"] (spF P w K (GmK K) 2 f__law_next) := by
  refine fn_mk (k := 1) (N := ["_law_h", "_law_bound", "_law_cell"]) (ps := ["_law_h", "_law_bound"]) FD s__law_next fun cdv A outer s H E hr => ?_
  have hN : (["_law_h", "_law_bound", "_law_cell"] : List Str).Nodup := (s__law_next).nd
  have tk := takes_cx (P := P) (w := w) (K := K) (mg := mg) (base := base) (N := ["_law_h", "_law_bound", "_law_cell"]) (qual := "_law_next") (scope := defScope (top 45)) (i := d__law_next.adr K) (cdv := cdv) (A := A) (outer := outer) (s := s) (H := H) (E := E)
  have hp := passes_cx (P := P) (w := w) (K := K) (mg := mg) (base := base) (N := ["_law_h", "_law_bound", "_law_cell"]) (qual := "_law_next") (scope := defScope (top 45)) (i := d__law_next.adr K) (cdv := cdv) (A := A) (outer := outer) (s := s) (H := H) (E := E)
  exact es_cons (es_set 2 hN (ex_ixA (hr.mono (by decide)) (ex_op m_add (ex_ixA (hr.mono (by decide)) (ex_var 0) (ex_int)) (ex_lst (ea_cons (ex_int) (ea_nil)))) (ex_op m_mod (ex_callTy b_int (T.free (x := "int") 0) rfl (ea_cons (ex_ixA (hr.mono (by decide)) (ex_var 0) (ex_int)) (ea_nil))) (ex_callB (b_max2 rfl) (T.free (x := "max") 3) rfl (ea_cons (ex_int) (ea_cons (ex_callB b_len (T.free (x := "len") 2) rfl (ea_cons (ex_ixA (hr.mono (by decide)) (ex_var 0) (ex_int)) (ea_nil))) (ea_nil)))))))
    (es_cons (es_if (et_cmp m_ge (ex_var 2) (ex_op m_pow (ex_int) (ex_int))) (es_cons (es_put (put_any (hr.mono (by decide))) (ex_ixA (hr.mono (by decide)) (ex_var 0) (ex_int)) (ex_op m_mod (ex_callTy b_int (T.free (x := "int") 0) rfl (ea_cons (ex_ixA (hr.mono (by decide)) (ex_var 0) (ex_int)) (ea_nil))) (ex_callB b_len (T.free (x := "len") 2) rfl (ea_cons (ex_ixA (hr.mono (by decide)) (ex_var 0) (ex_int)) (ea_nil)))) (ex_op m_div (ex_var 2) (ex_var 1)))
    (es_one (es_ret (ex_op m_mod (ex_callTy b_int (T.free (x := "int") 0) rfl (ea_cons (ex_var 2) (ea_nil))) (ex_var 1))))) (es_nil))
    (es_cons (es_put (put_any (hr.mono (by decide))) (ex_var 0) (ex_int) (ex_op m_mod (ex_callTy b_int (T.free (x := "int") 0) rfl (ea_cons (ex_op m_add (ex_op m_add (ex_op m_mulA (ex_ixA (hr.mono (by decide)) (ex_var 0) (ex_int)) (ex_int)) (ex_op m_mulA (ex_var 2) (ex_int))) (ex_int)) (ea_nil))) (ex_int)))
    (es_cons (es_put (put_any (hr.mono (by decide))) (ex_var 0) (ex_int) (ex_op m_add (ex_ixA (hr.mono (by decide)) (ex_var 0) (ex_int)) (ex_int)))
    (es_one (es_ret (ex_op m_mod (ex_callTy b_int (T.free (x := "int") 0) rfl (ea_cons (ex_op m_div (ex_ixA (hr.mono (by decide)) (ex_var 0) (ex_int)) (ex_int)) (ea_nil))) (ex_var 1)))))))
theorem c__law_next (T : Fct K mg) : Cal P w K mg base (GmK K) 2 "_law_next" ["_law_h", "_law_bound"] f__law_next := let ⟨fd, FD⟩ := T.c.def_ 1 (d := d__law_next) rfl; ⟨⟨_, fd, k__law_next T FD, T.glo (x := "_law_next") 51, FD.kp, FD.bindsN fun _ _ _ _ _ _ us hl => match us, hl with | [_, _], _ => rfl⟩⟩
theorem s__law_some : FnScope ["_law_h", "_law_things", "_law_many", "_law_left", "_law_found", "_law_k"] ["_law_h", "_law_things", "_law_many"] (defScope (top 46)) := ⟨rfl, rfl, rfl, by decide +kernel, rfl, by decide +kernel, by decide +kernel⟩
theorem k__law_some (T : Fct K mg) {fd : FuncData} (FD : FunD K d__law_some.toDefD.name d__law_some.toDefD.qual d__law_some.toDefD.params d__law_some.toDefD.body d__law_some.toDefD.scope (d__law_some.toDefD.dvs K) (d__law_some.toDefD.kws K) (d__law_some.adr K) fd) : FnOk P w K mg base (L2.CX P w) 3 (d__law_some.adr K) fd ["_law_h", "_law_things", "_law_many"] (spF P w K (GmK K) 3 f__law_some) := by
  refine fn_mk (k := 2) (N := ["_law_h", "_law_things", "_law_many", "_law_left", "_law_found", "_law_k"]) (ps := ["_law_h", "_law_things", "_law_many"]) FD s__law_some fun cdv A outer s H E hr => ?_
  have hN : (["_law_h", "_law_things", "_law_many", "_law_left", "_law_found", "_law_k"] : List Str).Nodup := (s__law_some).nd
  have tk := takes_cx (P := P) (w := w) (K := K) (mg := mg) (base := base) (N := ["_law_h", "_law_things", "_law_many", "_law_left", "_law_found", "_law_k"]) (qual := "_law_some") (scope := defScope (top 46)) (i := d__law_some.adr K) (cdv := cdv) (A := A) (outer := outer) (s := s) (H := H) (E := E)
  have hp := passes_cx (P := P) (w := w) (K := K) (mg := mg) (base := base) (N := ["_law_h", "_law_things", "_law_many", "_law_left", "_law_found", "_law_k"]) (qual := "_law_some") (scope := defScope (top 46)) (i := d__law_some.adr K) (cdv := cdv) (A := A) (outer := outer) (s := s) (H := H) (E := E)
  exact es_cons (es_set 3 hN (ex_callTy (b_listA rfl) (T.free (x := "list") 1) rfl (ea_cons (ex_var 1) (ea_nil))))
    (es_cons (es_set 4 hN (ex_lst (ea_nil)))
    (es_cons (es_for hp rfl (ei_range1 (ex_var 2) (T.free (x := "range") 4)) (eg_name 5 hN) (es_one (es_if (et_cmp (m_ne (u64 hr)) (ex_var 3) (ex_lst (ea_nil))) (es_one (es_expr (ex_meth F.plainAttrs_list F.slot_list_append F.type_list_append ty_lst l_append (ex_var 4) (ea_cons (ex_meth F.plainAttrs_list F.slot_list_pop F.type_list_pop ty_lst l_popAt (ex_var 3) (ea_cons (ex_call (c__law_next T) (hr.mono (by decide)) tk (ea_cons (ex_var 0) (ea_cons (ex_callB b_len (T.free (x := "len") 2) rfl (ea_cons (ex_var 3) (ea_nil))) (ea_nil)))) (ea_nil))) (ea_nil))))) (es_nil))))
    (es_one (es_ret (ex_callTy b_tuple (T.free (x := "tuple") 5) rfl (ea_cons (ex_var 4) (ea_nil)))))))
theorem c__law_some (T : Fct K mg) : Cal P w K mg base (GmK K) 3 "_law_some" ["_law_h", "_law_things", "_law_many"] f__law_some := let ⟨fd, FD⟩ := T.c.def_ 2 (d := d__law_some) rfl; ⟨⟨_, fd, k__law_some T FD, T.glo (x := "_law_some") 52, FD.kp, FD.bindsN fun _ _ _ _ _ _ us hl => match us, hl with | [_, _, _], _ => rfl⟩⟩
theorem s__law_couplers : FnScope ["_law_many", "_law_found", "_law_first", "_law_second", "_law_shift"] ["_law_many"] (defScope (top 47)) := ⟨rfl, rfl, rfl, by decide +kernel, rfl, by decide +kernel, by decide +kernel⟩
theorem k__law_couplers (T : Fct K mg) {fd : FuncData} (FD : FunD K d__law_couplers.toDefD.name d__law_couplers.toDefD.qual d__law_couplers.toDefD.params d__law_couplers.toDefD.body d__law_couplers.toDefD.scope (d__law_couplers.toDefD.dvs K) (d__law_couplers.toDefD.kws K) (d__law_couplers.adr K) fd) : FnOk P w K mg base (L2.CX P w) 2 (d__law_couplers.adr K) fd ["_law_many"] (spF P w K (GmK K) 1 f__law_couplers) := by
  refine fn_mk (k := 1) (N := ["_law_many", "_law_found", "_law_first", "_law_second", "_law_shift"]) (ps := ["_law_many"]) FD s__law_couplers fun cdv A outer s H E hr => ?_
  have hN : (["_law_many", "_law_found", "_law_first", "_law_second", "_law_shift"] : List Str).Nodup := (s__law_couplers).nd
  have tk := takes_cx (P := P) (w := w) (K := K) (mg := mg) (base := base) (N := ["_law_many", "_law_found", "_law_first", "_law_second", "_law_shift"]) (qual := "_law_couplers") (scope := defScope (top 47)) (i := d__law_couplers.adr K) (cdv := cdv) (A := A) (outer := outer) (s := s) (H := H) (E := E)
  have hp := passes_cx (P := P) (w := w) (K := K) (mg := mg) (base := base) (N := ["_law_many", "_law_found", "_law_first", "_law_second", "_law_shift"]) (qual := "_law_couplers") (scope := defScope (top 47)) (i := d__law_couplers.adr K) (cdv := cdv) (A := A) (outer := outer) (s := s) (H := H) (E := E)
  exact es_cons (es_set 1 hN (ex_lst (ea_nil)))
    (es_cons (es_for hp rfl (ei_range1 (ex_var 0) (T.free (x := "range") 4)) (eg_name 2 hN) (es_one (es_for hp rfl (ei_range1 (ex_var 0) (T.free (x := "range") 4)) (eg_name 3 hN) (es_one (es_set 1 hN (ex_op m_add (ex_var 1) (ex_lc (own := [("_law_shift", 4)]) rfl hN (ei_range2 (ex_neg (ex_int)) (ex_int) (T.free (x := "range") 4)) (blkOk_by (N := ["_law_many", "_law_found", "_law_first", "_law_second", "_law_shift"]) (sc := defScope (top 47)) (by decide +kernel)) (by decide) (fun _ _ _ _ _ => eg_name 4 hN) (fun _ _ _ _ _ => ets_one (et_w (et_or (et_cmp (m_ne (u64 hr)) (ex_var 4) (ex_int)) (et_or1 (et_cmp (m_ne (u64 hr)) (ex_var 2) (ex_var 3)))))) (fun _ _ _ _ _ => ex_tup (ea_cons (ex_var 2) (ea_cons (ex_var 3) (ea_cons (ex_var 4) (ea_nil))))))))))))
    (es_one (es_ret (ex_var 1))))
theorem c__law_couplers (T : Fct K mg) : Cal P w K mg base (GmK K) 2 "_law_couplers" ["_law_many"] f__law_couplers := let ⟨fd, FD⟩ := T.c.def_ 3 (d := d__law_couplers) rfl; ⟨⟨_, fd, k__law_couplers T FD, T.glo (x := "_law_couplers") 53, FD.kp, FD.bindsN fun _ _ _ _ _ _ us hl => match us, hl with | [_], _ => rfl⟩⟩
theorem s__law_stops : FnScope ["_law_many", "_law_ranks", "_law_found", "_law_manual", "_law_rank", "_law_shift"] ["_law_many", "_law_ranks"] (defScope (top 48)) := ⟨rfl, rfl, rfl, by decide +kernel, rfl, by decide +kernel, by decide +kernel⟩
theorem k__law_stops (T : Fct K mg) {fd : FuncData} (FD : FunD K d__law_stops.toDefD.name d__law_stops.toDefD.qual d__law_stops.toDefD.params d__law_stops.toDefD.body d__law_stops.toDefD.scope (d__law_stops.toDefD.dvs K) (d__law_stops.toDefD.kws K) (d__law_stops.adr K) fd) : FnOk P w K mg base (L2.CX P w) 2 (d__law_stops.adr K) fd ["_law_many", "_law_ranks"] (spF P w K (GmK K) 2 f__law_stops) := by
  refine fn_mk (k := 1) (N := ["_law_many", "_law_ranks", "_law_found", "_law_manual", "_law_rank", "_law_shift"]) (ps := ["_law_many", "_law_ranks"]) FD s__law_stops fun cdv A outer s H E hr => ?_
  have hN : (["_law_many", "_law_ranks", "_law_found", "_law_manual", "_law_rank", "_law_shift"] : List Str).Nodup := (s__law_stops).nd
  have tk := takes_cx (P := P) (w := w) (K := K) (mg := mg) (base := base) (N := ["_law_many", "_law_ranks", "_law_found", "_law_manual", "_law_rank", "_law_shift"]) (qual := "_law_stops") (scope := defScope (top 48)) (i := d__law_stops.adr K) (cdv := cdv) (A := A) (outer := outer) (s := s) (H := H) (E := E)
  have hp := passes_cx (P := P) (w := w) (K := K) (mg := mg) (base := base) (N := ["_law_many", "_law_ranks", "_law_found", "_law_manual", "_law_rank", "_law_shift"]) (qual := "_law_stops") (scope := defScope (top 48)) (i := d__law_stops.adr K) (cdv := cdv) (A := A) (outer := outer) (s := s) (H := H) (E := E)
  exact es_cons (es_set 2 hN (ex_lst (ea_nil)))
    (es_cons (es_for hp rfl (ei_range1 (ex_var 0) (T.free (x := "range") 4)) (eg_name 3 hN) (es_one (es_for hp rfl (ei_range1 (ex_var 1) (T.free (x := "range") 4)) (eg_name 4 hN) (es_one (es_set 2 hN (ex_op m_add (ex_var 2) (ex_lc (own := [("_law_shift", 5)]) rfl hN (ei_range2 (ex_neg (ex_int)) (ex_int) (T.free (x := "range") 4)) (blkOk_by (N := ["_law_many", "_law_ranks", "_law_found", "_law_manual", "_law_rank", "_law_shift"]) (sc := defScope (top 48)) (by decide +kernel)) (by decide) (fun _ _ _ _ _ => eg_name 5 hN) (fun _ _ _ _ _ => ets_nil) (fun _ _ _ _ _ => ex_tup (ea_cons (ex_var 3) (ea_cons (ex_var 4) (ea_cons (ex_var 5) (ea_nil))))))))))))
    (es_one (es_ret (ex_var 2))))
theorem c__law_stops (T : Fct K mg) : Cal P w K mg base (GmK K) 2 "_law_stops" ["_law_many", "_law_ranks"] f__law_stops := let ⟨fd, FD⟩ := T.c.def_ 4 (d := d__law_stops) rfl; ⟨⟨_, fd, k__law_stops T FD, T.glo (x := "_law_stops") 54, FD.kp, FD.bindsN fun _ _ _ _ _ _ us hl => match us, hl with | [_, _], _ => rfl⟩⟩
theorem s__law_organ : FnScope ["_law_h", "_law_links", "_law_stops_here", "_law_ranks", "_law_many", "_law_chain", "_law_octave", "_law_couplers_here"] ["_law_h", "_law_links", "_law_stops_here", "_law_ranks"] (defScope (top 49)) := ⟨rfl, rfl, rfl, by decide +kernel, rfl, by decide +kernel, by decide +kernel⟩
theorem k__law_organ (T : Fct K mg) {fd : FuncData} (FD : FunD K d__law_organ.toDefD.name d__law_organ.toDefD.qual d__law_organ.toDefD.params d__law_organ.toDefD.body d__law_organ.toDefD.scope (d__law_organ.toDefD.dvs K) (d__law_organ.toDefD.kws K) (d__law_organ.adr K) fd) : FnOk P w K mg base (L2.CX P w) 4 (d__law_organ.adr K) fd ["_law_h", "_law_links", "_law_stops_here", "_law_ranks"] (spF P w K (GmK K) 4 f__law_organ) := by
  refine fn_mk (k := 3) (N := ["_law_h", "_law_links", "_law_stops_here", "_law_ranks", "_law_many", "_law_chain", "_law_octave", "_law_couplers_here"]) (ps := ["_law_h", "_law_links", "_law_stops_here", "_law_ranks"]) FD s__law_organ fun cdv A outer s H E hr => ?_
  have hN : (["_law_h", "_law_links", "_law_stops_here", "_law_ranks", "_law_many", "_law_chain", "_law_octave", "_law_couplers_here"] : List Str).Nodup := (s__law_organ).nd
  have tk := takes_cx (P := P) (w := w) (K := K) (mg := mg) (base := base) (N := ["_law_h", "_law_links", "_law_stops_here", "_law_ranks", "_law_many", "_law_chain", "_law_octave", "_law_couplers_here"]) (qual := "_law_organ") (scope := defScope (top 49)) (i := d__law_organ.adr K) (cdv := cdv) (A := A) (outer := outer) (s := s) (H := H) (E := E)
  have hp := passes_cx (P := P) (w := w) (K := K) (mg := mg) (base := base) (N := ["_law_h", "_law_links", "_law_stops_here", "_law_ranks", "_law_many", "_law_chain", "_law_octave", "_law_couplers_here"]) (qual := "_law_organ") (scope := defScope (top 49)) (i := d__law_organ.adr K) (cdv := cdv) (A := A) (outer := outer) (s := s) (H := H) (E := E)
  exact es_cons (es_set 4 hN (ex_op m_add (ex_int) (ex_callTy b_int (T.free (x := "int") 0) rfl (ea_cons (ex_cmp m_gt (ex_call (c__law_next T) (hr.mono (by decide)) tk (ea_cons (ex_var 0) (ea_cons (ex_int) (ea_nil)))) (ex_int)) (ea_nil)))))
    (es_cons (es_set 5 hN (ex_ixA (hr.mono (by decide)) (ex_lst (ea_cons (ex_str) (ea_cons (ex_str) (ea_cons (ex_str) (ea_nil))))) (ex_call (c__law_next T) (hr.mono (by decide)) tk (ea_cons (ex_var 0) (ea_cons (ex_int) (ea_nil))))))
    (es_cons (es_set 6 hN (ex_ixA (hr.mono (by decide)) (ex_lst (ea_cons (ex_int) (ea_cons (ex_int) (ea_cons (ex_int) (ea_cons (ex_int) (ea_nil)))))) (ex_call (c__law_next T) (hr.mono (by decide)) tk (ea_cons (ex_var 0) (ea_cons (ex_int) (ea_nil))))))
    (es_cons (es_set 7 hN (ex_call (c__law_some T) (hr.mono (by decide)) tk (ea_cons (ex_var 0) (ea_cons (ex_call (c__law_couplers T) (hr.mono (by decide)) tk (ea_cons (ex_var 4) (ea_nil))) (ea_cons (ex_call (c__law_next T) (hr.mono (by decide)) tk (ea_cons (ex_var 0) (ea_cons (ex_op m_add (ex_var 1) (ex_int)) (ea_nil)))) (ea_nil))))))
    (es_one (es_ret (ex_lst (ea_cons (ex_var 4) (ea_cons (ex_var 7) (ea_cons (ex_call (c__law_some T) (hr.mono (by decide)) tk (ea_cons (ex_var 0) (ea_cons (ex_call (c__law_stops T) (hr.mono (by decide)) tk (ea_cons (ex_var 4) (ea_cons (ex_var 3) (ea_nil)))) (ea_cons (ex_op m_add (ex_int) (ex_call (c__law_next T) (hr.mono (by decide)) tk (ea_cons (ex_var 0) (ea_cons (ex_var 2) (ea_nil))))) (ea_nil))))) (ea_cons (ex_var 5) (ea_cons (ex_var 6) (ea_nil))))))))))))
theorem c__law_organ (T : Fct K mg) : Cal P w K mg base (GmK K) 4 "_law_organ" ["_law_h", "_law_links", "_law_stops_here", "_law_ranks"] f__law_organ := let ⟨fd, FD⟩ := T.c.def_ 5 (d := d__law_organ) rfl; ⟨⟨_, fd, k__law_organ T FD, T.glo (x := "_law_organ") 55, FD.kp, FD.bindsN fun _ _ _ _ _ _ us hl => match us, hl with | [_, _, _, _], _ => rfl⟩⟩
theorem s_is_integer : FnScope ["value", "least", "most"] ["value", "least", "most"] (defScope (top 16)) := ⟨rfl, rfl, rfl, by decide +kernel, rfl, by decide +kernel, by decide +kernel⟩
theorem k_is_integer (T : Fct K mg) {fd : FuncData} (FD : FunD K d_is_integer.toDefD.name d_is_integer.toDefD.qual d_is_integer.toDefD.params d_is_integer.toDefD.body d_is_integer.toDefD.scope (d_is_integer.toDefD.dvs K) (d_is_integer.toDefD.kws K) (d_is_integer.adr K) fd) : FnOk P w K mg base (L2.CX P w) 2 (d_is_integer.adr K) fd ["value", "least", "most"] (spF P w K (GmK K) 3 f_is_integer) := by
  refine fn_mk (k := 1) (N := ["value", "least", "most"]) (ps := ["value", "least", "most"]) FD s_is_integer fun cdv A outer s H E hr => ?_
  have hN : (["value", "least", "most"] : List Str).Nodup := (s_is_integer).nd
  have tk := takes_cx (P := P) (w := w) (K := K) (mg := mg) (base := base) (N := ["value", "least", "most"]) (qual := "is_integer") (scope := defScope (top 16)) (i := d_is_integer.adr K) (cdv := cdv) (A := A) (outer := outer) (s := s) (H := H) (E := E)
  have hp := passes_cx (P := P) (w := w) (K := K) (mg := mg) (base := base) (N := ["value", "least", "most"]) (qual := "is_integer") (scope := defScope (top 16)) (i := d_is_integer.adr K) (cdv := cdv) (A := A) (outer := outer) (s := s) (H := H) (E := E)
  exact es_one (es_ret (ex_and (ex_isTy kind_int (ex_var 0) (T.free (x := "isinstance") 6) (T.free (x := "int") 0) rfl) (ex_and (ex_not (ex_isTy kind_bool (ex_var 0) (T.free (x := "isinstance") 6) (T.free (x := "bool") 7) rfl)) (ex_one (ex_chain m_le m_le (ex_var 1) (ex_var 0) (ex_var 2))))))
theorem c_is_integer (T : Fct K mg) : Cal P w K mg base (GmK K) 2 "is_integer" ["value", "least", "most"] f_is_integer := let ⟨fd, FD⟩ := T.c.def_ 6 (d := d_is_integer) rfl; ⟨⟨_, fd, k_is_integer T FD, T.glo (x := "is_integer") 56, FD.kp, FD.bindsN fun _ _ _ _ _ _ us hl => match us, hl with | [_, _, _], _ => rfl⟩⟩
theorem s_InvalidCoupler_init : FnScope ["self", "index"] ["self", "index"] (defScope (inCls (top 4) 0)) := ⟨rfl, rfl, rfl, by decide +kernel, rfl, by decide +kernel, by decide +kernel⟩
theorem z_InvalidCoupler (T : Fct K mg) : RzI P w K mg base 1 (He.ga K "InvalidCoupler") "InvalidCoupler" (cN 5) := by
  obtain ⟨fd, FD⟩ := T.c.def_ 7 (d := d_InvalidCoupler_init) rfl
  obtain ⟨o1, o2, o3, o4⟩ := fx_oex (T.c.fact 12 (f := .oex "InvalidCoupler" ["index"]) rfl)
  refine ⟨o1, ⟨_, fd, ["self", "index"], o2, o3, ?_, FD.bindsN fun _ _ _ _ _ _ us hl => match us, hl with | [_, _], _ => rfl⟩, T.glo 11⟩
  exact init_mk1 FD s_InvalidCoupler_init o1 (o4 _ (by simp)) fun cdv A outer s H E => pss_one (ps_ost (pv 0) (pv 1))
theorem s_is_coupler : FnScope ["value", "many", "own"] ["value", "many"] (defScope (top 17)) := ⟨rfl, rfl, rfl, by decide +kernel, rfl, by decide +kernel, by decide +kernel⟩
theorem k_is_coupler (T : Fct K mg) {fd : FuncData} (FD : FunD K d_is_coupler.toDefD.name d_is_coupler.toDefD.qual d_is_coupler.toDefD.params d_is_coupler.toDefD.body d_is_coupler.toDefD.scope (d_is_coupler.toDefD.dvs K) (d_is_coupler.toDefD.kws K) (d_is_coupler.adr K) fd) : FnOk P w K mg base (L2.CX P w) 3 (d_is_coupler.adr K) fd ["value", "many"] (spF P w K (GmK K) 2 f_is_coupler) := by
  refine fn_mk (k := 2) (N := ["value", "many", "own"]) (ps := ["value", "many"]) FD s_is_coupler fun cdv A outer s H E hr => ?_
  have hN : (["value", "many", "own"] : List Str).Nodup := (s_is_coupler).nd
  have tk := takes_cx (P := P) (w := w) (K := K) (mg := mg) (base := base) (N := ["value", "many", "own"]) (qual := "is_coupler") (scope := defScope (top 17)) (i := d_is_coupler.adr K) (cdv := cdv) (A := A) (outer := outer) (s := s) (H := H) (E := E)
  have hp := passes_cx (P := P) (w := w) (K := K) (mg := mg) (base := base) (N := ["value", "many", "own"]) (qual := "is_coupler") (scope := defScope (top 17)) (i := d_is_coupler.adr K) (cdv := cdv) (A := A) (outer := outer) (s := s) (H := H) (E := E)
  exact es_cons (es_if (et_w (et_or (et_not (et_val (ex_isTy kind_tuple (ex_var 0) (T.free (x := "isinstance") 6) (T.free (x := "tuple") 5) rfl))) (et_or (et_cmp (m_ne (u64 hr)) (ex_callB b_len (T.free (x := "len") 2) rfl (ea_cons (ex_var 0) (ea_nil))) (ex_int)) (et_or1 (et_not (et_val (ex_callB (b_all rfl) (T.free (x := "all") 14) rfl (ea_cons (ex_lc (own := [("own", 2)]) rfl hN (ei_seq (ex_cut (ex_var 0) (eo_none) (eo_some (ex_int)))) (blkOk_by (N := ["value", "many", "own"]) (sc := defScope (top 17)) (by decide +kernel)) (by decide) (fun _ _ _ _ _ => eg_name 2 hN) (fun _ _ _ _ _ => ets_nil) (fun _ _ _ _ _ => ex_call (c_is_integer T) (hr.mono (by decide)) takes_W0 (ea_cons (ex_var 2) (ea_cons (ex_int) (ea_cons (ex_op m_sub (ex_var 1) (ex_int)) (ea_nil)))))) (ea_nil))))))))) (es_one (es_ret (ex_bl))) (es_nil))
    (es_one (es_ret (ex_and (ex_call (c_is_integer T) (hr.mono (by decide)) tk (ea_cons (ex_ixA (hr.mono (by decide)) (ex_var 0) (ex_int)) (ea_cons (ex_neg (ex_glob (T.cst (x := "MOST_SHIFT") (d := (.int 2)) 15))) (ea_cons (ex_glob (T.cst (x := "MOST_SHIFT") (d := (.int 2)) 15)) (ea_nil))))) (ex_one (ex_or (ex_cmp (m_ne (u64 hr)) (ex_ixA (hr.mono (by decide)) (ex_var 0) (ex_int)) (ex_ixA (hr.mono (by decide)) (ex_var 0) (ex_int))) (ex_one (ex_cmp (m_ne (u64 hr)) (ex_ixA (hr.mono (by decide)) (ex_var 0) (ex_int)) (ex_int))))))))
theorem c_is_coupler (T : Fct K mg) : Cal P w K mg base (GmK K) 3 "is_coupler" ["value", "many"] f_is_coupler := let ⟨fd, FD⟩ := T.c.def_ 8 (d := d_is_coupler) rfl; ⟨⟨_, fd, k_is_coupler T FD, T.glo (x := "is_coupler") 57, FD.kp, FD.bindsN fun _ _ _ _ _ _ us hl => match us, hl with | [_, _], _ => rfl⟩⟩
theorem s_look_at_couplers : FnScope ["value", "many", "index", "one"] ["value", "many"] (defScope (top 19)) := ⟨rfl, rfl, rfl, by decide +kernel, rfl, by decide +kernel, by decide +kernel⟩
theorem k_look_at_couplers (T : Fct K mg) {fd : FuncData} (FD : FunD K d_look_at_couplers.toDefD.name d_look_at_couplers.toDefD.qual d_look_at_couplers.toDefD.params d_look_at_couplers.toDefD.body d_look_at_couplers.toDefD.scope (d_look_at_couplers.toDefD.dvs K) (d_look_at_couplers.toDefD.kws K) (d_look_at_couplers.adr K) fd) : FnOk P w K mg base (L2.CX P w) 4 (d_look_at_couplers.adr K) fd ["value", "many"] (spF P w K (GmK K) 2 f_look_at_couplers) := by
  refine fn_mk (k := 3) (N := ["value", "many", "index", "one"]) (ps := ["value", "many"]) FD s_look_at_couplers fun cdv A outer s H E hr => ?_
  have hN : (["value", "many", "index", "one"] : List Str).Nodup := (s_look_at_couplers).nd
  have tk := takes_cx (P := P) (w := w) (K := K) (mg := mg) (base := base) (N := ["value", "many", "index", "one"]) (qual := "look_at_couplers") (scope := defScope (top 19)) (i := d_look_at_couplers.adr K) (cdv := cdv) (A := A) (outer := outer) (s := s) (H := H) (E := E)
  have hp := passes_cx (P := P) (w := w) (K := K) (mg := mg) (base := base) (N := ["value", "many", "index", "one"]) (qual := "look_at_couplers") (scope := defScope (top 19)) (i := d_look_at_couplers.adr K) (cdv := cdv) (A := A) (outer := outer) (s := s) (H := H) (E := E)
  exact es_cons (es_if (et_w (et_or (et_not (et_val (ex_isTy kind_tuple (ex_var 0) (T.free (x := "isinstance") 6) (T.free (x := "tuple") 5) rfl))) (et_or1 (et_cmp m_gt (ex_callB b_len (T.free (x := "len") 2) rfl (ea_cons (ex_var 0) (ea_nil))) (ex_glob (T.cst (x := "MOST_COUPLERS") (d := (.int 5)) 10)))))) (es_one (es_raise (c := 5) (z_InvalidCoupler T) rfl (by decide) (hr.mono (by decide)) rfl tk (ea_cons (ex_non) (ea_nil)))) (es_nil))
    (es_one (es_for hp rfl (ei_enum (ex_var 0) (T.free (x := "enumerate") 13)) (eg_tup rfl (egs_cons (eg_name 2 hN) (egs_cons (eg_name 3 hN) (egs_nil)))) (es_one (es_if (et_w (et_or (et_not (et_val (ex_call (c_is_coupler T) (hr.mono (by decide)) tk (ea_cons (ex_var 3) (ea_cons (ex_var 1) (ea_nil)))))) (et_or1 (et_cmp (m_inA (hr.mono (by decide))) (ex_var 3) (ex_cut (ex_var 0) (eo_none) (eo_some (ex_var 2))))))) (es_one (es_raise (c := 5) (z_InvalidCoupler T) rfl (by decide) (hr.mono (by decide)) rfl tk (ea_cons (ex_var 2) (ea_nil)))) (es_nil)))))
theorem c_look_at_couplers (T : Fct K mg) : Cal P w K mg base (GmK K) 4 "look_at_couplers" ["value", "many"] f_look_at_couplers := let ⟨fd, FD⟩ := T.c.def_ 9 (d := d_look_at_couplers) rfl; ⟨⟨_, fd, k_look_at_couplers T FD, T.glo (x := "look_at_couplers") 58, FD.kp, FD.bindsN fun _ _ _ _ _ _ us hl => match us, hl with | [_, _], _ => rfl⟩⟩
theorem s_InvalidStop_init : FnScope ["self", "index"] ["self", "index"] (defScope (inCls (top 5) 0)) := ⟨rfl, rfl, rfl, by decide +kernel, rfl, by decide +kernel, by decide +kernel⟩
theorem z_InvalidStop (T : Fct K mg) : RzI P w K mg base 1 (He.ga K "InvalidStop") "InvalidStop" (cN 6) := by
  obtain ⟨fd, FD⟩ := T.c.def_ 10 (d := d_InvalidStop_init) rfl
  obtain ⟨o1, o2, o3, o4⟩ := fx_oex (T.c.fact 18 (f := .oex "InvalidStop" ["index"]) rfl)
  refine ⟨o1, ⟨_, fd, ["self", "index"], o2, o3, ?_, FD.bindsN fun _ _ _ _ _ _ us hl => match us, hl with | [_, _], _ => rfl⟩, T.glo 17⟩
  exact init_mk1 FD s_InvalidStop_init o1 (o4 _ (by simp)) fun cdv A outer s H E => pss_one (ps_ost (pv 0) (pv 1))
theorem s_is_stop : FnScope ["value", "many"] ["value", "many"] (defScope (top 18)) := ⟨rfl, rfl, rfl, by decide +kernel, rfl, by decide +kernel, by decide +kernel⟩
theorem k_is_stop (T : Fct K mg) {fd : FuncData} (FD : FunD K d_is_stop.toDefD.name d_is_stop.toDefD.qual d_is_stop.toDefD.params d_is_stop.toDefD.body d_is_stop.toDefD.scope (d_is_stop.toDefD.dvs K) (d_is_stop.toDefD.kws K) (d_is_stop.adr K) fd) : FnOk P w K mg base (L2.CX P w) 3 (d_is_stop.adr K) fd ["value", "many"] (spF P w K (GmK K) 2 f_is_stop) := by
  refine fn_mk (k := 2) (N := ["value", "many"]) (ps := ["value", "many"]) FD s_is_stop fun cdv A outer s H E hr => ?_
  have hN : (["value", "many"] : List Str).Nodup := (s_is_stop).nd
  have tk := takes_cx (P := P) (w := w) (K := K) (mg := mg) (base := base) (N := ["value", "many"]) (qual := "is_stop") (scope := defScope (top 18)) (i := d_is_stop.adr K) (cdv := cdv) (A := A) (outer := outer) (s := s) (H := H) (E := E)
  have hp := passes_cx (P := P) (w := w) (K := K) (mg := mg) (base := base) (N := ["value", "many"]) (qual := "is_stop") (scope := defScope (top 18)) (i := d_is_stop.adr K) (cdv := cdv) (A := A) (outer := outer) (s := s) (H := H) (E := E)
  exact es_cons (es_if (et_w (et_or (et_not (et_val (ex_isTy kind_tuple (ex_var 0) (T.free (x := "isinstance") 6) (T.free (x := "tuple") 5) rfl))) (et_or (et_cmp (m_ne (u64 hr)) (ex_callB b_len (T.free (x := "len") 2) rfl (ea_cons (ex_var 0) (ea_nil))) (ex_int)) (et_or1 (et_not (et_val (ex_call (c_is_integer T) (hr.mono (by decide)) tk (ea_cons (ex_ixA (hr.mono (by decide)) (ex_var 0) (ex_int)) (ea_cons (ex_int) (ea_cons (ex_op m_sub (ex_var 1) (ex_int)) (ea_nil))))))))))) (es_one (es_ret (ex_bl))) (es_nil))
    (es_one (es_ret (ex_and (ex_call (c_is_integer T) (hr.mono (by decide)) tk (ea_cons (ex_ixA (hr.mono (by decide)) (ex_var 0) (ex_int)) (ea_cons (ex_int) (ea_cons (ex_glob (T.cst (x := "MOST_RANK") (d := (.int 2)) 19)) (ea_nil))))) (ex_one (ex_call (c_is_integer T) (hr.mono (by decide)) tk (ea_cons (ex_ixA (hr.mono (by decide)) (ex_var 0) (ex_int)) (ea_cons (ex_neg (ex_glob (T.cst (x := "MOST_SHIFT") (d := (.int 2)) 15))) (ea_cons (ex_glob (T.cst (x := "MOST_SHIFT") (d := (.int 2)) 15)) (ea_nil)))))))))
theorem c_is_stop (T : Fct K mg) : Cal P w K mg base (GmK K) 3 "is_stop" ["value", "many"] f_is_stop := let ⟨fd, FD⟩ := T.c.def_ 11 (d := d_is_stop) rfl; ⟨⟨_, fd, k_is_stop T FD, T.glo (x := "is_stop") 59, FD.kp, FD.bindsN fun _ _ _ _ _ _ us hl => match us, hl with | [_, _], _ => rfl⟩⟩
theorem s_look_at_stops : FnScope ["value", "many", "index", "one"] ["value", "many"] (defScope (top 20)) := ⟨rfl, rfl, rfl, by decide +kernel, rfl, by decide +kernel, by decide +kernel⟩
theorem k_look_at_stops (T : Fct K mg) {fd : FuncData} (FD : FunD K d_look_at_stops.toDefD.name d_look_at_stops.toDefD.qual d_look_at_stops.toDefD.params d_look_at_stops.toDefD.body d_look_at_stops.toDefD.scope (d_look_at_stops.toDefD.dvs K) (d_look_at_stops.toDefD.kws K) (d_look_at_stops.adr K) fd) : FnOk P w K mg base (L2.CX P w) 4 (d_look_at_stops.adr K) fd ["value", "many"] (spF P w K (GmK K) 2 f_look_at_stops) := by
  refine fn_mk (k := 3) (N := ["value", "many", "index", "one"]) (ps := ["value", "many"]) FD s_look_at_stops fun cdv A outer s H E hr => ?_
  have hN : (["value", "many", "index", "one"] : List Str).Nodup := (s_look_at_stops).nd
  have tk := takes_cx (P := P) (w := w) (K := K) (mg := mg) (base := base) (N := ["value", "many", "index", "one"]) (qual := "look_at_stops") (scope := defScope (top 20)) (i := d_look_at_stops.adr K) (cdv := cdv) (A := A) (outer := outer) (s := s) (H := H) (E := E)
  have hp := passes_cx (P := P) (w := w) (K := K) (mg := mg) (base := base) (N := ["value", "many", "index", "one"]) (qual := "look_at_stops") (scope := defScope (top 20)) (i := d_look_at_stops.adr K) (cdv := cdv) (A := A) (outer := outer) (s := s) (H := H) (E := E)
  exact es_cons (es_if (et_w (et_or (et_not (et_val (ex_isTy kind_tuple (ex_var 0) (T.free (x := "isinstance") 6) (T.free (x := "tuple") 5) rfl))) (et_or1 (et_not (et_chain m_le m_le (ex_int) (ex_callB b_len (T.free (x := "len") 2) rfl (ea_cons (ex_var 0) (ea_nil))) (ex_glob (T.cst (x := "MOST_STOPS") (d := (.int 4)) 16))))))) (es_one (es_raise (c := 6) (z_InvalidStop T) rfl (by decide) (hr.mono (by decide)) rfl tk (ea_cons (ex_non) (ea_nil)))) (es_nil))
    (es_one (es_for hp rfl (ei_enum (ex_var 0) (T.free (x := "enumerate") 13)) (eg_tup rfl (egs_cons (eg_name 2 hN) (egs_cons (eg_name 3 hN) (egs_nil)))) (es_one (es_if (et_w (et_or (et_not (et_val (ex_call (c_is_stop T) (hr.mono (by decide)) tk (ea_cons (ex_var 3) (ea_cons (ex_var 1) (ea_nil)))))) (et_or1 (et_cmp (m_inA (hr.mono (by decide))) (ex_var 3) (ex_cut (ex_var 0) (eo_none) (eo_some (ex_var 2))))))) (es_one (es_raise (c := 6) (z_InvalidStop T) rfl (by decide) (hr.mono (by decide)) rfl tk (ea_cons (ex_var 2) (ea_nil)))) (es_nil)))))
theorem c_look_at_stops (T : Fct K mg) : Cal P w K mg base (GmK K) 4 "look_at_stops" ["value", "many"] f_look_at_stops := let ⟨fd, FD⟩ := T.c.def_ 12 (d := d_look_at_stops) rfl; ⟨⟨_, fd, k_look_at_stops T FD, T.glo (x := "look_at_stops") 60, FD.kp, FD.bindsN fun _ _ _ _ _ _ us hl => match us, hl with | [_, _], _ => rfl⟩⟩
theorem s_Organ_init : FnScope ["self", "manuals", "couplers", "stops", "chain", "octave"] ["self", "manuals", "couplers", "stops", "chain", "octave"] (defScope (inCls (top 21) 1)) := ⟨rfl, rfl, rfl, by decide +kernel, rfl, by decide +kernel, by decide +kernel⟩
theorem k_Organ_init (T : Fct K mg) {fd : FuncData} (FD : FunD K d_Organ_init.toDefD.name d_Organ_init.toDefD.qual d_Organ_init.toDefD.params d_Organ_init.toDefD.body d_Organ_init.toDefD.scope (d_Organ_init.toDefD.dvs K) (d_Organ_init.toDefD.kws K) (d_Organ_init.adr K) fd) : FnOk P w K mg base (L2.CX P w) 5 (d_Organ_init.adr K) fd ["self", "manuals", "couplers", "stops", "chain", "octave"] (spF P w K (GmK K) 6 f_Organ_init) := by
  refine fn_mk (k := 4) (N := ["self", "manuals", "couplers", "stops", "chain", "octave"]) (ps := ["self", "manuals", "couplers", "stops", "chain", "octave"]) FD s_Organ_init fun cdv A outer s H E hr => ?_
  have hN : (["self", "manuals", "couplers", "stops", "chain", "octave"] : List Str).Nodup := (s_Organ_init).nd
  have tk := takes_cx (P := P) (w := w) (K := K) (mg := mg) (base := base) (N := ["self", "manuals", "couplers", "stops", "chain", "octave"]) (qual := "Organ.__init__") (scope := defScope (inCls (top 21) 1)) (i := d_Organ_init.adr K) (cdv := cdv) (A := A) (outer := outer) (s := s) (H := H) (E := E)
  have hp := passes_cx (P := P) (w := w) (K := K) (mg := mg) (base := base) (N := ["self", "manuals", "couplers", "stops", "chain", "octave"]) (qual := "Organ.__init__") (scope := defScope (inCls (top 21) 1)) (i := d_Organ_init.adr K) (cdv := cdv) (A := A) (outer := outer) (s := s) (H := H) (E := E)
  exact es_cons (es_if (et_not (et_val (ex_call (c_is_integer T) (hr.mono (by decide)) tk (ea_cons (ex_var 1) (ea_cons (ex_int) (ea_cons (ex_int) (ea_nil))))))) (es_one (es_raise0 (c := 4) (T.exc (x := "InvalidManuals") 8 9) rfl tk)) (es_nil))
    (es_cons (es_expr (ex_call (c_look_at_couplers T) (hr.mono (by decide)) tk (ea_cons (ex_var 2) (ea_cons (ex_var 1) (ea_nil)))))
    (es_cons (es_expr (ex_call (c_look_at_stops T) (hr.mono (by decide)) tk (ea_cons (ex_var 3) (ea_cons (ex_var 1) (ea_nil)))))
    (es_cons (es_if (et_w (et_or (et_not (et_val (ex_isTy kind_str (ex_var 4) (T.free (x := "isinstance") 6) (T.free (x := "str") 20) rfl))) (et_or1 (et_cmp (m_notInA (hr.mono (by decide))) (ex_var 4) (ex_glob (T.cst (x := "CHAINS") (d := (.tup [(.str "all"), (.str "pressed")])) 21)))))) (es_one (es_raise0 (c := 7) (T.exc (x := "InvalidChain") 22 23) rfl tk)) (es_nil))
    (es_cons (es_if (et_w (et_or (et_not (et_val (ex_call (c_is_integer T) (hr.mono (by decide)) tk (ea_cons (ex_var 5) (ea_cons (ex_int) (ea_cons (ex_int) (ea_nil))))))) (et_or1 (et_cmp (m_notInA (hr.mono (by decide))) (ex_var 5) (ex_glob (T.cst (x := "OCTAVES") (d := (.tup [(.int 0), (.int 2), (.int 3)])) 24)))))) (es_one (es_raise0 (c := 8) (T.exc (x := "InvalidOctave") 25 26) rfl tk)) (es_nil))
    (es_cons (es_fld (c := 0) (i := 2) (T.slt (x := "Organ") (f := "many") (i := 2) 27 28) (ex_var 0) (ex_var 1))
    (es_cons (es_fld (c := 0) (i := 1) (T.slt (x := "Organ") (f := "links") (i := 1) 27 29) (ex_var 0) (ex_var 2))
    (es_cons (es_fld (c := 0) (i := 4) (T.slt (x := "Organ") (f := "ranks") (i := 4) 27 30) (ex_var 0) (ex_var 3))
    (es_cons (es_fld (c := 0) (i := 3) (T.slt (x := "Organ") (f := "passing") (i := 3) 27 31) (ex_var 0) (ex_var 4))
    (es_one (es_fld (c := 0) (i := 0) (T.slt (x := "Organ") (f := "by") (i := 0) 27 32) (ex_var 0) (ex_var 5)))))))))))
theorem m_Organ (T : Fct K mg) : Mkd P w K mg base (GmK K) 5 0 "Organ" 6 f_Organ_init := let ⟨fd, FD⟩ := T.c.def_ 13 (d := d_Organ_init) rfl; ⟨T.glo (x := "Organ") 33, ⟨_, fd, _, He.mkr_ok (x := "Organ") (T.c.fact 34 (f := .he (.mkr "Organ"))), k_Organ_init T FD, FD.bindsN fun _ _ _ _ _ _ us hl => match us, hl with | [_, _, _, _, _, _], _ => rfl⟩⟩
theorem s__law_built : FnScope ["_law_t"] ["_law_t"] (defScope (top 50)) := ⟨rfl, rfl, rfl, by decide +kernel, rfl, by decide +kernel, by decide +kernel⟩
theorem k__law_built (T : Fct K mg) {fd : FuncData} (FD : FunD K d__law_built.toDefD.name d__law_built.toDefD.qual d__law_built.toDefD.params d__law_built.toDefD.body d__law_built.toDefD.scope (d__law_built.toDefD.dvs K) (d__law_built.toDefD.kws K) (d__law_built.adr K) fd) : FnOk P w K mg base (L2.CX P w) 7 (d__law_built.adr K) fd ["_law_t"] (spF P w K (GmK K) 1 f__law_built) := by
  refine fn_mk (k := 6) (N := ["_law_t"]) (ps := ["_law_t"]) FD s__law_built fun cdv A outer s H E hr => ?_
  have hN : (["_law_t"] : List Str).Nodup := (s__law_built).nd
  have tk := takes_cx (P := P) (w := w) (K := K) (mg := mg) (base := base) (N := ["_law_t"]) (qual := "_law_built") (scope := defScope (top 50)) (i := d__law_built.adr K) (cdv := cdv) (A := A) (outer := outer) (s := s) (H := H) (E := E)
  have hp := passes_cx (P := P) (w := w) (K := K) (mg := mg) (base := base) (N := ["_law_t"]) (qual := "_law_built") (scope := defScope (top 50)) (i := d__law_built.adr K) (cdv := cdv) (A := A) (outer := outer) (s := s) (H := H) (E := E)
  exact es_one (es_ret (ex_make (m_Organ T) (hr.mono (by decide)) tk (ea_cons (ex_ixA (hr.mono (by decide)) (ex_var 0) (ex_int)) (ea_cons (ex_ixA (hr.mono (by decide)) (ex_var 0) (ex_int)) (ea_cons (ex_ixA (hr.mono (by decide)) (ex_var 0) (ex_int)) (ea_cons (ex_ixA (hr.mono (by decide)) (ex_var 0) (ex_int)) (ea_cons (ex_ixA (hr.mono (by decide)) (ex_var 0) (ex_int)) (ea_nil))))))))
theorem c__law_built (T : Fct K mg) : Cal P w K mg base (GmK K) 7 "_law_built" ["_law_t"] f__law_built := let ⟨fd, FD⟩ := T.c.def_ 14 (d := d__law_built) rfl; ⟨⟨_, fd, k__law_built T FD, T.glo (x := "_law_built") 61, FD.kp, FD.bindsN fun _ _ _ _ _ _ us hl => match us, hl with | [_], _ => rfl⟩⟩
theorem s_look_at_rank : FnScope ["rank"] ["rank"] (defScope (top 40)) := ⟨rfl, rfl, rfl, by decide +kernel, rfl, by decide +kernel, by decide +kernel⟩
theorem k_look_at_rank (T : Fct K mg) {fd : FuncData} (FD : FunD K d_look_at_rank.toDefD.name d_look_at_rank.toDefD.qual d_look_at_rank.toDefD.params d_look_at_rank.toDefD.body d_look_at_rank.toDefD.scope (d_look_at_rank.toDefD.dvs K) (d_look_at_rank.toDefD.kws K) (d_look_at_rank.adr K) fd) : FnOk P w K mg base (L2.CX P w) 3 (d_look_at_rank.adr K) fd ["rank"] (spF P w K (GmK K) 1 f_look_at_rank) := by
  refine fn_mk (k := 2) (N := ["rank"]) (ps := ["rank"]) FD s_look_at_rank fun cdv A outer s H E hr => ?_
  have hN : (["rank"] : List Str).Nodup := (s_look_at_rank).nd
  have tk := takes_cx (P := P) (w := w) (K := K) (mg := mg) (base := base) (N := ["rank"]) (qual := "look_at_rank") (scope := defScope (top 40)) (i := d_look_at_rank.adr K) (cdv := cdv) (A := A) (outer := outer) (s := s) (H := H) (E := E)
  have hp := passes_cx (P := P) (w := w) (K := K) (mg := mg) (base := base) (N := ["rank"]) (qual := "look_at_rank") (scope := defScope (top 40)) (i := d_look_at_rank.adr K) (cdv := cdv) (A := A) (outer := outer) (s := s) (H := H) (E := E)
  exact es_one (es_if (et_not (et_val (ex_call (c_is_integer T) (hr.mono (by decide)) tk (ea_cons (ex_var 0) (ea_cons (ex_int) (ea_cons (ex_glob (T.cst (x := "MOST_RANK") (d := (.int 2)) 19)) (ea_nil))))))) (es_one (es_raise0 (c := 12) (T.exc (x := "InvalidRank") 35 36) rfl tk)) (es_nil))
theorem c_look_at_rank (T : Fct K mg) : Cal P w K mg base (GmK K) 3 "look_at_rank" ["rank"] f_look_at_rank := let ⟨fd, FD⟩ := T.c.def_ 15 (d := d_look_at_rank) rfl; ⟨⟨_, fd, k_look_at_rank T FD, T.glo (x := "look_at_rank") 62, FD.kp, FD.bindsN fun _ _ _ _ _ _ us hl => match us, hl with | [_], _ => rfl⟩⟩
theorem s_first_state : FnScope [] [] (defScope (top 27)) := ⟨rfl, rfl, rfl, by decide +kernel, rfl, by decide +kernel, by decide +kernel⟩
theorem k_first_state (T : Fct K mg) {fd : FuncData} (FD : FunD K d_first_state.toDefD.name d_first_state.toDefD.qual d_first_state.toDefD.params d_first_state.toDefD.body d_first_state.toDefD.scope (d_first_state.toDefD.dvs K) (d_first_state.toDefD.kws K) (d_first_state.adr K) fd) : FnOk P w K mg base (L2.CX P w) 2 (d_first_state.adr K) fd [] (spF P w K (GmK K) 0 f_first_state) := by
  refine fn_mk (k := 1) (N := []) (ps := []) FD s_first_state fun cdv A outer s H E hr => ?_
  have hN : ([] : List Str).Nodup := (s_first_state).nd
  have tk := takes_cx (P := P) (w := w) (K := K) (mg := mg) (base := base) (N := []) (qual := "first_state") (scope := defScope (top 27)) (i := d_first_state.adr K) (cdv := cdv) (A := A) (outer := outer) (s := s) (H := H) (E := E)
  have hp := passes_cx (P := P) (w := w) (K := K) (mg := mg) (base := base) (N := []) (qual := "first_state") (scope := defScope (top 27)) (i := d_first_state.adr K) (cdv := cdv) (A := A) (outer := outer) (s := s) (H := H) (E := E)
  exact es_one (es_ret (ex_tup (ea_cons (ex_int) (ea_cons (ex_tup (ea_nil)) (ea_cons (ex_tup (ea_nil)) (ea_cons (ex_tup (ea_nil)) (ea_cons (ex_non) (ea_cons (ex_bl) (ea_nil)))))))))
theorem c_first_state (T : Fct K mg) : Cal P w K mg base (GmK K) 2 "first_state" [] f_first_state := let ⟨fd, FD⟩ := T.c.def_ 16 (d := d_first_state) rfl; ⟨⟨_, fd, k_first_state T FD, T.glo (x := "first_state") 63, FD.kp, FD.bindsN fun _ _ _ _ _ _ us hl => match us, hl with | [], _ => rfl⟩⟩
theorem s_layers_of : FnScope ["organ"] ["organ"] (defScope (top 28)) := ⟨rfl, rfl, rfl, by decide +kernel, rfl, by decide +kernel, by decide +kernel⟩
theorem k_layers_of (T : Fct K mg) {fd : FuncData} (FD : FunD K d_layers_of.toDefD.name d_layers_of.toDefD.qual d_layers_of.toDefD.params d_layers_of.toDefD.body d_layers_of.toDefD.scope (d_layers_of.toDefD.dvs K) (d_layers_of.toDefD.kws K) (d_layers_of.adr K) fd) : FnOk P w K mg base (L2.CX P w) 2 (d_layers_of.adr K) fd ["organ"] (spF P w K (GmK K) 1 f_layers_of) := by
  refine fn_mk (k := 1) (N := ["organ"]) (ps := ["organ"]) FD s_layers_of fun cdv A outer s H E hr => ?_
  have hN : (["organ"] : List Str).Nodup := (s_layers_of).nd
  have tk := takes_cx (P := P) (w := w) (K := K) (mg := mg) (base := base) (N := ["organ"]) (qual := "layers_of") (scope := defScope (top 28)) (i := d_layers_of.adr K) (cdv := cdv) (A := A) (outer := outer) (s := s) (H := H) (E := E)
  have hp := passes_cx (P := P) (w := w) (K := K) (mg := mg) (base := base) (N := ["organ"]) (qual := "layers_of") (scope := defScope (top 28)) (i := d_layers_of.adr K) (cdv := cdv) (A := A) (outer := outer) (s := s) (H := H) (E := E)
  exact es_one (es_ret (ex_if (et_cmp (m_eq (u64 hr)) (ex_fld (c := 0) (i := 3) (T.slt (x := "Organ") (f := "passing") (i := 3) 27 31) (ex_var 0)) (ex_str)) (ex_tup (ea_cons (ex_int) (ea_cons (ex_int) (ea_nil)))) (ex_tup (ea_cons (ex_int) (ea_cons (ex_int) (ea_nil))))))
theorem c_layers_of (T : Fct K mg) : Cal P w K mg base (GmK K) 2 "layers_of" ["organ"] f_layers_of := let ⟨fd, FD⟩ := T.c.def_ 17 (d := d_layers_of) rfl; ⟨⟨_, fd, k_layers_of T FD, T.glo (x := "layers_of") 64, FD.kp, FD.bindsN fun _ _ _ _ _ _ us hl => match us, hl with | [_], _ => rfl⟩⟩
theorem s_high_pairs : FnScope ["octave", "shift", "many", "found", "back", "place"] ["octave", "shift", "many"] (defScope (top 31)) := ⟨rfl, rfl, rfl, by decide +kernel, rfl, by decide +kernel, by decide +kernel⟩
theorem k_high_pairs (T : Fct K mg) {fd : FuncData} (FD : FunD K d_high_pairs.toDefD.name d_high_pairs.toDefD.qual d_high_pairs.toDefD.params d_high_pairs.toDefD.body d_high_pairs.toDefD.scope (d_high_pairs.toDefD.dvs K) (d_high_pairs.toDefD.kws K) (d_high_pairs.adr K) fd) : FnOk P w K mg base (L2.CX P w) 2 (d_high_pairs.adr K) fd ["octave", "shift", "many"] (spF P w K (GmK K) 3 f_high_pairs) := by
  refine fn_mk (k := 1) (N := ["octave", "shift", "many", "found", "back", "place"]) (ps := ["octave", "shift", "many"]) FD s_high_pairs fun cdv A outer s H E hr => ?_
  have hN : (["octave", "shift", "many", "found", "back", "place"] : List Str).Nodup := (s_high_pairs).nd
  have tk := takes_cx (P := P) (w := w) (K := K) (mg := mg) (base := base) (N := ["octave", "shift", "many", "found", "back", "place"]) (qual := "high_pairs") (scope := defScope (top 31)) (i := d_high_pairs.adr K) (cdv := cdv) (A := A) (outer := outer) (s := s) (H := H) (E := E)
  have hp := passes_cx (P := P) (w := w) (K := K) (mg := mg) (base := base) (N := ["octave", "shift", "many", "found", "back", "place"]) (qual := "high_pairs") (scope := defScope (top 31)) (i := d_high_pairs.adr K) (cdv := cdv) (A := A) (outer := outer) (s := s) (H := H) (E := E)
  exact es_cons (es_set 3 hN (ex_lst (ea_nil)))
    (es_cons (es_for hp rfl (ei_range1 (ex_callB (b_min2 rfl) (T.free (x := "min") 38) rfl (ea_cons (ex_var 2) (ea_cons (ex_glob (T.cst (x := "WINDOW") (d := (.int 3)) 37)) (ea_nil)))) (T.free (x := "range") 4)) (eg_name 4 hN) (es_cons (es_set 5 hN (ex_op m_add (ex_op m_sub (ex_var 4) (ex_var 1)) (ex_var 0)))
    (es_one (es_if (et_w (et_and (et_cmp m_gt (ex_var 0) (ex_int)) (et_and (et_cmp m_gt (ex_var 1) (ex_var 4)) (et_and1 (et_cmp m_lt (ex_var 5) (ex_var 2)))))) (es_one (es_expr (ex_meth F.plainAttrs_list F.slot_list_append F.type_list_append ty_lst l_append (ex_var 3) (ea_cons (ex_tup (ea_cons (ex_var 4) (ea_cons (ex_var 5) (ea_nil)))) (ea_nil))))) (es_nil)))))
    (es_one (es_ret (ex_var 3))))
theorem c_high_pairs (T : Fct K mg) : Cal P w K mg base (GmK K) 2 "high_pairs" ["octave", "shift", "many"] f_high_pairs := let ⟨fd, FD⟩ := T.c.def_ 18 (d := d_high_pairs) rfl; ⟨⟨_, fd, k_high_pairs T FD, T.glo (x := "high_pairs") 65, FD.kp, FD.bindsN fun _ _ _ _ _ _ us hl => match us, hl with | [_, _, _], _ => rfl⟩⟩
theorem s_with_layers : FnScope ["organ", "some", "back", "manual", "layer"] ["organ", "some"] (defScope (top 33)) := ⟨rfl, rfl, rfl, by decide +kernel, rfl, by decide +kernel, by decide +kernel⟩
theorem k_with_layers (T : Fct K mg) {fd : FuncData} (FD : FunD K d_with_layers.toDefD.name d_with_layers.toDefD.qual d_with_layers.toDefD.params d_with_layers.toDefD.body d_with_layers.toDefD.scope (d_with_layers.toDefD.dvs K) (d_with_layers.toDefD.kws K) (d_with_layers.adr K) fd) : FnOk P w K mg base (L2.CX P w) 3 (d_with_layers.adr K) fd ["organ", "some"] (spF P w K (GmK K) 2 f_with_layers) := by
  refine fn_mk (k := 2) (N := ["organ", "some", "back", "manual", "layer"]) (ps := ["organ", "some"]) FD s_with_layers fun cdv A outer s H E hr => ?_
  have hN : (["organ", "some", "back", "manual", "layer"] : List Str).Nodup := (s_with_layers).nd
  have tk := takes_cx (P := P) (w := w) (K := K) (mg := mg) (base := base) (N := ["organ", "some", "back", "manual", "layer"]) (qual := "with_layers") (scope := defScope (top 33)) (i := d_with_layers.adr K) (cdv := cdv) (A := A) (outer := outer) (s := s) (H := H) (E := E)
  have hp := passes_cx (P := P) (w := w) (K := K) (mg := mg) (base := base) (N := ["organ", "some", "back", "manual", "layer"]) (qual := "with_layers") (scope := defScope (top 33)) (i := d_with_layers.adr K) (cdv := cdv) (A := A) (outer := outer) (s := s) (H := H) (E := E)
  exact es_one (es_ret (ex_lc2 (own := [("back", 2), ("manual", 3), ("layer", 4)]) (vs1 := [4]) rfl hN (ei_seq (ex_var 1)) (blkOk_by (N := ["organ", "some", "back", "manual", "layer"]) (sc := defScope (top 33)) (by decide +kernel)) (by decide) (by decide) (by decide) (fun _ _ _ _ _ => eg_tup rfl (egs_cons (eg_name 2 hN) (egs_cons (eg_name 3 hN) (egs_nil)))) (fun _ _ _ _ _ => ets_nil) (fun _ _ _ _ _ => ei_range1 (ex_op m_add (ex_ixA (hr.mono (by decide)) (ex_call (c_layers_of T) (hr.mono (by decide)) takes_W0 (ea_cons (ex_var 0) (ea_nil))) (ex_int)) (ex_int)) (T.free (x := "range") 4)) (fun _ _ _ _ _ => eg_name 4 hN) (fun _ _ _ _ _ => ets_nil) (fun _ _ _ _ _ => ex_tup (ea_cons (ex_var 2) (ea_cons (ex_var 3) (ea_cons (ex_var 4) (ea_nil)))))))
theorem c_with_layers (T : Fct K mg) : Cal P w K mg base (GmK K) 3 "with_layers" ["organ", "some"] f_with_layers := let ⟨fd, FD⟩ := T.c.def_ 19 (d := d_with_layers) rfl; ⟨⟨_, fd, k_with_layers T FD, T.glo (x := "with_layers") 66, FD.kp, FD.bindsN fun _ _ _ _ _ _ us hl => match us, hl with | [_, _], _ => rfl⟩⟩
theorem s_closed : FnScope ["pairs", "found", "waiting", "first", "middle", "start", "goal", "pair"] ["pairs"] (defScope (top 34)) := ⟨rfl, rfl, rfl, by decide +kernel, rfl, by decide +kernel, by decide +kernel⟩
theorem k_closed (T : Fct K mg) {fd : FuncData} (FD : FunD K d_closed.toDefD.name d_closed.toDefD.qual d_closed.toDefD.params d_closed.toDefD.body d_closed.toDefD.scope (d_closed.toDefD.dvs K) (d_closed.toDefD.kws K) (d_closed.adr K) fd) : FnOk P w K mg base (L2.CX P w) 2 (d_closed.adr K) fd ["pairs"] (spF P w K (GmK K) 1 f_closed) := by
  refine fn_mk (k := 1) (N := ["pairs", "found", "waiting", "first", "middle", "start", "goal", "pair"]) (ps := ["pairs"]) FD s_closed fun cdv A outer s H E hr => ?_
  have hN : (["pairs", "found", "waiting", "first", "middle", "start", "goal", "pair"] : List Str).Nodup := (s_closed).nd
  have tk := takes_cx (P := P) (w := w) (K := K) (mg := mg) (base := base) (N := ["pairs", "found", "waiting", "first", "middle", "start", "goal", "pair"]) (qual := "closed") (scope := defScope (top 34)) (i := d_closed.adr K) (cdv := cdv) (A := A) (outer := outer) (s := s) (H := H) (E := E)
  have hp := passes_cx (P := P) (w := w) (K := K) (mg := mg) (base := base) (N := ["pairs", "found", "waiting", "first", "middle", "start", "goal", "pair"]) (qual := "closed") (scope := defScope (top 34)) (i := d_closed.adr K) (cdv := cdv) (A := A) (outer := outer) (s := s) (H := H) (E := E)
  exact es_cons (es_setDc (own := [("pair", 7)]) 1 (hr.mono (by decide)) rfl hN (ei_seq (ex_var 0)) (blkOk_by (N := ["pairs", "found", "waiting", "first", "middle", "start", "goal", "pair"]) (sc := defScope (top 34)) (by decide +kernel)) (by decide) (fun _ _ _ _ _ => eg_name 7 hN) (fun _ _ _ _ _ => ets_nil) (fun _ _ _ _ _ => ex_var 7) (fun _ _ _ _ _ => ex_bl) (sw_dict rfl rfl rfl rfl))
    (es_cons (es_set 2 hN (ex_callTy (b_listA rfl) (T.free (x := "list") 1) rfl (ea_cons (ex_var 1) (ea_nil))))
    (es_cons (es_while hp (et_cmp (m_ne (u64 hr)) (ex_var 2) (ex_lst (ea_nil))) (es_cons (es_asg (ex_meth0 F.plainAttrs_list F.slot_list_pop F.type_list_pop ty_lst l_pop (ex_var 2)) (eg_tup rfl (egs_cons (eg_name 3 hN) (egs_cons (eg_name 4 hN) (egs_nil)))))
    (es_one (es_for hp rfl (ei_seq (ex_callTy (b_listA rfl) (T.free (x := "list") 1) rfl (ea_cons (ex_var 1) (ea_nil)))) (eg_tup rfl (egs_cons (eg_name 5 hN) (egs_cons (eg_name 6 hN) (egs_nil)))) (es_cons (es_if (et_w (et_and (et_cmp (m_eq (u64 hr)) (ex_var 5) (ex_var 4)) (et_and1 (et_cmp (m_notInA (hr.mono (by decide))) (ex_tup (ea_cons (ex_var 3) (ea_cons (ex_var 6) (ea_nil)))) (ex_var 1))))) (es_cons (es_put (put_any (hr.mono (by decide))) (ex_var 1) (ex_tup (ea_cons (ex_var 3) (ea_cons (ex_var 6) (ea_nil)))) (ex_bl))
    (es_one (es_expr (ex_meth F.plainAttrs_list F.slot_list_append F.type_list_append ty_lst l_append (ex_var 2) (ea_cons (ex_tup (ea_cons (ex_var 3) (ea_cons (ex_var 6) (ea_nil)))) (ea_nil)))))) (es_nil))
    (es_one (es_if (et_w (et_and (et_cmp (m_eq (u64 hr)) (ex_var 6) (ex_var 3)) (et_and1 (et_cmp (m_notInA (hr.mono (by decide))) (ex_tup (ea_cons (ex_var 5) (ea_cons (ex_var 4) (ea_nil)))) (ex_var 1))))) (es_cons (es_put (put_any (hr.mono (by decide))) (ex_var 1) (ex_tup (ea_cons (ex_var 5) (ea_cons (ex_var 4) (ea_nil)))) (ex_bl))
    (es_one (es_expr (ex_meth F.plainAttrs_list F.slot_list_append F.type_list_append ty_lst l_append (ex_var 2) (ea_cons (ex_tup (ea_cons (ex_var 5) (ea_cons (ex_var 4) (ea_nil)))) (ea_nil)))))) (es_nil))))))))
    (es_one (es_ret (ex_callB (b_sortedA (hr.mono (by decide)) rfl) (T.free (x := "sorted") 39) rfl (ea_cons (ex_var 1) (ea_nil)))))))
theorem c_closed (T : Fct K mg) : Cal P w K mg base (GmK K) 2 "closed" ["pairs"] f_closed := let ⟨fd, FD⟩ := T.c.def_ 20 (d := d_closed) rfl; ⟨⟨_, fd, k_closed T FD, T.glo (x := "closed") 67, FD.kp, FD.bindsN fun _ _ _ _ _ _ us hl => match us, hl with | [_], _ => rfl⟩⟩
theorem s_settled : FnScope ["many", "links", "started", "ending", "age", "is_done", "reached", "ends", "near", "begun", "start", "goal", "spot"] ["many", "links", "started", "ending", "age", "is_done"] (defScope (top 35)) := ⟨rfl, rfl, rfl, by decide +kernel, rfl, by decide +kernel, by decide +kernel⟩
theorem k_settled (T : Fct K mg) {fd : FuncData} (FD : FunD K d_settled.toDefD.name d_settled.toDefD.qual d_settled.toDefD.params d_settled.toDefD.body d_settled.toDefD.scope (d_settled.toDefD.dvs K) (d_settled.toDefD.kws K) (d_settled.adr K) fd) : FnOk P w K mg base (L2.CX P w) 3 (d_settled.adr K) fd ["many", "links", "started", "ending", "age", "is_done"] (spF P w K (GmK K) 6 f_settled) := by
  refine fn_mk (k := 2) (N := ["many", "links", "started", "ending", "age", "is_done", "reached", "ends", "near", "begun", "start", "goal", "spot"]) (ps := ["many", "links", "started", "ending", "age", "is_done"]) FD s_settled fun cdv A outer s H E hr => ?_
  have hN : (["many", "links", "started", "ending", "age", "is_done", "reached", "ends", "near", "begun", "start", "goal", "spot"] : List Str).Nodup := (s_settled).nd
  have tk := takes_cx (P := P) (w := w) (K := K) (mg := mg) (base := base) (N := ["many", "links", "started", "ending", "age", "is_done", "reached", "ends", "near", "begun", "start", "goal", "spot"]) (qual := "settled") (scope := defScope (top 35)) (i := d_settled.adr K) (cdv := cdv) (A := A) (outer := outer) (s := s) (H := H) (E := E)
  have hp := passes_cx (P := P) (w := w) (K := K) (mg := mg) (base := base) (N := ["many", "links", "started", "ending", "age", "is_done", "reached", "ends", "near", "begun", "start", "goal", "spot"]) (qual := "settled") (scope := defScope (top 35)) (i := d_settled.adr K) (cdv := cdv) (A := A) (outer := outer) (s := s) (H := H) (E := E)
  exact es_cons (es_set 1 hN (ex_call (c_closed T) (hr.mono (by decide)) tk (ea_cons (ex_var 1) (ea_nil))))
    (es_cons (es_set 6 hN (ex_sset rfl (u64 hr) (ex_lst (ea_star (ex_var 2) (ea_star (ex_lc (own := [("start", 10), ("goal", 11)]) rfl hN (ei_seq (ex_var 1)) (blkOk_by (N := ["many", "links", "started", "ending", "age", "is_done", "reached", "ends", "near", "begun", "start", "goal", "spot"]) (sc := defScope (top 35)) (by decide +kernel)) (by decide) (fun _ _ _ _ _ => eg_tup rfl (egs_cons (eg_name 10 hN) (egs_cons (eg_name 11 hN) (egs_nil)))) (fun _ _ _ _ _ => ets_one (et_cmp (m_inA (hr.mono (by decide))) (ex_var 10) (ex_var 2))) (fun _ _ _ _ _ => ex_var 11)) (ea_nil)))) (T.free (x := "sorted") 39) (T.free (x := "set") 40)))
    (es_cons (es_set 7 hN (ex_sset rfl (u64 hr) (ex_lst (ea_star (ex_var 3) (ea_star (ex_lc (own := [("start", 10), ("goal", 11)]) rfl hN (ei_seq (ex_var 1)) (blkOk_by (N := ["many", "links", "started", "ending", "age", "is_done", "reached", "ends", "near", "begun", "start", "goal", "spot"]) (sc := defScope (top 35)) (by decide +kernel)) (by decide) (fun _ _ _ _ _ => eg_tup rfl (egs_cons (eg_name 10 hN) (egs_cons (eg_name 11 hN) (egs_nil)))) (fun _ _ _ _ _ => ets_one (et_cmp (m_inA (hr.mono (by decide))) (ex_var 11) (ex_var 3))) (fun _ _ _ _ _ => ex_var 10)) (ea_nil)))) (T.free (x := "sorted") 39) (T.free (x := "set") 40)))
    (es_cons (es_set 5 hN (ex_or (ex_var 5) (ex_one (ex_callB (b_any rfl) (T.free (x := "any") 41) rfl (ea_cons (ex_lc (own := [("spot", 12)]) rfl hN (ei_seq (ex_var 6)) (blkOk_by (N := ["many", "links", "started", "ending", "age", "is_done", "reached", "ends", "near", "begun", "start", "goal", "spot"]) (sc := defScope (top 35)) (by decide +kernel)) (by decide) (fun _ _ _ _ _ => eg_name 12 hN) (fun _ _ _ _ _ => ets_nil) (fun _ _ _ _ _ => ex_cmp (m_inA (hr.mono (by decide))) (ex_var 12) (ex_var 7))) (ea_nil))))))
    (es_cons (es_set 8 hN (ex_callTy b_tuple (T.free (x := "tuple") 5) rfl (ea_cons (ex_lc (own := [("start", 10), ("goal", 11)]) rfl hN (ei_seq (ex_var 1)) (blkOk_by (N := ["many", "links", "started", "ending", "age", "is_done", "reached", "ends", "near", "begun", "start", "goal", "spot"]) (sc := defScope (top 35)) (by decide +kernel)) (by decide) (fun _ _ _ _ _ => eg_tup rfl (egs_cons (eg_name 10 hN) (egs_cons (eg_name 11 hN) (egs_nil)))) (fun _ _ _ _ _ => ets_one (et_w (et_and (et_cmp m_lt (ex_ixA (hr.mono (by decide)) (ex_var 10) (ex_int)) (ex_glob (T.cst (x := "WINDOW") (d := (.int 3)) 37))) (et_and1 (et_cmp m_lt (ex_ixA (hr.mono (by decide)) (ex_var 11) (ex_int)) (ex_glob (T.cst (x := "WINDOW") (d := (.int 3)) 37))))))) (fun _ _ _ _ _ => ex_tup (ea_cons (ex_var 10) (ea_cons (ex_var 11) (ea_nil))))) (ea_nil))))
    (es_cons (es_if (et_val (ex_var 5)) (es_one (es_ret (ex_glob (T.cst (x := "DONE") (d := (.tup [(.int 3), (.tup []), (.tup []), (.tup []), (.int 3), (.bl true)])) 42)))) (es_nil))
    (es_cons (es_set 9 hN (ex_callTy b_tuple (T.free (x := "tuple") 5) rfl (ea_cons (ex_lc (own := [("spot", 12)]) rfl hN (ei_seq (ex_var 6)) (blkOk_by (N := ["many", "links", "started", "ending", "age", "is_done", "reached", "ends", "near", "begun", "start", "goal", "spot"]) (sc := defScope (top 35)) (by decide +kernel)) (by decide) (fun _ _ _ _ _ => eg_name 12 hN) (fun _ _ _ _ _ => ets_one (et_cmp m_lt (ex_ixA (hr.mono (by decide)) (ex_var 12) (ex_int)) (ex_glob (T.cst (x := "WINDOW") (d := (.int 3)) 37)))) (fun _ _ _ _ _ => ex_var 12)) (ea_nil))))
    (es_one (es_ret (ex_tup (ea_cons (ex_var 0) (ea_cons (ex_var 8) (ea_cons (ex_var 9) (ea_cons (ex_callTy b_tuple (T.free (x := "tuple") 5) rfl (ea_cons (ex_lc (own := [("spot", 12)]) rfl hN (ei_seq (ex_var 7)) (blkOk_by (N := ["many", "links", "started", "ending", "age", "is_done", "reached", "ends", "near", "begun", "start", "goal", "spot"]) (sc := defScope (top 35)) (by decide +kernel)) (by decide) (fun _ _ _ _ _ => eg_name 12 hN) (fun _ _ _ _ _ => ets_one (et_cmp m_lt (ex_ixA (hr.mono (by decide)) (ex_var 12) (ex_int)) (ex_glob (T.cst (x := "WINDOW") (d := (.int 3)) 37)))) (fun _ _ _ _ _ => ex_var 12)) (ea_nil))) (ea_cons (ex_var 4) (ea_cons (ex_bl) (ea_nil))))))))))))))))
theorem c_settled (T : Fct K mg) : Cal P w K mg base (GmK K) 3 "settled" ["many", "links", "started", "ending", "age", "is_done"] f_settled := let ⟨fd, FD⟩ := T.c.def_ 21 (d := d_settled) rfl; ⟨⟨_, fd, k_settled T FD, T.glo (x := "settled") 68, FD.kp, FD.bindsN fun _ _ _ _ _ _ us hl => match us, hl with | [_, _, _, _, _, _], _ => rfl⟩⟩
theorem s_is_sounding : FnScope ["organ", "state", "rank", "many", "links", "started", "ending", "age", "is_done", "first", "second", "pairs", "start", "goal", "shift", "some", "ends", "manual", "own", "back", "place"] ["organ", "state", "rank"] (defScope (top 38)) := ⟨rfl, rfl, rfl, by decide +kernel, rfl, by decide +kernel, by decide +kernel⟩
theorem k_is_sounding (T : Fct K mg) {fd : FuncData} (FD : FunD K d_is_sounding.toDefD.name d_is_sounding.toDefD.qual d_is_sounding.toDefD.params d_is_sounding.toDefD.body d_is_sounding.toDefD.scope (d_is_sounding.toDefD.dvs K) (d_is_sounding.toDefD.kws K) (d_is_sounding.adr K) fd) : FnOk P w K mg base (L2.CX P w) 4 (d_is_sounding.adr K) fd ["organ", "state", "rank"] (spF P w K (GmK K) 3 f_is_sounding) := by
  refine fn_mk (k := 3) (N := ["organ", "state", "rank", "many", "links", "started", "ending", "age", "is_done", "first", "second", "pairs", "start", "goal", "shift", "some", "ends", "manual", "own", "back", "place"]) (ps := ["organ", "state", "rank"]) FD s_is_sounding fun cdv A outer s H E hr => ?_
  have hN : (["organ", "state", "rank", "many", "links", "started", "ending", "age", "is_done", "first", "second", "pairs", "start", "goal", "shift", "some", "ends", "manual", "own", "back", "place"] : List Str).Nodup := (s_is_sounding).nd
  have tk := takes_cx (P := P) (w := w) (K := K) (mg := mg) (base := base) (N := ["organ", "state", "rank", "many", "links", "started", "ending", "age", "is_done", "first", "second", "pairs", "start", "goal", "shift", "some", "ends", "manual", "own", "back", "place"]) (qual := "is_sounding") (scope := defScope (top 38)) (i := d_is_sounding.adr K) (cdv := cdv) (A := A) (outer := outer) (s := s) (H := H) (E := E)
  have hp := passes_cx (P := P) (w := w) (K := K) (mg := mg) (base := base) (N := ["organ", "state", "rank", "many", "links", "started", "ending", "age", "is_done", "first", "second", "pairs", "start", "goal", "shift", "some", "ends", "manual", "own", "back", "place"]) (qual := "is_sounding") (scope := defScope (top 38)) (i := d_is_sounding.adr K) (cdv := cdv) (A := A) (outer := outer) (s := s) (H := H) (E := E)
  exact es_cons (es_asg (ex_var 1) (eg_tup rfl (egs_cons (eg_name 3 hN) (egs_cons (eg_name 4 hN) (egs_cons (eg_name 5 hN) (egs_cons (eg_name 6 hN) (egs_cons (eg_name 7 hN) (egs_cons (eg_name 8 hN) (egs_nil)))))))))
    (es_cons (es_asg (ex_call (c_layers_of T) (hr.mono (by decide)) tk (ea_cons (ex_var 0) (ea_nil))) (eg_tup rfl (egs_cons (eg_name 9 hN) (egs_cons (eg_name 10 hN) (egs_nil)))))
    (es_cons (es_set 11 hN (ex_callTy (b_listA rfl) (T.free (x := "list") 1) rfl (ea_cons (ex_var 4) (ea_nil))))
    (es_cons (es_for hp rfl (ei_seq (ex_fld (c := 0) (i := 1) (T.slt (x := "Organ") (f := "links") (i := 1) 27 29) (ex_var 0))) (eg_tup rfl (egs_cons (eg_name 12 hN) (egs_cons (eg_name 13 hN) (egs_cons (eg_name 14 hN) (egs_nil))))) (es_cons (es_set 15 hN (ex_call (c_high_pairs T) (hr.mono (by decide)) tk (ea_cons (ex_fld (c := 0) (i := 0) (T.slt (x := "Organ") (f := "by") (i := 0) 27 32) (ex_var 0)) (ea_cons (ex_var 14) (ea_cons (ex_var 3) (ea_nil))))))
    (es_one (es_expr (ex_meth F.plainAttrs_list F.slot_list_extend F.type_list_extend ty_lst l_extend (ex_var 11) (ea_cons (ex_lc (own := [("back", 19), ("place", 20)]) rfl hN (ei_seq (ex_var 15)) (blkOk_by (N := ["organ", "state", "rank", "many", "links", "started", "ending", "age", "is_done", "first", "second", "pairs", "start", "goal", "shift", "some", "ends", "manual", "own", "back", "place"]) (sc := defScope (top 38)) (by decide +kernel)) (by decide) (fun _ _ _ _ _ => eg_tup rfl (egs_cons (eg_name 19 hN) (egs_cons (eg_name 20 hN) (egs_nil)))) (fun _ _ _ _ _ => ets_nil) (fun _ _ _ _ _ => ex_tup (ea_cons (ex_tup (ea_cons (ex_var 19) (ea_cons (ex_var 12) (ea_cons (ex_var 9) (ea_nil))))) (ea_cons (ex_tup (ea_cons (ex_var 20) (ea_cons (ex_var 13) (ea_cons (ex_var 10) (ea_nil))))) (ea_nil))))) (ea_nil)))))))
    (es_cons (es_set 16 hN (ex_callTy (b_listA rfl) (T.free (x := "list") 1) rfl (ea_cons (ex_var 6) (ea_nil))))
    (es_cons (es_for hp rfl (ei_seq (ex_fld (c := 0) (i := 4) (T.slt (x := "Organ") (f := "ranks") (i := 4) 27 30) (ex_var 0))) (eg_tup rfl (egs_cons (eg_name 17 hN) (egs_cons (eg_name 18 hN) (egs_cons (eg_name 14 hN) (egs_nil))))) (es_one (es_if (et_cmp (m_eq (u64 hr)) (ex_var 18) (ex_var 2)) (es_cons (es_set 15 hN (ex_call (c_high_pairs T) (hr.mono (by decide)) tk (ea_cons (ex_fld (c := 0) (i := 0) (T.slt (x := "Organ") (f := "by") (i := 0) 27 32) (ex_var 0)) (ea_cons (ex_var 14) (ea_cons (ex_var 3) (ea_nil))))))
    (es_one (es_expr (ex_meth F.plainAttrs_list F.slot_list_extend F.type_list_extend ty_lst l_extend (ex_var 16) (ea_cons (ex_call (c_with_layers T) (hr.mono (by decide)) tk (ea_cons (ex_var 0) (ea_cons (ex_lc (own := [("back", 19), ("place", 20)]) rfl hN (ei_seq (ex_var 15)) (blkOk_by (N := ["organ", "state", "rank", "many", "links", "started", "ending", "age", "is_done", "first", "second", "pairs", "start", "goal", "shift", "some", "ends", "manual", "own", "back", "place"]) (sc := defScope (top 38)) (by decide +kernel)) (by decide) (fun _ _ _ _ _ => eg_tup rfl (egs_cons (eg_name 19 hN) (egs_cons (eg_name 20 hN) (egs_nil)))) (fun _ _ _ _ _ => ets_one (et_cmp (m_eq (u64 hr)) (ex_var 20) (ex_var 7))) (fun _ _ _ _ _ => ex_tup (ea_cons (ex_var 19) (ea_cons (ex_var 17) (ea_nil))))) (ea_nil)))) (ea_nil)))))) (es_nil))))
    (es_one (es_ret (ex_ixA (hr.mono (by decide)) (ex_call (c_settled T) (hr.mono (by decide)) tk (ea_cons (ex_var 3) (ea_cons (ex_var 11) (ea_cons (ex_var 5) (ea_cons (ex_var 16) (ea_cons (ex_var 7) (ea_cons (ex_var 8) (ea_nil)))))))) (ex_int)))))))))
theorem c_is_sounding (T : Fct K mg) : Cal P w K mg base (GmK K) 4 "is_sounding" ["organ", "state", "rank"] f_is_sounding := let ⟨fd, FD⟩ := T.c.def_ 22 (d := d_is_sounding) rfl; ⟨⟨_, fd, k_is_sounding T FD, T.glo (x := "is_sounding") 69, FD.kp, FD.bindsN fun _ _ _ _ _ _ us hl => match us, hl with | [_, _, _], _ => rfl⟩⟩
theorem s_older : FnScope ["spot"] ["spot"] (defScope (top 36)) := ⟨rfl, rfl, rfl, by decide +kernel, rfl, by decide +kernel, by decide +kernel⟩
theorem k_older (T : Fct K mg) {fd : FuncData} (FD : FunD K d_older.toDefD.name d_older.toDefD.qual d_older.toDefD.params d_older.toDefD.body d_older.toDefD.scope (d_older.toDefD.dvs K) (d_older.toDefD.kws K) (d_older.adr K) fd) : FnOk P w K mg base (L2.CX P w) 2 (d_older.adr K) fd ["spot"] (spF P w K (GmK K) 1 f_older) := by
  refine fn_mk (k := 1) (N := ["spot"]) (ps := ["spot"]) FD s_older fun cdv A outer s H E hr => ?_
  have hN : (["spot"] : List Str).Nodup := (s_older).nd
  have tk := takes_cx (P := P) (w := w) (K := K) (mg := mg) (base := base) (N := ["spot"]) (qual := "older") (scope := defScope (top 36)) (i := d_older.adr K) (cdv := cdv) (A := A) (outer := outer) (s := s) (H := H) (E := E)
  have hp := passes_cx (P := P) (w := w) (K := K) (mg := mg) (base := base) (N := ["spot"]) (qual := "older") (scope := defScope (top 36)) (i := d_older.adr K) (cdv := cdv) (A := A) (outer := outer) (s := s) (H := H) (E := E)
  exact es_one (es_ret (ex_tup (ea_cons (ex_op m_add (ex_ixA (hr.mono (by decide)) (ex_var 0) (ex_int)) (ex_int)) (ea_cons (ex_ixA (hr.mono (by decide)) (ex_var 0) (ex_int)) (ea_cons (ex_ixA (hr.mono (by decide)) (ex_var 0) (ex_int)) (ea_nil))))))
theorem c_older (T : Fct K mg) : Cal P w K mg base (GmK K) 2 "older" ["spot"] f_older := let ⟨fd, FD⟩ := T.c.def_ 23 (d := d_older) rfl; ⟨⟨_, fd, k_older T FD, T.glo (x := "older") 70, FD.kp, FD.bindsN fun _ _ _ _ _ _ us hl => match us, hl with | [_], _ => rfl⟩⟩
theorem s_low_pairs : FnScope ["octave", "shift", "many", "found", "key", "place"] ["octave", "shift", "many"] (defScope (top 30)) := ⟨rfl, rfl, rfl, by decide +kernel, rfl, by decide +kernel, by decide +kernel⟩
theorem k_low_pairs (T : Fct K mg) {fd : FuncData} (FD : FunD K d_low_pairs.toDefD.name d_low_pairs.toDefD.qual d_low_pairs.toDefD.params d_low_pairs.toDefD.body d_low_pairs.toDefD.scope (d_low_pairs.toDefD.dvs K) (d_low_pairs.toDefD.kws K) (d_low_pairs.adr K) fd) : FnOk P w K mg base (L2.CX P w) 2 (d_low_pairs.adr K) fd ["octave", "shift", "many"] (spF P w K (GmK K) 3 f_low_pairs) := by
  refine fn_mk (k := 1) (N := ["octave", "shift", "many", "found", "key", "place"]) (ps := ["octave", "shift", "many"]) FD s_low_pairs fun cdv A outer s H E hr => ?_
  have hN : (["octave", "shift", "many", "found", "key", "place"] : List Str).Nodup := (s_low_pairs).nd
  have tk := takes_cx (P := P) (w := w) (K := K) (mg := mg) (base := base) (N := ["octave", "shift", "many", "found", "key", "place"]) (qual := "low_pairs") (scope := defScope (top 30)) (i := d_low_pairs.adr K) (cdv := cdv) (A := A) (outer := outer) (s := s) (H := H) (E := E)
  have hp := passes_cx (P := P) (w := w) (K := K) (mg := mg) (base := base) (N := ["octave", "shift", "many", "found", "key", "place"]) (qual := "low_pairs") (scope := defScope (top 30)) (i := d_low_pairs.adr K) (cdv := cdv) (A := A) (outer := outer) (s := s) (H := H) (E := E)
  exact es_cons (es_set 3 hN (ex_lst (ea_nil)))
    (es_cons (es_for hp rfl (ei_range1 (ex_op m_add (ex_var 2) (ex_int)) (T.free (x := "range") 4)) (eg_name 4 hN) (es_cons (es_set 5 hN (ex_op m_add (ex_op m_add (ex_var 4) (ex_var 1)) (ex_var 0)))
    (es_one (es_if (et_w (et_and (et_cmp m_gt (ex_var 0) (ex_int)) (et_and (et_cmp m_lt (ex_op m_add (ex_var 4) (ex_var 1)) (ex_int)) (et_and (et_cmp m_le (ex_var 5) (ex_var 2)) (et_and1 (et_cmp (m_eq (u64 hr)) (ex_callB (b_max2 rfl) (T.free (x := "max") 3) rfl (ea_cons (ex_var 4) (ea_cons (ex_var 5) (ea_nil)))) (ex_var 2))))))) (es_one (es_expr (ex_meth F.plainAttrs_list F.slot_list_append F.type_list_append ty_lst l_append (ex_var 3) (ea_cons (ex_tup (ea_cons (ex_var 4) (ea_cons (ex_var 5) (ea_nil)))) (ea_nil))))) (es_nil)))))
    (es_one (es_ret (ex_var 3))))
theorem c_low_pairs (T : Fct K mg) : Cal P w K mg base (GmK K) 2 "low_pairs" ["octave", "shift", "many"] f_low_pairs := let ⟨fd, FD⟩ := T.c.def_ 24 (d := d_low_pairs) rfl; ⟨⟨_, fd, k_low_pairs T FD, T.glo (x := "low_pairs") 71, FD.kp, FD.bindsN fun _ _ _ _ _ _ us hl => match us, hl with | [_, _, _], _ => rfl⟩⟩
theorem s_new_links : FnScope ["organ", "many", "first", "second", "found", "start", "goal", "shift", "some", "key", "place"] ["organ", "many"] (defScope (top 29)) := ⟨rfl, rfl, rfl, by decide +kernel, rfl, by decide +kernel, by decide +kernel⟩
theorem k_new_links (T : Fct K mg) {fd : FuncData} (FD : FunD K d_new_links.toDefD.name d_new_links.toDefD.qual d_new_links.toDefD.params d_new_links.toDefD.body d_new_links.toDefD.scope (d_new_links.toDefD.dvs K) (d_new_links.toDefD.kws K) (d_new_links.adr K) fd) : FnOk P w K mg base (L2.CX P w) 3 (d_new_links.adr K) fd ["organ", "many"] (spF P w K (GmK K) 2 f_new_links) := by
  refine fn_mk (k := 2) (N := ["organ", "many", "first", "second", "found", "start", "goal", "shift", "some", "key", "place"]) (ps := ["organ", "many"]) FD s_new_links fun cdv A outer s H E hr => ?_
  have hN : (["organ", "many", "first", "second", "found", "start", "goal", "shift", "some", "key", "place"] : List Str).Nodup := (s_new_links).nd
  have tk := takes_cx (P := P) (w := w) (K := K) (mg := mg) (base := base) (N := ["organ", "many", "first", "second", "found", "start", "goal", "shift", "some", "key", "place"]) (qual := "new_links") (scope := defScope (top 29)) (i := d_new_links.adr K) (cdv := cdv) (A := A) (outer := outer) (s := s) (H := H) (E := E)
  have hp := passes_cx (P := P) (w := w) (K := K) (mg := mg) (base := base) (N := ["organ", "many", "first", "second", "found", "start", "goal", "shift", "some", "key", "place"]) (qual := "new_links") (scope := defScope (top 29)) (i := d_new_links.adr K) (cdv := cdv) (A := A) (outer := outer) (s := s) (H := H) (E := E)
  exact es_cons (es_asg (ex_call (c_layers_of T) (hr.mono (by decide)) tk (ea_cons (ex_var 0) (ea_nil))) (eg_tup rfl (egs_cons (eg_name 2 hN) (egs_cons (eg_name 3 hN) (egs_nil)))))
    (es_cons (es_set 4 hN (ex_lst (ea_nil)))
    (es_cons (es_for hp rfl (ei_seq (ex_fld (c := 0) (i := 1) (T.slt (x := "Organ") (f := "links") (i := 1) 27 29) (ex_var 0))) (eg_tup rfl (egs_cons (eg_name 5 hN) (egs_cons (eg_name 6 hN) (egs_cons (eg_name 7 hN) (egs_nil))))) (es_cons (es_if (et_cmp (m_eq (u64 hr)) (ex_var 7) (ex_int)) (es_one (es_expr (ex_meth F.plainAttrs_list F.slot_list_append F.type_list_append ty_lst l_append (ex_var 4) (ea_cons (ex_tup (ea_cons (ex_tup (ea_cons (ex_int) (ea_cons (ex_var 5) (ea_cons (ex_var 2) (ea_nil))))) (ea_cons (ex_tup (ea_cons (ex_int) (ea_cons (ex_var 6) (ea_cons (ex_var 3) (ea_nil))))) (ea_nil)))) (ea_nil))))) (es_one (es_if (et_w (et_and (et_cmp m_gt (ex_var 7) (ex_int)) (et_and1 (et_cmp m_ge (ex_var 1) (ex_var 7))))) (es_one (es_expr (ex_meth F.plainAttrs_list F.slot_list_append F.type_list_append ty_lst l_append (ex_var 4) (ea_cons (ex_tup (ea_cons (ex_tup (ea_cons (ex_var 7) (ea_cons (ex_var 5) (ea_cons (ex_var 2) (ea_nil))))) (ea_cons (ex_tup (ea_cons (ex_int) (ea_cons (ex_var 6) (ea_cons (ex_var 3) (ea_nil))))) (ea_nil)))) (ea_nil))))) (es_one (es_if (et_w (et_and (et_cmp m_lt (ex_var 7) (ex_int)) (et_and1 (et_cmp m_ge (ex_var 1) (ex_neg (ex_var 7)))))) (es_one (es_expr (ex_meth F.plainAttrs_list F.slot_list_append F.type_list_append ty_lst l_append (ex_var 4) (ea_cons (ex_tup (ea_cons (ex_tup (ea_cons (ex_int) (ea_cons (ex_var 5) (ea_cons (ex_var 2) (ea_nil))))) (ea_cons (ex_tup (ea_cons (ex_neg (ex_var 7)) (ea_cons (ex_var 6) (ea_cons (ex_var 3) (ea_nil))))) (ea_nil)))) (ea_nil))))) (es_nil))))))
    (es_one (es_if (et_cmp m_lt (ex_var 1) (ex_glob (T.cst (x := "WINDOW") (d := (.int 3)) 37))) (es_cons (es_set 8 hN (ex_call (c_low_pairs T) (hr.mono (by decide)) tk (ea_cons (ex_fld (c := 0) (i := 0) (T.slt (x := "Organ") (f := "by") (i := 0) 27 32) (ex_var 0)) (ea_cons (ex_var 7) (ea_cons (ex_var 1) (ea_nil))))))
    (es_one (es_expr (ex_meth F.plainAttrs_list F.slot_list_extend F.type_list_extend ty_lst l_extend (ex_var 4) (ea_cons (ex_lc (own := [("key", 9), ("place", 10)]) rfl hN (ei_seq (ex_var 8)) (blkOk_by (N := ["organ", "many", "first", "second", "found", "start", "goal", "shift", "some", "key", "place"]) (sc := defScope (top 29)) (by decide +kernel)) (by decide) (fun _ _ _ _ _ => eg_tup rfl (egs_cons (eg_name 9 hN) (egs_cons (eg_name 10 hN) (egs_nil)))) (fun _ _ _ _ _ => ets_nil) (fun _ _ _ _ _ => ex_tup (ea_cons (ex_tup (ea_cons (ex_op m_sub (ex_var 1) (ex_var 9)) (ea_cons (ex_var 5) (ea_cons (ex_var 2) (ea_nil))))) (ea_cons (ex_tup (ea_cons (ex_op m_sub (ex_var 1) (ex_var 10)) (ea_cons (ex_var 6) (ea_cons (ex_var 3) (ea_nil))))) (ea_nil))))) (ea_nil)))))) (es_nil)))))
    (es_one (es_ret (ex_var 4)))))
theorem c_new_links (T : Fct K mg) : Cal P w K mg base (GmK K) 3 "new_links" ["organ", "many"] f_new_links := let ⟨fd, FD⟩ := T.c.def_ 25 (d := d_new_links) rfl; ⟨⟨_, fd, k_new_links T FD, T.glo (x := "new_links") 72, FD.kp, FD.bindsN fun _ _ _ _ _ _ us hl => match us, hl with | [_, _], _ => rfl⟩⟩
theorem s_new_ends : FnScope ["organ", "rank", "many", "age", "found", "manual", "own", "shift", "some", "key", "place"] ["organ", "rank", "many", "age"] (defScope (top 32)) := ⟨rfl, rfl, rfl, by decide +kernel, rfl, by decide +kernel, by decide +kernel⟩
theorem k_new_ends (T : Fct K mg) {fd : FuncData} (FD : FunD K d_new_ends.toDefD.name d_new_ends.toDefD.qual d_new_ends.toDefD.params d_new_ends.toDefD.body d_new_ends.toDefD.scope (d_new_ends.toDefD.dvs K) (d_new_ends.toDefD.kws K) (d_new_ends.adr K) fd) : FnOk P w K mg base (L2.CX P w) 3 (d_new_ends.adr K) fd ["organ", "rank", "many", "age"] (spF P w K (GmK K) 4 f_new_ends) := by
  refine fn_mk (k := 2) (N := ["organ", "rank", "many", "age", "found", "manual", "own", "shift", "some", "key", "place"]) (ps := ["organ", "rank", "many", "age"]) FD s_new_ends fun cdv A outer s H E hr => ?_
  have hN : (["organ", "rank", "many", "age", "found", "manual", "own", "shift", "some", "key", "place"] : List Str).Nodup := (s_new_ends).nd
  have tk := takes_cx (P := P) (w := w) (K := K) (mg := mg) (base := base) (N := ["organ", "rank", "many", "age", "found", "manual", "own", "shift", "some", "key", "place"]) (qual := "new_ends") (scope := defScope (top 32)) (i := d_new_ends.adr K) (cdv := cdv) (A := A) (outer := outer) (s := s) (H := H) (E := E)
  have hp := passes_cx (P := P) (w := w) (K := K) (mg := mg) (base := base) (N := ["organ", "rank", "many", "age", "found", "manual", "own", "shift", "some", "key", "place"]) (qual := "new_ends") (scope := defScope (top 32)) (i := d_new_ends.adr K) (cdv := cdv) (A := A) (outer := outer) (s := s) (H := H) (E := E)
  exact es_cons (es_set 4 hN (ex_lst (ea_nil)))
    (es_cons (es_for hp rfl (ei_seq (ex_fld (c := 0) (i := 4) (T.slt (x := "Organ") (f := "ranks") (i := 4) 27 30) (ex_var 0))) (eg_tup rfl (egs_cons (eg_name 5 hN) (egs_cons (eg_name 6 hN) (egs_cons (eg_name 7 hN) (egs_nil))))) (es_one (es_if (et_w (et_and (et_cmp (m_eq (u64 hr)) (ex_var 6) (ex_var 1)) (et_and1 (et_cmp m_isNot (ex_var 3) (ex_non))))) (es_cons (es_if (et_w (et_or (et_cmp (m_eq (u64 hr)) (ex_var 7) (ex_neg (ex_var 3))) (et_or1 (et_w (et_and (et_cmp (m_eq (u64 hr)) (ex_var 3) (ex_int)) (et_and1 (et_chain m_le m_le (ex_int) (ex_var 7) (ex_var 2)))))))) (es_one (es_expr (ex_meth F.plainAttrs_list F.slot_list_append F.type_list_append ty_lst l_append (ex_var 4) (ea_cons (ex_tup (ea_cons (ex_callB (b_max2 rfl) (T.free (x := "max") 3) rfl (ea_cons (ex_var 7) (ea_cons (ex_int) (ea_nil)))) (ea_cons (ex_var 5) (ea_nil)))) (ea_nil))))) (es_nil))
    (es_one (es_if (et_w (et_and (et_cmp m_lt (ex_var 2) (ex_glob (T.cst (x := "WINDOW") (d := (.int 3)) 37))) (et_and1 (et_cmp m_le (ex_var 3) (ex_var 2))))) (es_cons (es_set 8 hN (ex_call (c_low_pairs T) (hr.mono (by decide)) tk (ea_cons (ex_fld (c := 0) (i := 0) (T.slt (x := "Organ") (f := "by") (i := 0) 27 32) (ex_var 0)) (ea_cons (ex_var 7) (ea_cons (ex_var 2) (ea_nil))))))
    (es_one (es_expr (ex_meth F.plainAttrs_list F.slot_list_extend F.type_list_extend ty_lst l_extend (ex_var 4) (ea_cons (ex_lc (own := [("key", 9), ("place", 10)]) rfl hN (ei_seq (ex_var 8)) (blkOk_by (N := ["organ", "rank", "many", "age", "found", "manual", "own", "shift", "some", "key", "place"]) (sc := defScope (top 32)) (by decide +kernel)) (by decide) (fun _ _ _ _ _ => eg_tup rfl (egs_cons (eg_name 9 hN) (egs_cons (eg_name 10 hN) (egs_nil)))) (fun _ _ _ _ _ => ets_one (et_cmp (m_eq (u64 hr)) (ex_var 10) (ex_op m_sub (ex_var 2) (ex_var 3)))) (fun _ _ _ _ _ => ex_tup (ea_cons (ex_op m_sub (ex_var 2) (ex_var 9)) (ea_cons (ex_var 5) (ea_nil))))) (ea_nil)))))) (es_nil)))) (es_nil))))
    (es_one (es_ret (ex_var 4))))
theorem c_new_ends (T : Fct K mg) : Cal P w K mg base (GmK K) 3 "new_ends" ["organ", "rank", "many", "age"] f_new_ends := let ⟨fd, FD⟩ := T.c.def_ 26 (d := d_new_ends) rfl; ⟨⟨_, fd, k_new_ends T FD, T.glo (x := "new_ends") 73, FD.kp, FD.bindsN fun _ _ _ _ _ _ us hl => match us, hl with | [_, _, _, _], _ => rfl⟩⟩
theorem s_step : FnScope ["organ", "state", "rank", "manuals", "is_pipe", "many", "links", "started", "ending", "age", "is_done", "pairs", "begun", "ends", "start", "goal", "spot", "manual"] ["organ", "state", "rank", "manuals", "is_pipe"] (defScope (top 37)) := ⟨rfl, rfl, rfl, by decide +kernel, rfl, by decide +kernel, by decide +kernel⟩
theorem k_step (T : Fct K mg) {fd : FuncData} (FD : FunD K d_step.toDefD.name d_step.toDefD.qual d_step.toDefD.params d_step.toDefD.body d_step.toDefD.scope (d_step.toDefD.dvs K) (d_step.toDefD.kws K) (d_step.adr K) fd) : FnOk P w K mg base (L2.CX P w) 4 (d_step.adr K) fd ["organ", "state", "rank", "manuals", "is_pipe"] (spF P w K (GmK K) 5 f_step) := by
  refine fn_mk (k := 3) (N := ["organ", "state", "rank", "manuals", "is_pipe", "many", "links", "started", "ending", "age", "is_done", "pairs", "begun", "ends", "start", "goal", "spot", "manual"]) (ps := ["organ", "state", "rank", "manuals", "is_pipe"]) FD s_step fun cdv A outer s H E hr => ?_
  have hN : (["organ", "state", "rank", "manuals", "is_pipe", "many", "links", "started", "ending", "age", "is_done", "pairs", "begun", "ends", "start", "goal", "spot", "manual"] : List Str).Nodup := (s_step).nd
  have tk := takes_cx (P := P) (w := w) (K := K) (mg := mg) (base := base) (N := ["organ", "state", "rank", "manuals", "is_pipe", "many", "links", "started", "ending", "age", "is_done", "pairs", "begun", "ends", "start", "goal", "spot", "manual"]) (qual := "step") (scope := defScope (top 37)) (i := d_step.adr K) (cdv := cdv) (A := A) (outer := outer) (s := s) (H := H) (E := E)
  have hp := passes_cx (P := P) (w := w) (K := K) (mg := mg) (base := base) (N := ["organ", "state", "rank", "manuals", "is_pipe", "many", "links", "started", "ending", "age", "is_done", "pairs", "begun", "ends", "start", "goal", "spot", "manual"]) (qual := "step") (scope := defScope (top 37)) (i := d_step.adr K) (cdv := cdv) (A := A) (outer := outer) (s := s) (H := H) (E := E)
  exact es_cons (es_asg (ex_var 1) (eg_tup rfl (egs_cons (eg_name 5 hN) (egs_cons (eg_name 6 hN) (egs_cons (eg_name 7 hN) (egs_cons (eg_name 8 hN) (egs_cons (eg_name 9 hN) (egs_cons (eg_name 10 hN) (egs_nil)))))))))
    (es_cons (es_set 9 hN (ex_if (et_val (ex_var 4)) (ex_int) (ex_if (et_cmp m_is (ex_var 9) (ex_non)) (ex_non) (ex_callB (b_min2 rfl) (T.free (x := "min") 38) rfl (ea_cons (ex_op m_add (ex_var 9) (ex_int)) (ea_cons (ex_glob (T.cst (x := "FAR") (d := (.int 3)) 43)) (ea_nil)))))))
    (es_cons (es_set 11 hN (ex_op m_add (ex_lc (own := [("start", 14), ("goal", 15)]) rfl hN (ei_seq (ex_var 6)) (blkOk_by (N := ["organ", "state", "rank", "manuals", "is_pipe", "many", "links", "started", "ending", "age", "is_done", "pairs", "begun", "ends", "start", "goal", "spot", "manual"]) (sc := defScope (top 37)) (by decide +kernel)) (by decide) (fun _ _ _ _ _ => eg_tup rfl (egs_cons (eg_name 14 hN) (egs_cons (eg_name 15 hN) (egs_nil)))) (fun _ _ _ _ _ => ets_nil) (fun _ _ _ _ _ => ex_tup (ea_cons (ex_call (c_older T) (hr.mono (by decide)) takes_W0 (ea_cons (ex_var 14) (ea_nil))) (ea_cons (ex_call (c_older T) (hr.mono (by decide)) takes_W0 (ea_cons (ex_var 15) (ea_nil))) (ea_nil))))) (ex_call (c_new_links T) (hr.mono (by decide)) tk (ea_cons (ex_var 0) (ea_cons (ex_var 5) (ea_nil))))))
    (es_cons (es_set 12 hN (ex_op m_add (ex_lc (own := [("spot", 16)]) rfl hN (ei_seq (ex_var 7)) (blkOk_by (N := ["organ", "state", "rank", "manuals", "is_pipe", "many", "links", "started", "ending", "age", "is_done", "pairs", "begun", "ends", "start", "goal", "spot", "manual"]) (sc := defScope (top 37)) (by decide +kernel)) (by decide) (fun _ _ _ _ _ => eg_name 16 hN) (fun _ _ _ _ _ => ets_nil) (fun _ _ _ _ _ => ex_call (c_older T) (hr.mono (by decide)) takes_W0 (ea_cons (ex_var 16) (ea_nil)))) (ex_lc (own := [("manual", 17)]) rfl hN (ei_seq (ex_var 3)) (blkOk_by (N := ["organ", "state", "rank", "manuals", "is_pipe", "many", "links", "started", "ending", "age", "is_done", "pairs", "begun", "ends", "start", "goal", "spot", "manual"]) (sc := defScope (top 37)) (by decide +kernel)) (by decide) (fun _ _ _ _ _ => eg_name 17 hN) (fun _ _ _ _ _ => ets_nil) (fun _ _ _ _ _ => ex_tup (ea_cons (ex_int) (ea_cons (ex_var 17) (ea_cons (ex_int) (ea_nil))))))))
    (es_cons (es_set 13 hN (ex_op m_add (ex_lc (own := [("spot", 16)]) rfl hN (ei_seq (ex_var 8)) (blkOk_by (N := ["organ", "state", "rank", "manuals", "is_pipe", "many", "links", "started", "ending", "age", "is_done", "pairs", "begun", "ends", "start", "goal", "spot", "manual"]) (sc := defScope (top 37)) (by decide +kernel)) (by decide) (fun _ _ _ _ _ => eg_name 16 hN) (fun _ _ _ _ _ => ets_nil) (fun _ _ _ _ _ => ex_call (c_older T) (hr.mono (by decide)) takes_W0 (ea_cons (ex_var 16) (ea_nil)))) (ex_call (c_with_layers T) (hr.mono (by decide)) tk (ea_cons (ex_var 0) (ea_cons (ex_call (c_new_ends T) (hr.mono (by decide)) tk (ea_cons (ex_var 0) (ea_cons (ex_var 2) (ea_cons (ex_var 5) (ea_cons (ex_var 9) (ea_nil)))))) (ea_nil))))))
    (es_one (es_ret (ex_call (c_settled T) (hr.mono (by decide)) tk (ea_cons (ex_callB (b_min2 rfl) (T.free (x := "min") 38) rfl (ea_cons (ex_op m_add (ex_var 5) (ex_int)) (ea_cons (ex_glob (T.cst (x := "WINDOW") (d := (.int 3)) 37)) (ea_nil)))) (ea_cons (ex_var 11) (ea_cons (ex_var 12) (ea_cons (ex_var 13) (ea_cons (ex_var 9) (ea_cons (ex_var 10) (ea_nil))))))))))))))
theorem c_step (T : Fct K mg) : Cal P w K mg base (GmK K) 4 "step" ["organ", "state", "rank", "manuals", "is_pipe"] f_step := let ⟨fd, FD⟩ := T.c.def_ 27 (d := d_step) rfl; ⟨⟨_, fd, k_step T FD, T.glo (x := "step") 74, FD.kp, FD.bindsN fun _ _ _ _ _ _ us hl => match us, hl with | [_, _, _, _, _], _ => rfl⟩⟩
theorem s_note : FnScope ["row", "state", "pipe"] ["row", "state", "pipe"] (defScope (top 42)) := ⟨rfl, rfl, rfl, by decide +kernel, rfl, by decide +kernel, by decide +kernel⟩
theorem k_note (T : Fct K mg) {fd : FuncData} (FD : FunD K d_note.toDefD.name d_note.toDefD.qual d_note.toDefD.params d_note.toDefD.body d_note.toDefD.scope (d_note.toDefD.dvs K) (d_note.toDefD.kws K) (d_note.adr K) fd) : FnOk P w K mg base (L2.CX P w) 2 (d_note.adr K) fd ["row", "state", "pipe"] (spF P w K (GmK K) 3 f_note) := by
  refine fn_mk (k := 1) (N := ["row", "state", "pipe"]) (ps := ["row", "state", "pipe"]) FD s_note fun cdv A outer s H E hr => ?_
  have hN : (["row", "state", "pipe"] : List Str).Nodup := (s_note).nd
  have tk := takes_cx (P := P) (w := w) (K := K) (mg := mg) (base := base) (N := ["row", "state", "pipe"]) (qual := "note") (scope := defScope (top 42)) (i := d_note.adr K) (cdv := cdv) (A := A) (outer := outer) (s := s) (H := H) (E := E)
  have hp := passes_cx (P := P) (w := w) (K := K) (mg := mg) (base := base) (N := ["row", "state", "pipe"]) (qual := "note") (scope := defScope (top 42)) (i := d_note.adr K) (cdv := cdv) (A := A) (outer := outer) (s := s) (H := H) (E := E)
  exact es_one (es_put (put_any (hr.mono (by decide))) (ex_var 0) (ex_var 1) (ex_if (et_w (et_or (et_cmp (m_notInA (hr.mono (by decide))) (ex_var 1) (ex_var 0)) (et_or1 (et_cmp m_is (ex_var 2) (ex_non))))) (ex_var 2) (ex_callB (b_min2 rfl) (T.free (x := "min") 38) rfl (ea_cons (ex_ixA (hr.mono (by decide)) (ex_var 0) (ex_var 1)) (ea_cons (ex_var 2) (ea_nil))))))
theorem c_note (T : Fct K mg) : Cal P w K mg base (GmK K) 2 "note" ["row", "state", "pipe"] f_note := let ⟨fd, FD⟩ := T.c.def_ 28 (d := d_note) rfl; ⟨⟨_, fd, k_note T FD, T.glo (x := "note") 75, FD.kp, FD.bindsN fun _ _ _ _ _ _ us hl => match us, hl with | [_, _, _], _ => rfl⟩⟩
theorem s_silent : FnScope ["organ", "rank", "every", "layer", "seen", "many", "state", "pipe", "quiet", "following", "later"] ["organ", "rank"] (defScope (top 41)) := ⟨rfl, rfl, rfl, by decide +kernel, rfl, by decide +kernel, by decide +kernel⟩
theorem k_silent (T : Fct K mg) {fd : FuncData} (FD : FunD K d_silent.toDefD.name d_silent.toDefD.qual d_silent.toDefD.params d_silent.toDefD.body d_silent.toDefD.scope (d_silent.toDefD.dvs K) (d_silent.toDefD.kws K) (d_silent.adr K) fd) : FnOk P w K mg base (L2.CX P w) 5 (d_silent.adr K) fd ["organ", "rank"] (spF P w K (GmK K) 2 f_silent) := by
  refine fn_mk (k := 4) (N := ["organ", "rank", "every", "layer", "seen", "many", "state", "pipe", "quiet", "following", "later"]) (ps := ["organ", "rank"]) FD s_silent fun cdv A outer s H E hr => ?_
  have hN : (["organ", "rank", "every", "layer", "seen", "many", "state", "pipe", "quiet", "following", "later"] : List Str).Nodup := (s_silent).nd
  have tk := takes_cx (P := P) (w := w) (K := K) (mg := mg) (base := base) (N := ["organ", "rank", "every", "layer", "seen", "many", "state", "pipe", "quiet", "following", "later"]) (qual := "silent") (scope := defScope (top 41)) (i := d_silent.adr K) (cdv := cdv) (A := A) (outer := outer) (s := s) (H := H) (E := E)
  have hp := passes_cx (P := P) (w := w) (K := K) (mg := mg) (base := base) (N := ["organ", "rank", "every", "layer", "seen", "many", "state", "pipe", "quiet", "following", "later"]) (qual := "silent") (scope := defScope (top 41)) (i := d_silent.adr K) (cdv := cdv) (A := A) (outer := outer) (s := s) (H := H) (E := E)
  exact es_cons (es_expr (ex_call (c_look_at_rank T) (hr.mono (by decide)) tk (ea_cons (ex_var 1) (ea_nil))))
    (es_cons (es_set 2 hN (ex_tupRg rfl (ex_fld (c := 0) (i := 2) (T.slt (x := "Organ") (f := "many") (i := 2) 27 28) (ex_var 0)) (T.free (x := "tuple") 5) (T.free (x := "range") 4)))
    (es_cons (es_frz 3 (es_set 3 hN (ex_dict1 (hr.mono (by decide)) (ex_call0 (c_first_state T) (hr.mono (by decide)) tk) (ex_non))))
    (es_cons (es_set 4 hN (ex_dict))
    (es_cons (es_set 5 hN (ex_int))
    (es_cons (es_while hp (et_cmp (m_neD (u64 hr)) (ex_var 3) (ex_dict)) (es_cons (es_setLc (own := [("state", 6), ("pipe", 7)]) 8 rfl hN (ei_items (ex_var 3)) (blkOk_by (N := ["organ", "rank", "every", "layer", "seen", "many", "state", "pipe", "quiet", "following", "later"]) (sc := defScope (top 41)) (by decide +kernel)) (by decide) (fun _ _ _ _ _ => eg_tup rfl (egs_cons (eg_name 6 hN) (egs_cons (eg_name 7 hN) (egs_nil)))) (fun _ _ _ _ _ => ets_one (et_w (et_and (et_cmp m_isNot (ex_var 7) (ex_non)) (et_and1 (et_not (et_val (ex_call (c_is_sounding T) (hr.mono (by decide)) takes_W0 (ea_cons (ex_var 0) (ea_cons (ex_var 6) (ea_cons (ex_var 1) (ea_nil))))))))))) (fun _ _ _ _ _ => ex_var 7) rfl)
    (es_cons (es_if (et_cmp (m_ne (u64 hr)) (ex_var 8) (ex_lst (ea_nil))) (es_one (es_ret (ex_tup (ea_cons (ex_op m_sub (ex_var 5) (ex_int)) (ea_cons (ex_callB (b_minL rfl) (T.free (x := "min") 38) rfl (ea_cons (ex_var 8) (ea_nil))) (ea_nil)))))) (es_nil))
    (es_cons (es_set 9 hN (ex_dict))
    (es_cons (es_frz 9 (es_for hp rfl (ei_items (ex_var 3)) (eg_tup rfl (egs_cons (eg_name 6 hN) (egs_cons (eg_name 7 hN) (egs_nil)))) (es_cons (es_put (put_any (hr.mono (by decide))) (ex_var 4) (ex_var 6) (ex_bl))
    (es_cons (es_set 10 hN (ex_call (c_step T) (hr.mono (by decide)) tk (ea_cons (ex_var 0) (ea_cons (ex_var 6) (ea_cons (ex_var 1) (ea_cons (ex_var 2) (ea_cons (ex_bl) (ea_nil))))))))
    (es_cons (es_if (et_not (et_val (ex_ixA (hr.mono (by decide)) (ex_var 10) (ex_int)))) (es_one (es_expr (ex_call (c_note T) (hr.mono (by decide)) tk (ea_cons (ex_var 9) (ea_cons (ex_var 10) (ea_cons (ex_var 7) (ea_nil))))))) (es_nil))
    (es_one (es_if (et_cmp m_is (ex_var 7) (ex_non)) (es_cons (es_set 10 hN (ex_call (c_step T) (hr.mono (by decide)) tk (ea_cons (ex_var 0) (ea_cons (ex_var 6) (ea_cons (ex_var 1) (ea_cons (ex_var 2) (ea_cons (ex_bl) (ea_nil))))))))
    (es_one (es_if (et_not (et_val (ex_ixA (hr.mono (by decide)) (ex_var 10) (ex_int)))) (es_one (es_expr (ex_call (c_note T) (hr.mono (by decide)) tk (ea_cons (ex_var 9) (ea_cons (ex_var 10) (ea_cons (ex_var 5) (ea_nil))))))) (es_nil)))) (es_nil))))))))
    (es_cons (es_frz 3 (es_setDc (own := [("state", 6), ("pipe", 7)]) 3 (hr.mono (by decide)) rfl hN (ei_items (ex_var 9)) (blkOk_by (N := ["organ", "rank", "every", "layer", "seen", "many", "state", "pipe", "quiet", "following", "later"]) (sc := defScope (top 41)) (by decide +kernel)) (by decide) (fun _ _ _ _ _ => eg_tup rfl (egs_cons (eg_name 6 hN) (egs_cons (eg_name 7 hN) (egs_nil)))) (fun _ _ _ _ _ => ets_one (et_cmp (m_notInA (hr.mono (by decide))) (ex_var 6) (ex_var 4))) (fun _ _ _ _ _ => ex_var 6) (fun _ _ _ _ _ => ex_var 7) (sw_dict rfl rfl rfl rfl)))
    (es_one (es_aug 5 hN i_add (ex_int)))))))))
    (es_one (es_ret (ex_non))))))))
theorem c_silent (T : Fct K mg) : Cal P w K mg base (GmK K) 5 "silent" ["organ", "rank"] f_silent := let ⟨fd, FD⟩ := T.c.def_ 29 (d := d_silent) rfl; ⟨⟨_, fd, k_silent T FD, T.glo (x := "silent") 76, FD.kp, FD.bindsN fun _ _ _ _ _ _ us hl => match us, hl with | [_, _], _ => rfl⟩⟩
theorem s__law_led : FnScope ["_law_t", "_law_top", "_law_place", "_law_shift", "_law_found"] ["_law_t", "_law_top", "_law_place", "_law_shift"] (defScope (top 51)) := ⟨rfl, rfl, rfl, by decide +kernel, rfl, by decide +kernel, by decide +kernel⟩
theorem k__law_led (T : Fct K mg) {fd : FuncData} (FD : FunD K d__law_led.toDefD.name d__law_led.toDefD.qual d__law_led.toDefD.params d__law_led.toDefD.body d__law_led.toDefD.scope (d__law_led.toDefD.dvs K) (d__law_led.toDefD.kws K) (d__law_led.adr K) fd) : FnOk P w K mg base (L2.CX P w) 2 (d__law_led.adr K) fd ["_law_t", "_law_top", "_law_place", "_law_shift"] (spF P w K (GmK K) 4 f__law_led) := by
  refine fn_mk (k := 1) (N := ["_law_t", "_law_top", "_law_place", "_law_shift", "_law_found"]) (ps := ["_law_t", "_law_top", "_law_place", "_law_shift"]) FD s__law_led fun cdv A outer s H E hr => ?_
  have hN : (["_law_t", "_law_top", "_law_place", "_law_shift", "_law_found"] : List Str).Nodup := (s__law_led).nd
  have tk := takes_cx (P := P) (w := w) (K := K) (mg := mg) (base := base) (N := ["_law_t", "_law_top", "_law_place", "_law_shift", "_law_found"]) (qual := "_law_led") (scope := defScope (top 51)) (i := d__law_led.adr K) (cdv := cdv) (A := A) (outer := outer) (s := s) (H := H) (E := E)
  have hp := passes_cx (P := P) (w := w) (K := K) (mg := mg) (base := base) (N := ["_law_t", "_law_top", "_law_place", "_law_shift", "_law_found"]) (qual := "_law_led") (scope := defScope (top 51)) (i := d__law_led.adr K) (cdv := cdv) (A := A) (outer := outer) (s := s) (H := H) (E := E)
  exact es_cons (es_set 4 hN (ex_op m_add (ex_var 2) (ex_var 3)))
    (es_cons (es_if (et_w (et_and (et_cmp m_gt (ex_ixA (hr.mono (by decide)) (ex_var 0) (ex_int)) (ex_int)) (et_and1 (et_cmp m_lt (ex_var 4) (ex_int))))) (es_one (es_set 4 hN (ex_op m_add (ex_var 4) (ex_ixA (hr.mono (by decide)) (ex_var 0) (ex_int))))) (es_one (es_if (et_w (et_and (et_cmp m_gt (ex_ixA (hr.mono (by decide)) (ex_var 0) (ex_int)) (ex_int)) (et_and1 (et_cmp m_gt (ex_var 4) (ex_var 1))))) (es_one (es_set 4 hN (ex_op m_sub (ex_var 4) (ex_ixA (hr.mono (by decide)) (ex_var 0) (ex_int))))) (es_nil))))
    (es_one (es_ret (ex_if (et_chain m_le m_le (ex_int) (ex_var 4) (ex_var 1)) (ex_var 4) (ex_non)))))
theorem c__law_led (T : Fct K mg) : Cal P w K mg base (GmK K) 2 "_law_led" ["_law_t", "_law_top", "_law_place", "_law_shift"] f__law_led := let ⟨fd, FD⟩ := T.c.def_ 30 (d := d__law_led) rfl; ⟨⟨_, fd, k__law_led T FD, T.glo (x := "_law_led") 77, FD.kp, FD.bindsN fun _ _ _ _ _ _ us hl => match us, hl with | [_, _, _, _], _ => rfl⟩⟩
theorem s__law_on : FnScope ["_law_t", "_law_top", "_law_pressed", "_law_known", "_law_queue", "_law_spot", "_law_first", "_law_second", "_law_shift", "_law_key"] ["_law_t", "_law_top", "_law_pressed"] (defScope (top 52)) := ⟨rfl, rfl, rfl, by decide +kernel, rfl, by decide +kernel, by decide +kernel⟩
theorem k__law_on (T : Fct K mg) {fd : FuncData} (FD : FunD K d__law_on.toDefD.name d__law_on.toDefD.qual d__law_on.toDefD.params d__law_on.toDefD.body d__law_on.toDefD.scope (d__law_on.toDefD.dvs K) (d__law_on.toDefD.kws K) (d__law_on.adr K) fd) : FnOk P w K mg base (L2.CX P w) 3 (d__law_on.adr K) fd ["_law_t", "_law_top", "_law_pressed"] (spF P w K (GmK K) 3 f__law_on) := by
  refine fn_mk (k := 2) (N := ["_law_t", "_law_top", "_law_pressed", "_law_known", "_law_queue", "_law_spot", "_law_first", "_law_second", "_law_shift", "_law_key"]) (ps := ["_law_t", "_law_top", "_law_pressed"]) FD s__law_on fun cdv A outer s H E hr => ?_
  have hN : (["_law_t", "_law_top", "_law_pressed", "_law_known", "_law_queue", "_law_spot", "_law_first", "_law_second", "_law_shift", "_law_key"] : List Str).Nodup := (s__law_on).nd
  have tk := takes_cx (P := P) (w := w) (K := K) (mg := mg) (base := base) (N := ["_law_t", "_law_top", "_law_pressed", "_law_known", "_law_queue", "_law_spot", "_law_first", "_law_second", "_law_shift", "_law_key"]) (qual := "_law_on") (scope := defScope (top 52)) (i := d__law_on.adr K) (cdv := cdv) (A := A) (outer := outer) (s := s) (H := H) (E := E)
  have hp := passes_cx (P := P) (w := w) (K := K) (mg := mg) (base := base) (N := ["_law_t", "_law_top", "_law_pressed", "_law_known", "_law_queue", "_law_spot", "_law_first", "_law_second", "_law_shift", "_law_key"]) (qual := "_law_on") (scope := defScope (top 52)) (i := d__law_on.adr K) (cdv := cdv) (A := A) (outer := outer) (s := s) (H := H) (E := E)
  exact es_cons (es_set 3 hN (ex_dict))
    (es_cons (es_set 4 hN (ex_lst (ea_nil)))
    (es_cons (es_for hp rfl (ei_seq (ex_var 2)) (eg_name 5 hN) (es_cons (es_put (put_any (hr.mono (by decide))) (ex_var 3) (ex_var 5) (ex_bl))
    (es_one (es_expr (ex_meth F.plainAttrs_list F.slot_list_append F.type_list_append ty_lst l_append (ex_var 4) (ea_cons (ex_var 5) (ea_nil)))))))
    (es_cons (es_while hp (et_cmp (m_ne (u64 hr)) (ex_var 4) (ex_lst (ea_nil))) (es_cons (es_set 5 hN (ex_ixA (hr.mono (by decide)) (ex_var 4) (ex_neg (ex_int))))
    (es_cons (es_set 4 hN (ex_cut (ex_var 4) (eo_none) (eo_some (ex_neg (ex_int)))))
    (es_one (es_for hp rfl (ei_seq (ex_ixA (hr.mono (by decide)) (ex_var 0) (ex_int))) (eg_tup rfl (egs_cons (eg_name 6 hN) (egs_cons (eg_name 7 hN) (egs_cons (eg_name 8 hN) (egs_nil))))) (es_cons (es_set 9 hN (ex_if (et_cmp (m_eq (u64 hr)) (ex_var 6) (ex_ixA (hr.mono (by decide)) (ex_var 5) (ex_int))) (ex_call (c__law_led T) (hr.mono (by decide)) tk (ea_cons (ex_var 0) (ea_cons (ex_var 1) (ea_cons (ex_ixA (hr.mono (by decide)) (ex_var 5) (ex_int)) (ea_cons (ex_var 8) (ea_nil)))))) (ex_non)))
    (es_one (es_if (et_w (et_and (et_cmp m_isNot (ex_var 9) (ex_non)) (et_and1 (et_cmp (m_notInA (hr.mono (by decide))) (ex_tup (ea_cons (ex_var 7) (ea_cons (ex_var 9) (ea_nil)))) (ex_var 3))))) (es_cons (es_put (put_any (hr.mono (by decide))) (ex_var 3) (ex_tup (ea_cons (ex_var 7) (ea_cons (ex_var 9) (ea_nil)))) (ex_bl))
    (es_one (es_if (et_cmp (m_eq (u64 hr)) (ex_ixA (hr.mono (by decide)) (ex_var 0) (ex_int)) (ex_str)) (es_one (es_expr (ex_meth F.plainAttrs_list F.slot_list_append F.type_list_append ty_lst l_append (ex_var 4) (ea_cons (ex_tup (ea_cons (ex_var 7) (ea_cons (ex_var 9) (ea_nil)))) (ea_nil))))) (es_nil)))) (es_nil)))))))))
    (es_one (es_ret (ex_callB (b_sorted rfl) (T.free (x := "sorted") 39) rfl (ea_cons (ex_callTy (b_listA rfl) (T.free (x := "list") 1) rfl (ea_cons (ex_var 3) (ea_nil))) (ea_nil))))))))
theorem c__law_on (T : Fct K mg) : Cal P w K mg base (GmK K) 3 "_law_on" ["_law_t", "_law_top", "_law_pressed"] f__law_on := let ⟨fd, FD⟩ := T.c.def_ 31 (d := d__law_on) rfl; ⟨⟨_, fd, k__law_on T FD, T.glo (x := "_law_on") 78, FD.kp, FD.bindsN fun _ _ _ _ _ _ us hl => match us, hl with | [_, _, _], _ => rfl⟩⟩
theorem s__law_heard : FnScope ["_law_t", "_law_top", "_law_pressed", "_law_found", "_law_manual", "_law_key", "_law_own", "_law_rank", "_law_shift", "_law_pipe"] ["_law_t", "_law_top", "_law_pressed"] (defScope (top 53)) := ⟨rfl, rfl, rfl, by decide +kernel, rfl, by decide +kernel, by decide +kernel⟩
theorem k__law_heard (T : Fct K mg) {fd : FuncData} (FD : FunD K d__law_heard.toDefD.name d__law_heard.toDefD.qual d__law_heard.toDefD.params d__law_heard.toDefD.body d__law_heard.toDefD.scope (d__law_heard.toDefD.dvs K) (d__law_heard.toDefD.kws K) (d__law_heard.adr K) fd) : FnOk P w K mg base (L2.CX P w) 4 (d__law_heard.adr K) fd ["_law_t", "_law_top", "_law_pressed"] (spF P w K (GmK K) 3 f__law_heard) := by
  refine fn_mk (k := 3) (N := ["_law_t", "_law_top", "_law_pressed", "_law_found", "_law_manual", "_law_key", "_law_own", "_law_rank", "_law_shift", "_law_pipe"]) (ps := ["_law_t", "_law_top", "_law_pressed"]) FD s__law_heard fun cdv A outer s H E hr => ?_
  have hN : (["_law_t", "_law_top", "_law_pressed", "_law_found", "_law_manual", "_law_key", "_law_own", "_law_rank", "_law_shift", "_law_pipe"] : List Str).Nodup := (s__law_heard).nd
  have tk := takes_cx (P := P) (w := w) (K := K) (mg := mg) (base := base) (N := ["_law_t", "_law_top", "_law_pressed", "_law_found", "_law_manual", "_law_key", "_law_own", "_law_rank", "_law_shift", "_law_pipe"]) (qual := "_law_heard") (scope := defScope (top 53)) (i := d__law_heard.adr K) (cdv := cdv) (A := A) (outer := outer) (s := s) (H := H) (E := E)
  have hp := passes_cx (P := P) (w := w) (K := K) (mg := mg) (base := base) (N := ["_law_t", "_law_top", "_law_pressed", "_law_found", "_law_manual", "_law_key", "_law_own", "_law_rank", "_law_shift", "_law_pipe"]) (qual := "_law_heard") (scope := defScope (top 53)) (i := d__law_heard.adr K) (cdv := cdv) (A := A) (outer := outer) (s := s) (H := H) (E := E)
  exact es_cons (es_set 3 hN (ex_dict))
    (es_cons (es_for hp rfl (ei_seq (ex_call (c__law_on T) (hr.mono (by decide)) tk (ea_cons (ex_var 0) (ea_cons (ex_var 1) (ea_cons (ex_var 2) (ea_nil)))))) (eg_tup rfl (egs_cons (eg_name 4 hN) (egs_cons (eg_name 5 hN) (egs_nil)))) (es_one (es_for hp rfl (ei_seq (ex_ixA (hr.mono (by decide)) (ex_var 0) (ex_int))) (eg_tup rfl (egs_cons (eg_name 6 hN) (egs_cons (eg_name 7 hN) (egs_cons (eg_name 8 hN) (egs_nil))))) (es_cons (es_set 9 hN (ex_if (et_cmp (m_eq (u64 hr)) (ex_var 6) (ex_var 4)) (ex_call (c__law_led T) (hr.mono (by decide)) tk (ea_cons (ex_var 0) (ea_cons (ex_var 1) (ea_cons (ex_var 5) (ea_cons (ex_var 8) (ea_nil)))))) (ex_non)))
    (es_one (es_if (et_cmp m_isNot (ex_var 9) (ex_non)) (es_one (es_put (put_any (hr.mono (by decide))) (ex_var 3) (ex_tup (ea_cons (ex_var 7) (ea_cons (ex_var 9) (ea_nil)))) (ex_bl))) (es_nil)))))))
    (es_one (es_ret (ex_callB (b_sorted rfl) (T.free (x := "sorted") 39) rfl (ea_cons (ex_callTy (b_listA rfl) (T.free (x := "list") 1) rfl (ea_cons (ex_var 3) (ea_nil))) (ea_nil))))))
theorem c__law_heard (T : Fct K mg) : Cal P w K mg base (GmK K) 4 "_law_heard" ["_law_t", "_law_top", "_law_pressed"] f__law_heard := let ⟨fd, FD⟩ := T.c.def_ 32 (d := d__law_heard) rfl; ⟨⟨_, fd, k__law_heard T FD, T.glo (x := "_law_heard") 79, FD.kp, FD.bindsN fun _ _ _ _ _ _ us hl => match us, hl with | [_, _, _], _ => rfl⟩⟩
theorem s__law_quiet : FnScope ["_law_t", "_law_rank", "_law_top", "_law_every", "_law_manual", "_law_heard_here", "_law_key", "_law_pipe"] ["_law_t", "_law_rank", "_law_top"] (defScope (top 54)) := ⟨rfl, rfl, rfl, by decide +kernel, rfl, by decide +kernel, by decide +kernel⟩
theorem k__law_quiet (T : Fct K mg) {fd : FuncData} (FD : FunD K d__law_quiet.toDefD.name d__law_quiet.toDefD.qual d__law_quiet.toDefD.params d__law_quiet.toDefD.body d__law_quiet.toDefD.scope (d__law_quiet.toDefD.dvs K) (d__law_quiet.toDefD.kws K) (d__law_quiet.adr K) fd) : FnOk P w K mg base (L2.CX P w) 5 (d__law_quiet.adr K) fd ["_law_t", "_law_rank", "_law_top"] (spF P w K (GmK K) 3 f__law_quiet) := by
  refine fn_mk (k := 4) (N := ["_law_t", "_law_rank", "_law_top", "_law_every", "_law_manual", "_law_heard_here", "_law_key", "_law_pipe"]) (ps := ["_law_t", "_law_rank", "_law_top"]) FD s__law_quiet fun cdv A outer s H E hr => ?_
  have hN : (["_law_t", "_law_rank", "_law_top", "_law_every", "_law_manual", "_law_heard_here", "_law_key", "_law_pipe"] : List Str).Nodup := (s__law_quiet).nd
  have tk := takes_cx (P := P) (w := w) (K := K) (mg := mg) (base := base) (N := ["_law_t", "_law_rank", "_law_top", "_law_every", "_law_manual", "_law_heard_here", "_law_key", "_law_pipe"]) (qual := "_law_quiet") (scope := defScope (top 54)) (i := d__law_quiet.adr K) (cdv := cdv) (A := A) (outer := outer) (s := s) (H := H) (E := E)
  have hp := passes_cx (P := P) (w := w) (K := K) (mg := mg) (base := base) (N := ["_law_t", "_law_rank", "_law_top", "_law_every", "_law_manual", "_law_heard_here", "_law_key", "_law_pipe"]) (qual := "_law_quiet") (scope := defScope (top 54)) (i := d__law_quiet.adr K) (cdv := cdv) (A := A) (outer := outer) (s := s) (H := H) (E := E)
  exact es_cons (es_set 3 hN (ex_lst (ea_nil)))
    (es_cons (es_for hp rfl (ei_range1 (ex_ixA (hr.mono (by decide)) (ex_var 0) (ex_int)) (T.free (x := "range") 4)) (eg_name 4 hN) (es_one (es_set 3 hN (ex_op m_add (ex_var 3) (ex_lc (own := [("_law_key", 6)]) rfl hN (ei_range1 (ex_op m_add (ex_var 2) (ex_int)) (T.free (x := "range") 4)) (blkOk_by (N := ["_law_t", "_law_rank", "_law_top", "_law_every", "_law_manual", "_law_heard_here", "_law_key", "_law_pipe"]) (sc := defScope (top 54)) (by decide +kernel)) (by decide) (fun _ _ _ _ _ => eg_name 6 hN) (fun _ _ _ _ _ => ets_nil) (fun _ _ _ _ _ => ex_tup (ea_cons (ex_var 4) (ea_cons (ex_var 6) (ea_nil)))))))))
    (es_cons (es_set 5 hN (ex_call (c__law_heard T) (hr.mono (by decide)) tk (ea_cons (ex_var 0) (ea_cons (ex_var 2) (ea_cons (ex_var 3) (ea_nil))))))
    (es_one (es_ret (ex_lc (own := [("_law_pipe", 7)]) rfl hN (ei_range1 (ex_op m_add (ex_var 2) (ex_int)) (T.free (x := "range") 4)) (blkOk_by (N := ["_law_t", "_law_rank", "_law_top", "_law_every", "_law_manual", "_law_heard_here", "_law_key", "_law_pipe"]) (sc := defScope (top 54)) (by decide +kernel)) (by decide) (fun _ _ _ _ _ => eg_name 7 hN) (fun _ _ _ _ _ => ets_one (et_cmp (m_notInA (hr.mono (by decide))) (ex_tup (ea_cons (ex_var 1) (ea_cons (ex_var 7) (ea_nil)))) (ex_var 5))) (fun _ _ _ _ _ => ex_var 7))))))
theorem c__law_quiet (T : Fct K mg) : Cal P w K mg base (GmK K) 5 "_law_quiet" ["_law_t", "_law_rank", "_law_top"] f__law_quiet := let ⟨fd, FD⟩ := T.c.def_ 33 (d := d__law_quiet) rfl; ⟨⟨_, fd, k__law_quiet T FD, T.glo (x := "_law_quiet") 80, FD.kp, FD.bindsN fun _ _ _ _ _ _ us hl => match us, hl with | [_, _, _], _ => rfl⟩⟩
theorem s__law_refused : FnScope ["_law_organ_here", "_law_rank", "_law_told"] ["_law_organ_here", "_law_rank"] (defScope (top 55)) := ⟨rfl, rfl, rfl, by decide +kernel, rfl, by decide +kernel, by decide +kernel⟩
theorem k__law_refused (T : Fct K mg) {fd : FuncData} (FD : FunD K d__law_refused.toDefD.name d__law_refused.toDefD.qual d__law_refused.toDefD.params d__law_refused.toDefD.body d__law_refused.toDefD.scope (d__law_refused.toDefD.dvs K) (d__law_refused.toDefD.kws K) (d__law_refused.adr K) fd) : FnOk P w K mg base (L2.CX P w) 6 (d__law_refused.adr K) fd ["_law_organ_here", "_law_rank"] (spF P w K (GmK K) 2 f__law_refused) := by
  refine fn_mk (k := 5) (N := ["_law_organ_here", "_law_rank", "_law_told"]) (ps := ["_law_organ_here", "_law_rank"]) FD s__law_refused fun cdv A outer s H E hr => ?_
  have hN : (["_law_organ_here", "_law_rank", "_law_told"] : List Str).Nodup := (s__law_refused).nd
  have tk := takes_cx (P := P) (w := w) (K := K) (mg := mg) (base := base) (N := ["_law_organ_here", "_law_rank", "_law_told"]) (qual := "_law_refused") (scope := defScope (top 55)) (i := d__law_refused.adr K) (cdv := cdv) (A := A) (outer := outer) (s := s) (H := H) (E := E)
  have hp := passes_cx (P := P) (w := w) (K := K) (mg := mg) (base := base) (N := ["_law_organ_here", "_law_rank", "_law_told"]) (qual := "_law_refused") (scope := defScope (top 55)) (i := d__law_refused.adr K) (cdv := cdv) (A := A) (outer := outer) (s := s) (H := H) (E := E)
  exact es_cons (es_set 2 hN (ex_bl))
    (es_cons (es_try rfl rfl hN tk (fun W' pn xe tk' hp' => es_one (es_expr (ex_call (c_silent T) (hr.mono (by decide)) tk' (ea_cons (ex_var 0) (ea_cons (ex_var 1) (ea_nil)))))) (CLs.bare (v := ⟨mt_InvalidRank, none, fun a d c fs => sSet 2 (xC (.bl true))⟩) ⟨rfl, by decide, .inl (T.glo (x := "InvalidRank") 35)⟩ (T.mx_InvalidRank) rfl (fun a oe c d fs pn hz hf => es_one (es_set 2 hN (ex_bl))) (CLs.nil)))
    (es_one (es_ret (ex_var 2))))
theorem c__law_refused (T : Fct K mg) : Cal P w K mg base (GmK K) 6 "_law_refused" ["_law_organ_here", "_law_rank"] f__law_refused := let ⟨fd, FD⟩ := T.c.def_ 34 (d := d__law_refused) rfl; ⟨⟨_, fd, k__law_refused T FD, T.glo (x := "_law_refused") 81, FD.kp, FD.bindsN fun _ _ _ _ _ _ us hl => match us, hl with | [_, _], _ => rfl⟩⟩
theorem s_law : FnScope ["_law_script", "_law_h", "_law_t", "_law_organ_here", "_law_rank", "_law_told", "_law_due", "_law_top", "_law_quiet_here", "_law_odd"] ["_law_script"] (defScope (top 56)) := ⟨rfl, rfl, rfl, by decide +kernel, rfl, by decide +kernel, by decide +kernel⟩
theorem k_law (T : Fct K mg) {fd : FuncData} (FD : FunD K d_law.toDefD.name d_law.toDefD.qual d_law.toDefD.params d_law.toDefD.body d_law.toDefD.scope (d_law.toDefD.dvs K) (d_law.toDefD.kws K) (d_law.adr K) fd) : FnOk P w K mg base (L2.CX P w) 8 (d_law.adr K) fd ["_law_script"] (spF P w K (GmK K) 1 f_law) := by
  refine fn_mk (k := 7) (N := ["_law_script", "_law_h", "_law_t", "_law_organ_here", "_law_rank", "_law_told", "_law_due", "_law_top", "_law_quiet_here", "_law_odd"]) (ps := ["_law_script"]) FD s_law fun cdv A outer s H E hr => ?_
  have hN : (["_law_script", "_law_h", "_law_t", "_law_organ_here", "_law_rank", "_law_told", "_law_due", "_law_top", "_law_quiet_here", "_law_odd"] : List Str).Nodup := (s_law).nd
  have tk := takes_cx (P := P) (w := w) (K := K) (mg := mg) (base := base) (N := ["_law_script", "_law_h", "_law_t", "_law_organ_here", "_law_rank", "_law_told", "_law_due", "_law_top", "_law_quiet_here", "_law_odd"]) (qual := "law") (scope := defScope (top 56)) (i := d_law.adr K) (cdv := cdv) (A := A) (outer := outer) (s := s) (H := H) (E := E)
  have hp := passes_cx (P := P) (w := w) (K := K) (mg := mg) (base := base) (N := ["_law_script", "_law_h", "_law_t", "_law_organ_here", "_law_rank", "_law_told", "_law_due", "_law_top", "_law_quiet_here", "_law_odd"]) (qual := "law") (scope := defScope (top 56)) (i := d_law.adr K) (cdv := cdv) (A := A) (outer := outer) (s := s) (H := H) (E := E)
  exact es_cons (es_set 1 hN (ex_call (c__law_mix T) (hr.mono (by decide)) tk (ea_cons (ex_var 0) (ea_cons (ex_int) (ea_nil)))))
    (es_cons (es_set 2 hN (ex_call (c__law_organ T) (hr.mono (by decide)) tk (ea_cons (ex_var 1) (ea_cons (ex_int) (ea_cons (ex_int) (ea_cons (ex_int) (ea_nil)))))))
    (es_cons (es_set 3 hN (ex_call (c__law_built T) (hr.mono (by decide)) tk (ea_cons (ex_var 2) (ea_nil))))
    (es_cons (es_for hp rfl (ei_range1 (ex_int) (T.free (x := "range") 4)) (eg_name 4 hN) (es_cons (es_set 5 hN (ex_call (c_silent T) (hr.mono (by decide)) tk (ea_cons (ex_var 3) (ea_cons (ex_var 4) (ea_nil)))))
    (es_cons (es_set 6 hN (ex_non))
    (es_cons (es_for hp rfl (ei_range1 (ex_int) (T.free (x := "range") 4)) (eg_name 7 hN) (es_cons (es_set 8 hN (ex_call (c__law_quiet T) (hr.mono (by decide)) tk (ea_cons (ex_var 2) (ea_cons (ex_var 4) (ea_cons (ex_var 7) (ea_nil))))))
    (es_one (es_if (et_w (et_and (et_cmp m_is (ex_var 6) (ex_non)) (et_and1 (et_cmp (m_ne (u64 hr)) (ex_var 8) (ex_lst (ea_nil)))))) (es_one (es_set 6 hN (ex_tup (ea_cons (ex_var 7) (ea_cons (ex_ixA (hr.mono (by decide)) (ex_var 8) (ex_int)) (ea_nil)))))) (es_nil)))))
    (es_cons (es_if (et_w (et_and (et_cmp m_isNot (ex_var 6) (ex_non)) (et_and1 (et_cmp (m_ne (u64 hr)) (ex_var 5) (ex_var 6))))) (es_one (es_ret (ex_bl))) (es_nil))
    (es_one (es_if (et_w (et_and (et_cmp m_is (ex_var 6) (ex_non)) (et_and1 (et_cmp m_isNot (ex_var 5) (ex_non))))) (es_one (es_if (et_w (et_or (et_cmp m_lt (ex_ixA (hr.mono (by decide)) (ex_var 5) (ex_int)) (ex_int)) (et_or1 (et_w (et_and (et_cmp m_lt (ex_ixA (hr.mono (by decide)) (ex_var 5) (ex_int)) (ex_int)) (et_and1 (et_cmp (m_notInA (hr.mono (by decide))) (ex_ixA (hr.mono (by decide)) (ex_var 5) (ex_int)) (ex_call (c__law_quiet T) (hr.mono (by decide)) tk (ea_cons (ex_var 2) (ea_cons (ex_var 4) (ea_cons (ex_ixA (hr.mono (by decide)) (ex_var 5) (ex_int)) (ea_nil)))))))))))) (es_one (es_ret (ex_bl))) (es_nil))) (es_nil))))))))
    (es_one (es_ret (ex_callB (b_all rfl) (T.free (x := "all") 14) rfl (ea_cons (ex_lc (own := [("_law_odd", 9)]) rfl hN (ei_seq (ex_lst (ea_cons (ex_neg (ex_int)) (ea_cons (ex_int) (ea_cons (ex_bl) (ea_cons (ex_non) (ea_cons (ex_str) (ea_nil)))))))) (blkOk_by (N := ["_law_script", "_law_h", "_law_t", "_law_organ_here", "_law_rank", "_law_told", "_law_due", "_law_top", "_law_quiet_here", "_law_odd"]) (sc := defScope (top 56)) (by decide +kernel)) (by decide) (fun _ _ _ _ _ => eg_name 9 hN) (fun _ _ _ _ _ => ets_nil) (fun _ _ _ _ _ => ex_call (c__law_refused T) (hr.mono (by decide)) takes_W0 (ea_cons (ex_var 3) (ea_cons (ex_var 9) (ea_nil))))) (ea_nil))))))))
theorem c_law (T : Fct K mg) : Cal P w K mg base (GmK K) 8 "law" ["_law_script"] f_law := let ⟨fd, FD⟩ := T.c.def_ 35 (d := d_law) rfl; ⟨⟨_, fd, k_law T FD, T.glo (x := "law") 82, FD.kp, FD.bindsN fun _ _ _ _ _ _ us hl => match us, hl with | [_], _ => rfl⟩⟩
end
end Wk
end
section
set_option maxRecDepth 100000
set_option maxHeartbeats 4000000
set_option autoImplicit false
namespace Wk
open PySem Mi Ga
local macro_rules | `(tactic| walk_at "go") => `(tactic| simp only [wX_fn, wS_seq, wS_set, wS_ret, wS_expr, wS_pass, wS_if, wS_put, wX_var, wX_c, wX_2, wX_3, wX_anil, wX_acons, wX_star, wS_asg, wS_par, wS_aug, wX_tup, wX_lst, wX_dict, wX_b, wX_meth, wX_call, wX_if, wX_t1, wX_and2, wX_or2, wX_not1, wX_true, wX_neg, wX_oN, wX_oS, wX_not, wX_and, wX_or, wX_is, wX_cut, wX_fld, wX_ok, wX_no, wO_some, wO_none, wS_nx, wS_rt, List.map_cons, List.map_nil, List.cons_append, List.nil_append, List.append_nil, List.replicate_succ, List.replicate_zero, List.set_cons_zero, List.set_cons_succ, List.getElem?_cons_zero, List.getElem?_cons_succ, List.getElem?_nil, List.length_cons, List.length_nil, Nat.reduceSub, Nat.reduceAdd, Nat.reduceLeDiff, Nat.zero_add, Nat.add_zero, Nat.zero_le, if_true, if_false, ite_true, ite_false, reduceIte, Bool.false_eq_true, Bool.not_true, Bool.not_false, reduceCtorEq, bp_n, bp_t, bps_n, bps_cn, sa_n, sa_c, Option.map_some, g_eqI, g_neI, g_isN, g_isI, g_isNotN, g_isNotI, g_lenT, g_ix0, g_ix1, g_ix2, g_ix5, g_min, g_mx, g_add, g_sub, g_lt, g_le, g_gt, g_ge, g_listT, sz_eq, decide_eq_true_eq, eqk_t3.gEq, Bool.not_eq_true'])
local macro_rules | `(tactic| walk_at "ev") => `(tactic| simp (disch := (first | assumption | exact get_push | exact fr_lt (by assumption) (by assumption) | exact get_app (by assumption) | exact fr_lt (by assumption) (fr_lt (by assumption) (by assumption)) | exact get_app (get_app (by assumption)) | exact get_app get_push)) only [sl_at, is_L, g_lenD, g_listL, g_listD, if_true, ite_true, reduceIte])
theorem fm_snoc {α β : Type} {f : α → Option β} {l : List α} {a : α} : (l ++ [a]).filterMap f = l.filterMap f ++ (match f a with | some b => [b] | none => []) := by
  rw [List.filterMap_append]
  cases h : f a with
  | none => simp [h]
  | some b => simp [h]
theorem low_pairs_w (oct s many : Int) (h0 : 0 ≤ many) (h3 : many ≤ 3) (M : Hs) : wX (f_low_pairs [.int oct, .int s, .int many] M) fun d M' => RL d M M' ((lowF oct s many).map prD) := by
  have hsz := size1
  unfold f_low_pairs lowF
  walk_at "go"
  generalize hF : (fun k : Int => if 0 < oct ∧ k + s < 0 ∧ k + s + oct ≤ many ∧ mxI k (k + s + oct) = many then some (k, k + s + oct) else none) = F
  have hf : x2 gAdd (xVar 2) (xC (.int 1)) [some (.int oct), some (.int s), some (.int many), some (.ref M.length), none, none] (M ++ [MO.lst []]) = .ok (.int (many + 1)) (M ++ [MO.lst []]) := rfl
  refine for_list D.int (src_rg1 hf (okRg_mk (by omega) (by omega))) (fun done ζ M' => (∃ a b, ζ = [some (.int oct), some (.int s), some (.int many), some (.ref M.length), a, b]) ∧ Fr No M M' ∧ M'[M.length]? = some (.lst ((done.filterMap F).map prD)) ∧ (done.filterMap F).length ≤ done.length) ?_ (fun _ _ _ _ => trivial) ?_ ?_
  · exact ⟨⟨_, _, rfl⟩, Fr.push _ _, by simp, by simp⟩
  · rintro done k rest ζ M' hd ⟨⟨a, b, rfl⟩, fr, hm, hl⟩
    have hlen := congrArg List.length hd
    have hup : (Ga.upTo (many + 1)).length ≤ 4 := by unfold Ga.upTo; simp; omega
    simp only [List.length_append, List.length_cons] at hlen
    refine ⟨_, rfl, ?_⟩
    walk_at "go"
    by_cases hc : 0 < oct ∧ k + s < 0 ∧ k + s + oct ≤ many ∧ mxI k (k + s + oct) = many
    · have e : F k = some (k, k + s + oct) := by rw [← hF]; exact if_pos hc
      have e2 : (done ++ [k]).filterMap F = done.filterMap F ++ [(k, k + s + oct)] := by rw [fm_snoc, e]
      rw [e2, if_pos hc.1, if_pos hc.2.1, if_pos hc.2.2.1, if_pos hc.2.2.2, if_pos (is_L hm), g_app hm (by rw [List.length_map]; omega)]
      exact ⟨⟨_, _, rfl⟩, fr.setHi (Nat.le_refl _), by rw [set_get hm, List.map_append]; rfl, by simp; omega⟩
    · have e : F k = none := by rw [← hF]; exact if_neg hc
      have e2 : (done ++ [k]).filterMap F = done.filterMap F := by rw [fm_snoc, e, List.append_nil]
      rw [e2]
      have stay : (∃ a b, [some (D.int oct), some (D.int s), some (D.int many), some (D.ref M.length), some (D.int k), some (D.int (k + s + oct))] = [some (D.int oct), some (D.int s), some (D.int many), some (D.ref M.length), a, b]) ∧ Fr No M M' ∧ M'[M.length]? = some (MO.lst ((done.filterMap F).map prD)) ∧ (done.filterMap F).length ≤ (done ++ [k]).length := ⟨⟨_, _, rfl⟩, fr, hm, by simp; omega⟩
      by_cases h1 : 0 < oct
      · rw [if_pos h1]
        by_cases h2 : k + s < 0
        · rw [if_pos h2]
          by_cases h3 : k + s + oct ≤ many
          · rw [if_pos h3, if_neg (fun h4 => hc ⟨h1, h2, h3, h4⟩)]
            exact stay
          · rw [if_neg h3]; exact stay
        · rw [if_neg h2]; exact stay
      · rw [if_neg h1]; exact stay
  · rintro ζ M' ⟨⟨a, b, rfl⟩, fr, hm, hl⟩
    walk_at "go"
    exact ⟨M.length, rfl, Nat.le_refl _, hm, fr⟩
theorem high_pairs_w (oct s many : Int) (h0 : 0 ≤ many) (h3 : many ≤ 3) (M : Hs) : wX (f_high_pairs [.int oct, .int s, .int many] M) fun d M' => RL d M M' ((highF oct s many).map prD) := by
  have hsz := size1
  unfold f_high_pairs highF
  walk_at "go"
  generalize hF : (fun b : Int => if 0 < oct ∧ b < s ∧ b - s + oct < many then some (b, b - s + oct) else none) = F
  have hf : xB gMin2 (aCons (xVar 2) (aCons (xC (.int 3)) (aNil))) [some (.int oct), some (.int s), some (.int many), some (.ref M.length), none, none] (M ++ [MO.lst []]) = .ok (.int (mnI many 3)) (M ++ [MO.lst []]) := rfl
  have hm3 : 0 ≤ mnI many 3 ∧ mnI many 3 ≤ 3 := by unfold mnI; split <;> omega
  refine for_list D.int (src_rg1 hf (okRg_mk (by omega) (by omega))) (fun done ζ M' => (∃ a b, ζ = [some (.int oct), some (.int s), some (.int many), some (.ref M.length), a, b]) ∧ Fr No M M' ∧ M'[M.length]? = some (.lst ((done.filterMap F).map prD)) ∧ (done.filterMap F).length ≤ done.length) ?_ (fun _ _ _ _ => trivial) ?_ ?_
  · exact ⟨⟨_, _, rfl⟩, Fr.push _ _, by simp, by simp⟩
  · rintro done k rest ζ M' hd ⟨⟨a, b, rfl⟩, fr, hm, hl⟩
    have hlen := congrArg List.length hd
    have hup : (Ga.upTo (mnI many 3)).length ≤ 4 := by unfold Ga.upTo; simp; omega
    simp only [List.length_append, List.length_cons] at hlen
    refine ⟨_, rfl, ?_⟩
    walk_at "go"
    by_cases hc : 0 < oct ∧ k < s ∧ k - s + oct < many
    · have e : F k = some (k, k - s + oct) := by rw [← hF]; exact if_pos hc
      have e2 : (done ++ [k]).filterMap F = done.filterMap F ++ [(k, k - s + oct)] := by rw [fm_snoc, e]
      rw [e2, if_pos hc.1, if_pos hc.2.1, if_pos hc.2.2, if_pos (is_L hm), g_app hm (by rw [List.length_map]; omega)]
      exact ⟨⟨_, _, rfl⟩, fr.setHi (Nat.le_refl _), by rw [set_get hm, List.map_append]; rfl, by simp; omega⟩
    · have e : F k = none := by rw [← hF]; exact if_neg hc
      have e2 : (done ++ [k]).filterMap F = done.filterMap F := by rw [fm_snoc, e, List.append_nil]
      rw [e2]
      have stay : (∃ a b, [some (D.int oct), some (D.int s), some (D.int many), some (D.ref M.length), some (D.int k), some (D.int (k - s + oct))] = [some (D.int oct), some (D.int s), some (D.int many), some (D.ref M.length), a, b]) ∧ Fr No M M' ∧ M'[M.length]? = some (MO.lst ((done.filterMap F).map prD)) ∧ (done.filterMap F).length ≤ (done ++ [k]).length := ⟨⟨_, _, rfl⟩, fr, hm, by simp; omega⟩
      by_cases h1 : 0 < oct
      · rw [if_pos h1]
        by_cases h2 : k < s
        · rw [if_pos h2, if_neg (fun h4 => hc ⟨h1, h2, h4⟩)]
          exact stay
        · rw [if_neg h2]; exact stay
      · rw [if_neg h1]; exact stay
  · rintro ζ M' ⟨⟨a, b, rfl⟩, fr, hm, hl⟩
    walk_at "go"
    exact ⟨M.length, rfl, Nat.le_refl _, hm, fr⟩
theorem first_state_w (M : Hs) : f_first_state [] M = .ok (stD stFirst) M := rfl
theorem older_w (t : T3) (M : Hs) : f_older [tr3 t] M = .ok (tr3 (older t)) M := by
  obtain ⟨a, b, c⟩ := t
  rfl
theorem g_allS {ch : Str} (h : ch = "all" ∨ ch = "pressed") (M : Hs) : gEq (.str ch) (.str "all") M = some (.bl (decide (ch = "all")), M) := by
  rcases h with rfl | rfl
  · have e2 : SeqAt.shaped (.str (Str.ofString "all")) = true := by decide +kernel
    show gEqB id (.str "all") (.str "all") M = _
    unfold gEqB
    have e1 : toPD M deep (.str (Str.ofString "all")) = some (.str "all") := rfl
    rw [e1]
    dsimp only
    rw [e2]
    rfl
  · have e2 : SeqAt.shaped (.str (Str.ofString "all")) = true := by decide +kernel
    have e3 : SeqAt.shaped (.str (Str.ofString "pressed")) = true := by decide +kernel
    have e4 : PyData.eqv (.str (Str.ofString "pressed")) (.str (Str.ofString "all")) = false := by decide +kernel
    show gEqB id (.str "pressed") (.str "all") M = _
    unfold gEqB
    have e1 : toPD M deep (.str (Str.ofString "all")) = some (.str "all") := rfl
    have e5 : toPD M deep (.str (Str.ofString "pressed")) = some (.str "pressed") := rfl
    rw [e1, e5]
    dsimp only
    rw [e2, e3, e4]
    have e6 : ¬ (Str.ofString "pressed" = Str.ofString "all") := by decide +kernel
    rw [decide_eq_false e6]
    rfl
/-- the organ in the store, as the theory sees it -/
def ogOf (cs rs : List Tr3) (ch : Str) (oct : Int) : Ga.Og := ⟨cs, rs, decide (ch = "all"), oct⟩
theorem layers_w {M : Hs} {g : Nat} {many : Int} {cs rs : List Tr3} {ch : Str} {oct : Int} (og : OgM M g many cs rs ch oct) (hc : ch = "all" ∨ ch = "pressed") : f_layers_of [.ref g] M = .ok (.tup [.int 0, .int (ogOf cs rs ch oct).l2]) M := by
  have key : wX (f_layers_of [.ref g] M) fun d M' => d = .tup [.int 0, .int (ogOf cs rs ch oct).l2] ∧ M' = M := by
    unfold f_layers_of
    walk_at "go"
    rw [sl_at og]
    walk_at "go"
    rw [g_allS hc]
    walk_at "go"
    unfold ogOf Ga.Og.l2
    by_cases h : ch = "all" <;> simp [h]
  obtain ⟨d, M', e, rfl, rfl⟩ := wX_get key
  exact e
end Wk
end
section
set_option maxRecDepth 100000
set_option maxHeartbeats 4000000
set_option autoImplicit false
namespace Wk
open PySem Mi Ga
local macro_rules | `(tactic| walk_at "go") => `(tactic| simp only [wX_fn, wS_seq, wS_set, wS_ret, wS_expr, wS_pass, wS_if, wS_put, wX_var, wX_c, wX_2, wX_3, wX_anil, wX_acons, wX_star, wS_asg, wS_par, wS_aug, wX_tup, wX_lst, wX_dict, wX_b, wX_meth, wX_call, wX_if, wX_t1, wX_and2, wX_or2, wX_not1, wX_true, wX_neg, wX_oN, wX_oS, wX_not, wX_and, wX_or, wX_is, wX_cut, wX_fld, wX_ok, wX_no, wO_some, wO_none, wS_nx, wS_rt, List.map_cons, List.map_nil, List.cons_append, List.nil_append, List.append_nil, List.replicate_succ, List.replicate_zero, List.set_cons_zero, List.set_cons_succ, List.getElem?_cons_zero, List.getElem?_cons_succ, List.getElem?_nil, List.length_cons, List.length_nil, Nat.reduceSub, Nat.reduceAdd, Nat.reduceLeDiff, Nat.zero_add, Nat.add_zero, Nat.zero_le, if_true, if_false, ite_true, ite_false, reduceIte, Bool.false_eq_true, Bool.not_true, Bool.not_false, reduceCtorEq, bp_n, bp_t, bps_n, bps_cn, sa_n, sa_c, Option.map_some, g_eqI, g_neI, g_isN, g_isI, g_isNotN, g_isNotI, g_lenT, g_ix0, g_ix1, g_ix2, g_ix5, g_min, g_mx, g_add, g_sub, g_lt, g_le, g_gt, g_ge, g_listT, sz_eq, decide_eq_true_eq, eqk_t3.gEq, Bool.not_eq_true'])
local macro_rules | `(tactic| walk_at "ev") => `(tactic| simp (disch := (first | assumption | exact get_push | exact fr_lt (by assumption) (by assumption) | exact get_app (by assumption) | exact fr_lt (by assumption) (fr_lt (by assumption) (by assumption)) | exact get_app (get_app (by assumption)) | exact get_app get_push)) only [sl_at, is_L, g_lenD, g_listL, g_listD, if_true, ite_true, reduceIte])
theorem low_len (oct s many : Int) (h0 : 0 ≤ many) (h3 : many ≤ 3) : (lowF oct s many).length ≤ 4 := by
  unfold lowF
  refine Nat.le_trans (List.length_filterMap_le _ _) ?_
  unfold Ga.upTo
  simp
  omega
theorem high_len (oct s many : Int) (h0 : 0 ≤ many) (h3 : many ≤ 3) : (highF oct s many).length ≤ 4 := by
  unfold highF
  refine Nat.le_trans (List.length_filterMap_le _ _) ?_
  have hm3 : 0 ≤ mnI many 3 ∧ mnI many 3 ≤ 3 := by unfold mnI; split <;> omega
  unfold Ga.upTo
  simp
  omega
theorem flat_len {α β : Type} {G : α → List β} {k : Nat} (h : ∀ a, (G a).length ≤ k) (l : List α) : (l.flatMap G).length ≤ k * l.length := by
  induction l with
  | nil => simp
  | cons a l ih =>
    rw [List.flatMap_cons, List.length_append, List.length_cons, Nat.mul_add]
    have := h a
    omega
theorem flat_sn {α β : Type} {G : α → List β} {l : List α} {a : α} : (l ++ [a]).flatMap G = l.flatMap G ++ G a := by rw [List.flatMap_append]; simp
/-- what the couplers of the new key give -/
def lnkG (O : Ga.Og) (many : Int) (c : Tr3) : List P6 := baseF O many c ++ (if many < 3 then (lowF O.oct c.2.2 many).map fun q => ((many - q.1, c.1, 0), (many - q.2, c.2.1, O.l2)) else [])
theorem lnkG_len (O : Ga.Og) (many : Int) (h0 : 0 ≤ many) (h3 : many ≤ 3) (c : Tr3) : (lnkG O many c).length ≤ 5 := by
  have h1 : (baseF O many c).length ≤ 1 := by
    unfold baseF
    repeat' split
    all_goals simp
  have h2 := low_len O.oct c.2.2 many h0 h3
  unfold lnkG
  rw [List.length_append]
  split
  · rw [List.length_map]; omega
  · simp; omega
theorem new_links_w {M : Hs} {g : Nat} {many0 : Int} {cs rs : List Tr3} {ch : Str} {oct : Int} (og : OgM M g many0 cs rs ch oct) (hc : ch = "all" ∨ ch = "pressed") (hcl : cs.length ≤ 100) (many : Int) (h0 : 0 ≤ many) (h3 : many ≤ 3) :
    wX (f_new_links [.ref g, .int many] M) fun d M' => RL d M M' ((newLinksF (ogOf cs rs ch oct) many).map p6D) := by
  have hsz := size1
  have lw := @low_pairs_w
  have ll := layers_w og hc
  unfold f_new_links
  generalize f_low_pairs = F1 at lw ⊢
  generalize f_layers_of = F2 at ll ⊢
  walk_at "go"
  rw [ll]
  walk_at "go"
  generalize hO : ogOf cs rs ch oct = O at ll ⊢
  have hoct : O.oct = oct := by rw [← hO]; rfl
  have ecs : O.cs = cs := by rw [← hO]; rfl
  have og1 : OgM (M ++ [MO.lst []]) g many0 cs rs ch oct := get_app og
  have hf : xFld 0 1 (xVar 0) [some (.ref g), some (.int many), some (.int 0), some (.int O.l2), some (.ref M.length), none, none, none, none, none, none] (M ++ [MO.lst []]) = .ok (.tup (cs.map trD)) (M ++ [MO.lst []]) := by
    simp [xFld, xVar, R.bind, sl_at og1]
  refine for_list trD (src_d hf rfl) (fun done ζ M' => (∃ a b c d e f, ζ = [some (.ref g), some (.int many), some (.int 0), some (.int O.l2), some (.ref M.length), a, b, c, d, e, f]) ∧ Fr No M M' ∧ M'[M.length]? = some (.lst ((done.flatMap (lnkG O many)).map p6D))) ?_ (fun _ _ _ _ => rfl) ?_ ?_
  · exact ⟨⟨_, _, _, _, _, _, rfl⟩, Fr.push _ _, by simp⟩
  · rintro done c rest ζ M1 hd ⟨⟨a1, a2, a3, a4, a5, a6, rfl⟩, fr, hm⟩
    have hlen : done.length < 100 := by
      have := congrArg List.length hd
      simp only [List.length_append, List.length_cons] at this
      omega
    have acc := flat_len (lnkG_len O many h0 h3) done
    refine ⟨[(5, .int c.1), (6, .int c.2.1), (7, .int c.2.2)], rfl, ?_⟩
    simp only [sa_n, sa_c, List.set_cons_succ, List.set_cons_zero]
    rw [wS_seq]
    refine wS_mono (N := fun ζ' M2 => ζ' = [some (.ref g), some (.int many), some (.int 0), some (.int O.l2), some (.ref M.length), some (.int c.1), some (.int c.2.1), some (.int c.2.2), a4, a5, a6] ∧ Fr No M M2 ∧ M2[M.length]? = some (.lst ((done.flatMap (lnkG O many) ++ baseF O many c).map p6D))) ?_ ?_ (fun d M h => h)
    · walk_at "go"
      have put : ∀ p : P6, (M1.set M.length (MO.lst ((done.flatMap (lnkG O many)).map p6D ++ [p6D p])))[M.length]? = some (.lst ((done.flatMap (lnkG O many) ++ [p]).map p6D)) := fun p => by rw [set_get hm, List.map_append]; rfl
      by_cases k0 : c.2.2 = 0
      · have eb : baseF O many c = [((0, c.1, 0), (0, c.2.1, O.l2))] := by unfold baseF; rw [if_pos k0]
        rw [eb, if_pos k0, if_pos (is_L hm), g_app hm (by rw [List.length_map]; omega)]
        exact ⟨trivial, fr.setHi (Nat.le_refl _), put ((0, c.1, 0), (0, c.2.1, O.l2))⟩
      · rw [if_neg k0]
        by_cases k1 : 0 < c.2.2
        · rw [if_pos k1]
          by_cases k2 : c.2.2 ≤ many
          · have eb : baseF O many c = [((c.2.2, c.1, 0), (0, c.2.1, O.l2))] := by unfold baseF; rw [if_neg k0, if_pos ⟨k1, k2⟩]
            rw [eb, if_pos k2, if_pos (is_L hm), g_app hm (by rw [List.length_map]; omega)]
            exact ⟨trivial, fr.setHi (Nat.le_refl _), put ((c.2.2, c.1, 0), (0, c.2.1, O.l2))⟩
          · have eb : baseF O many c = [] := by unfold baseF; rw [if_neg k0, if_neg (fun h => k2 h.2), if_neg (fun h => by omega)]
            rw [eb, if_neg k2, if_neg (by omega)]
            exact ⟨trivial, fr, by rw [List.append_nil]; exact hm⟩
        · rw [if_neg k1, if_pos (by omega)]
          by_cases k2 : -c.2.2 ≤ many
          · have eb : baseF O many c = [((0, c.1, 0), (-c.2.2, c.2.1, O.l2))] := by unfold baseF; rw [if_neg k0, if_neg (fun h => k1 h.1), if_pos ⟨by omega, k2⟩]
            rw [eb, if_pos k2, if_pos (is_L hm), g_app hm (by rw [List.length_map]; omega)]
            exact ⟨trivial, fr.setHi (Nat.le_refl _), put ((0, c.1, 0), (-c.2.2, c.2.1, O.l2))⟩
          · have eb : baseF O many c = [] := by unfold baseF; rw [if_neg k0, if_neg (fun h => k1 h.1), if_neg (fun h => k2 h.2)]
            rw [eb, if_neg k2]
            exact ⟨trivial, fr, by rw [List.append_nil]; exact hm⟩
    · rintro ζ' M2 ⟨rfl, fr2, hm2⟩
      rw [flat_sn]
      walk_at "go"
      by_cases k3 : many < 3
      · have el : lnkG O many c = baseF O many c ++ (lowF O.oct c.2.2 many).map fun q => ((many - q.1, c.1, 0), (many - q.2, c.2.1, O.l2)) := by unfold lnkG; rw [if_pos k3]
        rw [el, if_pos k3]
        have og2 : OgM M2 g many0 cs rs ch oct := fr2.get og id
        rw [sl_at og2]
        walk_at "go"
        refine wX_mono (lw oct c.2.2 many h0 h3 M2) ?_
        rintro d M3 ⟨n3, rfl, hn3, hl3, fr3⟩
        rw [if_pos (is_L (fr_lt fr3 hm2))]
        have hv : xVar 8 [some (.ref g), some (.int many), some (.int 0), some (.int O.l2), some (.ref M.length), some (.int c.1), some (.int c.2.1), some (.int c.2.2), some (.ref n3), a5, a6] M3 = .ok (.ref n3) M3 := rfl
        refine wX_mono (lc_ret (c := fun _ => true) prD (fun q => p6D ((many - q.1, c.1, 0), (many - q.2, c.2.1, O.l2))) (src_d hv (s_ref hl3)) (Fr.refl _ _) (fun M' f => s_ref (fr_lt f hl3)) (by have := low_len oct c.2.2 many h0 h3; omega) ?_) ?_
        · rintro q _ M' f'
          refine ⟨[(9, .int q.1), (10, .int q.2)], rfl, ?_⟩
          simp only [sa_n, sa_c, wipeD, List.set_cons_succ, List.set_cons_zero]
          walk_at "go"
          exact ⟨trivial, Fr.refl _ _, fun _ => ⟨rfl, Fr.refl _ _⟩⟩
        · rintro d M4 ⟨n4, rfl, hn4, hl4, fr4⟩
          have hm4 := fr_lt fr4 (fr_lt fr3 hm2)
          rw [List.filter_eq_self.mpr (fun _ _ => rfl)] at hl4
          rw [g_ext hm4 hl4 (by
            have b1 : (baseF O many c).length ≤ 1 := by
              unfold baseF
              repeat' split
              all_goals simp
            have := low_len oct c.2.2 many h0 h3
            simp only [List.length_map, List.length_append]
            omega)]
          walk_at "go"
          refine ⟨⟨_, _, _, _, _, _, rfl⟩, ((fr2.trans fr3).trans fr4).setHi (Nat.le_refl _), ?_⟩
          rw [set_get hm4, hoct]
          simp [List.map_append, Function.comp_def]
      · have el : lnkG O many c = baseF O many c := by unfold lnkG; rw [if_neg k3, List.append_nil]
        rw [el, if_neg k3]
        exact ⟨⟨_, _, _, _, _, _, rfl⟩, fr2, hm2⟩
  · rintro ζ M' ⟨⟨a1, a2, a3, a4, a5, a6, rfl⟩, fr, hm⟩
    walk_at "go"
    refine ⟨M.length, rfl, Nat.le_refl _, ?_, fr⟩
    rw [hm]
    unfold newLinksF
    rw [ecs]
    rfl
end Wk
end
section
set_option maxRecDepth 100000
set_option maxHeartbeats 4000000
set_option autoImplicit false
namespace Wk
open PySem Mi Ga
local macro_rules | `(tactic| walk_at "go") => `(tactic| simp only [wX_fn, wS_seq, wS_set, wS_ret, wS_expr, wS_pass, wS_if, wS_put, wX_var, wX_c, wX_2, wX_3, wX_anil, wX_acons, wX_star, wS_asg, wS_par, wS_aug, wX_tup, wX_lst, wX_dict, wX_b, wX_meth, wX_call, wX_if, wX_t1, wX_and2, wX_or2, wX_not1, wX_true, wX_neg, wX_oN, wX_oS, wX_not, wX_and, wX_or, wX_is, wX_cut, wX_fld, wX_ok, wX_no, wO_some, wO_none, wS_nx, wS_rt, List.map_cons, List.map_nil, List.cons_append, List.nil_append, List.append_nil, List.replicate_succ, List.replicate_zero, List.set_cons_zero, List.set_cons_succ, List.getElem?_cons_zero, List.getElem?_cons_succ, List.getElem?_nil, List.length_cons, List.length_nil, Nat.reduceSub, Nat.reduceAdd, Nat.reduceLeDiff, Nat.zero_add, Nat.add_zero, Nat.zero_le, if_true, if_false, ite_true, ite_false, reduceIte, Bool.false_eq_true, Bool.not_true, Bool.not_false, reduceCtorEq, bp_n, bp_t, bps_n, bps_cn, sa_n, sa_c, Option.map_some, g_eqI, g_neI, g_isN, g_isI, g_isNotN, g_isNotI, g_lenT, g_ix0, g_ix1, g_ix2, g_ix5, g_min, g_mx, g_add, g_sub, g_lt, g_le, g_gt, g_ge, g_listT, sz_eq, decide_eq_true_eq, eqk_t3.gEq, Bool.not_eq_true'])
local macro_rules | `(tactic| walk_at "ev") => `(tactic| simp (disch := (first | assumption | exact get_push | exact fr_lt (by assumption) (by assumption) | exact get_app (by assumption) | exact fr_lt (by assumption) (fr_lt (by assumption) (by assumption)) | exact get_app (get_app (by assumption)) | exact get_app get_push)) only [sl_at, is_L, g_lenD, g_listL, g_listD, if_true, ite_true, reduceIte])
theorem filt_true {α : Type} (l : List α) : l.filter (fun _ => true) = l := List.filter_eq_self.mpr fun _ _ => rfl
theorem with_layers_w {M : Hs} {g n : Nat} {many0 : Int} {cs rs : List Tr3} {ch : Str} {oct : Int} (og : OgM M g many0 cs rs ch oct) (hc : ch = "all" ∨ ch = "pressed") {sm : List Sp2} (hs : M[n]? = some (.lst (sm.map prD))) (hl : sm.length ≤ 10000) :
    wX (f_with_layers [.ref g, .ref n] M) fun d M' => RL d M M' ((layF (ogOf cs rs ch oct) sm).map tr3) := by
  have hsz := size1
  have ll : ∀ M' : Hs, OgM M' g many0 cs rs ch oct → f_layers_of [.ref g] M' = .ok (.tup [.int 0, .int (ogOf cs rs ch oct).l2]) M' := fun M' o => layers_w o hc
  unfold f_with_layers
  generalize f_layers_of = F2 at ll ⊢
  walk_at "go"
  generalize hO : ogOf cs rs ch oct = O at ll ⊢
  have hl2 := O.l2_or
  have hf : xVar 1 [some (.ref g), some (.ref n), none, none, none] M = .ok (.ref n) M := rfl
  refine wX_mono (lc2_ret (c := fun _ => true) (c1 := fun _ _ => true) (bs := fun _ => Ga.upTo (O.l2 + 1)) prD D.int (fun q l => tr3 (q.1, q.2, l)) (src_d hf (s_ref hs)) (Fr.refl _ _) (fun M' f => s_ref (fr_lt f hs)) ?_ ?_) ?_
  · refine Nat.lt_of_le_of_lt (flat_len (k := 2) (fun _ => ?_) sm) (by omega)
    unfold Ga.upTo
    simp
    omega
  · rintro q _ M1 f1
    refine ⟨[(2, .int q.1), (3, .int q.2)], rfl, ?_⟩
    simp only [sa_n, sa_c, wipeD, List.set_cons_succ, List.set_cons_zero]
    walk_at "go"
    refine ⟨trivial, Fr.refl _ _, fun _ => ⟨M1, _, src_rg1 (j := O.l2 + 1) ?_ (okRg_mk (by omega) (by omega)), Fr.refl _ _, fun _ _ _ => trivial, ?_⟩⟩
    · have e := ll M1 (f1.get og id)
      simp [x2, xCall, aCons, aNil, xVar, R.bind, e, xC, g_ix1, R.of, g_add]
    · rintro l _ M4 f4
      refine ⟨[(4, .int l)], rfl, ?_⟩
      simp only [sa_n, sa_c, wipeD, List.set_cons_succ, List.set_cons_zero]
      walk_at "go"
      exact ⟨trivial, Fr.refl _ _, fun _ => ⟨rfl, Fr.refl _ _⟩⟩
  · rintro d M' ⟨k, rfl, h1, h2, h3⟩
    refine ⟨k, rfl, h1, ?_, h3⟩
    rw [h2, filt_true]
    simp only [filt_true]
    unfold layF
    rw [List.map_flatMap]
    simp [Function.comp_def]
def endG (O : Ga.Og) (rank many : Int) (age : Option Int) (r : Tr3) : List Sp2 := match age with
  | some a => if r.2.1 = rank then endsAt O rank many a r else []
  | none => []
theorem newEnds_flat (O : Ga.Og) (rank many : Int) (age : Option Int) : newEndsF O rank many age = O.rs.flatMap (endG O rank many age) := by
  unfold newEndsF
  congr 1
  funext r
  cases age <;> rfl
theorem new_ends_w {M : Hs} {g : Nat} {many0 : Int} {cs rs : List Tr3} {ch : Str} {oct : Int} (og : OgM M g many0 cs rs ch oct) (hrl : rs.length ≤ 100) (rank many : Int) (h0 : 0 ≤ many) (h3 : many ≤ 3) (age : Option Int) :
    wX (f_new_ends [.ref g, .int rank, .int many, optD age] M) fun d M' => RL d M M' ((newEndsF (ogOf cs rs ch oct) rank many age).map prD) := by
  have hsz := size1
  have lw := @low_pairs_w
  unfold f_new_ends
  generalize f_low_pairs = F1 at lw ⊢
  walk_at "go"
  generalize hO : ogOf cs rs ch oct = O
  have hoct : O.oct = oct := by rw [← hO]; rfl
  have ers : O.rs = rs := by rw [← hO]; rfl
  have og1 : OgM (M ++ [MO.lst []]) g many0 cs rs ch oct := get_app og
  have hf : xFld 0 4 (xVar 0) [some (.ref g), some (.int rank), some (.int many), some (optD age), some (.ref M.length), none, none, none, none, none, none] (M ++ [MO.lst []]) = .ok (.tup (rs.map trD)) (M ++ [MO.lst []]) := by
    simp [xFld, xVar, R.bind, sl_at og1]
  generalize hG : endG O rank many age = G
  have hGl : ∀ r, (G r).length ≤ 5 := fun r => by
    rw [← hG]
    unfold endG
    cases age with
    | none => simp
    | some a =>
      dsimp only
      split
      · unfold endsAt
        rw [List.length_append]
        have h1 : (if r.2.2 = -a ∨ a = 0 ∧ 0 ≤ r.2.2 ∧ r.2.2 ≤ many then [(mxI r.2.2 0, r.1)] else []).length ≤ 1 := by split <;> simp
        have h2 : (if many < 3 ∧ a ≤ many then (lowF O.oct r.2.2 many).filterMap fun q => if q.2 = many - a then some (many - q.1, r.1) else none else []).length ≤ 4 := by
          split
          · exact Nat.le_trans (List.length_filterMap_le _ _) (low_len _ _ _ h0 h3)
          · simp
        omega
      · simp
  refine for_list trD (src_d hf rfl) (fun done ζ M' => (∃ a b c d e f, ζ = [some (.ref g), some (.int rank), some (.int many), some (optD age), some (.ref M.length), a, b, c, d, e, f]) ∧ Fr No M M' ∧ M'[M.length]? = some (.lst ((done.flatMap G).map prD))) ?_ (fun _ _ _ _ => rfl) ?_ ?_
  · exact ⟨⟨_, _, _, _, _, _, rfl⟩, Fr.push _ _, by simp⟩
  · rintro done r rest ζ M1 hd ⟨⟨a1, a2, a3, a4, a5, a6, rfl⟩, fr, hm⟩
    have hlen : done.length < 100 := by
      have := congrArg List.length hd
      simp only [List.length_append, List.length_cons] at this
      omega
    have acc := flat_len hGl done
    refine ⟨[(5, .int r.1), (6, .int r.2.1), (7, .int r.2.2)], rfl, ?_⟩
    simp only [sa_n, sa_c, List.set_cons_succ, List.set_cons_zero]
    rw [flat_sn, wS_if]
    have stay : G r = [] → (∃ a b c d e f, [some (.ref g), some (.int rank), some (.int many), some (optD age), some (.ref M.length), some (.int r.1), some (.int r.2.1), some (.int r.2.2), a4, a5, a6] = [some (D.ref g), some (.int rank), some (.int many), some (optD age), some (.ref M.length), a, b, c, d, e, f]) ∧ Fr No M M1 ∧ M1[M.length]? = some (.lst ((done.flatMap G ++ G r).map prD)) := fun e => ⟨⟨_, _, _, _, _, _, rfl⟩, fr, by rw [e, List.append_nil]; exact hm⟩
    by_cases k1 : r.2.1 = rank
    · cases age with
      | none =>
        have e : G r = [] := by rw [← hG]; rfl
        refine wX_eq (a := false) (M := M1) ?_ ?_
        · simp [tAnd2, tB1, x2, xVar, R.bind, R.of, g_eqI, k1, xC, optD, g_isNotN]
        · rw [if_neg Bool.false_ne_true, wS_pass]
          exact stay e
      | some a =>
        have e : G r = endsAt O rank many a r := by rw [← hG]; exact if_pos k1
        refine wX_eq (a := true) (M := M1) ?_ ?_
        · simp [tAnd2, tB1, x2, xVar, R.bind, R.of, g_eqI, k1, xC, optD, g_isNotI]
        rw [if_pos rfl, wS_seq, e]
        refine wS_mono (N := fun ζ' M2 => ζ' = [some (.ref g), some (.int rank), some (.int many), some (.int a), some (.ref M.length), some (.int r.1), some (.int r.2.1), some (.int r.2.2), a4, a5, a6] ∧ Fr No M M2 ∧ M2[M.length]? = some (.lst ((done.flatMap G ++ (if r.2.2 = -a ∨ a = 0 ∧ 0 ≤ r.2.2 ∧ r.2.2 ≤ many then [(mxI r.2.2 0, r.1)] else [])).map prD))) ?_ ?_ (fun d M h => h)
        · simp only [optD]
          walk_at "go"
          have put : (M1.set M.length (MO.lst ((done.flatMap G).map prD ++ [D.tup [D.int (mxI r.2.2 0), D.int r.1]])))[M.length]? = some (.lst ((done.flatMap G ++ [(mxI r.2.2 0, r.1)]).map prD)) := by rw [set_get hm, List.map_append]; rfl
          have none' : M1[M.length]? = some (.lst ((done.flatMap G ++ []).map prD)) := by rw [List.append_nil]; exact hm
          have eA : ∀ h : (r.2.2 = -a ∨ a = 0 ∧ 0 ≤ r.2.2 ∧ r.2.2 ≤ many), (if r.2.2 = -a ∨ a = 0 ∧ 0 ≤ r.2.2 ∧ r.2.2 ≤ many then [(mxI r.2.2 0, r.1)] else []) = [(mxI r.2.2 0, r.1)] := fun h => if_pos h
          have eB : ∀ h : ¬ (r.2.2 = -a ∨ a = 0 ∧ 0 ≤ r.2.2 ∧ r.2.2 ≤ many), (if r.2.2 = -a ∨ a = 0 ∧ 0 ≤ r.2.2 ∧ r.2.2 ≤ many then [(mxI r.2.2 0, r.1)] else []) = [] := fun h => if_neg h
          by_cases q1 : r.2.2 = -a
          · rw [eA (.inl q1), if_pos q1, if_pos (is_L hm), g_app hm (by rw [List.length_map]; omega)]
            exact ⟨trivial, fr.setHi (Nat.le_refl _), put⟩
          · rw [if_neg q1]
            by_cases q2 : a = 0
            · rw [if_pos q2]
              by_cases q3 : 0 ≤ r.2.2
              · by_cases q4 : r.2.2 ≤ many
                · rw [eA (.inr ⟨q2, q3, q4⟩)]
                  simp only [q3, q4, decide_true, g_le, wO_some, if_true]
                  rw [if_pos (is_L hm), g_app hm (by rw [List.length_map]; omega)]
                  exact ⟨trivial, fr.setHi (Nat.le_refl _), put⟩
                · rw [eB (fun h => h.elim q1 fun h => q4 h.2.2)]
                  simp only [q3, q4, decide_true, decide_false, g_le, wO_some, Bool.false_eq_true, if_false]
                  exact ⟨trivial, fr, none'⟩
              · rw [eB (fun h => h.elim q1 fun h => q3 h.2.1)]
                simp only [q3, decide_false, g_le, wO_some, Bool.false_eq_true, if_false]
                exact ⟨trivial, fr, none'⟩
            · rw [if_neg q2, eB (fun h => h.elim q1 fun h => q2 h.1)]
              exact ⟨trivial, fr, none'⟩
        · rintro ζ' M2 ⟨rfl, fr2, hm2⟩
          have e1 : (if r.2.2 = -a ∨ a = 0 ∧ 0 ≤ r.2.2 ∧ r.2.2 ≤ many then [(mxI r.2.2 0, r.1)] else []).length ≤ 1 := by split <;> simp
          unfold endsAt
          rw [← List.append_assoc]
          generalize hA : (if r.2.2 = -a ∨ a = 0 ∧ 0 ≤ r.2.2 ∧ r.2.2 ≤ many then [(mxI r.2.2 0, r.1)] else []) = A at hm2 e1 ⊢
          have none' : (∃ a' b c d e f, [some (D.ref g), some (.int rank), some (.int many), some (.int a), some (.ref M.length), some (.int r.1), some (.int r.2.1), some (.int r.2.2), a4, a5, a6] = [some (D.ref g), some (.int rank), some (.int many), some (.int a), some (.ref M.length), a', b, c, d, e, f]) ∧ Fr No M M2 ∧ M2[M.length]? = some (.lst ((done.flatMap G ++ A ++ []).map prD)) := ⟨⟨_, _, _, _, _, _, rfl⟩, fr2, by rw [List.append_nil]; exact hm2⟩
          by_cases k3 : many < 3
          · by_cases k4 : a ≤ many
            · rw [if_pos ⟨k3, k4⟩]
              walk_at "go"
              rw [if_pos k3, if_pos k4]
              have og2 : OgM M2 g many0 cs rs ch oct := fr2.get og id
              rw [sl_at og2]
              walk_at "go"
              refine wX_mono (lw oct r.2.2 many h0 h3 M2) ?_
              rintro d M3 ⟨n3, rfl, hn3, hl3, fr3⟩
              rw [if_pos (is_L (fr_lt fr3 hm2))]
              have hv : xVar 8 [some (.ref g), some (.int rank), some (.int many), some (.int a), some (.ref M.length), some (.int r.1), some (.int r.2.1), some (.int r.2.2), some (.ref n3), a5, a6] M3 = .ok (.ref n3) M3 := rfl
              obtain ⟨c, hc⟩ : ∃ c : Sp2 → Bool, c = fun q => decide (q.2 = many - a) := ⟨_, rfl⟩
              refine wX_mono (lc_ret (c := c) prD (fun q => prD (many - q.1, r.1)) (src_d hv (s_ref hl3)) (Fr.refl _ _) (fun M' f => s_ref (fr_lt f hl3)) (by have := low_len oct r.2.2 many h0 h3; omega) ?_) ?_
              · rintro q _ M' f'
                refine ⟨[(9, .int q.1), (10, .int q.2)], rfl, ?_⟩
                simp only [sa_n, sa_c, wipeD, List.set_cons_succ, List.set_cons_zero]
                walk_at "go"
                exact ⟨by rw [hc], Fr.refl _ _, fun _ => ⟨rfl, Fr.refl _ _⟩⟩
              · rintro d M4 ⟨n4, rfl, hn4, hl4, fr4⟩
                have hm4 := fr_lt fr4 (fr_lt fr3 hm2)
                rw [g_ext hm4 hl4 (by
                  have := low_len oct r.2.2 many h0 h3
                  have := List.length_filter_le c (lowF oct r.2.2 many)
                  simp only [List.length_map, List.length_append]
                  omega)]
                walk_at "go"
                refine ⟨⟨_, _, _, _, _, _, rfl⟩, ((fr2.trans fr3).trans fr4).setHi (Nat.le_refl _), ?_⟩
                have last : ((lowF O.oct r.2.2 many).filterMap fun q => if q.2 = many - a then some (many - q.1, r.1) else none).map prD = ((lowF oct r.2.2 many).filter c).map fun q => prD (many - q.1, r.1) := by
                  rw [hoct, hc]
                  generalize lowF oct r.2.2 many = L
                  induction L with
                  | nil => rfl
                  | cons q L ih =>
                    rw [List.filter_cons, List.filterMap_cons]
                    by_cases hq : q.2 = many - a
                    · simp only [hq, decide_true, if_true, List.map_cons, ih]
                    · simp only [hq, decide_false, Bool.false_eq_true, if_false, ih]
                rw [set_get hm4, List.map_append, List.map_append (l₂ := List.filterMap _ _), last, List.map_append]
            · rw [if_neg (fun h => k4 h.2)]
              walk_at "go"
              rw [if_pos k3, if_neg k4]
              exact ⟨⟨_, _, _, _, _, _, rfl⟩, fr2, hm2⟩
          · rw [if_neg (fun h => k3 h.1)]
            walk_at "go"
            rw [if_neg k3]
            exact ⟨⟨_, _, _, _, _, _, rfl⟩, fr2, hm2⟩
    · have e : G r = [] := by
        rw [← hG]
        unfold endG
        cases age with
        | none => rfl
        | some a => exact if_neg k1
      refine wX_eq (a := false) (M := M1) ?_ ?_
      · simp [tAnd2, tB1, x2, xVar, R.bind, R.of, g_eqI, k1]
      · rw [if_neg Bool.false_ne_true, wS_pass]
        exact stay e
  · rintro ζ M' ⟨⟨a1, a2, a3, a4, a5, a6, rfl⟩, fr, hm⟩
    walk_at "go"
    refine ⟨M.length, rfl, Nat.le_refl _, ?_, fr⟩
    rw [hm]
    rw [newEnds_flat, ers, ← hG]
end Wk
end
section
set_option maxRecDepth 100000
set_option maxHeartbeats 4000000
set_option autoImplicit false
namespace Wk
open PySem Mi Ga
local macro_rules | `(tactic| walk_at "go") => `(tactic| simp only [wX_fn, wS_seq, wS_set, wS_ret, wS_expr, wS_pass, wS_if, wS_put, wX_var, wX_c, wX_2, wX_3, wX_anil, wX_acons, wX_star, wS_asg, wS_par, wS_aug, wX_tup, wX_lst, wX_dict, wX_b, wX_meth, wX_call, wX_if, wX_t1, wX_and2, wX_or2, wX_not1, wX_true, wX_neg, wX_oN, wX_oS, wX_not, wX_and, wX_or, wX_is, wX_cut, wX_fld, wX_ok, wX_no, wO_some, wO_none, wS_nx, wS_rt, List.map_cons, List.map_nil, List.cons_append, List.nil_append, List.append_nil, List.replicate_succ, List.replicate_zero, List.set_cons_zero, List.set_cons_succ, List.getElem?_cons_zero, List.getElem?_cons_succ, List.getElem?_nil, List.length_cons, List.length_nil, Nat.reduceSub, Nat.reduceAdd, Nat.reduceLeDiff, Nat.zero_add, Nat.add_zero, Nat.zero_le, if_true, if_false, ite_true, ite_false, reduceIte, Bool.false_eq_true, Bool.not_true, Bool.not_false, reduceCtorEq, bp_n, bp_t, bps_n, bps_cn, sa_n, sa_c, Option.map_some, g_eqI, g_neI, g_isN, g_isI, g_isNotN, g_isNotI, g_lenT, g_ix0, g_ix1, g_ix2, g_ix5, g_min, g_mx, g_add, g_sub, g_lt, g_le, g_gt, g_ge, g_listT, sz_eq, decide_eq_true_eq, eqk_t3.gEq, Bool.not_eq_true'])
local macro_rules | `(tactic| walk_at "ev") => `(tactic| simp (disch := (first | assumption | exact get_push | exact fr_lt (by assumption) (by assumption) | exact get_app (by assumption) | exact fr_lt (by assumption) (fr_lt (by assumption) (by assumption)) | exact get_app (get_app (by assumption)) | exact get_app get_push)) only [sl_at, is_L, g_lenD, g_listL, g_listD, if_true, ite_true, reduceIte])
/-- all pairs that may be found -/
def uni (pairs : List P6) : List P6 := (pairs.map (·.1)).flatMap fun a => (pairs.map (·.2)).map fun b => (a, b)
theorem mem_uni {pairs : List P6} {p : P6} (h : Tc (prs pairs) p.1 p.2) : p ∈ uni pairs := by
  obtain ⟨z, h1, _⟩ := h.head
  obtain ⟨w, _, h2⟩ := h
  exact List.mem_flatMap.mpr ⟨p.1, List.mem_map.mpr ⟨_, h1, rfl⟩, List.mem_map.mpr ⟨p.2, List.mem_map.mpr ⟨_, h2, rfl⟩, rfl⟩⟩
theorem uni_len (pairs : List P6) : (uni pairs).length ≤ pairs.length * pairs.length := by
  have := flat_len (G := fun a : T3 => (pairs.map (·.2)).map fun b => ((a, b) : P6)) (k := pairs.length) (fun _ => by simp) (pairs.map (·.1))
  rw [List.length_map] at this
  exact this
/-- found and waiting -/
structure Fw (pairs fnd wt : List P6) : Prop where
  nd : fnd.Nodup
  sd : ∀ q ∈ fnd, Tc (prs pairs) q.1 q.2
  al : ∀ q ∈ pairs, q ∈ fnd
  wt : ∀ q ∈ wt, q ∈ fnd
theorem Fw.le {pairs fnd wt : List P6} (F : Fw pairs fnd wt) : fnd.length ≤ (uni pairs).length := len_in F.nd fun q h => mem_uni (F.sd q h)
def Cl (fnd wt : List P6) (P : P6 → Prop) : Prop := ∀ a b c, (a, b) ∈ fnd → (b, c) ∈ fnd → (a, c) ∈ fnd ∨ (a, b) ∈ wt ∨ (b, c) ∈ wt ∨ P (a, b) ∨ P (b, c)
theorem Fw.add {pairs fnd wt : List P6} {q : P6} (F : Fw pairs fnd wt) (h : Tc (prs pairs) q.1 q.2) (hn : q ∉ fnd) : Fw pairs (fnd ++ [q]) (wt ++ [q]) where
  nd := by rw [List.nodup_append]; exact ⟨F.nd, by simp, fun a ha b hb e => by simp at hb; subst hb; subst e; exact hn ha⟩
  sd := fun r hr => by
    rcases List.mem_append.mp hr with hr | hr
    · exact F.sd r hr
    · simp at hr; subst hr; exact h
  al := fun r hr => List.mem_append_left _ (F.al r hr)
  wt := fun r hr => by
    rcases List.mem_append.mp hr with hr | hr
    · exact List.mem_append_left _ (F.wt r hr)
    · exact List.mem_append_right _ hr
theorem Cl.add {fnd wt : List P6} {P : P6 → Prop} {q : P6} (C : Cl fnd wt P) : Cl (fnd ++ [q]) (wt ++ [q]) P := fun a b c h1 h2 => by
  rcases List.mem_append.mp h1 with h1 | h1
  · rcases List.mem_append.mp h2 with h2 | h2
    · rcases C a b c h1 h2 with h | h | h | h
      · exact .inl (List.mem_append_left _ h)
      · exact .inr (.inl (List.mem_append_left _ h))
      · exact .inr (.inr (.inl (List.mem_append_left _ h)))
      · exact .inr (.inr (.inr h))
    · exact .inr (.inr (.inl (List.mem_append_right _ h2)))
  · exact .inr (.inl (List.mem_append_right _ h1))
/-- what the look at one pair must leave found -/
def Both (p r : P6) (fnd : List P6) : Prop := (r.1 = p.2 → (p.1, r.2) ∈ fnd) ∧ (r.2 = p.1 → (r.1, p.2) ∈ fnd)
theorem Cl.close {fnd wt F0 : List P6} {p : P6} (C : Cl fnd wt (· = p)) (h0 : ∀ q ∈ fnd, q ∈ F0 ∨ q ∈ wt) (hb : ∀ r ∈ F0, Both p r fnd) : Cl fnd wt fun _ => False := fun a b c h1 h2 => by
  rcases C a b c h1 h2 with h | h | h | h | h
  · exact .inl h
  · exact .inr (.inl h)
  · exact .inr (.inr (.inl h))
  · rcases h0 _ h2 with g | g
    · refine .inl ?_
      have := (hb _ g).1 (by rw [← h])
      rw [← h] at this
      exact this
    · exact .inr (.inr (.inl g))
  · rcases h0 _ h1 with g | g
    · refine .inl ?_
      have := (hb _ g).2 (by rw [← h])
      rw [← h] at this
      exact this
    · exact .inr (.inl g)
theorem found_all {pairs fnd : List P6} (F : Fw pairs fnd []) (C : Cl fnd [] fun _ => False) {p : P6} : p ∈ fnd ↔ Tc (prs pairs) p.1 p.2 := by
  refine ⟨F.sd p, fun h => ?_⟩
  obtain ⟨a, c⟩ := p
  obtain ⟨z, h1, h2⟩ := h
  have key : ∀ y, Rt (prs pairs) a y → y = a ∨ (a, y) ∈ fnd := fun y h => by
    induction h with
    | refl => exact .inl rfl
    | tail _ e ih =>
      rcases ih with h | h
      · subst h
        exact .inr (F.al _ e)
      · rcases C _ _ _ h (F.al _ e) with g | g | g | g | g
        · exact .inr g
        · cases g
        · cases g
        · exact g.elim
        · exact g.elim
  rcases key z h1 with h | h
  · subst h
    exact F.al _ h2
  · rcases C _ _ _ h (F.al _ h2) with g | g | g | g | g
    · exact g
    · cases g
    · cases g
    · exact g.elim
    · exact g.elim
theorem found_clo {pairs fnd : List P6} (F : Fw pairs fnd []) (C : Cl fnd [] fun _ => False) : srtB lt6 fnd = cloL pairs :=
  sorted_eq srt_p6.swo srt_p6.eq ⟨srtB_srtd srt_p6.swo _, (srtB_perm _ _).nodup_iff.mpr F.nd⟩ ⟨srtB_srtd srt_p6.swo _, (srtB_perm _ _).nodup_iff.mpr (nd_unq _)⟩ fun p => by
    rw [(srtB_perm _ _).mem_iff, mem_clo]
    exact found_all F C
theorem clo_nd (pairs : List P6) : (cloL pairs).Nodup := (srtB_perm _ _).nodup_iff.mpr (nd_unq _)
theorem clo_len (pairs : List P6) : (cloL pairs).length ≤ pairs.length * pairs.length :=
  Nat.le_trans (len_in (clo_nd pairs) fun q h => mem_uni (mem_clo.mp h)) (uni_len pairs)
def addsK (xs : List P6) : List P6 := xs.foldl addK []
theorem addsK_snoc (st : List P6) (p : P6) : addsK (st ++ [p]) = addK (addsK st) p := by unfold addsK; rw [List.foldl_append]; rfl
theorem mem_addsK {st : List P6} {p : P6} : p ∈ addsK st ↔ p ∈ st := by
  have key : ∀ (st acc : List P6), p ∈ st.foldl addK acc ↔ p ∈ acc ∨ p ∈ st := by
    intro st
    induction st with
    | nil => intro acc; simp
    | cons q st ih => intro acc; rw [List.foldl_cons, ih, mem_addK, List.mem_cons, or_assoc]
  unfold addsK
  rw [key]
  simp
theorem nd_addsK (st : List P6) : (addsK st).Nodup := by
  have key : ∀ (st acc : List P6), acc.Nodup → (st.foldl addK acc).Nodup := by
    intro st
    induction st with
    | nil => intro acc h; exact h
    | cons q st ih => intro acc h; exact ih _ (nd_addK h)
  exact key st [] List.nodup_nil
theorem len_addsK (st : List P6) : (addsK st).length ≤ st.length := len_in (nd_addsK st) fun x h => mem_addsK.mp h
/-- {a: True for a in as} -/
theorem dc_set {s : MY} {v : Nat} {ζ : Sl} {M M1 : Hs} {as : List P6} {K : Hs → Prop} (S : Src s ζ M (as.map p6D) M1 K) (hM : Fr No M M1) (hk : ∀ M', Fr No M1 M' → K M') (hl : as.length < sizeLine) (hv : v < ζ.length) :
    wX (xDc s [v] (.n v) tTrue (xVar v) (xC (.bl true)) ζ M) fun d M' => ∃ n, d = .ref n ∧ M.length ≤ n ∧ M'[n]? = some (.dct (dcK p6D (stK (addsK as)))) ∧ Fr No M M' := by
  obtain ⟨yd, h1, h2, h3⟩ := S
  unfold xDc
  rw [wX_bind, h1, wX_ok, wX_bind]
  refine wX_mono (wX_lcN (Q := fun M' => Fr No M1 M' ∧ M'[M1.length]? = some (.dct (dcK p6D (stK (addsK as))))) (fun i M' => Fr No M1 M' ∧ M'[M1.length]? = some (.dct (dcK p6D (stK (addsK (as.take i)))))) as.length (fun i M' hi ⟨h4, h5⟩ => ?_) (fun M' ⟨h4, h5⟩ => ?_) yd.fuel 0 (M1 ++ [.dct []]) (by simpa using h2) (Nat.zero_le _) ⟨Fr.push _ _, by simp [addsK, stK, dcK]⟩) fun _ M2 ⟨h4, h5⟩ => ?_
  · refine ⟨p6D as[i], [(v, p6D as[i])], ?_, bp_n, ?_⟩
    · rw [h3 M' (hk _ h4) i]
      simp [hi]
    · have hl2 := len_addsK (as.take i)
      rw [List.length_take] at hl2
      have ev : xVar v (setAll (wipeD ζ [v]) [(v, p6D as[i])]) M' = .ok (p6D as[i]) M' := by
        unfold xVar
        simp only [sa_n, sa_c, wipeD]
        rw [List.getElem?_set_self (by simpa using hv)]
      have e : hDct M' M1.length = some (dcK p6D (stK (addsK (as.take i)))) := by unfold hDct; rw [h5]
      unfold dcB tTrue
      dsimp only
      rw [ev]
      show wX (dput M1.length (p6D as[i]) (.bl true) M') _
      unfold dput
      rw [e]
      dsimp only
      rw [kyk_p6.of]
      dsimp only
      rw [if_pos (by unfold dcK; rw [List.length_map, stK_len]; omega), kyk_p6.put, stK_put, ← addsK_snoc, ← take_sn hi]
      exact ⟨h4.setHi (Nat.le_refl _), set_get h5⟩
  · refine ⟨?_, h4, ?_⟩
    · rw [h3 M' (hk _ h4)]
      simp
    · rw [List.take_length] at h5
      exact h5
  · exact ⟨M1.length, rfl, hM.1, h5, hM.trans h4⟩
end Wk
end
section
set_option maxRecDepth 100000
set_option maxHeartbeats 4000000
set_option autoImplicit false
namespace Wk
open PySem Mi Ga
local macro_rules | `(tactic| walk_at "go") => `(tactic| simp only [wX_fn, wS_seq, wS_set, wS_ret, wS_expr, wS_pass, wS_if, wS_put, wX_var, wX_c, wX_2, wX_3, wX_anil, wX_acons, wX_star, wS_asg, wS_par, wS_aug, wX_tup, wX_lst, wX_dict, wX_b, wX_meth, wX_call, wX_if, wX_t1, wX_and2, wX_or2, wX_not1, wX_true, wX_neg, wX_oN, wX_oS, wX_not, wX_and, wX_or, wX_is, wX_cut, wX_fld, wX_ok, wX_no, wO_some, wO_none, wS_nx, wS_rt, List.map_cons, List.map_nil, List.cons_append, List.nil_append, List.append_nil, List.replicate_succ, List.replicate_zero, List.set_cons_zero, List.set_cons_succ, List.getElem?_cons_zero, List.getElem?_cons_succ, List.getElem?_nil, List.length_cons, List.length_nil, Nat.reduceSub, Nat.reduceAdd, Nat.reduceLeDiff, Nat.zero_add, Nat.add_zero, Nat.zero_le, if_true, if_false, ite_true, ite_false, reduceIte, Bool.false_eq_true, Bool.not_true, Bool.not_false, reduceCtorEq, bp_n, bp_t, bps_n, bps_cn, sa_n, sa_c, Option.map_some, g_eqI, g_neI, g_isN, g_isI, g_isNotN, g_isNotI, g_lenT, g_ix0, g_ix1, g_ix2, g_ix5, g_min, g_mx, g_add, g_sub, g_lt, g_le, g_gt, g_ge, g_listT, sz_eq, decide_eq_true_eq, eqk_t3.gEq, Bool.not_eq_true'])
local macro_rules | `(tactic| walk_at "ev") => `(tactic| simp (disch := (first | assumption | exact get_push | exact fr_lt (by assumption) (by assumption) | exact get_app (by assumption) | exact fr_lt (by assumption) (fr_lt (by assumption) (by assumption)) | exact get_app (get_app (by assumption)) | exact get_app get_push)) only [sl_at, is_L, g_lenD, g_listL, g_listD, if_true, ite_true, reduceIte])
theorem p6_eta (q : P6) : D.tup [tr3 q.1, tr3 q.2] = p6D q := rfl
theorem g_in6 {n : Nat} {xs : List P6} {M : Hs} {b : Bool → Bool} {k : P6} (h : M[n]? = some (.dct (dcK p6D (stK xs)))) : gInA b (p6D k) (.ref n) M = some (.bl (b (decide (k ∈ xs))), M) := by
  rw [kyk_p6.gIn h, kGet_some, stK_fst]
  congr
theorem g_put6 {n : Nat} {xs : List P6} {M : Hs} {k : P6} (h : M[n]? = some (.dct (dcK p6D (stK xs)))) (hl : xs.length < sizeLine) : gPutA (.ref n) (p6D k) (.bl true) M = some (M.set n (.dct (dcK p6D (stK (addK xs k))))) := by
  rw [kyk_p6.gPut h (by rw [stK_len]; exact hl), stK_put]
theorem addK_new {xs : List P6} {k : P6} (h : k ∉ xs) : addK xs k = xs ++ [k] := if_neg h
theorem fst_stK (xs : List P6) : (dcK p6D (stK xs)).map (·.1) = xs.map p6D := by simp [dcK, stK, Function.comp_def]
theorem closed_w {M : Hs} {n : Nat} {pairs : List P6} (hs : hSeq M (.ref n) = some (pairs.map p6D)) (hp : M[n]? = some (.lst (pairs.map p6D))) (hl : pairs.length ≤ 4000) :
    wX (f_closed [.ref n] M) fun d M' => RL d M M' ((cloL pairs).map p6D) := by
  have hsz : sizeLine = 16777216 := rfl
  have hU : (uni pairs).length ≤ 16000000 := Nat.le_trans (uni_len pairs) (Nat.le_trans (Nat.mul_le_mul hl hl) (by decide))
  unfold f_closed
  walk_at "go"
  have hv : xVar 0 [some (.ref n), none, none, none, none, none, none, none] M = .ok (.ref n) M := rfl
  refine wX_mono (dc_set (src_d hv hs) (Fr.refl _ _) (fun M' f => s_ref (fr_lt f hp)) (by omega) (Nat.lt_add_one 7)) ?_
  rintro d M1 ⟨nf, rfl, hnf, hf1, fr1⟩
  rw [g_listD hf1, fst_stK]
  walk_at "go"
  have hf2 : (M1 ++ [MO.lst ((addsK pairs).map p6D)])[nf]? = some (.dct (dcK p6D (stK (addsK pairs)))) := get_app hf1
  have hw2 : (M1 ++ [MO.lst ((addsK pairs).map p6D)])[M1.length]? = some (.lst ((addsK pairs).map p6D)) := get_push
  have fr2 := fr1.pushHi (o := [MO.lst ((addsK pairs).map p6D)])
  have hnm : nf < M1.length := lt_of_get hf1
  have hMw : M.length ≤ M1.length := fr1.1
  generalize hnw : M1.length = nw at hw2 hnm hMw ⊢
  generalize (M1 ++ [MO.lst ((addsK pairs).map p6D)]) = M2 at hf2 hw2 fr2 ⊢
  have F0 : Fw pairs (addsK pairs) (addsK pairs) := ⟨nd_addsK _, fun q h => Tc.one (mem_addsK.mp h), fun q h => mem_addsK.mpr h, fun q h => h⟩
  have C0 : Cl (addsK pairs) (addsK pairs) fun _ => False := fun a b c h1 h2 => .inr (.inl h1)
  refine wS_while (I := fun k ζ M3 => ∃ fnd wt a b c d, ζ = [some (.ref n), some (.ref nf), some (.ref nw), a, b, c, d, none] ∧ Fr No M M3 ∧ M3[nf]? = some (.dct (dcK p6D (stK fnd))) ∧ M3[nw]? = some (.lst (wt.map p6D)) ∧
    Fw pairs fnd wt ∧ Cl fnd wt (fun _ => False) ∧ ((uni pairs).length - fnd.length) + wt.length ≤ k ∧ k ≤ 16010000) ((uni pairs).length + (addsK pairs).length) (by have := F0.le; omega) ⟨addsK pairs, addsK pairs, _, _, _, _, rfl, fr2, hf2, hw2, F0, C0, by omega, by have := len_addsK pairs; omega⟩ ?_
  rintro k ζ M3 ⟨fnd, wt, a, b, c, d, rfl, fr3, hf3, hw3, F, C, hk, hkk⟩
  walk_at "go"
  have hf4 : (M3 ++ [MO.lst []])[nf]? = some (.dct (dcK p6D (stK fnd))) := get_app hf3
  have hw4 : (M3 ++ [MO.lst []])[nw]? = some (.lst (wt.map p6D)) := get_app hw3
  have hn4 : (M3 ++ [MO.lst []])[M3.length]? = some (.lst []) := get_push
  rw [eqk_p6.gNeNil hw4 hn4]
  have fr4 := fr3.pushHi (o := [MO.lst []])
  generalize (M3 ++ [MO.lst []]) = M4 at hf4 hw4 fr4 ⊢
  rcases List.eq_nil_or_concat wt with hwt | ⟨w, p, hwt⟩
  · subst hwt
    simp only [List.isEmpty_nil, Bool.not_true, Bool.false_eq_true, if_false, wO_some]
    rw [g_sorted6 hf4, found_clo F C]
    refine ⟨_, rfl, fr4.1, get_push, fr4.pushHi⟩
  · rw [List.concat_eq_append] at hwt
    subst hwt
    have hne2 : (w ++ [p]).isEmpty = false := by simp
    simp only [hne2, Bool.not_false, if_true, wO_some]
    rw [List.map_append] at hw4
    rw [if_pos (is_L hw4), g_popL hw4]
    walk_at "go"
    rw [show p6D p = D.tup [tr3 p.1, tr3 p.2] from rfl]
    walk_at "go"
    have fr5 : Fr No M (M4.set nw (.lst (w.map p6D))) := fr4.setHi hMw
    have hw5 : (M4.set nw (.lst (w.map p6D)))[nw]? = some (.lst (w.map p6D)) := set_get hw4
    have hf5 : (M4.set nw (.lst (w.map p6D)))[nf]? = some (.dct (dcK p6D (stK fnd))) := by rw [List.getElem?_set_ne (by omega)]; exact hf4
    generalize (M4.set nw (.lst (w.map p6D))) = M5 at fr5 hw5 hf5 ⊢
    have hfm : nf < M5.length := lt_of_get hf5
    have hwm : nw < M5.length := lt_of_get hw5
    have hv5 : xB gListA (aCons (xVar 1) aNil) [some (.ref n), some (.ref nf), some (.ref nw), some (tr3 p.1), some (tr3 p.2), c, d, none] M5 = .ok (.ref M5.length) (M5 ++ [.lst (fnd.map p6D)]) := by
      have : gListA [.ref nf] M5 = some (.ref M5.length, M5 ++ [.lst (fnd.map p6D)]) := by rw [g_listD hf5, fst_stK]
      simp [xB, aCons, aNil, xVar, R.bind, this, R.of]
    have hpf : p ∈ fnd := F.wt p (List.mem_append_right _ List.mem_cons_self)
    have Fq : Fw pairs fnd w := ⟨F.nd, F.sd, F.al, fun q h => F.wt q (List.mem_append_left _ h)⟩
    have Cq : Cl fnd w (· = p) := fun a b c h1 h2 => by
      rcases C a b c h1 h2 with h | h | h | h | h
      · exact .inl h
      · rcases List.mem_append.mp h with h | h
        · exact .inr (.inl h)
        · exact .inr (.inr (.inr (.inl (by simpa using h))))
      · rcases List.mem_append.mp h with h | h
        · exact .inr (.inr (.inl h))
        · exact .inr (.inr (.inr (.inr (by simpa using h))))
      · exact h.elim
      · exact h.elim
    rw [List.length_append, List.length_singleton] at hk
    have ePut : ∀ (fnd' wt' : List P6) (q : P6) (M6 : Hs), M6[nf]? = some (.dct (dcK p6D (stK fnd'))) → M6[nw]? = some (.lst (wt'.map p6D)) → q ∉ fnd' → fnd'.length < sizeLine → wt'.length < sizeLine → Fr No M M6 →
        ∃ M7, gPutA (.ref nf) (p6D q) (.bl true) M6 = some (M6.set nf (.dct (dcK p6D (stK (fnd' ++ [q]))))) ∧ isLst (.ref nw) (M6.set nf (.dct (dcK p6D (stK (fnd' ++ [q]))))) = true ∧ gAppend (.ref nw) [p6D q] (M6.set nf (.dct (dcK p6D (stK (fnd' ++ [q]))))) = some (.non, M7) ∧
          M7[nf]? = some (.dct (dcK p6D (stK (fnd' ++ [q])))) ∧ M7[nw]? = some (.lst ((wt' ++ [q]).map p6D)) ∧ Fr No M M7 ∧ M7[M5.length]? = M6[M5.length]? := fun fnd' wt' q M6 h1 h2 h3 h4 h5 h6 => by
      have g1 : (M6.set nf (.dct (dcK p6D (stK (fnd' ++ [q])))))[nw]? = some (.lst (wt'.map p6D)) := by rw [List.getElem?_set_ne (by omega)]; exact h2
      have g2 : (M6.set nf (.dct (dcK p6D (stK (fnd' ++ [q])))))[nf]? = some (.dct (dcK p6D (stK (fnd' ++ [q])))) := set_get h1
      refine ⟨_, by rw [g_put6 h1 h4, addK_new h3], is_L g1, g_app g1 (by rw [List.length_map]; exact h5), ?_, ?_, (h6.setHi hnf).setHi hMw, ?_⟩
      · rw [List.getElem?_set_ne (by omega)]; exact g2
      · rw [List.map_append]; exact set_get g1
      · rw [List.getElem?_set_ne (by omega), List.getElem?_set_ne (by omega)]
    refine for_list p6D (src_d hv5 (s_ref get_push)) (fun done ζ M6 => ∃ fnd' wt' c d, ζ = [some (.ref n), some (.ref nf), some (.ref nw), some (tr3 p.1), some (tr3 p.2), c, d, none] ∧ Fr No M M6 ∧ M6[nf]? = some (.dct (dcK p6D (stK fnd'))) ∧ M6[nw]? = some (.lst (wt'.map p6D)) ∧ M6[M5.length]? = some (.lst (fnd.map p6D)) ∧
      Fw pairs fnd' wt' ∧ Cl fnd' wt' (· = p) ∧ (∀ q ∈ fnd', q ∈ fnd ∨ q ∈ wt') ∧ (∀ q ∈ fnd, q ∈ fnd') ∧ (∀ r ∈ done, Both p r fnd') ∧ ((uni pairs).length - fnd'.length) + wt'.length + 1 ≤ k) ?_ ?_ ?_ ?_
    · exact ⟨fnd, w, _, _, rfl, fr5.pushHi, get_app hf5, get_app hw5, get_push, Fq, Cq, fun q h => .inl h, fun q h => h, by simp, by omega⟩
    · rintro done ζ M6 ⟨fnd', wt', c, d, rfl, fr6, hf6, hw6, hs6, _⟩
      exact s_ref hs6
    · rintro done r rest ζ M6 hd ⟨fnd', wt', c, d, rfl, fr6, hf6, hw6, hs6, F6, C6, h06, hu6, hb6, hk6⟩
      have hr : r ∈ fnd := by rw [hd]; simp
      have tcp : Tc (prs pairs) p.1 p.2 := F.sd p hpf
      have tcr : Tc (prs pairs) r.1 r.2 := F.sd r hr
      refine ⟨[(5, tr3 r.1), (6, tr3 r.2)], rfl, ?_⟩
      simp only [sa_n, sa_c, List.set_cons_succ, List.set_cons_zero]
      have grow : ∀ (q : P6) (z : List P6), Tc (prs pairs) q.1 q.2 → q ∉ z → ∀ y : List P6, Fw pairs z y → z.length + 1 ≤ (uni pairs).length := fun q z h1 h2 y h3 => by
        have := (h3.add h1 h2).le
        rw [List.length_append, List.length_singleton] at this
        exact this
      rw [wS_seq]
      refine wS_mono (N := fun ζ' M7 => ∃ fnd' wt', ζ' = [some (.ref n), some (.ref nf), some (.ref nw), some (tr3 p.1), some (tr3 p.2), some (tr3 r.1), some (tr3 r.2), none] ∧ Fr No M M7 ∧ M7[nf]? = some (.dct (dcK p6D (stK fnd'))) ∧ M7[nw]? = some (.lst (wt'.map p6D)) ∧ M7[M5.length]? = some (.lst (fnd.map p6D)) ∧
        Fw pairs fnd' wt' ∧ Cl fnd' wt' (· = p) ∧ (∀ q ∈ fnd', q ∈ fnd ∨ q ∈ wt') ∧ (∀ q ∈ fnd, q ∈ fnd') ∧ (∀ r ∈ done, Both p r fnd') ∧ ((uni pairs).length - fnd'.length) + wt'.length + 1 ≤ k ∧ (r.1 = p.2 → (p.1, r.2) ∈ fnd')) ?_ ?_ (fun d M h => h)
      · walk_at "go"
        by_cases e1 : r.1 = p.2
        · rw [if_pos e1, show D.tup [tr3 p.1, tr3 r.2] = p6D (p.1, r.2) from rfl, g_in6 hf6]
          have tq : Tc (prs pairs) p.1 r.2 := tcp.trans (by rw [← e1]; exact tcr)
          by_cases hin : (p.1, r.2) ∈ fnd'
          · simp only [hin, decide_true, Bool.not_true, wO_some, Bool.false_eq_true, if_false]
            exact ⟨fnd', wt', trivial, fr6, hf6, hw6, hs6, F6, C6, h06, hu6, hb6, hk6, fun _ => hin⟩
          · simp only [hin, decide_false, Bool.not_false, wO_some, if_true]
            have hg := grow (p.1, r.2) fnd' tq hin wt' F6
            obtain ⟨M7, g1, g2, g3, g4, g5, g6, g7⟩ := ePut fnd' wt' (p.1, r.2) M6 hf6 hw6 hin (by omega) (by omega) fr6
            rw [g1]
            simp only [show D.tup [tr3 p.1, tr3 r.2] = p6D (p.1, r.2) from rfl, g2, g3, if_true, wO_some]
            refine ⟨fnd' ++ [(p.1, r.2)], wt' ++ [(p.1, r.2)], trivial, g6, g4, g5, by rw [g7]; exact hs6, F6.add tq hin, C6.add, ?_, fun q h => List.mem_append_left _ (hu6 q h), fun q h => ⟨fun e => List.mem_append_left _ ((hb6 q h).1 e), fun e => List.mem_append_left _ ((hb6 q h).2 e)⟩, ?_, fun _ => List.mem_append_right _ List.mem_cons_self⟩
            · intro q hq
              rcases List.mem_append.mp hq with hq | hq
              · rcases h06 q hq with h | h
                · exact .inl h
                · exact .inr (List.mem_append_left _ h)
              · exact .inr (List.mem_append_right _ hq)
            · rw [List.length_append, List.length_append, List.length_singleton]; omega
        · rw [if_neg e1]
          exact ⟨fnd', wt', trivial, fr6, hf6, hw6, hs6, F6, C6, h06, hu6, hb6, hk6, fun h => absurd h e1⟩
      · clear hf6 hw6 hs6 F6 C6 h06 hu6 hb6 hk6 fr6 M6 fnd' wt'
        rintro ζ' M6 ⟨fnd', wt', rfl, fr6, hf6, hw6, hs6, F6, C6, h06, hu6, hb6, hk6, hq1⟩
        walk_at "go"
        have bo : ∀ fnd'' : List P6, (∀ q ∈ fnd', q ∈ fnd'') → (r.2 = p.1 → (r.1, p.2) ∈ fnd'') → ∀ q ∈ done ++ [r], Both p q fnd'' := fun fnd'' h1 h2 q hq => by
          rcases List.mem_append.mp hq with hq | hq
          · exact ⟨fun e => h1 _ ((hb6 q hq).1 e), fun e => h1 _ ((hb6 q hq).2 e)⟩
          · simp at hq
            subst hq
            exact ⟨fun e => h1 _ (hq1 e), h2⟩
        by_cases e1 : r.2 = p.1
        · rw [if_pos e1, show D.tup [tr3 r.1, tr3 p.2] = p6D (r.1, p.2) from rfl, g_in6 hf6]
          have tq : Tc (prs pairs) r.1 p.2 := tcr.trans (by rw [e1]; exact tcp)
          by_cases hin : (r.1, p.2) ∈ fnd'
          · simp only [hin, decide_true, Bool.not_true, wO_some, Bool.false_eq_true, if_false]
            exact ⟨fnd', wt', _, _, rfl, fr6, hf6, hw6, hs6, F6, C6, h06, hu6, bo fnd' (fun q h => h) (fun _ => hin), hk6⟩
          · simp only [hin, decide_false, Bool.not_false, wO_some, if_true]
            have hg := grow (r.1, p.2) fnd' tq hin wt' F6
            obtain ⟨M7, g1, g2, g3, g4, g5, g6, g7⟩ := ePut fnd' wt' (r.1, p.2) M6 hf6 hw6 hin (by omega) (by omega) fr6
            rw [g1]
            simp only [show D.tup [tr3 r.1, tr3 p.2] = p6D (r.1, p.2) from rfl, g2, g3, if_true, wO_some]
            refine ⟨fnd' ++ [(r.1, p.2)], wt' ++ [(r.1, p.2)], _, _, rfl, g6, g4, g5, by rw [g7]; exact hs6, F6.add tq hin, C6.add, ?_, fun q h => List.mem_append_left _ (hu6 q h), bo _ (fun q h => List.mem_append_left _ h) (fun _ => List.mem_append_right _ List.mem_cons_self), ?_⟩
            · intro q hq
              rcases List.mem_append.mp hq with hq | hq
              · rcases h06 q hq with h | h
                · exact .inl h
                · exact .inr (List.mem_append_left _ h)
              · exact .inr (List.mem_append_right _ hq)
            · rw [List.length_append, List.length_append, List.length_singleton]; omega
        · rw [if_neg e1]
          exact ⟨fnd', wt', _, _, rfl, fr6, hf6, hw6, hs6, F6, C6, h06, hu6, bo fnd' (fun q h => h) (fun h => absurd h e1), hk6⟩
    · rintro ζ M6 ⟨fnd', wt', c, d, rfl, fr6, hf6, hw6, hs6, F6, C6, h06, hu6, hb6, hk6⟩
      exact ⟨((uni pairs).length - fnd'.length) + wt'.length, by omega, fnd', wt', _, _, _, _, rfl, fr6, hf6, hw6, F6, C6.close h06 hb6, Nat.le_refl _, by omega⟩
end Wk
end
section
set_option maxRecDepth 100000
set_option maxHeartbeats 4000000
set_option autoImplicit false
namespace Wk
open PySem Mi Ga
local macro_rules | `(tactic| walk_at "go") => `(tactic| simp only [wX_fn, wS_seq, wS_set, wS_ret, wS_expr, wS_pass, wS_if, wS_put, wX_var, wX_c, wX_2, wX_3, wX_anil, wX_acons, wX_star, wS_asg, wS_par, wS_aug, wX_tup, wX_lst, wX_dict, wX_b, wX_meth, wX_call, wX_if, wX_t1, wX_and2, wX_or2, wX_not1, wX_true, wX_neg, wX_oN, wX_oS, wX_not, wX_and, wX_or, wX_is, wX_cut, wX_fld, wX_ok, wX_no, wO_some, wO_none, wS_nx, wS_rt, List.map_cons, List.map_nil, List.cons_append, List.nil_append, List.append_nil, List.replicate_succ, List.replicate_zero, List.set_cons_zero, List.set_cons_succ, List.getElem?_cons_zero, List.getElem?_cons_succ, List.getElem?_nil, List.length_cons, List.length_nil, Nat.reduceSub, Nat.reduceAdd, Nat.reduceLeDiff, Nat.zero_add, Nat.add_zero, Nat.zero_le, if_true, if_false, ite_true, ite_false, reduceIte, Bool.false_eq_true, Bool.not_true, Bool.not_false, reduceCtorEq, bp_n, bp_t, bps_n, bps_cn, sa_n, sa_c, Option.map_some, g_eqI, g_neI, g_isN, g_isI, g_isNotN, g_isNotI, g_lenT, g_ix0, g_ix1, g_ix2, g_ix5, g_min, g_mx, g_add, g_sub, g_lt, g_le, g_gt, g_ge, g_listT, sz_eq, decide_eq_true_eq, eqk_t3.gEq, Bool.not_eq_true'])
local macro_rules | `(tactic| walk_at "ev") => `(tactic| simp (disch := (first | assumption | exact get_push | exact fr_lt (by assumption) (by assumption) | exact get_app (by assumption) | exact fr_lt (by assumption) (fr_lt (by assumption) (by assumption)) | exact get_app (get_app (by assumption)) | exact get_app get_push)) only [sl_at, is_L, g_lenD, g_listL, g_listD, if_true, ite_true, reduceIte])
def InT (M : Hs) (d : D) (xs : List T3) : Prop := (∃ n, d = .ref n ∧ M[n]? = some (.lst (xs.map tr3))) ∨ d = .tup (xs.map tr3)
theorem InT.seq {M : Hs} {d : D} {xs : List T3} (h : InT M d xs) : hSeq M d = some (xs.map tr3) := by
  rcases h with ⟨n, rfl, h⟩ | rfl
  · exact s_ref h
  · rfl
theorem InT.fr {M M' : Hs} {d : D} {xs : List T3} (h : InT M d xs) (f : Fr No M M') : InT M' d xs := by
  rcases h with ⟨n, rfl, h⟩ | rfl
  · exact .inl ⟨n, rfl, fr_lt f h⟩
  · exact .inr rfl
/-- a spot of the window and one more -/
def Bx (x : T3) : Prop := (0 ≤ x.1 ∧ x.1 ≤ 3) ∧ (x.2.1 = 0 ∨ x.2.1 = 1) ∧ (0 ≤ x.2.2 ∧ x.2.2 ≤ 1)
def box : List T3 := (Ga.upTo 4).flatMap fun b => (Ga.upTo 2).flatMap fun m => (Ga.upTo 2).map fun l => (b, m, l)
theorem box_len : box.length = 16 := by decide
theorem mem_box {x : T3} (h : Bx x) : x ∈ box := by
  obtain ⟨h1, h2, h3⟩ := h
  unfold box
  simp only [List.mem_flatMap, List.mem_map, Ga.mem_upTo]
  exact ⟨x.1, by omega, x.2.1, by omega, x.2.2, by omega, rfl⟩
theorem box_small {x : T3} (h : Bx x) : smallT x = true := by
  have key : ∀ x ∈ box, smallT x = true := by decide
  exact key x (mem_box h)
theorem bx_unq {ts : List T3} (h : ∀ x ∈ ts, Bx x) : ts.all smallT = true ∧ (unq ts).length < 63 := by
  refine ⟨List.all_eq_true.mpr fun x hx => box_small (h x hx), ?_⟩
  have := len_in (nd_unq ts) (m := box) fun x hx => mem_box (h x (mem_unq.mp hx))
  rw [box_len] at this
  omega
theorem clo_bx {pairs : List P6} (h : ∀ p ∈ pairs, Bx p.1 ∧ Bx p.2) : ∀ p ∈ cloL pairs, Bx p.1 ∧ Bx p.2 := fun p hp => by
  obtain ⟨z, h1, _⟩ := (mem_clo.mp hp).head
  obtain ⟨w, _, h2⟩ := mem_clo.mp hp
  exact ⟨(h _ h1).1, (h _ h2).2⟩
theorem bx_len {ts : List T3} (h : ∀ x ∈ ts, Bx x) (nd : ts.Nodup) : ts.length ≤ 16 := by
  have := len_in nd (m := box) fun x hx => mem_box (h x hx)
  rw [box_len] at this
  exact this
theorem g_in3 {k : Bool → Bool} {M : Hs} {d : D} {x : T3} {xs : List T3} (h : InT M d xs) : gInA k (tr3 x) d M = some (.bl (k (decide (x ∈ xs))), M) := by
  rw [eqk_t3.gIn h]
  congr
theorem settled_w {M : Hs} {nl : Nat} {pairs : List P6} {dS dE : D} {sS eS : List T3} (many : Int) (age : Option Int) (done : Bool) (hp : M[nl]? = some (.lst (pairs.map p6D))) (hl : pairs.length ≤ 4000) (hS : InT M dS sS) (hE : InT M dE eS)
    (bp : ∀ p ∈ pairs, Bx p.1 ∧ Bx p.2) (bs : ∀ x ∈ sS, Bx x) (be : ∀ x ∈ eS, Bx x) (ls : sS.length ≤ 10000) (le : eS.length ≤ 10000) :
    wX (f_settled [.int many, .ref nl, dS, dE, optD age, .bl done] M) fun d M' => d = stD (setF many pairs sS eS age done) ∧ Fr No M M' := by
  have hsz : sizeLine = 16777216 := rfl
  have hcl : (cloL pairs).length ≤ 16000000 := Nat.le_trans (clo_len pairs) (Nat.le_trans (Nat.mul_le_mul hl hl) (by decide))
  have bL := clo_bx bp
  have cw := @closed_w
  unfold f_settled
  generalize f_closed = F1 at cw ⊢
  walk_at "go"
  refine wX_mono (cw (s_ref hp) hp hl) ?_
  rintro d M1 ⟨nL, rfl, hnL, hL1, fr1⟩
  have hS1 := hS.fr fr1
  have hE1 := hE.fr fr1
  generalize hCL : cloL pairs = L at *
  rw [hS1.seq]
  walk_at "go"
  have hf1 : xVar 1 [some (.int many), some (.ref nL), some dS, some dE, some (optD age), some (.bl done), none, none, none, none, none, none, none] M1 = .ok (.ref nL) M1 := rfl
  refine wX_mono (lc_ret (c := fun p : P6 => decide (p.1 ∈ sS)) p6D (fun p => tr3 p.2) (src_d hf1 (s_ref hL1)) (Fr.refl _ _) (fun M' f => s_ref (fr_lt f hL1)) (by omega) ?_) ?_
  · rintro p _ M' f'
    refine ⟨[(10, tr3 p.1), (11, tr3 p.2)], rfl, ?_⟩
    simp only [sa_n, sa_c, wipeD, List.set_cons_succ, List.set_cons_zero]
    walk_at "go"
    rw [g_in3 (hS1.fr f')]
    exact ⟨rfl, Fr.refl _ _, fun _ => ⟨trivial, Fr.refl _ _⟩⟩
  rintro d M2 ⟨n2, rfl, hn2, hl2, fr2⟩
  have hL2 := fr_lt fr2 hL1
  have hE2 := hE1.fr fr2
  have fr12 := fr1.trans fr2
  rw [s_ref hl2]
  have er : (sS.map tr3 ++ (L.filter fun p : P6 => decide (p.1 ∈ sS)).map fun p => tr3 p.2) = (sS ++ (L.filter fun p => decide (p.1 ∈ sS)).map (·.2)).map tr3 := by rw [List.map_append, List.map_map]; rfl
  have b1 := bx_unq (ts := sS ++ (L.filter fun p => decide (p.1 ∈ sS)).map (·.2)) fun x hx => by
    rcases List.mem_append.mp hx with hx | hx
    · exact bs x hx
    · obtain ⟨p, hp, rfl⟩ := List.mem_map.mp hx
      exact (bL p (List.mem_filter.mp hp).1).2
  have n1 : ((sS ++ (L.filter fun p => decide (p.1 ∈ sS)).map (·.2)).map tr3).length ≤ 16777216 := by
    have := List.length_filter_le (fun p : P6 => decide (p.1 ∈ sS)) L
    rw [List.length_map, List.length_append, List.length_map]
    omega
  dsimp only
  rw [er, if_pos n1]
  generalize hR : (sS ++ (L.filter fun p => decide (p.1 ∈ sS)).map (·.2)) = R1 at b1 n1 ⊢
  have hq3 : (M2 ++ [MO.lst (R1.map tr3)])[M2.length]? = some (.lst (R1.map tr3)) := get_push
  rw [g_sset3 hq3 b1.1 b1.2]
  have eR : srtB lt3 (unq R1) = reachedF L sS := by rw [← hR]; rfl
  rw [eR]
  walk_at "go"
  have fr3 : Fr No M1 (M2 ++ [MO.lst (R1.map tr3)] ++ [MO.lst ((reachedF L sS).map tr3)]) := (fr2.pushHi).pushHi
  have hR3 : (M2 ++ [MO.lst (R1.map tr3)] ++ [MO.lst ((reachedF L sS).map tr3)])[(M2 ++ [MO.lst (R1.map tr3)]).length]? = some (.lst ((reachedF L sS).map tr3)) := get_push
  generalize (M2 ++ [MO.lst (R1.map tr3)]).length = nR at hR3 ⊢
  generalize (M2 ++ [MO.lst (R1.map tr3)] ++ [MO.lst ((reachedF L sS).map tr3)]) = M3 at fr3 hR3 ⊢
  clear hq3 hl2 hL2 hE2 fr12 fr2 hn2 n2 M2
  have hE3 := hE1.fr fr3
  have hL3 := fr_lt fr3 hL1
  rw [hE3.seq]
  dsimp only
  have hf3 : xVar 1 [some (.int many), some (.ref nL), some dS, some dE, some (optD age), some (.bl done), some (.ref nR), none, none, none, none, none, none] M3 = .ok (.ref nL) M3 := rfl
  refine wX_mono (lc_ret (c := fun p : P6 => decide (p.2 ∈ eS)) p6D (fun p => tr3 p.1) (src_d hf3 (s_ref hL3)) (Fr.refl _ _) (fun M' f => s_ref (fr_lt f hL3)) (by omega) ?_) ?_
  · rintro p _ M' f'
    refine ⟨[(10, tr3 p.1), (11, tr3 p.2)], rfl, ?_⟩
    simp only [sa_n, sa_c, wipeD, List.set_cons_succ, List.set_cons_zero]
    walk_at "go"
    rw [g_in3 (hE3.fr f')]
    exact ⟨rfl, Fr.refl _ _, fun _ => ⟨trivial, Fr.refl _ _⟩⟩
  rintro d M4 ⟨n4, rfl, hn4, hl4, fr4⟩
  rw [s_ref hl4]
  have er2 : (eS.map tr3 ++ (L.filter fun p : P6 => decide (p.2 ∈ eS)).map fun p => tr3 p.1) = (eS ++ (L.filter fun p => decide (p.2 ∈ eS)).map (·.1)).map tr3 := by rw [List.map_append, List.map_map]; rfl
  have b2 := bx_unq (ts := eS ++ (L.filter fun p => decide (p.2 ∈ eS)).map (·.1)) fun x hx => by
    rcases List.mem_append.mp hx with hx | hx
    · exact be x hx
    · obtain ⟨p, hp, rfl⟩ := List.mem_map.mp hx
      exact (bL p (List.mem_filter.mp hp).1).1
  have n2 : ((eS ++ (L.filter fun p => decide (p.2 ∈ eS)).map (·.1)).map tr3).length ≤ 16777216 := by
    have := List.length_filter_le (fun p : P6 => decide (p.2 ∈ eS)) L
    rw [List.length_map, List.length_append, List.length_map]
    omega
  dsimp only
  rw [er2, if_pos n2]
  generalize hR2 : (eS ++ (L.filter fun p => decide (p.2 ∈ eS)).map (·.1)) = R2 at b2 n2 ⊢
  have hq5 : (M4 ++ [MO.lst (R2.map tr3)])[M4.length]? = some (.lst (R2.map tr3)) := get_push
  rw [g_sset3 hq5 b2.1 b2.2]
  have eR2 : srtB lt3 (unq R2) = endsF L eS := by rw [← hR2]; rfl
  rw [eR2]
  walk_at "go"
  have fr5 : Fr No M3 (M4 ++ [MO.lst (R2.map tr3)] ++ [MO.lst ((endsF L eS).map tr3)]) := (fr4.pushHi).pushHi
  have hE5 : (M4 ++ [MO.lst (R2.map tr3)] ++ [MO.lst ((endsF L eS).map tr3)])[(M4 ++ [MO.lst (R2.map tr3)]).length]? = some (.lst ((endsF L eS).map tr3)) := get_push
  generalize (M4 ++ [MO.lst (R2.map tr3)]).length = nE at hE5 ⊢
  generalize (M4 ++ [MO.lst (R2.map tr3)] ++ [MO.lst ((endsF L eS).map tr3)]) = M5 at fr5 hE5 ⊢
  clear hq5 hl4 fr4 hn4 n4 M4
  have hR5 := fr_lt fr5 hR3
  have hL5 := fr_lt fr5 hL3
  have fr05 := (fr1.trans fr3).trans fr5
  clear hf3 hf1 hE3 hL3 hR3 fr5 fr3 hE1 hS1 hL1 fr1 M3 M1
  have rb : ∀ x ∈ reachedF L sS, Bx x := fun x hx => by
    rcases mem_reached.mp hx with h | ⟨y, _, h⟩
    · exact bs x h
    · exact (bL _ h).2
  have eb : ∀ x ∈ endsF L eS, Bx x := fun x hx => by
    rcases mem_ends.mp hx with h | ⟨y, _, h⟩
    · exact be x h
    · exact (bL _ h).1
  have rl := bx_len rb ((srtB_perm _ _).nodup_iff.mpr (nd_unq _))
  have el := bx_len eb ((srtB_perm _ _).nodup_iff.mpr (nd_unq _))
  have eset : setF many pairs sS eS age done = if (done || (reachedF L sS).any fun x => decide (x ∈ endsF L eS)) = true then stDone else ⟨many, L.filter nearP, (reachedF L sS).filter near, (endsF L eS).filter near, age, false⟩ := by unfold setF; rw [hCL]
  rw [eset]
  generalize reachedF L sS = RR at *
  generalize endsF L eS = EE at *
  have nearW : ∀ (b : Bool) (M6 : Hs), Fr No M5 M6 → wX (xLc (ySeq (xVar 1)) [10, 11] (Pt.t [Pt.n 10, Pt.n 11]) (tAnd2 (tB1 (x2 gLt (x2 gIxA (xVar 10) (xC (D.int 0))) (xC (D.int 3)))) (tB1 (x2 gLt (x2 gIxA (xVar 11) (xC (D.int 0))) (xC (D.int 3))))) (xTup (aCons (xVar 10) (aCons (xVar 11) aNil)))
      [some (D.int many), some (D.ref nL), some dS, some dE, some (optD age), some (D.bl b), some (D.ref nR), some (D.ref nE), none, none, none, none, none] M6) fun d M7 => RL d M6 M7 ((L.filter nearP).map p6D) := fun b M6 f6 => by
    have hf : xVar 1 [some (D.int many), some (D.ref nL), some dS, some dE, some (optD age), some (D.bl b), some (D.ref nR), some (D.ref nE), none, none, none, none, none] M6 = .ok (.ref nL) M6 := rfl
    refine lc_ret (c := nearP) p6D p6D (src_d hf (s_ref (fr_lt f6 hL5))) (Fr.refl _ _) (fun M' f => s_ref (fr_lt f (fr_lt f6 hL5))) (by omega) ?_
    rintro ⟨⟨a1, a2, a3⟩, b1, b2, b3⟩ _ M' f'
    refine ⟨[(10, tr3 (a1, a2, a3)), (11, tr3 (b1, b2, b3))], rfl, ?_⟩
    simp only [sa_n, sa_c, wipeD, List.set_cons_succ, List.set_cons_zero, tr3]
    walk_at "go"
    unfold nearP
    by_cases q1 : a1 < 3
    · rw [if_pos q1]
      by_cases q2 : b1 < 3
      · simp only [q1, q2, decide_true, Bool.and_self, true_and]
        exact ⟨Fr.refl _ _, fun _ => ⟨rfl, Fr.refl _ _⟩⟩
      · simp only [q1, q2, decide_true, decide_false, Bool.and_false, true_and]
        exact ⟨Fr.refl _ _, fun h => absurd h (by decide)⟩
    · rw [if_neg q1]
      simp only [q1, decide_false, Bool.false_and, true_and]
      exact ⟨Fr.refl _ _, fun h => absurd h (by decide)⟩
  have nearT : ∀ (j : Nat) (nj : Nat) (ζ : Sl) (M6 : Hs) (XS : List T3), ζ.length = 13 → xVar j ζ M6 = .ok (.ref nj) M6 → M6[nj]? = some (.lst (XS.map tr3)) → XS.length ≤ 16 → wX (xLc (ySeq (xVar j)) [12] (.n 12) (tB1 (x2 gLt (x2 gIxA (xVar 12) (xC (.int 0))) (xC (.int 3)))) (xVar 12) ζ M6) fun d M7 => RL d M6 M7 ((XS.filter near).map tr3) := fun j nj ζ M6 XS hz hv hx hxl => by
    refine lc_ret (c := near) tr3 tr3 (src_d hv (s_ref hx)) (Fr.refl _ _) (fun M' f => s_ref (fr_lt f hx)) (by omega) ?_
    rintro ⟨a1, a2, a3⟩ _ M' f'
    refine ⟨[(12, tr3 (a1, a2, a3))], rfl, ?_⟩
    have ev : ∀ M'', xVar 12 (setAll (wipeD ζ [12]) [(12, tr3 (a1, a2, a3))]) M'' = .ok (tr3 (a1, a2, a3)) M'' := fun M'' => by
      unfold xVar
      simp only [sa_n, sa_c, wipeD]
      rw [List.getElem?_set_self (by simp [hz])]
    simp only [tr3] at ev
    simp only [wX_t1, wX_2, ev, wX_ok, tr3, wX_c, g_ix0, wO_some, g_lt]
    exact ⟨rfl, Fr.refl _ _, fun _ => ⟨trivial, Fr.refl _ _⟩⟩
  cases done with
  | true =>
    dsimp only
    refine wX_mono (nearW true M5 (Fr.refl _ _)) ?_
    rintro d M6 ⟨n6, rfl, hn6, hl6, fr6⟩
    rw [g_tupD (s_ref hl6)]
    exact ⟨rfl, fr05.trans fr6⟩
  | false =>
    dsimp only
    have hf : xVar 6 [some (D.int many), some (D.ref nL), some dS, some dE, some (optD age), some (D.bl false), some (D.ref nR), some (D.ref nE), none, none, none, none, none] M5 = .ok (.ref nR) M5 := rfl
    refine wX_mono (lc_ret (c := fun _ => true) tr3 (fun x => .bl (decide (x ∈ EE))) (src_d hf (s_ref hR5)) (Fr.refl _ _) (fun M' f => s_ref (fr_lt f hR5)) (by omega) ?_) ?_
    · rintro x _ M' f'
      refine ⟨[(12, tr3 x)], rfl, ?_⟩
      simp only [sa_n, sa_c, wipeD, List.set_cons_succ, List.set_cons_zero]
      walk_at "go"
      refine ⟨trivial, Fr.refl _ _, fun _ => ?_⟩
      rw [g_in3 (.inl ⟨nE, rfl, fr_lt f' hE5⟩)]
      exact ⟨rfl, Fr.refl _ _⟩
    rintro d M6 ⟨n6, rfl, hn6, hl6, fr6⟩
    rw [filt_true, show (RR.map fun x => D.bl (decide (x ∈ EE))) = (RR.map fun x => decide (x ∈ EE)).map D.bl from by rw [List.map_map]; rfl] at hl6
    rw [g_anyL hl6]
    have ea : (RR.map fun x => decide (x ∈ EE)).any id = RR.any fun x => decide (x ∈ EE) := by rw [List.any_map]; rfl
    rw [ea]
    simp only [wO_some, Bool.false_or]
    refine wX_mono (nearW _ M6 fr6) ?_
    rintro d M7 ⟨n7, rfl, hn7, hl7, fr7⟩
    rw [g_tupD (s_ref hl7)]
    have fr67 := fr6.trans fr7
    have fr07 := fr05.trans fr67
    cases RR.any fun x => decide (x ∈ EE) with
    | true => exact ⟨rfl, fr07⟩
    | false =>
      simp only [wO_some, Bool.false_eq_true, if_false]
      refine wX_mono (nearT 6 nR _ M7 RR rfl rfl (fr_lt fr67 hR5) rl) ?_
      rintro d M8 ⟨n8, rfl, hn8, hl8, fr8⟩
      rw [g_tupD (s_ref hl8)]
      simp only [wO_some]
      refine wX_mono (nearT 7 nE _ M8 EE rfl rfl (fr_lt fr8 (fr_lt fr67 hE5)) el) ?_
      rintro d M9 ⟨n9, rfl, hn9, hl9, fr9⟩
      rw [g_tupD (s_ref hl9)]
      exact ⟨rfl, (fr07.trans fr8).trans fr9⟩
end Wk
end
section
set_option maxRecDepth 100000
set_option maxHeartbeats 4000000
set_option autoImplicit false
namespace Wk
open PySem Mi Ga
local macro_rules | `(tactic| walk_at "go") => `(tactic| simp only [wX_fn, wS_seq, wS_set, wS_ret, wS_expr, wS_pass, wS_if, wS_put, wX_var, wX_c, wX_2, wX_3, wX_anil, wX_acons, wX_star, wS_asg, wS_par, wS_aug, wX_tup, wX_lst, wX_dict, wX_b, wX_meth, wX_call, wX_if, wX_t1, wX_and2, wX_or2, wX_not1, wX_true, wX_neg, wX_oN, wX_oS, wX_not, wX_and, wX_or, wX_is, wX_cut, wX_fld, wX_ok, wX_no, wO_some, wO_none, wS_nx, wS_rt, List.map_cons, List.map_nil, List.cons_append, List.nil_append, List.append_nil, List.replicate_succ, List.replicate_zero, List.set_cons_zero, List.set_cons_succ, List.getElem?_cons_zero, List.getElem?_cons_succ, List.getElem?_nil, List.length_cons, List.length_nil, Nat.reduceSub, Nat.reduceAdd, Nat.reduceLeDiff, Nat.zero_add, Nat.add_zero, Nat.zero_le, if_true, if_false, ite_true, ite_false, reduceIte, Bool.false_eq_true, Bool.not_true, Bool.not_false, reduceCtorEq, bp_n, bp_t, bps_n, bps_cn, sa_n, sa_c, Option.map_some, g_eqI, g_neI, g_isN, g_isI, g_isNotN, g_isNotI, g_lenT, g_ix0, g_ix1, g_ix2, g_ix5, g_min, g_mx, g_add, g_sub, g_lt, g_le, g_gt, g_ge, g_listT, sz_eq, decide_eq_true_eq, eqk_t3.gEq, Bool.not_eq_true'])
local macro_rules | `(tactic| walk_at "ev") => `(tactic| simp (disch := (first | assumption | exact get_push | exact fr_lt (by assumption) (by assumption) | exact get_app (by assumption) | exact fr_lt (by assumption) (fr_lt (by assumption) (by assumption)) | exact get_app (get_app (by assumption)) | exact get_app get_push)) only [sl_at, is_L, g_lenD, g_listL, g_listD, if_true, ite_true, reduceIte])
/-- a state that can be -/
structure Gd (st : St) : Prop where
  m : 0 ≤ st.many ∧ st.many ≤ 3
  l : ∀ p ∈ st.links, p.1 ∈ spots ∧ p.2 ∈ spots
  s : ∀ x ∈ st.started, x ∈ spots
  e : ∀ x ∈ st.ending, x ∈ spots
  ll : st.links.length ≤ 144
  sl : st.started.length ≤ 12
  el : st.ending.length ≤ 12
theorem spots_rg : ∀ x ∈ spots, (0 ≤ x.1 ∧ x.1 ≤ 2) ∧ (x.2.1 = 0 ∨ x.2.1 = 1) ∧ (0 ≤ x.2.2 ∧ x.2.2 ≤ 1) := by decide
theorem bx_spot {x : T3} (h : x ∈ spots) : Bx x := by
  have := spots_rg x h
  exact ⟨by omega, this.2⟩
theorem bx_older {x : T3} (h : x ∈ spots) : Bx (older x) := by
  have := spots_rg x h
  exact ⟨by show 0 ≤ x.1 + 1 ∧ x.1 + 1 ≤ 3; omega, this.2⟩
theorem gd_rep {O : Ga.Og} (ok : O.Ok) {n : Int} (hn : 0 ≤ n) {rank : Int} {pr : Int → Int → Prop} {pos : Option Int} {st : St} (R : Rep O rank pr pos n st) : Gd st := by
  have rg := rep_rng ok R
  refine ⟨?_, rg.1, rg.2.1, rg.2.2, ?_, ?_, ?_⟩
  · cases h : st.done with
    | true => rw [R.dnd h]; decide
    | false =>
      rw [R.many h]
      unfold mnI
      split <;> omega
  · have := len_in R.cn.l.2 (m := spots2) fun p hp => mem_spots2 (rg.1 p hp).1 (rg.1 p hp).2
    rw [spots2_len] at this
    exact this
  · have := len_in R.cn.s.2 (m := spots) rg.2.1
    rw [spots_len] at this
    exact this
  · have := len_in R.cn.e.2 (m := spots) rg.2.2
    rw [spots_len] at this
    exact this
theorem z3 : (0 : Int) ≤ 0 ∧ (0 : Int) ≤ 3 := by decide
theorem z1 : (0 : Int) ≤ 0 ∧ (0 : Int) ≤ 1 := by decide
section
variable {O : Ga.Og} (ok : O.Ok) {many : Int} (h0 : 0 ≤ many) (h3 : many ≤ 3)
include ok h0 h3
theorem bx_newLinks : ∀ p ∈ newLinksF O many, Bx p.1 ∧ Bx p.2 := fun p hp => by
  have hl := O.l2_or
  obtain ⟨c, hc, h⟩ := List.mem_flatMap.mp hp
  have cm := ok.cm c hc
  rcases List.mem_append.mp h with h | h
  · unfold baseF at h
    split at h
    · simp at h
      subst h
      exact ⟨⟨z3, cm.1, z1⟩, z3, cm.2.1, by show 0 ≤ O.l2 ∧ O.l2 ≤ 1; omega⟩
    · split at h
      · rename_i h1
        simp at h
        subst h
        exact ⟨⟨by show 0 ≤ c.2.2 ∧ c.2.2 ≤ 3; omega, cm.1, z1⟩, z3, cm.2.1, by show 0 ≤ O.l2 ∧ O.l2 ≤ 1; omega⟩
      · split at h
        · rename_i h1
          simp at h
          subst h
          exact ⟨⟨z3, cm.1, z1⟩, by show 0 ≤ -c.2.2 ∧ -c.2.2 ≤ 3; omega, cm.2.1, by show 0 ≤ O.l2 ∧ O.l2 ≤ 1; omega⟩
        · cases h
  · split at h
    · obtain ⟨⟨k, q⟩, hq, rfl⟩ := List.mem_map.mp h
      have hoc := ok.oc
      obtain ⟨g1, g2, g3, g4, g5, g6, g7⟩ := mem_lowF.mp hq
      refine ⟨⟨by show 0 ≤ many - k ∧ many - k ≤ 3; omega, cm.1, z1⟩, by show 0 ≤ many - q ∧ many - q ≤ 3; omega, cm.2.1, by show 0 ≤ O.l2 ∧ O.l2 ≤ 1; omega⟩
    · cases h
theorem newLinks_len (hc : O.cs.length ≤ 100) : (newLinksF O many).length ≤ 500 := by
  have := flat_len (lnkG_len O many h0 h3) O.cs
  have e : newLinksF O many = O.cs.flatMap (lnkG O many) := rfl
  rw [e]
  omega
theorem bx_newEnds {rank : Int} {age : Option Int} : ∀ q ∈ newEndsF O rank many age, (0 ≤ q.1 ∧ q.1 ≤ 3) ∧ (q.2 = 0 ∨ q.2 = 1) := fun q hq => by
  obtain ⟨r, hr, h⟩ := List.mem_flatMap.mp hq
  have rm := ok.rm r hr
  cases age with
  | none => cases h
  | some a =>
    dsimp only at h
    split at h
    · rcases List.mem_append.mp h with h | h
      · split at h
        · simp at h
          subst h
          refine ⟨?_, rm.1⟩
          show 0 ≤ mxI r.2.2 0 ∧ mxI r.2.2 0 ≤ 3
          unfold mxI
          split <;> omega
        · cases h
      · split at h
        · obtain ⟨⟨k, q'⟩, hq', e⟩ := List.mem_filterMap.mp h
          split at e
          · cases e
            obtain ⟨g1, g2, g3, g4, g5, g6, g7⟩ := mem_lowF.mp hq'
            exact ⟨by show 0 ≤ many - k ∧ many - k ≤ 3; omega, rm.1⟩
          · cases e
        · cases h
    · cases h
theorem newEnds_len {rank : Int} {age : Option Int} (hr : O.rs.length ≤ 100) : (newEndsF O rank many age).length ≤ 500 := by
  have := flat_len (G := endG O rank many age) (k := 5) (fun r => by
    unfold endG
    cases age with
    | none => simp
    | some a =>
      dsimp only
      split
      · unfold endsAt
        rw [List.length_append]
        have h1 : (if r.2.2 = -a ∨ a = 0 ∧ 0 ≤ r.2.2 ∧ r.2.2 ≤ many then [(mxI r.2.2 0, r.1)] else []).length ≤ 1 := by split <;> simp
        have h2 : (if many < 3 ∧ a ≤ many then (lowF O.oct r.2.2 many).filterMap fun q => if q.2 = many - a then some (many - q.1, r.1) else none else []).length ≤ 4 := by
          split
          · exact Nat.le_trans (List.length_filterMap_le _ _) (low_len _ _ _ h0 h3)
          · simp
        omega
      · simp) O.rs
  rw [newEnds_flat]
  omega
end
theorem bx_lay {O : Ga.Og} {some : List (Int × Int)} (h : ∀ q ∈ some, (0 ≤ q.1 ∧ q.1 ≤ 3) ∧ (q.2 = 0 ∨ q.2 = 1)) : ∀ x ∈ layF O some, Bx x := fun x hx => by
  obtain ⟨h1, h2⟩ := mem_layF O |>.mp hx
  have hl := O.l2_or
  have := h _ h1
  exact ⟨this.1, this.2, h2.1, by omega⟩
theorem lay_len (O : Ga.Og) (some : List (Int × Int)) : (layF O some).length ≤ 2 * some.length := by
  refine flat_len (fun q => ?_) some
  have hl := O.l2_or
  unfold Ga.upTo
  simp
  omega
end Wk
end
section
set_option maxRecDepth 100000
set_option maxHeartbeats 4000000
set_option autoImplicit false
namespace Wk
open PySem Mi Ga
local macro_rules | `(tactic| walk_at "go") => `(tactic| simp only [wX_fn, wS_seq, wS_set, wS_ret, wS_expr, wS_pass, wS_if, wS_put, wX_var, wX_c, wX_2, wX_3, wX_anil, wX_acons, wX_star, wS_asg, wS_par, wS_aug, wX_tup, wX_lst, wX_dict, wX_b, wX_meth, wX_call, wX_if, wX_t1, wX_and2, wX_or2, wX_not1, wX_true, wX_neg, wX_oN, wX_oS, wX_not, wX_and, wX_or, wX_is, wX_cut, wX_fld, wX_ok, wX_no, wO_some, wO_none, wS_nx, wS_rt, List.map_cons, List.map_nil, List.cons_append, List.nil_append, List.append_nil, List.replicate_succ, List.replicate_zero, List.set_cons_zero, List.set_cons_succ, List.getElem?_cons_zero, List.getElem?_cons_succ, List.getElem?_nil, List.length_cons, List.length_nil, Nat.reduceSub, Nat.reduceAdd, Nat.reduceLeDiff, Nat.zero_add, Nat.add_zero, Nat.zero_le, if_true, if_false, ite_true, ite_false, reduceIte, Bool.false_eq_true, Bool.not_true, Bool.not_false, reduceCtorEq, bp_n, bp_t, bps_n, bps_cn, sa_n, sa_c, Option.map_some, g_eqI, g_neI, g_isN, g_isI, g_isNotN, g_isNotI, g_lenT, g_ix0, g_ix1, g_ix2, g_ix5, g_min, g_mx, g_add, g_sub, g_lt, g_le, g_gt, g_ge, g_listT, sz_eq, decide_eq_true_eq, eqk_t3.gEq, Bool.not_eq_true'])
local macro_rules | `(tactic| walk_at "ev") => `(tactic| simp (disch := (first | assumption | exact get_push | exact fr_lt (by assumption) (by assumption) | exact get_app (by assumption) | exact fr_lt (by assumption) (fr_lt (by assumption) (by assumption)) | exact get_app (get_app (by assumption)) | exact get_app get_push)) only [sl_at, is_L, g_lenD, g_listL, g_listD, if_true, ite_true, reduceIte])
theorem step_w {M : Hs} {g : Nat} {many0 : Int} {cs rs : List Tr3} {ch : Str} {oct : Int} (og : OgM M g many0 cs rs ch oct) (hc : ch = "all" ∨ ch = "pressed") (ok : (ogOf cs rs ch oct).Ok) (hcl : cs.length ≤ 100) (hrl : rs.length ≤ 100) {st : St} (gd : Gd st) (rank : Int) (mans : List Int) (hm : ∀ m ∈ mans, m = 0 ∨ m = 1) (hml : mans.length ≤ 100) (f : Bool) :
    wX (f_step [.ref g, stD st, .int rank, .tup (mans.map D.int), .bl f] M) fun d M' => d = stD (stepF (ogOf cs rs ch oct) rank st mans f) ∧ Fr No M M' := by
  have hsz : sizeLine = 16777216 := rfl
  have hbn := @bx_newEnds (ogOf cs rs ch oct) ok st.many gd.m.1 gd.m.2 rank (ageF f st.age)
  have hbl := @newEnds_len (ogOf cs rs ch oct) ok st.many gd.m.1 gd.m.2 rank (ageF f st.age) hrl
  have hll := @newLinks_len (ogOf cs rs ch oct) ok st.many gd.m.1 gd.m.2 hcl
  have hlb := @bx_newLinks (ogOf cs rs ch oct) ok st.many gd.m.1 gd.m.2
  have nlw : ∀ M', OgM M' g many0 cs rs ch oct → wX (f_new_links [.ref g, .int st.many] M') fun d M'' => RL d M' M'' ((newLinksF (ogOf cs rs ch oct) st.many).map p6D) := fun M' o => new_links_w o hc hcl st.many gd.m.1 gd.m.2
  have new : ∀ M', OgM M' g many0 cs rs ch oct → wX (f_new_ends [.ref g, .int rank, .int st.many, optD (ageF f st.age)] M') fun d M'' => RL d M' M'' ((newEndsF (ogOf cs rs ch oct) rank st.many (ageF f st.age)).map prD) := fun M' o => new_ends_w o hrl rank st.many gd.m.1 gd.m.2 _
  have wlw := @with_layers_w
  have ow := older_w
  have sw := @settled_w
  have eF : stepF (ogOf cs rs ch oct) rank st mans f = setF (mnI (st.many + 1) 3) (st.links.map (fun p => (older p.1, older p.2)) ++ newLinksF (ogOf cs rs ch oct) st.many) (st.started.map older ++ mans.map fun m => (0, m, 0)) (st.ending.map older ++ layF (ogOf cs rs ch oct) (newEndsF (ogOf cs rs ch oct) rank st.many (ageF f st.age))) (ageF f st.age) st.done := rfl
  have blay := bx_lay (O := ogOf cs rs ch oct) hbn
  have llay := lay_len (ogOf cs rs ch oct) (newEndsF (ogOf cs rs ch oct) rank st.many (ageF f st.age))
  rw [eF]
  unfold f_step
  generalize f_new_links = F1 at nlw ⊢
  generalize f_new_ends = F2 at new ⊢
  generalize f_with_layers = F3 at wlw ⊢
  generalize f_older = F4 at ow ⊢
  generalize f_settled = F5 at sw ⊢
  generalize hO : ogOf cs rs ch oct = O at *
  rw [show stD st = .tup [.int st.many, .tup (st.links.map p6D), .tup (st.started.map tr3), .tup (st.ending.map tr3), optD st.age, .bl st.done] from rfl]
  obtain ⟨many, links, started, ending, age, done⟩ := st
  obtain ⟨gm, gl, gs, ge, gll, gsl, gel⟩ := gd
  dsimp only at *
  have sw2 := fun (M : Hs) (nl : Nat) (pairs : List P6) (dS dE : D) (sS eS : List T3) => @sw M nl pairs dS dE sS eS (mnI (many + 1) 3) (ageF f age) done
  cases f
  all_goals cases age
  all_goals simp only [optD]
  all_goals walk_at "go"
  all_goals
    refine wX_mono (lc_ret (c := fun _ => true) p6D (fun p => p6D (older p.1, older p.2)) (src_d (show xVar 6 _ _ = .ok (.tup (links.map p6D)) _ from rfl) rfl) (Fr.refl _ _) (fun M' f => rfl) (by omega) ?_) ?_
    · rintro p _ M' f'
      refine ⟨[(14, tr3 p.1), (15, tr3 p.2)], rfl, ?_⟩
      simp only [sa_n, sa_c, wipeD, List.set_cons_succ, List.set_cons_zero]
      walk_at "go"
      refine ⟨trivial, Fr.refl _ _, fun _ => ?_⟩
      simp only [ow, wX_ok]
      exact ⟨rfl, Fr.refl _ _⟩
    rintro d M1 ⟨n1, rfl, hn1, hl1, fr1⟩
    rw [filt_true] at hl1
    refine wX_mono (nlw M1 (fr1.get og id)) ?_
    rintro d M2 ⟨n2, rfl, hn2, hl2, fr2⟩
    rw [g_cat (fr_lt fr2 hl1) hl2 (by simp only [List.length_append, List.length_map]; omega)]
    simp only [wO_some]
    generalize hP : (links.map (fun p => p6D (older p.1, older p.2)) ++ (newLinksF O many).map p6D) = P
    have hP1 : (M2 ++ [MO.lst P])[M2.length]? = some (.lst P) := get_push
    have fr3 := (fr1.trans fr2).pushHi (o := [MO.lst P])
    generalize M2.length = nP at hP1 ⊢
    generalize (M2 ++ [MO.lst P]) = M3 at hP1 fr3 ⊢
    clear hn2 hl2 fr2 hn1 hl1 fr1
    refine wX_mono (lc_ret (c := fun _ => true) tr3 (fun x => tr3 (older x)) (src_d (show xVar 7 _ _ = .ok (.tup (started.map tr3)) _ from rfl) rfl) (Fr.refl _ _) (fun M' f => rfl) (by omega) ?_) ?_
    · rintro x _ M' f'
      refine ⟨[(16, tr3 x)], rfl, ?_⟩
      simp only [sa_n, sa_c, wipeD, List.set_cons_succ, List.set_cons_zero]
      walk_at "go"
      refine ⟨trivial, Fr.refl _ _, fun _ => ?_⟩
      simp only [ow, wX_ok]
      exact ⟨trivial, Fr.refl _ _⟩
    rintro d M4 ⟨n4, rfl, hn4, hl4, fr4⟩
    rw [filt_true] at hl4
    refine wX_mono (lc_ret (c := fun _ => true) D.int (fun m => tr3 (0, m, 0)) (src_d (show xVar 3 _ _ = .ok (.tup (mans.map D.int)) _ from rfl) rfl) (Fr.refl _ _) (fun M' f => rfl) (by omega) ?_) ?_
    · rintro m _ M' f'
      refine ⟨[(17, .int m)], rfl, ?_⟩
      simp only [sa_n, sa_c, wipeD, List.set_cons_succ, List.set_cons_zero]
      walk_at "go"
      exact ⟨trivial, Fr.refl _ _, fun _ => ⟨rfl, Fr.refl _ _⟩⟩
    rintro d M5 ⟨n5, rfl, hn5, hl5, fr5⟩
    rw [filt_true] at hl5
    rw [g_cat (fr_lt fr5 hl4) hl5 (by simp only [List.length_append, List.length_map]; omega)]
    simp only [wO_some]
    generalize hB : (started.map (fun x => tr3 (older x)) ++ mans.map fun m => tr3 (0, m, 0)) = B
    have hB1 : (M5 ++ [MO.lst B])[M5.length]? = some (.lst B) := get_push
    have fr6 := (fr4.trans fr5).pushHi (o := [MO.lst B])
    generalize M5.length = nB at hB1 ⊢
    generalize (M5 ++ [MO.lst B]) = M6 at hB1 fr6 ⊢
    clear hn5 hl5 fr5 hn4 hl4 fr4
    have hP2 := fr_lt fr6 hP1
    have fr06 := fr3.trans fr6
    clear hP1 fr3 fr6
    refine wX_mono (lc_ret (c := fun _ => true) tr3 (fun x => tr3 (older x)) (src_d (show xVar 8 _ _ = .ok (.tup (ending.map tr3)) _ from rfl) rfl) (Fr.refl _ _) (fun M' f => rfl) (by omega) ?_) ?_
    · rintro x _ M' f'
      refine ⟨[(16, tr3 x)], rfl, ?_⟩
      simp only [sa_n, sa_c, wipeD, List.set_cons_succ, List.set_cons_zero]
      walk_at "go"
      refine ⟨trivial, Fr.refl _ _, fun _ => ?_⟩
      simp only [ow, wX_ok]
      exact ⟨trivial, Fr.refl _ _⟩
    rintro d M7 ⟨n7, rfl, hn7, hl7, fr7⟩
    rw [filt_true] at hl7
    refine wX_mono (new M7 ((fr06.trans fr7).get og id)) ?_
    rintro d M8 ⟨n8, rfl, hn8, hl8, fr8⟩
    refine wX_mono (wlw (((fr06.trans fr7).trans fr8).get og id) hc hl8 (by omega)) ?_
    rintro d M9 ⟨n9, rfl, hn9, hl9, fr9⟩
    rw [hO] at hl9
    rw [g_cat (fr_lt (fr8.trans fr9) hl7) hl9 (by simp only [List.length_append, List.length_map]; omega)]
    simp only [wO_some]
    generalize hE : (ending.map (fun x => tr3 (older x)) ++ (layF O (newEndsF O rank many _)).map tr3) = E
    have hE1 : (M9 ++ [MO.lst E])[M9.length]? = some (.lst E) := get_push
    have fr10 := ((fr7.trans fr8).trans fr9).pushHi (o := [MO.lst E])
    generalize M9.length = nE at hE1 ⊢
    generalize (M9 ++ [MO.lst E]) = M10 at hE1 fr10 ⊢
    have hP10 := fr_lt fr10 hP2
    have hB10 := fr_lt fr10 hB1
    have fr010 := fr06.trans fr10
    have eP : P = (links.map (fun p => (older p.1, older p.2)) ++ newLinksF O many).map p6D := by rw [← hP, List.map_append, List.map_map]; rfl
    have eB : B = (started.map older ++ mans.map fun m => (0, m, 0)).map tr3 := by rw [← hB, List.map_append, List.map_map, List.map_map]; rfl
    rw [eP] at hP10
    rw [eB] at hB10
    have eE := hE.symm
    rw [show ending.map (fun x => tr3 (older x)) = (ending.map older).map tr3 from by rw [List.map_map]; rfl, ← List.map_append] at eE
    rw [eE] at hE1
    refine wX_mono (sw2 _ _ _ _ _ _ _ hP10 (by simp only [List.length_append, List.length_map]; omega) (.inl ⟨_, rfl, hB10⟩) (.inl ⟨_, rfl, hE1⟩) ?_ ?_ ?_ (by simp only [List.length_append, List.length_map]; omega) (by simp only [List.length_append, List.length_map]; omega)) ?_
    · intro p hp
      rcases List.mem_append.mp hp with hp | hp
      · obtain ⟨q, hq, rfl⟩ := List.mem_map.mp hp
        exact ⟨bx_older (gl q hq).1, bx_older (gl q hq).2⟩
      · exact hlb p hp
    · intro x hx
      rcases List.mem_append.mp hx with hx | hx
      · obtain ⟨q, hq, rfl⟩ := List.mem_map.mp hx
        exact bx_older (gs q hq)
      · obtain ⟨m, hm', rfl⟩ := List.mem_map.mp hx
        exact ⟨z3, hm m hm', z1⟩
    · intro x hx
      rcases List.mem_append.mp hx with hx | hx
      · obtain ⟨q, hq, rfl⟩ := List.mem_map.mp hx
        exact bx_older (ge q hq)
      · exact blay x hx
    · rintro d M' ⟨rfl, fr11⟩
      exact ⟨rfl, fr010.trans fr11⟩
end Wk
end
section
set_option maxRecDepth 100000
set_option maxHeartbeats 4000000
set_option autoImplicit false
namespace Wk
open PySem Mi Ga
local macro_rules | `(tactic| walk_at "go") => `(tactic| simp only [wX_fn, wS_seq, wS_set, wS_ret, wS_expr, wS_pass, wS_if, wS_put, wX_var, wX_c, wX_2, wX_3, wX_anil, wX_acons, wX_star, wS_asg, wS_par, wS_aug, wX_tup, wX_lst, wX_dict, wX_b, wX_meth, wX_call, wX_if, wX_t1, wX_and2, wX_or2, wX_not1, wX_true, wX_neg, wX_oN, wX_oS, wX_not, wX_and, wX_or, wX_is, wX_cut, wX_fld, wX_ok, wX_no, wO_some, wO_none, wS_nx, wS_rt, List.map_cons, List.map_nil, List.cons_append, List.nil_append, List.append_nil, List.replicate_succ, List.replicate_zero, List.set_cons_zero, List.set_cons_succ, List.getElem?_cons_zero, List.getElem?_cons_succ, List.getElem?_nil, List.length_cons, List.length_nil, Nat.reduceSub, Nat.reduceAdd, Nat.reduceLeDiff, Nat.zero_add, Nat.add_zero, Nat.zero_le, if_true, if_false, ite_true, ite_false, reduceIte, Bool.false_eq_true, Bool.not_true, Bool.not_false, reduceCtorEq, bp_n, bp_t, bps_n, bps_cn, sa_n, sa_c, Option.map_some, g_eqI, g_neI, g_isN, g_isI, g_isNotN, g_isNotI, g_lenT, g_ix0, g_ix1, g_ix2, g_ix5, g_min, g_mx, g_add, g_sub, g_lt, g_le, g_gt, g_ge, g_listT, sz_eq, decide_eq_true_eq, eqk_t3.gEq, Bool.not_eq_true'])
local macro_rules | `(tactic| walk_at "ev") => `(tactic| simp (disch := (first | assumption | exact get_push | exact fr_lt (by assumption) (by assumption) | exact get_app (by assumption) | exact fr_lt (by assumption) (fr_lt (by assumption) (by assumption)) | exact get_app (get_app (by assumption)) | exact get_app get_push)) only [sl_at, is_L, g_lenD, g_listL, g_listD, if_true, ite_true, reduceIte])
theorem g_eqO {i : Int} {a : Option Int} {M : Hs} : gEq (.int i) (optD a) M = some (.bl (decide (some i = a)), M) := by
  cases a with
  | none => rfl
  | some j =>
    show gEq (.int i) (.int j) M = _
    rw [g_eqI]
    congr 3
    simp
def hiG (O : Ga.Og) (many : Int) (c : Tr3) : List P6 := (highF O.oct c.2.2 many).map fun q => ((q.1, c.1, 0), (q.2, c.2.1, O.l2))
def hiE (O : Ga.Og) (rank many : Int) (age : Option Int) (r : Tr3) : List T3 := if r.2.1 = rank then layF O ((highF O.oct r.2.2 many).filterMap fun q => if some q.2 = age then some (q.1, r.1) else none) else []
theorem hiG_len (O : Ga.Og) {many : Int} (h0 : 0 ≤ many) (h3 : many ≤ 3) (c : Tr3) : (hiG O many c).length ≤ 4 := by
  unfold hiG
  rw [List.length_map]
  exact high_len _ _ _ h0 h3
theorem hiE_len (O : Ga.Og) {many : Int} (h0 : 0 ≤ many) (h3 : many ≤ 3) (rank : Int) (age : Option Int) (r : Tr3) : (hiE O rank many age r).length ≤ 8 := by
  unfold hiE
  split
  · have h1 := lay_len O ((highF O.oct r.2.2 many).filterMap fun q => if some q.2 = age then some (q.1, r.1) else none)
    have h2 := List.length_filterMap_le (fun q : Int × Int => if some q.2 = age then some (q.1, r.1) else none) (highF O.oct r.2.2 many)
    have h3 := high_len O.oct r.2.2 many h0 h3
    omega
  · simp
theorem bx_hiG {O : Ga.Og} (ok : O.Ok) {many : Int} (h3 : many ≤ 3) : ∀ p ∈ O.cs.flatMap (hiG O many), Bx p.1 ∧ Bx p.2 := fun p hp => by
  have hl := O.l2_or
  obtain ⟨c, hc, h⟩ := List.mem_flatMap.mp hp
  have cm := ok.cm c hc
  have hoc := ok.oc
  obtain ⟨⟨b, q⟩, hq, rfl⟩ := List.mem_map.mp h
  obtain ⟨g1, g2, g3, g4, g5, g6, g7⟩ := mem_highF.mp hq
  exact ⟨⟨by show 0 ≤ b ∧ b ≤ 3; omega, cm.1, z1⟩, by show 0 ≤ q ∧ q ≤ 3; omega, cm.2.1, by show 0 ≤ O.l2 ∧ O.l2 ≤ 1; omega⟩
theorem bx_hiE {O : Ga.Og} (ok : O.Ok) {many : Int} (h3 : many ≤ 3) {rank : Int} {age : Option Int} : ∀ x ∈ O.rs.flatMap (hiE O rank many age), Bx x := fun x hx => by
  obtain ⟨r, hr, h⟩ := List.mem_flatMap.mp hx
  have rm := ok.rm r hr
  unfold hiE at h
  split at h
  · refine bx_lay (fun q hq => ?_) x h
    obtain ⟨⟨b, q'⟩, hq', e⟩ := List.mem_filterMap.mp hq
    split at e
    · cases e
      obtain ⟨g1, g2, g3, g4, g5, g6, g7⟩ := mem_highF.mp hq'
      exact ⟨by show 0 ≤ b ∧ b ≤ 3; omega, rm.1⟩
    · cases e
  · cases h
theorem is_sounding_w {M : Hs} {g : Nat} {many0 : Int} {cs rs : List Tr3} {ch : Str} {oct : Int} (og : OgM M g many0 cs rs ch oct) (hc : ch = "all" ∨ ch = "pressed") (ok : (ogOf cs rs ch oct).Ok) (hcl : cs.length ≤ 100) (hrl : rs.length ≤ 100) {st : St} (gd : Gd st) (rank : Int) :
    wX (f_is_sounding [.ref g, stD st, .int rank] M) fun d M' => d = .bl (sndF (ogOf cs rs ch oct) rank st) ∧ Fr No M M' := by
  have hsz : sizeLine = 16777216 := rfl
  have ll : ∀ M' : Hs, OgM M' g many0 cs rs ch oct → f_layers_of [.ref g] M' = .ok (.tup [.int 0, .int (ogOf cs rs ch oct).l2]) M' := fun M' o => layers_w o hc
  have hw := @high_pairs_w
  have wlw := @with_layers_w
  have sw := @settled_w
  have bG := bx_hiG ok gd.m.2
  have bE := bx_hiE ok gd.m.2 (rank := rank) (age := st.age)
  have lG := hiG_len (ogOf cs rs ch oct) gd.m.1 gd.m.2
  have lE := hiE_len (ogOf cs rs ch oct) gd.m.1 gd.m.2 rank st.age
  have eF : sndF (ogOf cs rs ch oct) rank st = (setF st.many (st.links ++ (ogOf cs rs ch oct).cs.flatMap (hiG (ogOf cs rs ch oct) st.many)) st.started (st.ending ++ (ogOf cs rs ch oct).rs.flatMap (hiE (ogOf cs rs ch oct) rank st.many st.age)) st.age st.done).done := rfl
  rw [eF]
  unfold f_is_sounding
  generalize f_high_pairs = F1 at hw ⊢
  generalize f_layers_of = F2 at ll ⊢
  generalize f_with_layers = F3 at wlw ⊢
  generalize f_settled = F5 at sw ⊢
  have hoct : (ogOf cs rs ch oct).oct = oct := rfl
  have ecs : (ogOf cs rs ch oct).cs = cs := rfl
  have ers : (ogOf cs rs ch oct).rs = rs := rfl
  generalize hO : ogOf cs rs ch oct = O at *
  rw [show stD st = .tup [.int st.many, .tup (st.links.map p6D), .tup (st.started.map tr3), .tup (st.ending.map tr3), optD st.age, .bl st.done] from rfl]
  obtain ⟨many, links, started, ending, age, done⟩ := st
  obtain ⟨⟨h0, h3⟩, gl, gs, ge, gll, gsl, gel⟩ := gd
  dsimp only at *
  have sw2 := fun (M : Hs) (nl : Nat) (pairs : List P6) (dS dE : D) (sS eS : List T3) => @sw M nl pairs dS dE sS eS many age done
  walk_at "go"
  rw [ll M og]
  walk_at "go"
  have fr1 := Fr.push (S := No) M [MO.lst (links.map p6D)]
  have hP1 : (M ++ [MO.lst (links.map p6D)])[M.length]? = some (.lst (links.map p6D)) := get_push
  generalize hn : M.length = nP at hP1 ⊢
  have hnP : M.length ≤ nP := Nat.le_of_eq hn
  generalize (M ++ [MO.lst (links.map p6D)]) = M1 at fr1 hP1 ⊢
  have og1 : OgM M1 g many0 cs rs ch oct := fr1.get og id
  have hf : xFld 0 1 (xVar 0) [some (.ref g), some (.tup [.int many, .tup (links.map p6D), .tup (started.map tr3), .tup (ending.map tr3), optD age, .bl done]), some (.int rank), some (.int many), some (.tup (links.map p6D)), some (.tup (started.map tr3)), some (.tup (ending.map tr3)), some (optD age), some (.bl done), some (.int 0), some (.int O.l2), some (.ref nP), none, none, none, none, none, none, none, none, none] M1 = .ok (.tup (cs.map trD)) M1 := by
    simp [xFld, xVar, R.bind, sl_at og1]
  refine for_list trD (src_d hf rfl) (fun dn ζ M' => (∃ a b c d e f' g' h' i', ζ = [some (.ref g), some (.tup [.int many, .tup (links.map p6D), .tup (started.map tr3), .tup (ending.map tr3), optD age, .bl done]), some (.int rank), some (.int many), some (.tup (links.map p6D)), some (.tup (started.map tr3)), some (.tup (ending.map tr3)), some (optD age), some (.bl done), some (.int 0), some (.int O.l2), some (.ref nP), a, b, c, d, e, f', g', h', i']) ∧ Fr No M M' ∧ M'[nP]? = some (.lst ((links ++ dn.flatMap (hiG O many)).map p6D))) ?_ (fun _ _ _ _ => rfl) ?_ ?_
  · exact ⟨⟨_, _, _, _, _, _, _, _, _, rfl⟩, fr1, by simpa using hP1⟩
  · rintro dn c rest ζ M2 hd ⟨⟨a1, a2, a3, a4, a5, a6, a7, a8, a9, rfl⟩, fr2, hm⟩
    have hlen : dn.length < 100 := by
      have := congrArg List.length hd
      simp only [List.length_append, List.length_cons] at this
      omega
    have acc := flat_len lG dn
    refine ⟨[(12, .int c.1), (13, .int c.2.1), (14, .int c.2.2)], rfl, ?_⟩
    simp only [sa_n, sa_c, List.set_cons_succ, List.set_cons_zero]
    walk_at "go"
    rw [sl_at (fr2.get og id)]
    walk_at "go"
    refine wX_mono (hw oct c.2.2 many h0 h3 M2) ?_
    rintro d M3 ⟨n3, rfl, hn3, hl3, fr3⟩
    have hm3 := fr_lt fr3 hm
    rw [if_pos (is_L hm3)]
    refine wX_mono (lc_ret (c := fun _ => true) prD (fun q => p6D ((q.1, c.1, 0), (q.2, c.2.1, O.l2))) (src_d (show xVar 15 _ _ = .ok (.ref n3) _ from rfl) (s_ref hl3)) (Fr.refl _ _) (fun M' f => s_ref (fr_lt f hl3)) (by have := high_len oct c.2.2 many h0 h3; omega) ?_) ?_
    · rintro q _ M' f'
      refine ⟨[(19, .int q.1), (20, .int q.2)], rfl, ?_⟩
      simp only [sa_n, sa_c, wipeD, List.set_cons_succ, List.set_cons_zero]
      walk_at "go"
      exact ⟨trivial, Fr.refl _ _, fun _ => ⟨rfl, Fr.refl _ _⟩⟩
    · rintro d M4 ⟨n4, rfl, hn4, hl4, fr4⟩
      have hm4 := fr_lt fr4 hm3
      rw [filt_true] at hl4
      have lc := lG c
      have eG : (highF oct c.2.2 many).map (fun q => p6D ((q.1, c.1, 0), (q.2, c.2.1, O.l2))) = (hiG O many c).map p6D := by unfold hiG; rw [hoct, List.map_map]; rfl
      rw [eG] at hl4
      rw [g_ext hm4 hl4 (by simp only [List.length_map, List.length_append]; omega)]
      walk_at "go"
      refine ⟨⟨_, _, _, _, _, _, _, _, _, rfl⟩, ((fr2.trans fr3).trans fr4).setHi hnP, ?_⟩
      rw [set_get hm4, flat_sn, ← List.map_append, List.append_assoc]
  · rintro ζ M2 ⟨⟨a1, a2, a3, a4, a5, a6, a7, a8, a9, rfl⟩, fr2, hP2⟩
    walk_at "go"
    have fr3 := fr2.pushHi (o := [MO.lst (ending.map tr3)])
    have hP3 : (M2 ++ [MO.lst (ending.map tr3)])[nP]? = _ := get_app hP2
    have hE3 : (M2 ++ [MO.lst (ending.map tr3)])[M2.length]? = some (.lst (ending.map tr3)) := get_push
    have hnE : M.length ≤ M2.length := fr2.1
    have hne : nP < M2.length := lt_of_get hP2
    generalize M2.length = nE at hE3 hnE hne ⊢
    generalize (M2 ++ [MO.lst (ending.map tr3)]) = M3 at fr3 hP3 hE3 ⊢
    have og3 : OgM M3 g many0 cs rs ch oct := fr3.get og id
    have hf3 : xFld 0 4 (xVar 0) [some (.ref g), some (.tup [.int many, .tup (links.map p6D), .tup (started.map tr3), .tup (ending.map tr3), optD age, .bl done]), some (.int rank), some (.int many), some (.tup (links.map p6D)), some (.tup (started.map tr3)), some (.tup (ending.map tr3)), some (optD age), some (.bl done), some (.int 0), some (.int O.l2), some (.ref nP), a1, a2, a3, a4, some (.ref nE), a6, a7, a8, a9] M3 = .ok (.tup (rs.map trD)) M3 := by
      simp [xFld, xVar, R.bind, sl_at og3]
    refine for_list trD (src_d hf3 rfl) (fun dn ζ M' => (∃ a b c d f' g' h' i', ζ = [some (.ref g), some (.tup [.int many, .tup (links.map p6D), .tup (started.map tr3), .tup (ending.map tr3), optD age, .bl done]), some (.int rank), some (.int many), some (.tup (links.map p6D)), some (.tup (started.map tr3)), some (.tup (ending.map tr3)), some (optD age), some (.bl done), some (.int 0), some (.int O.l2), some (.ref nP), a, b, c, d, some (.ref nE), f', g', h', i']) ∧ Fr No M M' ∧ M'[nP]? = some (.lst ((links ++ cs.flatMap (hiG O many)).map p6D)) ∧ M'[nE]? = some (.lst ((ending ++ dn.flatMap (hiE O rank many age)).map tr3))) ?_ (fun _ _ _ _ => rfl) ?_ ?_
    · exact ⟨⟨_, _, _, _, _, _, _, _, rfl⟩, fr3, hP3, by simpa using hE3⟩
    · rintro dn r rest ζ M4 hd ⟨⟨a1, a2, a3, a4, a6, a7, a8, a9, rfl⟩, fr4, hP4, hE4⟩
      have hlen : dn.length < 100 := by
        have := congrArg List.length hd
        simp only [List.length_append, List.length_cons] at this
        omega
      have acc := flat_len lE dn
      refine ⟨[(17, .int r.1), (18, .int r.2.1), (14, .int r.2.2)], rfl, ?_⟩
      simp only [sa_n, sa_c, List.set_cons_succ, List.set_cons_zero]
      walk_at "go"
      by_cases hr : r.2.1 = rank
      · rw [if_pos hr, sl_at (fr4.get og id)]
        walk_at "go"
        refine wX_mono (hw oct r.2.2 many h0 h3 M4) ?_
        rintro d M5 ⟨n5, rfl, hn5, hl5, fr5⟩
        rw [if_pos (is_L (fr_lt fr5 hE4))]
        refine wX_mono (lc_ret (c := fun q : Int × Int => decide (some q.2 = age)) prD (fun q => prD (q.1, r.1)) (src_d (show xVar 15 _ _ = .ok (.ref n5) _ from rfl) (s_ref hl5)) (Fr.refl _ _) (fun M' f => s_ref (fr_lt f hl5)) (by have := high_len oct r.2.2 many h0 h3; omega) ?_) ?_
        · rintro q _ M' f'
          refine ⟨[(19, .int q.1), (20, .int q.2)], rfl, ?_⟩
          simp only [sa_n, sa_c, wipeD, List.set_cons_succ, List.set_cons_zero]
          walk_at "go"
          rw [g_eqO]
          exact ⟨by first | rfl | congr, Fr.refl _ _, fun _ => ⟨rfl, Fr.refl _ _⟩⟩
        · rintro d M6 ⟨n6, rfl, hn6, hl6, fr6⟩
          have eL : ((highF oct r.2.2 many).filter fun q : Int × Int => decide (some q.2 = age)).map (fun q => prD (q.1, r.1)) = (((highF oct r.2.2 many).filterMap fun q => if some q.2 = age then some (q.1, r.1) else none)).map prD := by
            generalize highF oct r.2.2 many = L
            induction L with
            | nil => rfl
            | cons q L ih =>
              rw [List.filter_cons, List.filterMap_cons]
              by_cases hq : some q.2 = age
              · simp only [hq, decide_true, if_true, List.map_cons, ih]
              · simp only [hq, decide_false, Bool.false_eq_true, if_false, ih]
          rw [eL] at hl6
          have ll6 : ((highF oct r.2.2 many).filterMap fun q => if some q.2 = age then some (q.1, r.1) else none).length ≤ 10000 := by
            have := List.length_filterMap_le (fun q : Int × Int => if some q.2 = age then some (q.1, r.1) else none) (highF oct r.2.2 many)
            have := high_len oct r.2.2 many h0 h3
            omega
          refine wX_mono (wlw (((fr4.trans fr5).trans fr6).get og id) hc hl6 ll6) ?_
          rintro d M7 ⟨n7, rfl, hn7, hl7, fr7⟩
          rw [hO] at hl7
          have hE7 := fr_lt ((fr5.trans fr6).trans fr7) hE4
          have hP7 := fr_lt ((fr5.trans fr6).trans fr7) hP4
          have er : layF O ((highF oct r.2.2 many).filterMap fun q => if some q.2 = age then some (q.1, r.1) else none) = hiE O rank many age r := by unfold hiE; rw [if_pos hr, hoct]
          rw [er] at hl7
          have lr := lE r
          rw [g_ext hE7 hl7 (by simp only [List.length_map, List.length_append]; omega)]
          walk_at "go"
          refine ⟨⟨_, _, _, _, _, _, _, _, rfl⟩, (((fr4.trans fr5).trans fr6).trans fr7).setHi hnE, ?_, ?_⟩
          · rw [List.getElem?_set_ne (by omega)]; exact hP7
          · rw [set_get hE7, flat_sn, ← List.map_append, List.append_assoc]
      · rw [if_neg hr]
        have er : hiE O rank many age r = [] := by unfold hiE; rw [if_neg hr]
        exact ⟨⟨_, _, _, _, _, _, _, _, rfl⟩, fr4, hP4, by rw [flat_sn, er, List.append_nil]; exact hE4⟩
    · rintro ζ M4 ⟨⟨a1, a2, a3, a4, a6, a7, a8, a9, rfl⟩, fr4, hP4, hE4⟩
      walk_at "go"
      have l1 := flat_len lG cs
      have l2 := flat_len lE rs
      rw [ecs] at bG
      rw [ers] at bE
      refine wX_mono (sw2 _ _ _ _ _ _ _ hP4 (by simp only [List.length_append]; omega) (.inr rfl) (.inl ⟨_, rfl, hE4⟩) ?_ ?_ ?_ (by omega) (by simp only [List.length_append]; omega)) ?_
      · intro p hp
        rcases List.mem_append.mp hp with hp | hp
        · exact ⟨bx_spot (gl p hp).1, bx_spot (gl p hp).2⟩
        · exact bG p hp
      · exact fun x hx => bx_spot (gs x hx)
      · intro x hx
        rcases List.mem_append.mp hx with hx | hx
        · exact bx_spot (ge x hx)
        · exact bE x hx
      · rintro d M' ⟨rfl, fr5⟩
        rw [ecs, ers]
        unfold stD
        simp only [g_ix5, wO_some]
        exact ⟨trivial, fr4.trans fr5⟩
end Wk
end
section
set_option maxRecDepth 100000
set_option maxHeartbeats 4000000
set_option autoImplicit false
namespace Wk
open PySem Mi Ga
local macro_rules | `(tactic| walk_at "go") => `(tactic| simp only [wX_fn, wS_seq, wS_set, wS_ret, wS_expr, wS_pass, wS_if, wS_put, wX_var, wX_c, wX_2, wX_3, wX_anil, wX_acons, wX_star, wS_asg, wS_par, wS_aug, wX_tup, wX_lst, wX_dict, wX_b, wX_meth, wX_call, wX_if, wX_t1, wX_and2, wX_or2, wX_not1, wX_true, wX_neg, wX_oN, wX_oS, wX_not, wX_and, wX_or, wX_is, wX_cut, wX_fld, wX_ok, wX_no, wO_some, wO_none, wS_nx, wS_rt, List.map_cons, List.map_nil, List.cons_append, List.nil_append, List.append_nil, List.replicate_succ, List.replicate_zero, List.set_cons_zero, List.set_cons_succ, List.getElem?_cons_zero, List.getElem?_cons_succ, List.getElem?_nil, List.length_cons, List.length_nil, Nat.reduceSub, Nat.reduceAdd, Nat.reduceLeDiff, Nat.zero_add, Nat.add_zero, Nat.zero_le, if_true, if_false, ite_true, ite_false, reduceIte, Bool.false_eq_true, Bool.not_true, Bool.not_false, reduceCtorEq, bp_n, bp_t, bps_n, bps_cn, sa_n, sa_c, Option.map_some, g_eqI, g_neI, g_isN, g_isI, g_isNotN, g_isNotI, g_lenT, g_ix0, g_ix1, g_ix2, g_ix5, g_min, g_mx, g_add, g_sub, g_lt, g_le, g_gt, g_ge, g_listT, sz_eq, decide_eq_true_eq, eqk_t3.gEq, Bool.not_eq_true'])
local macro_rules | `(tactic| walk_at "ev") => `(tactic| simp (disch := (first | assumption | exact get_push | exact fr_lt (by assumption) (by assumption) | exact get_app (by assumption) | exact fr_lt (by assumption) (fr_lt (by assumption) (by assumption)) | exact get_app (get_app (by assumption)) | exact get_app get_push)) only [sl_at, is_L, g_lenD, g_listL, g_listD, if_true, ite_true, reduceIte])
noncomputable instance : DecidableEq St := fun a b => Classical.propDecidable _
def ageK : Option Int → NestedKey
  | none => .none
  | some a => .num a
def stKey (s : St) : NestedKey := .tup [.num s.many, .tup (s.links.map p6K), .tup (s.started.map t3K), .tup (s.ending.map t3K), ageK s.age, .num (if s.done = true then 1 else 0)]
theorem nk_t3 : ∀ xs : List T3, nkeys (xs.map tr3) = some (xs.map t3K)
  | [] => by simp [nkeys]
  | (a, b, c) :: xs => by simp [nkeys, nkey, tr3, t3K, nk_t3 xs]
theorem nk_p6 : ∀ xs : List P6, nkeys (xs.map p6D) = some (xs.map p6K)
  | [] => by simp [nkeys]
  | ((a, b, c), x, y, z) :: xs => by simp [nkeys, nkey, p6D, tr3, p6K, t3K, nk_p6 xs]
theorem t3K_inj : ∀ x y : T3, t3K x = t3K y → x = y := fun ⟨a, b, c⟩ ⟨d, e, f⟩ h => by simpa [t3K] using h
theorem p6K_inj : ∀ x y : P6, p6K x = p6K y → x = y := kyk_p6.inj
theorem map_inj {α β : Type} {f : α → β} (h : ∀ x y, f x = f y → x = y) : ∀ xs ys : List α, xs.map f = ys.map f → xs = ys
  | [], [], _ => rfl
  | [], _ :: _, e => by cases e
  | _ :: _, [], e => by cases e
  | x :: xs, y :: ys, e => by
    simp only [List.map_cons, List.cons.injEq] at e
    rw [h x y e.1, map_inj h xs ys e.2]
theorem dp_t3 : ∀ xs : List T3, NestedKey.depthAll (xs.map t3K) ≤ 2
  | [] => by simp [NestedKey.depthAll]
  | (a, b, c) :: xs => by
    have := dp_t3 xs
    simp only [List.map_cons, NestedKey.depthAll, t3K, NestedKey.depth]
    omega
theorem dp_p6 : ∀ xs : List P6, NestedKey.depthAll (xs.map p6K) ≤ 3
  | [] => by simp [NestedKey.depthAll]
  | ((a, b, c), x, y, z) :: xs => by
    have := dp_p6 xs
    simp only [List.map_cons, NestedKey.depthAll, p6K, t3K, NestedKey.depth]
    omega
theorem kyk_st : Kyk St stD stKey where
  nk := fun ⟨many, links, started, ending, age, done⟩ => by
    cases age <;> simp [stD, nkey, nkeys, nk_t3, nk_p6, stKey, ageK, optD]
  inj := fun ⟨many, links, started, ending, age, done⟩ ⟨many', links', started', ending', age', done'⟩ h => by
    simp only [stKey, NestedKey.tup.injEq, List.cons.injEq, NestedKey.num.injEq, and_true] at h
    obtain ⟨h1, h2, h3, h4, h5, h6⟩ := h
    have e5 : age = age' := by cases age <;> cases age' <;> simp [ageK] at h5 ⊢; exact h5
    have e6 : done = done' := by cases done <;> cases done' <;> simp at h6 ⊢
    rw [h1, map_inj p6K_inj _ _ h2, map_inj t3K_inj _ _ h3, map_inj t3K_inj _ _ h4, e5, e6]
  dp := fun ⟨many, links, started, ending, age, done⟩ => by
    have h1 := dp_p6 links
    have h2 := dp_t3 started
    have h3 := dp_t3 ending
    have h4 : (ageK age).depth ≤ 1 := by cases age <;> simp [ageK, NestedKey.depth]
    simp only [stKey, NestedKey.depth, NestedKey.depthAll]
    omega
  tp := fun _ => rfl
theorem rep_agree {O : Ga.Og} {rank : Int} {pr pr' : Int → Int → Prop} {pos pos' : Option Int} {n : Int} {st : St} (hn : 0 ≤ n) (h1 : ∀ k m, 0 ≤ k → k < n → (pr k m ↔ pr' k m)) (h2 : ∀ p, p < n → (pos = some p ↔ pos' = some p)) (R : Rep O rank pr pos n st) : Rep O rank pr' pos' n st := by
  have ps : ∀ x, Ps pr n x ↔ Ps pr' n x := fun x => by
    unfold Ps
    constructor
    · rintro ⟨a, b, c, d, e⟩; exact ⟨(h1 _ _ d e).mp a, b, c, d, e⟩
    · rintro ⟨a, b, c, d, e⟩; exact ⟨(h1 _ _ d e).mpr a, b, c, d, e⟩
  have en : ∀ x, En O rank pos n x ↔ En O rank pos' n x := fun x => by
    unfold En
    constructor
    · rintro ⟨r, a, b, c, d, e, p, f, g, h⟩; exact ⟨r, a, b, c, d, e, p, (h2 p g.2).mp f, g, h⟩
    · rintro ⟨r, a, b, c, d, e, p, f, g, h⟩; exact ⟨r, a, b, c, d, e, p, (h2 p g.2).mpr f, g, h⟩
  have ag : ageAt pos n = ageAt pos' n := by
    have key : ∀ q q' : Option Int, (∀ p, p < n → (q = some p ↔ q' = some p)) → ∀ p, q = some p → p < n → ageAt q n = ageAt q' n := fun q q' h p e hp => by rw [e, (h p hp).mp e]
    cases pos with
    | some p =>
      by_cases hp : p < n
      · exact key _ _ h2 p rfl hp
      · cases pos' with
        | none => unfold ageAt; dsimp only; rw [if_neg hp]
        | some p' =>
          by_cases hp' : p' < n
          · exact (key _ _ (fun p hp => (h2 p hp).symm) p' rfl hp').symm
          · unfold ageAt; dsimp only; rw [if_neg hp, if_neg hp']
    | none =>
      cases pos' with
      | none => rfl
      | some p' =>
        by_cases hp' : p' < n
        · exact (key _ _ (fun p hp => (h2 p hp).symm) p' rfl hp').symm
        · unfold ageAt; dsimp only; rw [if_neg hp']
  exact ⟨R.dnd, by rw [R.dn]; simp only [ps, en], R.many, R.lk, fun hd a => by rw [R.sd hd a]; simp only [ps], fun hd a => by rw [R.en hd a]; simp only [en], fun hd => by rw [R.ag hd, ag], R.cn⟩
theorem iter_mod {α : Type} {g : α → α} {x : α} {j p : Nat} (hp : 0 < p) (h : iter g x (j + p) = iter g x j) (m : Nat) : iter g x (j + m) = iter g x (j + m % p) := by
  induction m using Nat.strongRecOn with
  | _ m ih =>
    by_cases hm : m < p
    · rw [Nat.mod_eq_of_lt hm]
    · have e1 : j + m = j + (m - p) + p := by omega
      rw [e1, iter_round h (j + (m - p)) (by omega), ih (m - p) (by omega)]
      congr 2
      have : m % p = (m - p) % p := Nat.mod_eq_sub_mod (by omega)
      omega
/-- the row and the dict of the states met -/
noncomputable def rowS (g : St → St) (st : St) (i : Nat) : List St := (List.range i).map (iter g st)
noncomputable def knS (g : St → St) (st : St) (i : Nat) : List (St × D) := (List.range i).map fun j => (iter g st j, .int (j : Int))
theorem knS_fst (g : St → St) (st : St) (i : Nat) : (knS g st i).map (·.1) = rowS g st i := by unfold knS rowS; rw [List.map_map]; rfl
theorem rowS_succ (g : St → St) (st : St) (i : Nat) : rowS g st (i + 1) = rowS g st i ++ [iter g st i] := by unfold rowS; rw [List.range_succ, List.map_append]; rfl
theorem knS_succ (g : St → St) (st : St) (i : Nat) : knS g st (i + 1) = knS g st i ++ [(iter g st i, .int (i : Int))] := by unfold knS; rw [List.range_succ, List.map_append]; rfl
theorem rowS_len (g : St → St) (st : St) (i : Nat) : (rowS g st i).length = i := by simp [rowS]
theorem knS_len (g : St → St) (st : St) (i : Nat) : (knS g st i).length = i := by simp [knS]
theorem rowS_nd {g : St → St} {st : St} {i : Nat} (h : ∀ a b, a < b → b < i → iter g st a ≠ iter g st b) : (rowS g st i).Nodup := by
  unfold rowS List.Nodup
  rw [List.pairwise_map]
  refine List.Pairwise.imp_of_mem (fun {a b} ha hb hab => h a b hab (List.mem_range.mp hb)) List.pairwise_lt_range
end Wk
end
section
set_option maxRecDepth 100000
set_option maxHeartbeats 4000000
set_option autoImplicit false
namespace Wk
open PySem Mi
local macro_rules | `(tactic| walk_at "mi") => `(tactic| simp only [wX_fn, wS_seq, wS_set, wS_ret, wS_expr, wS_pass, wS_if, wS_put, wX_var, wX_c, wX_2, wX_3, wX_anil, wX_acons, wX_tup, wX_lst, wX_dict, wX_b, wX_meth, wX_call, wX_if, wX_t1, wX_and2, wX_or2, wX_not1, wX_true, wX_neg, wX_oN, wX_oS, wX_not, wX_and, wX_or, wX_is, wX_cut, wX_fld, wS_for, wX_ok, wX_no, wO_some, wO_none, wS_nx, wS_rt, List.map_cons, List.map_nil, List.cons_append, List.nil_append, List.append_nil, List.replicate_succ, List.replicate_zero, List.set_cons_zero, List.set_cons_succ, List.getElem?_cons_zero, List.getElem?_cons_succ, List.getElem?_nil, List.length_cons, List.length_nil, Nat.reduceSub, Nat.reduceAdd, Nat.zero_add, Nat.add_zero, if_true, if_false, ite_true, ite_false, reduceIte, Bool.false_eq_true, Bool.not_true, Bool.not_false, ← Nat.add_assoc, reduceCtorEq, List.length_append])
theorem g_mulA {i j : Int} {M : Hs} (h : inW j = true) : gMulA (.int i) (.int j) M = some (.int (i * j), M) := g_mul h
theorem isL {M : Hs} {n : Nat} {xs : List D} (h : M[n]? = some (.lst xs)) : isLst (.ref n) M = true ∧ hLst M n = some xs := by
  have e : hLst M n = some xs := by unfold hLst; rw [h]
  exact ⟨by unfold isLst; dsimp only; rw [e]; rfl, e⟩
theorem seq_lst {M : Hs} {n : Nat} {xs : List D} (h : M[n]? = some (.lst xs)) : hSeq M (.ref n) = some xs := by simp [hSeq, h]
/-- the generator's cells: 0 and 1 of the store -/
def Hd (M : Hs) : Prop := ∃ (s i : Int) (xs : List Int), M[1]? = some (.lst [.int s, .ref 0, .int i, .int 14]) ∧ M[0]? = some (.lst (xs.map D.int)) ∧ xs.length ≤ 63
def H2 : Nat → Prop := fun n => n < 2
theorem Hd.fr {M M' : Hs} (h : Hd M) (f : Fr No M M') : Hd M' := let ⟨s, i, xs, h1, h2, h3⟩ := h; ⟨s, i, xs, f.get h1 id, f.get h2 id, h3⟩
theorem g_putL {M : Hs} {n : Nat} {xs : List D} {k : Int} {v : D} (h : M[n]? = some (.lst xs)) (h0 : 0 ≤ k) (h1 : k < xs.length) : gPutA (.ref n) (.int k) v M = some (M.set n (.lst (xs.set k.toNat v))) := by
  have e : gPutA (.ref n) (.int k) v M = gPutL (.ref n) (.int k) v M := by simp [gPutA, hDct, h]
  rw [e]
  unfold gPutL
  dsimp only
  rw [(isL h).2]
  unfold L2.ixN
  dsimp only
  rw [if_pos h0, if_pos h1]
theorem g_catL {M : Hs} {m n : Nat} {xs ys : List D} (h : M[m]? = some (.lst xs)) (h2 : M[n]? = some (.lst ys)) (hl : (xs ++ ys).length ≤ sizeLine) : gAdd (.ref m) (.ref n) M = some (.ref M.length, M ++ [.lst (xs ++ ys)]) := by
  unfold gAdd newL
  dsimp only
  rw [h, h2]
  dsimp only
  rw [if_pos hl]
theorem g_lenL {M : Hs} {n : Nat} {xs : List D} (h : M[n]? = some (.lst xs)) : gLen [.ref n] M = some (.int xs.length, M) := by
  unfold gLen
  dsimp only
  rw [seq_lst h]
theorem law_mix_w (ns : List Int) (hl : ns.length ≤ 63) (seed : Int) : wX (f__law_mix [.klst (ns.map D.int), .int seed] []) fun d M => d = .ref 1 ∧ Hd M ∧ M.length = 2 := by
  unfold f__law_mix
  try walk_at "mi"
  unfold ySeq
  simp only [wX_bind]
  try walk_at "mi"
  refine wS_forN (I := fun i ζ M => (∃ (s : Int) (a : Option D), ζ = [some (.klst (ns.map D.int)), some (.int seed), some (.int s), a]) ∧ M = []) ns.length ?_ ?_ _ 0 _ _ (by simp) (Nat.zero_le _) ⟨⟨_, _, rfl⟩, rfl⟩
  · rintro i ζ M hi ⟨⟨s, a, rfl⟩, rfl⟩
    refine ⟨.int ns[i], [(3, .int ns[i])], by simp [hi], rfl, ?_⟩
    simp only [setAll]
    try walk_at "mi"
    simp only [g_mulA (show inW 48271 = true by decide), g_add, g_int, g_mod (show (0 : Int) < 2147483629 by decide), g_mod (show (0 : Int) < 2147483647 by decide), wO_some]
    exact ⟨⟨_, _, rfl⟩, trivial⟩
  · rintro ζ M ⟨⟨s, a, rfl⟩, rfl⟩
    refine ⟨by simp, ?_⟩
    try walk_at "mi"
    have e : gListA [.klst (ns.map D.int)] [] = some (.ref 0, [.lst (ns.map D.int)]) := rfl
    rw [e]
    try walk_at "mi"
    rw [if_pos (show 4 ≤ sizeLine by decide)]
    exact ⟨trivial, ⟨s, 0, ns, rfl, rfl, hl⟩, trivial⟩
theorem law_next_w {M : Hs} (hd : Hd M) (b : Int) (h0 : 0 < b) (h1 : b < 1073741824) : wX (f__law_next [.ref 1, .int b] M) fun d M' => ∃ r : Int, d = .int r ∧ 0 ≤ r ∧ r < b ∧ Hd M' ∧ Fr H2 M M' := by
  obtain ⟨s, i, xs, hm1, hm0, hl⟩ := hd
  have hlen := lt_of_get hm1
  have hsz := size1
  unfold f__law_next
  try walk_at "mi"
  have fr1 : Fr No M (M ++ [MO.lst [.int 0]]) := Fr.push M _
  rw [g_ixL (i := 1) hm1 rfl]
  try walk_at "mi"
  rw [if_pos (show 1 ≤ sizeLine by decide)]
  have h01 : (M ++ [MO.lst [.int 0]])[0]? = some (.lst (xs.map D.int)) := fr1.get hm0 id
  have h11 : (M ++ [MO.lst [.int 0]])[1]? = some (.lst [.int s, .ref 0, .int i, .int 14]) := fr1.get hm1 id
  have hz1 : (M ++ [MO.lst [.int 0]])[M.length]? = some (.lst [.int 0]) := get_push
  rw [g_catL h01 hz1 (by simp; omega)]
  try walk_at "mi"
  have fr2 : Fr No M (M ++ [MO.lst [.int 0]] ++ [MO.lst (xs.map D.int ++ [.int 0])]) := fr1.pushHi
  have hn2 : (M ++ [MO.lst [.int 0]] ++ [MO.lst (xs.map D.int ++ [.int 0])])[(M ++ [MO.lst [.int 0]]).length]? = some (.lst (xs.map D.int ++ [.int 0])) := get_push
  rw [List.length_append, List.length_singleton] at hn2
  generalize (M ++ [MO.lst [.int 0]] ++ [MO.lst (xs.map D.int ++ [.int 0])]) = M2 at fr2 hn2 ⊢
  have h02 : M2[0]? = some (.lst (xs.map D.int)) := fr2.get hm0 id
  have h12 : M2[1]? = some (.lst [.int s, .ref 0, .int i, .int 14]) := fr2.get hm1 id
  rw [g_ixL (i := 2) h12 rfl]
  try walk_at "mi"
  rw [g_int]
  try walk_at "mi"
  rw [g_ixL (i := 1) h12 rfl]
  try walk_at "mi"
  rw [g_lenL h02]
  try walk_at "mi"
  rw [g_max]
  try walk_at "mi"
  rw [List.length_map]
  have hmx : (0 : Int) < if (xs.length : Int) > 1 then (xs.length : Int) else 1 := by split <;> omega
  rw [g_mod hmx]
  try walk_at "mi"
  have hk : 0 ≤ i % (if (xs.length : Int) > 1 then (xs.length : Int) else 1) ∧ i % (if (xs.length : Int) > 1 then (xs.length : Int) else 1) < (if (xs.length : Int) > 1 then (xs.length : Int) else 1) := ⟨Int.emod_nonneg _ (by omega), Int.emod_lt_of_pos _ hmx⟩
  generalize hkk : i % (if (xs.length : Int) > 1 then (xs.length : Int) else 1) = k at hk ⊢
  have hcell : ∃ c : Int, (xs.map D.int ++ [D.int 0])[k.toNat]? = some (.int c) ∧ (xs = [] → c = 0) := by
    by_cases hx : k.toNat < xs.length
    · refine ⟨xs[k.toNat], ?_, fun h => by rw [h] at hx; simp at hx⟩
      rw [List.getElem?_append_left (by simpa using hx), List.getElem?_map, List.getElem?_eq_getElem hx]
      rfl
    · have hxe : xs.length = 0 := by split at hk <;> omega
      have hxn : xs = [] := List.eq_nil_of_length_eq_zero hxe
      subst hxn
      refine ⟨0, ?_, fun _ => rfl⟩
      have : k.toNat = 0 := by simp at hk; omega
      rw [this]; rfl
  obtain ⟨c, hc, hc0⟩ := hcell
  rw [g_ixL (i := k.toNat) hn2 hc (by omega)]
  try walk_at "mi"
  have hpw : gPow (.int 10) (.int 18) M2 = some (.int 1000000000000000000, M2) := rfl
  rw [hpw]
  try walk_at "mi"
  rw [g_ge]
  try walk_at "mi"
  by_cases hbig : 1000000000000000000 ≤ c
  · simp only [hbig, decide_true, if_true]
    have hxn : xs ≠ [] := fun h => by have := hc0 h; omega
    have hxl : 0 < xs.length := List.length_pos_iff.mpr hxn
    try walk_at "mi"
    rw [g_div h0 h1]
    try walk_at "mi"
    rw [g_ixL (i := 1) h12 rfl]
    try walk_at "mi"
    rw [g_ixL (i := 2) h12 rfl]
    try walk_at "mi"
    rw [g_int]
    try walk_at "mi"
    rw [g_ixL (i := 1) h12 rfl]
    try walk_at "mi"
    rw [g_lenL h02]
    try walk_at "mi"
    rw [List.length_map, g_mod (show (0 : Int) < (xs.length : Int) by omega)]
    try walk_at "mi"
    have hk2 : 0 ≤ i % (xs.length : Int) ∧ i % (xs.length : Int) < xs.length := ⟨Int.emod_nonneg _ (by omega), Int.emod_lt_of_pos _ (by omega)⟩
    rw [g_putL h02 hk2.1 (by simpa using hk2.2)]
    try walk_at "mi"
    rw [g_int]
    try walk_at "mi"
    rw [g_mod h0]
    try walk_at "mi"
    refine ⟨_, rfl, Int.emod_nonneg _ (by omega), Int.emod_lt_of_pos _ h0, ⟨s, i, xs.set (i % (xs.length : Int)).toNat (c / b), ?_, ?_, by simpa using hl⟩, (fr2.imp fun _ _ h => h.elim).trans (Fr.set (by unfold H2; omega))⟩
    · rw [List.getElem?_set_ne (by omega)]; exact h12
    · rw [List.map_set]; exact set_get h02
  · simp only [hbig, decide_false, Bool.false_eq_true, if_false]
    try walk_at "mi"
    rw [g_ixL (i := 0) h12 rfl]
    try walk_at "mi"
    simp only [g_mulA (show inW 48271 = true by decide), g_mulA (show inW 69621 = true by decide), g_add, g_int, g_mod (show (0 : Int) < 2147483647 by decide), wO_some]
    try walk_at "mi"
    rw [g_putL h12 (by decide) (by simp)]
    dsimp only [List.set, Int.toNat]
    have h13 := set_get (o := MO.lst [D.int ((s * 48271 + c * 69621 + 11) % 2147483647), .ref 0, .int i, .int 14]) h12
    have h03 : (M2.set 1 (MO.lst [D.int ((s * 48271 + c * 69621 + 11) % 2147483647), .ref 0, .int i, .int 14]))[0]? = some (.lst (xs.map D.int)) := by rw [List.getElem?_set_ne (by omega)]; exact h02
    have fr3 : Fr H2 M (M2.set 1 (MO.lst [D.int ((s * 48271 + c * 69621 + 11) % 2147483647), .ref 0, .int i, .int 14])) := (fr2.imp fun _ _ h => h.elim).trans (Fr.set (by unfold H2; omega))
    generalize (M2.set 1 (MO.lst [D.int ((s * 48271 + c * 69621 + 11) % 2147483647), .ref 0, .int i, .int 14])) = M3 at h13 h03 fr3 ⊢
    generalize ((s * 48271 + c * 69621 + 11) % 2147483647) = s2 at h13 ⊢
    rw [g_ixL (i := 2) h13 rfl]
    try walk_at "mi"
    rw [g_add]
    try walk_at "mi"
    rw [g_putL h13 (by decide) (by simp)]
    dsimp only [List.set, Int.toNat]
    have h14 := set_get (o := MO.lst [D.int s2, .ref 0, .int (i + 1), .int 14]) h13
    have h04 : (M3.set 1 (MO.lst [D.int s2, .ref 0, .int (i + 1), .int 14]))[0]? = some (.lst (xs.map D.int)) := by rw [List.getElem?_set_ne (by omega)]; exact h03
    have fr4 : Fr H2 M (M3.set 1 (MO.lst [D.int s2, .ref 0, .int (i + 1), .int 14])) := fr3.trans (Fr.set (by unfold H2; omega))
    generalize (M3.set 1 (MO.lst [D.int s2, .ref 0, .int (i + 1), .int 14])) = M4 at h14 h04 fr4 ⊢
    rw [g_ixL (i := 0) h14 rfl]
    try walk_at "mi"
    rw [g_div (by decide) (by decide)]
    try walk_at "mi"
    rw [g_int]
    try walk_at "mi"
    rw [g_mod h0]
    try walk_at "mi"
    exact ⟨_, rfl, Int.emod_nonneg _ (by omega), Int.emod_lt_of_pos _ h0, ⟨s2, i + 1, xs, h14, h04, hl⟩, fr4⟩
end Wk
end
section
set_option maxRecDepth 100000
set_option maxHeartbeats 4000000
set_option autoImplicit false
namespace Wk
open PySem Mi
local macro_rules | `(tactic| walk_at "mi") => `(tactic| simp only [wX_fn, wS_seq, wS_set, wS_ret, wS_expr, wS_pass, wS_if, wS_put, wX_var, wX_c, wX_2, wX_3, wX_anil, wX_acons, wX_tup, wX_lst, wX_dict, wX_b, wX_meth, wX_call, wX_if, wX_t1, wX_and2, wX_or2, wX_not1, wX_true, wX_neg, wX_oN, wX_oS, wX_not, wX_and, wX_or, wX_is, wX_cut, wX_fld, wS_for, wX_ok, wX_no, wO_some, wO_none, wS_nx, wS_rt, List.map_cons, List.map_nil, List.cons_append, List.nil_append, List.append_nil, List.replicate_succ, List.replicate_zero, List.set_cons_zero, List.set_cons_succ, List.getElem?_cons_zero, List.getElem?_cons_succ, List.getElem?_nil, List.length_cons, List.length_nil, Nat.reduceSub, Nat.reduceAdd, Nat.zero_add, Nat.add_zero, if_true, if_false, ite_true, ite_false, reduceIte, Bool.false_eq_true, Bool.not_true, Bool.not_false, ← Nat.add_assoc, reduceCtorEq, List.length_append])
def pdT (t : Tr3) : PyData := .tuple [.int t.1, .int t.2.1, .int t.2.2]
theorem pd_trDs (M : Hs) (n : Nat) : ∀ xs : List Tr3, mapO (toPD M (n + 2)) (xs.map trD) = some (xs.map pdT)
  | [] => rfl
  | x :: xs => by
    have e : toPD M (n + 2) (trD x) = some (pdT x) := by simp [trD, toPD, mapO, pdT]
    rw [List.map_cons, List.map_cons]
    unfold mapO
    rw [e, pd_trDs M n xs]
def vC (many : Int) (t : Tr3) : Bool := decide (0 ≤ t.1) && decide (t.1 < many) && decide (0 ≤ t.2.1) && decide (t.2.1 < many) && decide (-2 ≤ t.2.2) && decide (t.2.2 ≤ 2) && (decide (t.1 ≠ t.2.1) || decide (t.2.2 ≠ 0))
def vS (many : Int) (t : Tr3) : Bool := decide (0 ≤ t.1) && decide (t.1 < many) && decide (0 ≤ t.2.1) && decide (t.2.1 ≤ 2) && decide (-2 ≤ t.2.2) && decide (t.2.2 ≤ 2)
structure Parts (many : Int) (cs rs : List Tr3) (ch : Str) (oct : Int) : Prop where
  m : many = 1 ∨ many = 2
  cn : cs.Nodup
  cl : cs.length ≤ 5
  cv : ∀ t ∈ cs, vC many t = true
  rn : rs.Nodup
  r1 : 1 ≤ rs.length
  r4 : rs.length ≤ 4
  rv : ∀ t ∈ rs, vS many t = true
  c : ch = "all" ∨ ch = "pressed"
  o : oct = 0 ∨ oct = 2 ∨ oct = 3
theorem is_integer_w (v a b : Int) (M : Hs) : wX (f_is_integer [.int v, .int a, .int b] M) fun d M' => d = .bl (decide (a ≤ v) && decide (v ≤ b)) ∧ M' = M := by
  unfold f_is_integer
  try walk_at "mi"
  have e1 : kindOf (.int v) M = some "int" := rfl
  rw [e1]
  have e2 : isKind "int" "int" = true := by decide
  have e3 : isKind "int" "bool" = false := by decide
  dsimp only
  rw [e2, e3]
  try walk_at "mi"
  simp only [g_le, wO_some]
  by_cases h1 : a ≤ v <;> by_cases h2 : v ≤ b <;> simp [h1, h2]
theorem g_cut2 {a b c : D} {M : Hs} : gCut (.tup [a, b, c]) none (some 2) M = some (.tup [a, b], M) := rfl
theorem g_len3 {a b c : D} {M : Hs} : gLen [.tup [a, b, c]] M = some (.int 3, M) := rfl
theorem vC_at {many : Int} {t : Tr3} (h : vC many t = true) : (0 ≤ t.1 ∧ t.1 ≤ many - 1) ∧ (0 ≤ t.2.1 ∧ t.2.1 ≤ many - 1) ∧ (-2 ≤ t.2.2 ∧ t.2.2 ≤ 2) ∧ (t.1 ≠ t.2.1 ∨ t.2.2 ≠ 0) := by
  unfold vC at h
  simp only [Bool.and_eq_true, Bool.or_eq_true, decide_eq_true_eq] at h
  omega
theorem vS_at {many : Int} {t : Tr3} (h : vS many t = true) : (0 ≤ t.1 ∧ t.1 ≤ many - 1) ∧ (0 ≤ t.2.1 ∧ t.2.1 ≤ 2) ∧ (-2 ≤ t.2.2 ∧ t.2.2 ≤ 2) := by
  unfold vS at h
  simp only [Bool.and_eq_true, decide_eq_true_eq] at h
  omega
theorem int_in {v a b : Int} (h : a ≤ v ∧ v ≤ b) (M : Hs) : wX (f_is_integer [.int v, .int a, .int b] M) fun d M' => d = .bl true ∧ M' = M :=
  wX_mono (is_integer_w v a b M) fun d M' ⟨h1, h2⟩ => ⟨by rw [h1]; simp [h], h2⟩
theorem tup_kind (xs : List D) (M : Hs) : kindOf (.tup xs) M = some "tuple" := rfl
theorem tup_is : isKind "tuple" "tuple" = true := by decide
theorem is_coupler_w {many : Int} {t : Tr3} (h : vC many t = true) (M : Hs) : wX (f_is_coupler [trD t, .int many] M) fun d M' => d = .bl true ∧ Fr No M M' := by
  obtain ⟨h1, h2, h3, h4⟩ := vC_at h
  have hsz := size1
  unfold f_is_coupler
  have e0 : ∀ M', gIxA (trD t) (.int 0) M' = some (.int t.1, M') := fun M' => g_ixT (i := 0) rfl
  have e1 : ∀ M', gIxA (trD t) (.int 1) M' = some (.int t.2.1, M') := fun M' => g_ixT (i := 1) rfl
  have e2 : ∀ M', gIxA (trD t) (.int 2) M' = some (.int t.2.2, M') := fun M' => g_ixT (i := 2) rfl
  have ek : kindOf (trD t) M = some "tuple" := rfl
  have el : gLen [trD t] M = some (.int 3, M) := rfl
  have ec : gCut (trD t) none (some 2) M = some (.tup [.int t.1, .int t.2.1], M) := rfl
  try walk_at "mi"
  rw [ek]
  dsimp only
  rw [tup_is]
  try walk_at "mi"
  rw [el]
  try walk_at "mi"
  rw [g_neI]
  simp only [decide_true, Bool.not_true, wO_some, Bool.false_eq_true, if_false]
  try walk_at "mi"
  rw [wX_lc]
  unfold ySeq
  simp only [wX_bind]
  try walk_at "mi"
  rw [ec]
  try walk_at "mi"
  refine wX_lcN (I := fun i M' => Fr No M M' ∧ M'[M.length]? = some (.lst (List.replicate i (.bl true)))) 2 ?_ ?_ 3 0 _ (by omega) (by omega) ⟨Fr.push _ _, by simp⟩
  · rintro i M1 hi ⟨fr1, hm1⟩
    have hv : ∃ v : Int, [D.int t.1, D.int t.2.1][i]? = some (.int v) ∧ 0 ≤ v ∧ v ≤ many - 1 := by
      have : i = 0 ∨ i = 1 := by omega
      rcases this with rfl | rfl
      · exact ⟨_, rfl, h1⟩
      · exact ⟨_, rfl, h2⟩
    obtain ⟨v, hv, hv2⟩ := hv
    refine ⟨.int v, [(2, .int v)], by rw [hv], rfl, ?_⟩
    refine wX_lcB (c := true) (v := .bl true) (acc := List.replicate i (.bl true)) ?_
    simp only [wipeD, setAll]
    try walk_at "mi"
    rw [g_sub]
    try walk_at "mi"
    refine ⟨trivial, wX_mono (int_in hv2 M1) ?_⟩
    rintro d M2 ⟨rfl, hM⟩
    rw [hM]
    refine ⟨rfl, (isL hm1).2, by simp; omega, fr1.setHi (Nat.le_refl _), ?_⟩
    rw [← List.replicate_succ']
    exact set_get hm1
  · rintro M1 ⟨fr1, hm1⟩
    refine ⟨rfl, ?_⟩
    have ea : gAll [.ref M.length] M1 = some (.bl true, M1) := by
      unfold gAll gBools
      dsimp only
      rw [seq_lst hm1]
      rfl
    rw [ea]
    try walk_at "mi"
    rw [e2]
    try walk_at "mi"
    refine wX_mono (int_in h3 M1) ?_
    rintro d M2 ⟨rfl, rfl⟩
    try walk_at "mi"
    rw [e0, wO_some, e1, wO_some, g_neI, wO_some]
    by_cases hx : t.1 = t.2.1
    · have hy : t.2.2 ≠ 0 := by rcases h4 with h4 | h4 <;> omega
      simp only [hx, decide_true, Bool.not_true]
      rw [e2, wO_some, g_neI, wO_some]
      simp only [hy, decide_false, Bool.not_false]
      exact ⟨trivial, fr1⟩
    · simp only [hx, decide_false, Bool.not_false]
      exact ⟨trivial, fr1⟩
theorem pd_trD (M : Hs) (n : Nat) (x : Tr3) : toPD M (n + 2) (trD x) = some (pdT x) := by simp [trD, toPD, mapO, pdT]
theorem shaped_t (x : Tr3) : SeqAt.shaped (pdT x) = true := by
  unfold SeqAt.shaped
  simp [pdT, PyData.canLay0, PyData.canLayAll0, PyData.depth, PyData.depthAll]
theorem shaped_tt (xs : List Tr3) : SeqAt.shaped (.tuple (xs.map pdT)) = true := by
  have h1 : PyData.canLayAll0 (xs.map pdT) = true ∧ PyData.depthAll (xs.map pdT) ≤ 3 := by
    induction xs with
    | nil => simp [PyData.canLayAll0, PyData.depthAll]
    | cons x xs ih => simp [PyData.canLayAll0, PyData.canLay0, PyData.depthAll, PyData.depth, pdT, ih.1]; have := ih.2; omega
  unfold SeqAt.shaped
  simp [PyData.canLay0, PyData.depth, h1.1]
  have := h1.2
  omega
theorem g_inT (x : Tr3) (ys : List Tr3) (M : Hs) : gInA id (trD x) (.tup (ys.map trD)) M = some (.bl (decide (x ∈ ys)), M) := by
  have e : deep = 10 + 2 := rfl
  have e1 : toPD M deep (trD x) = some (pdT x) := by rw [e]; exact pd_trD M 10 x
  have e2 : toPD M deep (.tup (ys.map trD)) = some (.tuple (ys.map pdT)) := by
    have q : toPD M deep (.tup (ys.map trD)) = (match mapO (toPD M (9 + 2)) (ys.map trD) with
      | some ps => some (.tuple ps)
      | none => none) := rfl
    rw [q, pd_trDs M 9 ys]
  have e3 : ((ys.map pdT).any fun z => PyData.eqv z (pdT x)) = decide (x ∈ ys) := by
    induction ys with
    | nil => simp
    | cons y ys ih =>
      have ih := ih (by
        have q : toPD M deep (.tup (ys.map trD)) = (match mapO (toPD M (9 + 2)) (ys.map trD) with
          | some ps => some (.tuple ps)
          | none => none) := rfl
        rw [q, pd_trDs M 9 ys])
      rw [List.map_cons, List.any_cons, ih]
      obtain ⟨x1, x2, x3⟩ := x
      obtain ⟨y1, y2, y3⟩ := y
      have q : PyData.eqv (pdT (y1, y2, y3)) (pdT (x1, x2, x3)) = decide ((x1, x2, x3) = (y1, y2, y3)) := by
        by_cases hq : (x1, x2, x3) = (y1, y2, y3)
        · cases hq
          simp [PyData.eqv, PyData.eqvAll, pdT]
        · rw [decide_eq_false hq]
          cases hb : PyData.eqv (pdT (y1, y2, y3)) (pdT (x1, x2, x3)) with
          | false => rfl
          | true =>
            simp [PyData.eqv, PyData.eqvAll, pdT] at hb
            exact absurd (by simp [hb]) hq
      rw [q]
      simp
  show gInB id (trD x) (.tup (ys.map trD)) M = _
  unfold gInB
  rw [e1, e2]
  dsimp only
  rw [shaped_t, shaped_tt, e3]
  rfl
theorem g_cutT {xs : List D} {i : Nat} {M : Hs} (h : i ≤ xs.length) : gCut (.tup xs) none (some (i : Int)) M = some (.tup (xs.take i), M) := by
  have e : cutD xs none (some (i : Int)) = xs.take i := by
    unfold cutD
    rw [HT.sIx_none, HT.sIx_nat, Nat.min_eq_left h]
    simp
  show some (D.tup (cutD xs none (some (i : Int))), M) = _
  rw [e]
theorem not_take {xs : List Tr3} (nd : xs.Nodup) {i : Nat} (h : i < xs.length) : xs[i] ∉ xs.take i := by
  intro hm
  have nd2 : (xs.take i ++ xs.drop i).Nodup := by rw [List.take_append_drop]; exact nd
  exact (List.nodup_append.mp nd2).2.2 _ hm _ (by rw [List.drop_eq_getElem_cons h]; exact List.mem_cons_self) rfl
theorem look_c_w {many : Int} {cs : List Tr3} (nd : cs.Nodup) (hl : cs.length ≤ 5) (hv : ∀ t ∈ cs, vC many t = true) (M : Hs) : wX (f_look_at_couplers [.tup (cs.map trD), .int many] M) fun d M' => d = .non ∧ Fr No M M' := by
  unfold f_look_at_couplers
  have el : gLen [.tup (cs.map trD)] M = some (.int (cs.map trD).length, M) := rfl
  try walk_at "mi"
  rw [tup_kind]
  dsimp only
  rw [tup_is]
  try walk_at "mi"
  rw [el]
  try walk_at "mi"
  rw [g_gt]
  try walk_at "mi"
  have hg : decide ((5 : Int) < ((cs.map trD).length : Int)) = false := decide_eq_false (by rw [List.length_map]; omega)
  simp only [hg, Bool.false_eq_true, if_false]
  try walk_at "mi"
  unfold yEnum
  simp only [wX_bind]
  try walk_at "mi"
  refine wS_forN (I := fun i ζ M' => (∃ a b, ζ = [some (.tup (cs.map trD)), some (.int many), a, b]) ∧ Fr No M M') cs.length ?_ ?_ _ 0 _ _ (by simp) (Nat.zero_le _) ⟨⟨_, _, rfl⟩, Fr.refl _ _⟩
  · rintro i ζ M1 hi ⟨⟨a, b, rfl⟩, fr1⟩
    have ht : (cs.map trD)[i]? = some (trD cs[i]) := by rw [List.getElem?_map, List.getElem?_eq_getElem hi]; rfl
    refine ⟨_, [(2, .int (i : Int)), (3, trD cs[i])], by rw [ht], rfl, ?_⟩
    simp only [setAll]
    try walk_at "mi"
    refine wX_mono (is_coupler_w (hv _ (List.getElem_mem hi)) M1) ?_
    rintro d M2 ⟨rfl, fr2⟩
    try walk_at "mi"
    rw [g_cutT (by simp; omega)]
    try walk_at "mi"
    rw [← List.map_take, g_inT]
    try walk_at "mi"
    simp only [not_take nd hi, decide_false, Bool.false_eq_true, if_false]
    try walk_at "mi"
    exact ⟨⟨_, _, rfl⟩, fr1.trans fr2⟩
  · rintro ζ M1 ⟨⟨a, b, rfl⟩, fr1⟩
    exact ⟨by simp, trivial, fr1⟩
theorem is_stop_w {many : Int} {t : Tr3} (h : vS many t = true) (M : Hs) : wX (f_is_stop [trD t, .int many] M) fun d M' => d = .bl true ∧ M' = M := by
  obtain ⟨h1, h2, h3⟩ := vS_at h
  unfold f_is_stop
  have e0 : gIxA (trD t) (.int 0) M = some (.int t.1, M) := g_ixT (i := 0) rfl
  have e1 : gIxA (trD t) (.int 1) M = some (.int t.2.1, M) := g_ixT (i := 1) rfl
  have e2 : gIxA (trD t) (.int 2) M = some (.int t.2.2, M) := g_ixT (i := 2) rfl
  have ek : kindOf (trD t) M = some "tuple" := rfl
  have el : gLen [trD t] M = some (.int 3, M) := rfl
  try walk_at "mi"
  rw [ek]
  dsimp only
  rw [tup_is]
  try walk_at "mi"
  rw [el]
  try walk_at "mi"
  rw [g_neI]
  simp only [decide_true, Bool.not_true, wO_some, Bool.false_eq_true, if_false]
  rw [e0]
  try walk_at "mi"
  rw [g_sub]
  try walk_at "mi"
  refine wX_mono (int_in h1 M) ?_
  rintro d M1 ⟨rfl, rfl⟩
  try walk_at "mi"
  rw [e1]
  try walk_at "mi"
  refine wX_mono (int_in h2 M1) ?_
  rintro d M2 ⟨rfl, rfl⟩
  try walk_at "mi"
  rw [e2]
  try walk_at "mi"
  exact int_in h3 M2
theorem look_s_w {many : Int} {rs : List Tr3} (nd : rs.Nodup) (h1 : 1 ≤ rs.length) (h4 : rs.length ≤ 4) (hv : ∀ t ∈ rs, vS many t = true) (M : Hs) : wX (f_look_at_stops [.tup (rs.map trD), .int many] M) fun d M' => d = .non ∧ Fr No M M' := by
  unfold f_look_at_stops
  have el : gLen [.tup (rs.map trD)] M = some (.int (rs.map trD).length, M) := rfl
  try walk_at "mi"
  rw [tup_kind]
  dsimp only
  rw [tup_is]
  try walk_at "mi"
  rw [el]
  try walk_at "mi"
  have ha : decide ((1 : Int) ≤ ((rs.map trD).length : Int)) = true := decide_eq_true (by rw [List.length_map]; omega)
  have hb : decide (((rs.map trD).length : Int) ≤ 4) = true := decide_eq_true (by rw [List.length_map]; omega)
  simp only [g_le, wO_some, ha, hb]
  try walk_at "mi"
  unfold yEnum
  simp only [wX_bind]
  try walk_at "mi"
  refine wS_forN (I := fun i ζ M' => (∃ a b, ζ = [some (.tup (rs.map trD)), some (.int many), a, b]) ∧ Fr No M M') rs.length ?_ ?_ _ 0 _ _ (by simp) (Nat.zero_le _) ⟨⟨_, _, rfl⟩, Fr.refl _ _⟩
  · rintro i ζ M1 hi ⟨⟨a, b, rfl⟩, fr1⟩
    have ht : (rs.map trD)[i]? = some (trD rs[i]) := by rw [List.getElem?_map, List.getElem?_eq_getElem hi]; rfl
    refine ⟨_, [(2, .int (i : Int)), (3, trD rs[i])], by rw [ht], rfl, ?_⟩
    simp only [setAll]
    try walk_at "mi"
    refine wX_mono (is_stop_w (hv _ (List.getElem_mem hi)) M1) ?_
    rintro d M2 ⟨rfl, rfl⟩
    try walk_at "mi"
    rw [g_cutT (by simp; omega)]
    try walk_at "mi"
    rw [← List.map_take, g_inT]
    try walk_at "mi"
    simp only [not_take nd hi, decide_false, Bool.false_eq_true, if_false]
    try walk_at "mi"
    exact ⟨⟨_, _, rfl⟩, fr1⟩
  · rintro ζ M1 ⟨⟨a, b, rfl⟩, fr1⟩
    exact ⟨by simp, trivial, fr1⟩
theorem wS_fld {c k : Nat} {fo fv : MX} {ζ : Sl} {M : Hs} {N : Sl → Hs → Prop} {T : D → Hs → Prop} : wS (sFld c k fo fv ζ M) N T = wX (fv ζ M) fun y M => wX (fo ζ M) fun x M => match slAt c x M with
  | some (n, fs) => N ζ (M.set n (.slo c (putD k y fs)))
  | none => False := by
  unfold sFld
  rw [wS_of]
  congr
  funext y M1
  rw [wS_of]
  congr
  funext x M2
  cases slAt c x M2 with
  | none => rfl
  | some q => obtain ⟨n, fs⟩ := q; rfl
theorem wX_make {o : MO} {n : Nat} {F : MF} {ga : MA} {ζ : Sl} {M : Hs} {Q : D → Hs → Prop} : wX (xMake o n F ga ζ M) Q = wX (ga ζ M) fun ds M1 => if ds.length + 1 = n then wX (F (.ref M1.length :: ds) (M1 ++ [o])) fun v M2 => match v with
  | .non => Q (.ref M1.length) M2
  | _ => False else False := by
  unfold xMake
  rw [wX_bind]
  congr
  funext ds M1
  split
  · rw [wX_bind]
    congr
    funext v M2
    cases v <;> rfl
  · rfl
theorem g_inS2 {ch : Str} (h : ch = "all" ∨ ch = "pressed") (M : Hs) : gInA not (.str ch) (.tup [.str "all", .str "pressed"]) M = some (.bl false, M) := by
  have e1 : toPD M deep (.str ch) = some (.str ch) := rfl
  have e2 : toPD M deep (.tup [.str "all", .str "pressed"]) = some (.tuple [.str "all", .str "pressed"]) := rfl
  show gInB not (.str ch) (.tup [.str "all", .str "pressed"]) M = _
  unfold gInB
  rw [e1, e2]
  dsimp only
  have e3 : (SeqAt.shaped (.str ch) && SeqAt.shaped (.tuple [.str "all", .str "pressed"])) = true := by rcases h with rfl | rfl <;> decide +kernel
  have e4 : ([PyData.str "all", PyData.str "pressed"].any fun z => PyData.eqv z (.str ch)) = true := by rcases h with rfl | rfl <;> decide +kernel
  rw [e3, e4]
  rfl
theorem g_inI3 {o : Int} (h : o = 0 ∨ o = 2 ∨ o = 3) (M : Hs) : gInA not (.int o) (.tup [.int 0, .int 2, .int 3]) M = some (.bl false, M) := by
  have e1 : toPD M deep (.int o) = some (.int o) := rfl
  have e2 : toPD M deep (.tup [.int 0, .int 2, .int 3]) = some (.tuple [.int 0, .int 2, .int 3]) := rfl
  show gInB not (.int o) (.tup [.int 0, .int 2, .int 3]) M = _
  unfold gInB
  rw [e1, e2]
  dsimp only
  have e3 : (SeqAt.shaped (.int o) && SeqAt.shaped (.tuple [.int 0, .int 2, .int 3])) = true := by rcases h with rfl | rfl | rfl <;> decide +kernel
  have e4 : ([PyData.int 0, PyData.int 2, PyData.int 3].any fun z => PyData.eqv z (.int o)) = true := by rcases h with rfl | rfl | rfl <;> decide +kernel
  rw [e3, e4]
  rfl
theorem str_kind (x : Str) (M : Hs) : kindOf (.str x) M = some "str" := rfl
theorem str_is : isKind "str" "str" = true := by decide
theorem organ_init_w {M : Hs} {g : Nat} {many : Int} {cs rs : List Tr3} {ch : Str} {oct : Int} (p : Parts many cs rs ch oct) (hg : M[g]? = some (.slo 0 [])) :
    wX (f_Organ_init [.ref g, .int many, .tup (cs.map trD), .tup (rs.map trD), .str ch, .int oct] M) fun d M' => d = .non ∧ OgM M' g many cs rs ch oct ∧ Fr (fun n => n = g) M M' := by
  unfold f_Organ_init
  try walk_at "mi"
  refine wX_mono (int_in (v := many) (a := 1) (b := 2) (by rcases p.m with h | h <;> omega) M) ?_
  rintro d M1 ⟨rfl, rfl⟩
  try walk_at "mi"
  refine wX_mono (look_c_w p.cn p.cl p.cv M1) ?_
  rintro d M2 ⟨rfl, fr2⟩
  try walk_at "mi"
  refine wX_mono (look_s_w p.rn p.r1 p.r4 p.rv M2) ?_
  rintro d M3 ⟨rfl, fr3⟩
  try walk_at "mi"
  rw [str_kind]
  dsimp only
  rw [str_is]
  try walk_at "mi"
  rw [g_inS2 p.c]
  try walk_at "mi"
  refine wX_mono (int_in (v := oct) (a := 0) (b := 3) (by rcases p.o with h | h | h <;> omega) M3) ?_
  rintro d M4 ⟨rfl, rfl⟩
  try walk_at "mi"
  rw [g_inI3 p.o]
  have hg4 : M4[g]? = some (.slo 0 []) := (fr2.trans fr3).get hg id
  have fr4 : Fr (fun n => n = g) M1 M4 := (fr2.trans fr3).imp fun _ _ h => h.elim
  try walk_at "mi"
  rw [wS_fld]
  try walk_at "mi"
  rw [sl_at hg4]
  dsimp only
  have s1 := set_get (o := MO.slo 0 (putD 2 (.int many) [])) hg4
  rw [wS_fld]
  try walk_at "mi"
  rw [sl_at s1]
  dsimp only
  have s2 := set_get (o := MO.slo 0 (putD 1 (.tup (cs.map trD)) (putD 2 (.int many) []))) s1
  rw [wS_fld]
  try walk_at "mi"
  rw [sl_at s2]
  dsimp only
  have s3 := set_get (o := MO.slo 0 (putD 4 (.tup (rs.map trD)) (putD 1 (.tup (cs.map trD)) (putD 2 (.int many) [])))) s2
  rw [wS_fld]
  try walk_at "mi"
  rw [sl_at s3]
  dsimp only
  have s4 := set_get (o := MO.slo 0 (putD 3 (.str ch) (putD 4 (.tup (rs.map trD)) (putD 1 (.tup (cs.map trD)) (putD 2 (.int many) []))))) s3
  rw [wS_fld]
  try walk_at "mi"
  rw [sl_at s4]
  dsimp only
  have s5 := set_get (o := MO.slo 0 (putD 0 (.int oct) (putD 3 (.str ch) (putD 4 (.tup (rs.map trD)) (putD 1 (.tup (cs.map trD)) (putD 2 (.int many) [])))))) s4
  exact ⟨trivial, s5, ((((fr4.trans (Fr.set rfl)).trans (Fr.set rfl)).trans (Fr.set rfl)).trans (Fr.set rfl)).trans (Fr.set rfl)⟩
def Tt (M : Hs) (t : Nat) (many : Int) (cs rs : List Tr3) (ch : Str) (oct : Int) : Prop := M[t]? = some (.lst [.int many, .tup (cs.map trD), .tup (rs.map trD), .str ch, .int oct])
def Sq (M : Hs) (d : D) (xs : List D) : Prop := (∃ n, d = .ref n ∧ M[n]? = some (.lst xs)) ∨ d = .tup xs
theorem Sq.seq {M : Hs} {d : D} {xs : List D} (h : Sq M d xs) : hSeq M d = some xs := by
  rcases h with ⟨n, rfl, h⟩ | rfl
  · exact s_ref h
  · rfl
theorem Sq.fr {M M' : Hs} {d : D} {xs : List D} (h : Sq M d xs) (f : Fr No M M') : Sq M' d xs := by
  rcases h with ⟨n, rfl, h⟩ | rfl
  · exact .inl ⟨n, rfl, f.get h id⟩
  · exact .inr rfl
theorem Sq.len {M : Hs} {d : D} {xs : List D} (h : Sq M d xs) : gLen [d] M = some (.int xs.length, M) := by
  rcases h with ⟨n, rfl, h⟩ | rfl
  · exact g_lenD h
  · exact g_lenT
theorem Sq.list {M : Hs} {d : D} {xs : List D} (h : Sq M d xs) : gListA [d] M = some (.ref M.length, M ++ [.lst xs]) := by
  rcases h with ⟨n, rfl, h⟩ | rfl
  · exact g_listL h
  · exact g_listT
end Wk
end
section
set_option maxRecDepth 100000
set_option maxHeartbeats 4000000
set_option autoImplicit false
namespace Wk
open PySem Mi
local macro_rules | `(tactic| walk_at "mi") => `(tactic| simp only [wX_fn, wS_seq, wS_set, wS_ret, wS_expr, wS_pass, wS_if, wS_put, wX_var, wX_c, wX_2, wX_3, wX_anil, wX_acons, wX_tup, wX_lst, wX_dict, wX_b, wX_meth, wX_call, wX_if, wX_t1, wX_and2, wX_or2, wX_not1, wX_true, wX_neg, wX_oN, wX_oS, wX_not, wX_and, wX_or, wX_is, wX_cut, wX_fld, wS_for, wX_ok, wX_no, wO_some, wO_none, wS_nx, wS_rt, List.map_cons, List.map_nil, List.cons_append, List.nil_append, List.append_nil, List.replicate_succ, List.replicate_zero, List.set_cons_zero, List.set_cons_succ, List.getElem?_cons_zero, List.getElem?_cons_succ, List.getElem?_nil, List.length_cons, List.length_nil, Nat.reduceSub, Nat.reduceAdd, Nat.zero_add, Nat.add_zero, if_true, if_false, ite_true, ite_false, reduceIte, Bool.false_eq_true, Bool.not_true, Bool.not_false, ← Nat.add_assoc, reduceCtorEq, List.length_append])
def ledK (cs : List Tr3) (top oct : Int) (p : Sp2) : List Sp2 := cs.filterMap fun t => if t.1 = p.1 then (ledP p.2 t.2.2 top oct).map fun k => (t.2.1, k) else none
theorem ledK_snoc (cs : List Tr3) (t : Tr3) (top oct : Int) (p : Sp2) : ledK (cs ++ [t]) top oct p = ledK cs top oct p ++ ledK [t] top oct p := by unfold ledK; rw [List.filterMap_append]
theorem ledK_len (cs : List Tr3) (top oct : Int) (p : Sp2) : (ledK cs top oct p).length ≤ cs.length := List.length_filterMap_le _ _
inductive Rch (cs : List Tr3) (top oct : Int) (st : List Sp2) : Sp2 → Prop
  | base {p : Sp2} : p ∈ st → Rch cs top oct st p
  | step {p q : Sp2} : Rch cs top oct st p → q ∈ ledK cs top oct p → Rch cs top oct st q
def OnW (cs : List Tr3) (top oct : Int) (all : Bool) (st : List Sp2) (q : Sp2) : Prop := if all = true then Rch cs top oct st q else q ∈ st ∨ ∃ p ∈ st, q ∈ ledK cs top oct p
def univ (cs : List Tr3) (top oct : Int) (all : Bool) (st : List Sp2) : List Sp2 := st ++ if all = true then cs.flatMap fun t => (List.range (top + 1).toNat).map fun (k : Nat) => (t.2.1, (k : Int)) else st.flatMap (ledK cs top oct)
theorem flat_lenS {α β : Type} {G : α → List β} {k : Nat} (h : ∀ a, (G a).length ≤ k) (l : List α) : (l.flatMap G).length ≤ k * l.length := by
  induction l with
  | nil => simp
  | cons a l ih =>
    rw [List.flatMap_cons, List.length_append, List.length_cons, Nat.mul_add]
    have := h a
    omega
theorem led_range {p s t o k : Int} (h : ledP p s t o = some k) : 0 ≤ k ∧ k ≤ t := by
  have key : ∀ f : Int, (if 0 ≤ f ∧ f ≤ t then some f else none) = some k → 0 ≤ k ∧ k ≤ t := fun f hf => by
    split at hf
    · rename_i h1
      cases hf
      exact h1
    · cases hf
  exact key _ h
theorem led_univ {cs : List Tr3} {top oct : Int} {all : Bool} {st : List Sp2} {p q : Sp2} (hp : all = true ∨ p ∈ st) (h : q ∈ ledK cs top oct p) : q ∈ univ cs top oct all st := by
  cases all with
  | false =>
    rcases hp with hp | hp
    · cases hp
    · exact List.mem_append_right _ (List.mem_flatMap.mpr ⟨p, hp, h⟩)
  | true =>
  unfold ledK at h
  obtain ⟨t, ht, e⟩ := List.mem_filterMap.mp h
  split at e
  · cases hk : ledP p.2 t.2.2 top oct with
    | none => rw [hk] at e; cases e
    | some k =>
      rw [hk] at e
      cases e
      obtain ⟨h1, h2⟩ := led_range hk
      refine List.mem_append_right _ (List.mem_flatMap.mpr ⟨t, ht, List.mem_map.mpr ⟨k.toNat, List.mem_range.mpr (by omega), ?_⟩⟩)
      simp only [Prod.mk.injEq, true_and]
      omega
  · cases e
theorem nodup_le {α : Type} [DecidableEq α] : ∀ {xs ys : List α}, xs.Nodup → (∀ x ∈ xs, x ∈ ys) → xs.length ≤ ys.length
  | [], _, _, _ => Nat.zero_le _
  | x :: xs, ys, h, s => by
    obtain ⟨h1, h2⟩ := List.nodup_cons.mp h
    have hx := s x List.mem_cons_self
    have ih := nodup_le (ys := ys.erase x) h2 fun y hy => (List.mem_erase_of_ne (fun e => h1 (by rw [← e]; exact hy))).mpr (s y (List.mem_cons_of_mem _ hy))
    rw [List.length_erase_of_mem hx] at ih
    have := List.length_pos_of_mem hx
    simp only [List.length_cons]
    omega
theorem univ_len {cs : List Tr3} {top oct : Int} {all : Bool} {st : List Sp2} (h0 : 0 ≤ top) (h1 : all = true → top ≤ 1000) (hc : cs.length ≤ 100) (hs : st.length ≤ 1000) : (univ cs top oct all st).length ≤ 200000 := by
  unfold univ
  rw [List.length_append]
  cases all with
  | false =>
    rw [if_neg Bool.false_ne_true]
    have := flat_lenS (G := ledK cs top oct) (k := 100) (fun p => Nat.le_trans (ledK_len cs top oct p) hc) st
    omega
  | true =>
    rw [if_pos rfl]
    have h1 := h1 rfl
    have := flat_lenS (G := fun t : Tr3 => (List.range (top + 1).toNat).map fun (k : Nat) => (t.2.1, (k : Int))) (k := 1001) (fun t => by rw [List.length_map, List.length_range]; omega) cs
    omega
/-- what holds between two turns; act: the spots that have been, or still are to be, gone on from -/
structure Bet (cs : List Tr3) (top oct : Int) (all : Bool) (st fnd wt : List Sp2) : Prop where
  nd : fnd.Nodup
  un : ∀ q ∈ fnd, q ∈ univ cs top oct all st
  b1 : ∀ q ∈ st, q ∈ fnd
  b2 : ∀ q ∈ fnd, OnW cs top oct all st q
  b3 : ∀ q ∈ wt, if all = true then q ∈ fnd else q ∈ st
/-- .. ex: but for the spot ex -/
def Clo (cs : List Tr3) (top oct : Int) (all : Bool) (st fnd wt : List Sp2) (ex : Sp2 → Prop) : Prop := ∀ p, (if all = true then p ∈ fnd else p ∈ st) → ex p ∨ p ∈ wt ∨ ∀ q ∈ ledK cs top oct p, q ∈ fnd
section
variable {cs : List Tr3} {top oct : Int} {all : Bool} {st fnd wt : List Sp2}
theorem Bet.le (b : Bet cs top oct all st fnd wt) : fnd.length ≤ (univ cs top oct all st).length := nodup_le b.nd b.un
theorem Bet.last (b : Bet cs top oct all st fnd []) (c : Clo cs top oct all st fnd [] fun _ => False) : ∀ q, q ∈ fnd ↔ OnW cs top oct all st q := by
  intro q
  refine ⟨b.b2 q, fun h => ?_⟩
  unfold OnW at h
  unfold Clo at c
  cases all with
  | true =>
    rw [if_pos rfl] at h
    induction h with
    | base hp => exact b.b1 _ hp
    | step h1 h2 ih =>
      rcases c _ (by rw [if_pos rfl]; exact ih) with h3 | h3 | h3
      · exact h3.elim
      · cases h3
      · exact h3 _ h2
  | false =>
    rw [if_neg Bool.false_ne_true] at h
    rcases h with h | ⟨p, hp, h⟩
    · exact b.b1 _ h
    · rcases c p (by rw [if_neg Bool.false_ne_true]; exact hp) with h3 | h3 | h3
      · exact h3.elim
      · cases h3
      · exact h3 _ h
theorem OnW.base {q : Sp2} (h : q ∈ st) : OnW cs top oct all st q := by
  unfold OnW
  split
  · exact .base h
  · exact .inl h
/-- a spot led to from p is put in -/
theorem Bet.put {p q : Sp2} (b : Bet cs top oct all st fnd wt) (hp : if all = true then p ∈ fnd else p ∈ st) (hq : q ∈ ledK cs top oct p) (hn : q ∉ fnd) : Bet cs top oct all st (fnd ++ [q]) (if all = true then wt ++ [q] else wt) := by
  refine ⟨?_, ?_, fun r hr => List.mem_append_left _ (b.b1 r hr), ?_, ?_⟩
  · rw [List.nodup_append]
    exact ⟨b.nd, by simp, fun a ha c hc e => by simp at hc; subst hc; subst e; exact hn ha⟩
  · intro r hr
    rcases List.mem_append.mp hr with hr | hr
    · exact b.un r hr
    · simp at hr; subst hr; exact led_univ (by cases all with | true => exact .inl rfl | false => exact .inr (by rw [if_neg Bool.false_ne_true] at hp; exact hp)) hq
  · intro r hr
    rcases List.mem_append.mp hr with hr | hr
    · exact b.b2 r hr
    · simp at hr; subst hr
      unfold OnW
      cases all with
      | true =>
        rw [if_pos rfl] at hp ⊢
        have := b.b2 p hp
        unfold OnW at this
        rw [if_pos rfl] at this
        exact .step this hq
      | false =>
        rw [if_neg Bool.false_ne_true] at hp ⊢
        exact .inr ⟨p, hp, hq⟩
  · intro r hr
    cases all with
    | true =>
      rw [if_pos rfl] at hr ⊢
      rcases List.mem_append.mp hr with hr | hr
      · have := b.b3 r hr
        rw [if_pos rfl] at this
        exact List.mem_append_left _ this
      · exact List.mem_append_right _ hr
    | false =>
      rw [if_neg Bool.false_ne_true] at hr ⊢
      have := b.b3 r hr
      rw [if_neg Bool.false_ne_true] at this
      exact this
theorem Clo.put {p q : Sp2} (c : Clo cs top oct all st fnd wt (· = p)) : Clo cs top oct all st (fnd ++ [q]) (if all = true then wt ++ [q] else wt) (· = p) := by
  intro r hr
  cases all with
  | true =>
    rw [if_pos rfl] at hr ⊢
    rcases List.mem_append.mp hr with hr | hr
    · rcases c r (by rw [if_pos rfl]; exact hr) with h | h | h
      · exact .inl h
      · exact .inr (.inl (List.mem_append_left _ h))
      · exact .inr (.inr fun z hz => List.mem_append_left _ (h z hz))
    · exact .inr (.inl (List.mem_append_right _ hr))
  | false =>
    rw [if_neg Bool.false_ne_true] at hr ⊢
    rcases c r (by rw [if_neg Bool.false_ne_true]; exact hr) with h | h | h
    · exact .inl h
    · exact .inr (.inl h)
    · exact .inr (.inr fun z hz => List.mem_append_left _ (h z hz))
/-- the spot p is taken off -/
theorem Bet.pop {p : Sp2} {w : List Sp2} (b : Bet cs top oct all st fnd (w ++ [p])) : Bet cs top oct all st fnd w ∧ if all = true then p ∈ fnd else p ∈ st :=
  ⟨⟨b.nd, b.un, b.b1, b.b2, fun q hq => b.b3 q (List.mem_append_left _ hq)⟩, b.b3 p (List.mem_append_right _ List.mem_cons_self)⟩
theorem Clo.pop {p : Sp2} {w : List Sp2} (c : Clo cs top oct all st fnd (w ++ [p]) fun _ => False) : Clo cs top oct all st fnd w (· = p) := by
  intro r hr
  rcases c r hr with h | h | h
  · exact h.elim
  · rcases List.mem_append.mp h with h | h
    · exact .inr (.inl h)
    · simp at h; exact .inl h
  · exact .inr (.inr h)
/-- .. all that p leads to is in -/
theorem Clo.close {p : Sp2} (c : Clo cs top oct all st fnd wt (· = p)) (h : ∀ q ∈ ledK cs top oct p, q ∈ fnd) : Clo cs top oct all st fnd wt fun _ => False := by
  intro r hr
  rcases c r hr with e | h1 | h1
  · subst e; exact .inr (.inr h)
  · exact .inr (.inl h1)
  · exact .inr (.inr h1)
end
end Wk
end
section
set_option maxRecDepth 100000
set_option maxHeartbeats 4000000
set_option autoImplicit false
namespace Wk
open PySem Mi
local macro_rules | `(tactic| walk_at "mi") => `(tactic| simp only [wX_fn, wS_seq, wS_set, wS_ret, wS_expr, wS_pass, wS_if, wS_put, wX_var, wX_c, wX_2, wX_3, wX_anil, wX_acons, wX_tup, wX_lst, wX_dict, wX_b, wX_meth, wX_call, wX_if, wX_t1, wX_and2, wX_or2, wX_not1, wX_true, wX_neg, wX_oN, wX_oS, wX_not, wX_and, wX_or, wX_is, wX_cut, wX_fld, wS_for, wX_ok, wX_no, wO_some, wO_none, wS_nx, wS_rt, List.map_cons, List.map_nil, List.cons_append, List.nil_append, List.append_nil, List.replicate_succ, List.replicate_zero, List.set_cons_zero, List.set_cons_succ, List.getElem?_cons_zero, List.getElem?_cons_succ, List.getElem?_nil, List.length_cons, List.length_nil, Nat.reduceSub, Nat.reduceAdd, Nat.zero_add, Nat.add_zero, if_true, if_false, ite_true, ite_false, reduceIte, Bool.false_eq_true, Bool.not_true, Bool.not_false, ← Nat.add_assoc, reduceCtorEq, List.length_append])
theorem led_end {f t : Int} : (match D.bl (decide (0 ≤ f)) with
    | .bl true => if decide (f ≤ t) = true then D.int f = optD (if 0 ≤ f ∧ f ≤ t then some f else none) else D.non = optD (if 0 ≤ f ∧ f ≤ t then some f else none)
    | .bl false => D.non = optD (if 0 ≤ f ∧ f ≤ t then some f else none)
    | _ => False) := by
  by_cases h1 : 0 ≤ f <;> by_cases h2 : f ≤ t <;> simp [h1, h2, optD]
theorem law_led_w {n : Nat} {M : Hs} {x0 x1 x2 x3 : D} (p s t o : Int) (h : M[n]? = some (.lst [x0, x1, x2, x3, .int o])) : wX (f__law_led [.ref n, .int t, .int p, .int s] M) fun d M' => d = optD (ledP p s t o) ∧ M' = M := by
  have h4 : gIxA (.ref n) (.int 4) M = some (.int o, M) := g_ixL (i := 4) h rfl
  unfold f__law_led
  walk_at "mi"
  simp only [g_add, g_sub, g_lt, g_le, g_gt, g_ge, wO_some, h4]
  unfold ledP
  by_cases h1 : 0 < o <;> by_cases h2 : p + s < 0 <;> by_cases h3 : t < p + s <;> simp only [h1, h2, h3, decide_true, decide_false, if_true, if_false, Bool.false_eq_true, and_self, and_true, and_false, true_and, false_and] <;> exact led_end
theorem g_eqS {x y : Str} (hx : SeqAt.shaped (.str x) = true) (hy : SeqAt.shaped (.str y) = true) (M : Hs) : gEq (.str x) (.str y) M = some (.bl (decide (x = y)), M) := by
  have e1 : toPD M deep (.str x) = some (.str x) := rfl
  have e2 : toPD M deep (.str y) = some (.str y) := rfl
  have e3 : PyData.eqv (.str x) (.str y) = decide (x = y) := by
    simp only [PyData.eqv]
    by_cases h : x = y <;> simp [h]
  unfold gEq gEqB
  rw [e1, e2]
  dsimp only
  rw [hx, hy, e3]
  rfl
theorem g_all {ch : Str} (h : ch = "all" ∨ ch = "pressed") (M : Hs) : gEq (.str ch) (.str "all") M = some (.bl (decide (ch = "all")), M) :=
  g_eqS (by rcases h with rfl | rfl <;> decide +kernel) (by decide +kernel) M
def addAll (st : List Sp2) : List Sp2 := st.foldl addS []
theorem addAll_snoc (st : List Sp2) (p : Sp2) : addAll (st ++ [p]) = addS (addAll st) p := by unfold addAll; rw [List.foldl_append]; rfl
theorem mem_addAll {st : List Sp2} {p : Sp2} : p ∈ addAll st ↔ p ∈ st := by
  have key : ∀ (st acc : List Sp2), p ∈ st.foldl addS acc ↔ p ∈ acc ∨ p ∈ st := by
    intro st
    induction st with
    | nil => intro acc; simp
    | cons q st ih => intro acc; rw [List.foldl_cons, ih, mem_addS, List.mem_cons, or_assoc]
  unfold addAll
  rw [key]
  simp
theorem nd_addAll (st : List Sp2) : (addAll st).Nodup := by
  have key : ∀ (st acc : List Sp2), acc.Nodup → (st.foldl addS acc).Nodup := by
    intro st
    induction st with
    | nil => intro acc h; exact h
    | cons q st ih => intro acc h; exact ih _ (nodup_addS h)
  exact key st [] List.nodup_nil
theorem len_addAll (st : List Sp2) : (addAll st).length ≤ st.length := nodup_le (nd_addAll st) fun x h => mem_addAll.mp h
theorem take_snoc {α : Type} {xs : List α} {i : Nat} (h : i < xs.length) : xs.take (i + 1) = xs.take i ++ [xs[i]] := by rw [List.take_succ, List.getElem?_eq_getElem h]; rfl
theorem bet_start {cs : List Tr3} {top oct : Int} {all : Bool} {st : List Sp2} : Bet cs top oct all st (addAll st) st ∧ Clo cs top oct all st (addAll st) st fun _ => False := by
  refine ⟨⟨nd_addAll st, fun q hq => List.mem_append_left _ (mem_addAll.mp hq), fun q hq => mem_addAll.mpr hq, fun q hq => OnW.base (mem_addAll.mp hq), fun q hq => ?_⟩, fun r hr => .inr (.inl ?_)⟩
  · split
    · exact mem_addAll.mpr hq
    · exact hq
  · split at hr
    · exact mem_addAll.mp hr
    · exact hr
theorem g_last {M : Hs} {n : Nat} {xs : List D} {d : D} (h : M[n]? = some (.lst (xs ++ [d]))) : gIxA (.ref n) (.int (-1)) M = some (d, M) := by
  have e : gIxA (.ref n) (.int (-1)) M = gIx (.ref n) (.int (-1)) M := by simp [gIxA, hDct, h]
  have e3 : L2.atI (xs ++ [d]) (-1) = some d := by
    have e1 : (-1 + ((xs ++ [d]).length : Int)).toNat = xs.length := by rw [List.length_append, List.length_singleton]; omega
    unfold L2.atI L2.ixN
    rw [if_neg (by omega), if_pos (by rw [List.length_append, List.length_singleton]; omega), e1]
    simp
  rw [e]
  unfold gIx
  rw [seq_lst h]
  dsimp only
  rw [e3]
theorem g_cutL {M : Hs} {n : Nat} {xs : List D} {d : D} (h : M[n]? = some (.lst (xs ++ [d]))) : gCut (.ref n) none (some (-1)) M = some (.ref M.length, M ++ [.lst xs]) := by
  have e : cutD (xs ++ [d]) none (some (-1)) = xs := by
    unfold cutD HT.sIx
    dsimp only
    rw [if_pos (by omega)]
    have e1 : (-1 + ((xs ++ [d]).length : Int)).toNat = xs.length := by rw [List.length_append, List.length_singleton]; omega
    rw [e1]
    simp
  unfold gCut
  dsimp only
  rw [seq_lst h]
  dsimp only
  rw [e]
theorem law_on_w {M : Hs} {t np : Nat} {many : Int} {cs rs : List Tr3} {ch : Str} {oct : Int} (tt : Tt M t many cs rs ch oct) (hch : ch = "all" ∨ ch = "pressed") (hc : cs.length ≤ 100) (top : Int) (h0 : 0 ≤ top) (h1 : ch = "all" → top ≤ 1000) (st : List Sp2) (hst : st.length ≤ 1000)
    (hp : M[np]? = some (.lst (st.map prD))) : wX (f__law_on [.ref t, .int top, .ref np] M) fun d M' => ∃ n xs, d = .ref n ∧ M'[n]? = some (.lst ((srtB SrtO.lexB xs).map prD)) ∧ xs.Nodup ∧ (∀ q, q ∈ xs ↔ OnW cs top oct (decide (ch = "all")) st q) ∧ Fr No M M' ∧ M.length ≤ n := by
  have hU := univ_len (cs := cs) (st := st) (oct := oct) (all := decide (ch = "all")) h0 (fun h => h1 (of_decide_eq_true h)) hc hst
  have hsz := size1
  unfold f__law_on
  try walk_at "mi"
  rw [if_pos (Nat.zero_le _)]
  unfold ySeq
  simp only [wX_bind, wX_var, wX_ok, List.getElem?_cons_zero, List.getElem?_cons_succ]
  have fr0 : Fr No M (M ++ [MO.dct []] ++ [MO.lst []]) := (Fr.push M _).pushHi
  rw [seq_lst (fr0.get hp id)]
  dsimp only [wX_ok]
  try walk_at "mi"
  refine wS_forN (I := fun i ζ M' => (∃ a b c d e, ζ = [some (.ref t), some (.int top), some (.ref np), some (.ref M.length), some (.ref (M.length + 1)), a, b, c, d, e]) ∧ Fr No M M' ∧ M'[M.length]? = some (.dct (setD (addAll (st.take i)))) ∧ M'[M.length + 1]? = some (.lst ((st.take i).map prD))) st.length ?_ ?_ _ 0 _ _ (by simp) (Nat.zero_le _) ⟨⟨_, _, _, _, _, rfl⟩, fr0, by simp [addAll, setD], by simp⟩
  · rintro i ζ M' hi ⟨⟨a, b, c, d, e, rfl⟩, fr, hm, hq⟩
    have hsl : (addAll (st.take i)).length < sizeLine := by
      have h3 := len_addAll (st.take i)
      rw [List.length_take] at h3
      omega
    refine ⟨prD st[i], [(5, prD st[i])], by rw [seq_lst (fr.get hp id)]; simp [hi], rfl, ?_⟩
    simp only [setAll]
    try walk_at "mi"
    rw [g_putS hm hsl]
    dsimp only
    have hq2 : (M'.set M.length (.dct (setD (addS (addAll (st.take i)) st[i]))))[M.length + 1]? = some (.lst ((st.take i).map prD)) := by rw [List.getElem?_set_ne (by omega)]; exact hq
    rw [if_pos (isL hq2).1, g_app hq2 (by rw [List.length_map, List.length_take]; omega)]
    try walk_at "mi"
    refine ⟨⟨_, _, _, _, _, rfl⟩, (fr.setHi (Nat.le_refl _)).setHi (Nat.le_succ _), ?_, ?_⟩
    · rw [List.getElem?_set_ne (by omega), take_snoc hi, addAll_snoc]; exact set_get hm
    · rw [take_snoc hi, List.map_append]; exact set_get hq2
  · rintro ζ M' ⟨⟨a, b, c, d, e, rfl⟩, fr, hm, hq⟩
    refine ⟨by rw [seq_lst (fr.get hp id)]; simp, ?_⟩
    rw [List.take_length] at hm hq
    try walk_at "mi"
    have hb := bet_start (cs := cs) (top := top) (oct := oct) (all := decide (ch = "all")) (st := st)
    refine wS_while (I := fun n ζ M2 => ∃ fnd wt nq a b c d e, ζ = [some (.ref t), some (.int top), some (.ref np), some (.ref M.length), some (.ref nq), a, b, c, d, e] ∧ Fr No M M2 ∧ M2[M.length]? = some (.dct (setD fnd)) ∧ M2[nq]? = some (.lst (wt.map prD)) ∧ M.length < nq ∧
      Bet cs top oct (decide (ch = "all")) st fnd wt ∧ Clo cs top oct (decide (ch = "all")) st fnd wt (fun _ => False) ∧ ((univ cs top oct (decide (ch = "all")) st).length - fnd.length) + wt.length ≤ n ∧ n ≤ 300000) 300000 (by decide) ⟨addAll st, st, _, _, _, _, _, _, rfl, fr, hm, hq, Nat.lt_succ_self _, hb.1, hb.2, by omega, Nat.le_refl _⟩ ?_
    rintro n ζ M2 ⟨fnd, wt, nq, a, b, c, d, e, rfl, fr2, hf, hw, hnq, bet, clo, hn, hN⟩
    try walk_at "mi"
    rw [if_pos (Nat.zero_le _)]
    have hw1 : (M2 ++ [MO.lst []])[nq]? = some (.lst (wt.map prD)) := (Fr.push (S := No) M2 _).get hw id
    have hf1 : (M2 ++ [MO.lst []])[M.length]? = some (.dct (setD fnd)) := (Fr.push (S := No) M2 _).get hf id
    have hnil : (M2 ++ [MO.lst []])[M2.length]? = some (.lst (([] : List Sp2).map prD)) := get_push
    rw [g_neP hw1 hnil]
    try walk_at "mi"
    rcases List.eq_nil_or_concat wt with hwt | ⟨w, p, hwt⟩
    · subst hwt
      simp only [decide_true, Bool.not_true, Bool.false_eq_true, if_false]
      try walk_at "mi"
      have hl : gListA [.ref M.length] (M2 ++ [MO.lst []]) = some (.ref (M2 ++ [MO.lst []]).length, (M2 ++ [MO.lst []]) ++ [.lst (fnd.map prD)]) := by
        have e : hDct (M2 ++ [MO.lst []]) M.length = some (setD fnd) := by unfold hDct; rw [hf1]
        unfold gListA
        dsimp only
        rw [e]
        simp [setD]
      rw [hl]
      try walk_at "mi"
      have hg : (M2 ++ [MO.lst []] ++ [MO.lst (fnd.map prD)])[(M2 ++ [MO.lst []]).length]? = some (.lst (fnd.map prD)) := get_push
      rw [List.length_append, List.length_singleton] at hg
      rw [g_sortedP (items_lst hg)]
      exact ⟨_, fnd, rfl, get_push, bet.nd, bet.last clo, ((fr2.pushHi).pushHi).pushHi, by have := fr2.1; simp; omega⟩
    · rw [List.concat_eq_append] at hwt
      subst hwt
      have hne2 : (w ++ [p] = []) = False := by simp
      simp only [hne2, decide_false, Bool.not_false, if_true]
      have hw1' : (M2 ++ [MO.lst []])[nq]? = some (.lst (w.map prD ++ [prD p])) := by rw [hw1, List.map_append]; rfl
      try walk_at "mi"
      rw [g_last hw1']
      try walk_at "mi"
      rw [g_cutL hw1']
      try walk_at "mi"
      have fr3 : Fr No M (M2 ++ [MO.lst []] ++ [MO.lst (w.map prD)]) := (fr2.pushHi).pushHi
      have hw3 : (M2 ++ [MO.lst []] ++ [MO.lst (w.map prD)])[(M2 ++ [MO.lst []]).length]? = some (.lst (w.map prD)) := get_push
      have hf3 : (M2 ++ [MO.lst []] ++ [MO.lst (w.map prD)])[M.length]? = some (.dct (setD fnd)) := (Fr.push (S := No) _ _).get hf1 id
      have hnq3 : M.length < (M2 ++ [MO.lst []]).length := lt_of_get hf1
      rw [List.length_append, List.length_singleton] at hw3 hnq3
      generalize (M2 ++ [MO.lst []] ++ [MO.lst (w.map prD)]) = M3 at fr3 hw3 hf3 ⊢
      generalize M2.length + 1 = nw at hw3 hnq3 ⊢
      have tt3 : Tt M3 t many cs rs ch oct := fr3.get tt id
      simp only [wX_bind]
      try walk_at "mi"
      rw [g_ixL (i := 1) tt3 rfl]
      try walk_at "mi"
      obtain ⟨bet2, hact⟩ := bet.pop
      have clo2 := clo.pop
      rw [List.length_append, List.length_singleton] at hn
      refine wS_forN (I := fun i ζ M5 => ∃ fnd' wt' b c d e, ζ = [some (.ref t), some (.int top), some (.ref np), some (.ref M.length), some (.ref nw), some (prD p), b, c, d, e] ∧ Fr No M M5 ∧ M5[M.length]? = some (.dct (setD fnd')) ∧ M5[nw]? = some (.lst (wt'.map prD)) ∧
        Bet cs top oct (decide (ch = "all")) st fnd' wt' ∧ Clo cs top oct (decide (ch = "all")) st fnd' wt' (· = p) ∧ (if decide (ch = "all") = true then p ∈ fnd' else p ∈ st) ∧ (∀ q ∈ ledK (cs.take i) top oct p, q ∈ fnd') ∧
        ((univ cs top oct (decide (ch = "all")) st).length - fnd'.length) + wt'.length + 1 ≤ n) cs.length ?_ ?_ _ 0 _ _ (by simp) (Nat.zero_le _) ⟨fnd, w, _, _, _, _, rfl, fr3, hf3, hw3, bet2, clo2, hact, by simp [ledK], by omega⟩
      · rintro i ζ M5 hi ⟨fnd', wt', b, c, d, e, rfl, fr5, hf5, hw5, bet5, clo5, act5, done5, hn5⟩
        have ht : (cs.map trD)[i]? = some (trD cs[i]) := by rw [List.getElem?_map, List.getElem?_eq_getElem hi]; rfl
        refine ⟨_, [(6, .int cs[i].1), (7, .int cs[i].2.1), (8, .int cs[i].2.2)], by rw [ht], rfl, ?_⟩
        have hts : ledK (cs.take (i + 1)) top oct p = ledK (cs.take i) top oct p ++ ledK [cs[i]] top oct p := by rw [take_snoc hi, ledK_snoc]
        have hmem : ∀ q ∈ ledK [cs[i]] top oct p, q ∈ ledK cs top oct p := fun q hq => by
          unfold ledK at hq ⊢
          obtain ⟨x, hx, e⟩ := List.mem_filterMap.mp hq
          simp at hx
          subst hx
          exact List.mem_filterMap.mpr ⟨_, List.getElem_mem hi, e⟩
        simp only [setAll]
        have e0 : gIxA (prD p) (.int 0) M5 = some (.int p.1, M5) := g_ixT (i := 0) rfl
        have e1 : gIxA (prD p) (.int 1) M5 = some (.int p.2, M5) := g_ixT (i := 1) rfl
        have tt5 : Tt M5 t many cs rs ch oct := fr5.get tt id
        try walk_at "mi"
        simp only [e0, e1, g_eqI, wO_some]
        try walk_at "mi"
        have hUb := bet5.le
        have skip : (∀ q ∈ ledK [cs[i]] top oct p, q ∈ fnd') → ∀ q ∈ ledK (cs.take (i + 1)) top oct p, q ∈ fnd' := fun h q hq => by
          rw [hts] at hq
          rcases List.mem_append.mp hq with hq | hq
          · exact done5 q hq
          · exact h q hq
        by_cases h1 : cs[i].1 = p.1
        · simp only [h1, decide_true, if_true]
          refine wX_mono (law_led_w p.2 cs[i].2.2 top oct tt5) fun z M6 ⟨hz, hM⟩ => ?_
          have hM2 := hM.symm
          subst hz
          subst hM2
          cases hk : ledP p.2 cs[i].2.2 top oct with
          | none =>
            have hk2 : ledK [cs[i]] top oct p = [] := by simp [ledK, h1, hk]
            simp only [optD, g_isNotN, wO_some]
            try walk_at "mi"
            exact ⟨fnd', wt', _, _, _, _, rfl, fr5, hf5, hw5, bet5, clo5, act5, skip (by rw [hk2]; simp), hn5⟩
          | some k =>
            have hk2 : ledK [cs[i]] top oct p = [(cs[i].2.1, k)] := by simp [ledK, h1, hk]
            have hq : (cs[i].2.1, k) ∈ ledK cs top oct p := hmem _ (by rw [hk2]; simp)
            simp only [optD, g_isNotI, wO_some]
            try walk_at "mi"
            rw [if_pos (show 2 ≤ sizeLine by decide)]
            have hpr : D.tup [D.int cs[i].2.1, D.int k] = prD (cs[i].2.1, k) := rfl
            rw [hpr, g_inS hf5]
            try walk_at "mi"
            generalize (cs[i].2.1, k) = q at hq hk2 hpr ⊢
            by_cases hin : q ∈ fnd'
            · simp only [hin, decide_true, Bool.not_true, Bool.false_eq_true, if_false]
              try walk_at "mi"
              exact ⟨fnd', wt', _, _, _, _, rfl, fr5, hf5, hw5, bet5, clo5, act5, skip (by rw [hk2]; intro z hz; simp at hz; subst hz; exact hin), hn5⟩
            · simp only [hin, decide_false, Bool.not_false, if_true]
              try walk_at "mi"
              rw [if_pos (show 2 ≤ sizeLine by decide)]
              have bet6 := bet5.put act5 hq hin
              have clo6 := clo5.put (q := q)
              have hU6 := bet6.le
              rw [List.length_append, List.length_singleton] at hU6
              have hadd : addS fnd' q = fnd' ++ [q] := by unfold addS; rw [if_neg hin]
              rw [g_putS hf5 (by omega), hadd]
              dsimp only
              have hf6 : (M5.set M.length (.dct (setD (fnd' ++ [q]))))[M.length]? = some (.dct (setD (fnd' ++ [q]))) := set_get hf5
              have hw6 : (M5.set M.length (.dct (setD (fnd' ++ [q]))))[nw]? = some (.lst (wt'.map prD)) := by rw [List.getElem?_set_ne (by omega)]; exact hw5
              have fr6 : Fr No M (M5.set M.length (.dct (setD (fnd' ++ [q])))) := fr5.setHi (Nat.le_refl _)
              generalize (M5.set M.length (.dct (setD (fnd' ++ [q])))) = M6 at hf6 hw6 fr6 ⊢
              have tt6 : Tt M6 t many cs rs ch oct := fr6.get tt id
              have hact6 : (if decide (ch = "all") = true then p ∈ fnd' ++ [q] else p ∈ st) := by
                split at act5
                · rename_i hx; rw [if_pos hx]; exact List.mem_append_left _ act5
                · rename_i hx; rw [if_neg hx]; exact act5
              have hdone6 : ∀ z ∈ ledK (cs.take (i + 1)) top oct p, z ∈ fnd' ++ [q] := fun z hz => by
                rw [hts] at hz
                rcases List.mem_append.mp hz with hz | hz
                · exact List.mem_append_left _ (done5 z hz)
                · rw [hk2] at hz; exact List.mem_append_right _ hz
              rw [g_ixL (i := 3) tt6 rfl]
              try walk_at "mi"
              rw [g_all hch]
              try walk_at "mi"
              by_cases hc2 : ch = "all"
              · simp only [hc2, decide_true, if_true] at bet6 clo6 hact6 hU6 hn5 hU ⊢
                try walk_at "mi"
                rw [if_pos (isL hw6).1, if_pos (show 2 ≤ sizeLine by decide), g_app hw6 (by rw [List.length_map]; omega)]
                try walk_at "mi"
                refine ⟨fnd' ++ [q], wt' ++ [q], _, _, _, _, rfl, fr6.setHi (Nat.le_of_lt hnq3), ?_, ?_, bet6, clo6, hact6, hdone6, ?_⟩
                · rw [List.getElem?_set_ne (by omega)]; exact hf6
                · rw [List.map_append]; exact set_get hw6
                · rw [List.length_append, List.length_append, List.length_singleton]; omega
              · simp only [hc2, decide_false, Bool.false_eq_true, if_false] at bet6 clo6 hact6 hU6 hn5 hU ⊢
                try walk_at "mi"
                refine ⟨fnd' ++ [q], wt', _, _, _, _, rfl, fr6, hf6, hw6, bet6, clo6, hact6, hdone6, ?_⟩
                rw [List.length_append, List.length_singleton]; omega
        · have hk2 : ledK [cs[i]] top oct p = [] := by simp [ledK, h1]
          simp only [h1, decide_false, Bool.false_eq_true, if_false]
          simp only [g_isNotN, wO_some]
          try walk_at "mi"
          exact ⟨fnd', wt', _, _, _, _, rfl, fr5, hf5, hw5, bet5, clo5, act5, skip (by rw [hk2]; simp), hn5⟩
      · rintro ζ M5 ⟨fnd', wt', b, c, d, e, rfl, fr5, hf5, hw5, bet5, clo5, act5, done5, hn5⟩
        refine ⟨by simp, ?_⟩
        rw [List.take_length] at done5
        exact ⟨((univ cs top oct (decide (ch = "all")) st).length - fnd'.length) + wt'.length, by omega, fnd', wt', _, _, _, _, _, _, rfl, fr5, hf5, hw5, hnq3, bet5, clo5.close done5, Nat.le_refl _, by omega⟩
end Wk
end
section
set_option maxRecDepth 100000
set_option maxHeartbeats 4000000
set_option autoImplicit false
namespace Wk
open PySem Mi
local macro_rules | `(tactic| walk_at "mi") => `(tactic| simp only [wX_fn, wS_seq, wS_set, wS_ret, wS_expr, wS_pass, wS_if, wS_put, wX_var, wX_c, wX_2, wX_3, wX_anil, wX_acons, wX_tup, wX_lst, wX_dict, wX_b, wX_meth, wX_call, wX_if, wX_t1, wX_and2, wX_or2, wX_not1, wX_true, wX_neg, wX_oN, wX_oS, wX_not, wX_and, wX_or, wX_is, wX_cut, wX_fld, wS_for, wX_ok, wX_no, wO_some, wO_none, wS_nx, wS_rt, List.map_cons, List.map_nil, List.cons_append, List.nil_append, List.append_nil, List.replicate_succ, List.replicate_zero, List.set_cons_zero, List.set_cons_succ, List.getElem?_cons_zero, List.getElem?_cons_succ, List.getElem?_nil, List.length_cons, List.length_nil, Nat.reduceSub, Nat.reduceAdd, Nat.zero_add, Nat.add_zero, if_true, if_false, ite_true, ite_false, reduceIte, Bool.false_eq_true, Bool.not_true, Bool.not_false, ← Nat.add_assoc, reduceCtorEq, List.length_append])
theorem size16 : (10000100 : Nat) < sizeLine := by decide
theorem onW_univ {cs : List Tr3} {top oct : Int} {all : Bool} {st : List Sp2} {q : Sp2} (h : OnW cs top oct all st q) : q ∈ univ cs top oct all st := by
  unfold OnW at h
  split at h
  · rename_i ha
    cases h with
    | base hp => exact List.mem_append_left _ hp
    | step _ h2 => exact led_univ (.inl ha) h2
  · rcases h with h | ⟨p, hp, h⟩
    · exact List.mem_append_left _ h
    · exact led_univ (.inr hp) h
theorem on_len {cs : List Tr3} {top oct : Int} {all : Bool} {st xs : List Sp2} (h0 : 0 ≤ top) (h1 : all = true → top ≤ 1000) (hc : cs.length ≤ 100) (hst : st.length ≤ 1000) (nd : xs.Nodup) (hx : ∀ q, q ∈ xs ↔ OnW cs top oct all st q) : (srtB SrtO.lexB xs).length ≤ 200000 := by
  rw [(srtB_perm _ xs).length_eq]
  exact Nat.le_trans (nodup_le nd fun q hq => onW_univ ((hx q).mp hq)) (univ_len h0 h1 hc hst)
theorem len_addS {xs : List Sp2} {p : Sp2} : (addS xs p).length ≤ xs.length + 1 := by
  unfold addS
  split
  · omega
  · simp
theorem ledK_one {cs : List Tr3} {t : Tr3} {top oct : Int} {p : Sp2} : ledK [t] top oct p = if t.1 = p.1 then (match ledP p.2 t.2.2 top oct with
    | some k => [(t.2.1, k)]
    | none => []) else [] := by
  unfold ledK
  by_cases h : t.1 = p.1
  · cases hk : ledP p.2 t.2.2 top oct <;> simp [h, hk]
  · simp [h]
theorem law_heard_w {M : Hs} {t np : Nat} {many : Int} {cs rs : List Tr3} {ch : Str} {oct : Int} (tt : Tt M t many cs rs ch oct) (hch : ch = "all" ∨ ch = "pressed") (hc : cs.length ≤ 100) (hr : rs.length ≤ 50) (top : Int) (h0 : 0 ≤ top) (h1 : ch = "all" → top ≤ 1000) (st : List Sp2) (hst : st.length ≤ 1000)
    (hp : M[np]? = some (.lst (st.map prD))) : wX (f__law_heard [.ref t, .int top, .ref np] M) fun d M' => ∃ n xs, d = .ref n ∧ M'[n]? = some (.lst ((srtB SrtO.lexB xs).map prD)) ∧ xs.Nodup ∧ (∀ q, q ∈ xs ↔ ∃ p, OnW cs top oct (decide (ch = "all")) st p ∧ q ∈ ledK rs top oct p) ∧ Fr No M M' ∧ M.length ≤ n := by
  have hsz := size16
  unfold f__law_heard
  try walk_at "mi"
  unfold ySeq
  simp only [wX_bind]
  try walk_at "mi"
  have fr00 : Fr No M (M ++ [MO.dct []]) := Fr.push M _
  have tt00 : Tt (M ++ [MO.dct []]) t many cs rs ch oct := fr00.get tt id
  refine wX_mono (law_on_w tt00 hch hc top h0 h1 st hst (fr00.get hp id)) ?_
  rintro dd M0 ⟨ns, on, rfl, hs0, ndo, mo, fr01, hns⟩
  have hf0 : M0[M.length]? = some (.dct []) := fr01.get (by simp) id
  have fr0 : Fr No M M0 := fr00.trans fr01
  have hsp := on_len h0 (fun h => h1 (of_decide_eq_true h)) hc hst ndo mo
  have hmo : ∀ q, q ∈ srtB SrtO.lexB on ↔ OnW cs top oct (decide (ch = "all")) st q := fun q => by rw [srt_mem]; exact mo q
  generalize srtB SrtO.lexB on = sp at hs0 hsp hmo
  dsimp only
  rw [seq_lst hs0]
  dsimp only [wX_ok]
  try walk_at "mi"
  refine wS_forN (I := fun i ζ M' => ∃ fnd a b c d e f, ζ = [some (.ref t), some (.int top), some (.ref np), some (.ref M.length), a, b, c, d, e, f] ∧ Fr No M M' ∧ M'[ns]? = some (.lst (sp.map prD)) ∧ M'[M.length]? = some (.dct (setD fnd)) ∧ fnd.Nodup ∧ fnd.length ≤ 50 * i ∧
    (∀ q, q ∈ fnd ↔ ∃ p ∈ sp.take i, q ∈ ledK rs top oct p)) sp.length ?_ ?_ _ 0 _ _ (by simp) (Nat.zero_le _) ⟨[], _, _, _, _, _, _, rfl, fr0, hs0, hf0, List.nodup_nil, by simp, by simp⟩
  · rintro i ζ M1 hi ⟨fnd, a, b, c, d, e, f, rfl, fr1, hs1, hm1, nd1, ln1, me1⟩
    refine ⟨prD sp[i], [(4, .int sp[i].1), (5, .int sp[i].2)], by rw [seq_lst hs1]; simp [hi], rfl, ?_⟩
    have htk : ∀ z, z ∈ sp.take (i + 1) ↔ z ∈ sp.take i ∨ z = sp[i] := fun z => by rw [take_snoc hi, List.mem_append, List.mem_singleton]
    generalize sp[i] = p at htk ⊢
    simp only [setAll]
    try walk_at "mi"
    have tt1 : Tt M1 t many cs rs ch oct := fr1.get tt id
    simp only [wX_bind]
    try walk_at "mi"
    rw [g_ixL (i := 2) tt1 rfl]
    try walk_at "mi"
    refine wS_forN (I := fun j ζ M' => ∃ fnd' c d e f, ζ = [some (.ref t), some (.int top), some (.ref np), some (.ref M.length), some (.int p.1), some (.int p.2), c, d, e, f] ∧ Fr No M M' ∧ M'[ns]? = some (.lst (sp.map prD)) ∧ M'[M.length]? = some (.dct (setD fnd')) ∧ fnd'.Nodup ∧ fnd'.length ≤ 50 * i + j ∧
      (∀ q, q ∈ fnd' ↔ (∃ p ∈ sp.take i, q ∈ ledK rs top oct p) ∨ q ∈ ledK (rs.take j) top oct p)) rs.length ?_ ?_ _ 0 _ _ (by simp) (Nat.zero_le _) ⟨fnd, _, _, _, _, rfl, fr1, hs1, hm1, nd1, by omega, fun q => by rw [me1]; simp [ledK]⟩
    · rintro j ζ M2 hj ⟨fnd', c, d, e, f, rfl, fr2, hs2, hm2, nd2, ln2, me2⟩
      have ht : (rs.map trD)[j]? = some (trD rs[j]) := by rw [List.getElem?_map, List.getElem?_eq_getElem hj]; rfl
      refine ⟨_, [(6, .int rs[j].1), (7, .int rs[j].2.1), (8, .int rs[j].2.2)], by rw [ht], rfl, ?_⟩
      have hone := ledK_one (cs := rs) (t := rs[j]) (top := top) (oct := oct) (p := p)
      have hts : ledK (rs.take (j + 1)) top oct p = ledK (rs.take j) top oct p ++ ledK [rs[j]] top oct p := by rw [take_snoc hj, ledK_snoc]
      have tt2 : Tt M2 t many cs rs ch oct := fr2.get tt id
      simp only [setAll]
      try walk_at "mi"
      simp only [g_eqI, wO_some]
      try walk_at "mi"
      by_cases h1 : rs[j].1 = p.1
      · simp only [h1, decide_true, if_true]
        rw [if_pos h1] at hone
        refine wX_mono (law_led_w p.2 rs[j].2.2 top oct tt2) fun z M6 ⟨hz, hM⟩ => ?_
        have hM2 := hM.symm
        subst hz
        subst hM2
        cases hk : ledP p.2 rs[j].2.2 top oct with
        | none =>
          rw [hk] at hone
          simp only [optD, g_isNotN, wO_some]
          try walk_at "mi"
          exact ⟨fnd', _, _, _, _, rfl, fr2, hs2, hm2, nd2, by omega, fun q => by rw [me2, hts, hone]; simp⟩
        | some k =>
          rw [hk] at hone
          simp only [optD, g_isNotI, wO_some]
          try walk_at "mi"
          have hpr : D.tup [D.int rs[j].2.1, D.int k] = prD (rs[j].2.1, k) := rfl
          rw [if_pos (show 2 ≤ sizeLine by decide), hpr, g_putS hm2 (by omega)]
          refine ⟨addS fnd' (rs[j].2.1, k), _, _, _, _, rfl, fr2.setHi (Nat.le_refl _), by rw [List.getElem?_set_ne (by have := fr00.1; simp at this; simp at hns; omega)]; exact hs2, set_get hm2, nodup_addS nd2, ?_, fun q => ?_⟩
          · have := len_addS (xs := fnd') (p := (rs[j].2.1, k))
            omega
          · rw [mem_addS, me2, hts, hone, List.mem_append, or_assoc]
            simp
      · simp only [h1, decide_false, Bool.false_eq_true, if_false]
        rw [if_neg h1] at hone
        simp only [g_isNotN, wO_some]
        try walk_at "mi"
        exact ⟨fnd', _, _, _, _, rfl, fr2, hs2, hm2, nd2, by omega, fun q => by rw [me2, hts, hone]; simp⟩
    · rintro ζ M2 ⟨fnd', c, d, e, f, rfl, fr2, hs2, hm2, nd2, ln2, me2⟩
      refine ⟨by simp, ?_⟩
      rw [List.take_length] at me2
      refine ⟨fnd', _, _, _, _, _, _, rfl, fr2, hs2, hm2, nd2, by omega, fun q => ?_⟩
      rw [me2]
      constructor
      · rintro (⟨z, hz, h⟩ | h)
        · exact ⟨z, (htk z).mpr (.inl hz), h⟩
        · exact ⟨p, (htk p).mpr (.inr rfl), h⟩
      · rintro ⟨z, hz, h⟩
        rcases (htk z).mp hz with h2 | h2
        · exact .inl ⟨z, h2, h⟩
        · subst h2; exact .inr h
  · rintro ζ M1 ⟨fnd, a, b, c, d, e, f, rfl, fr1, hs1, hm1, nd1, ln1, me1⟩
    refine ⟨by rw [seq_lst hs1]; simp, ?_⟩
    rw [List.take_length] at me1
    try walk_at "mi"
    have hl : gListA [.ref M.length] M1 = some (.ref M1.length, M1 ++ [.lst (fnd.map prD)]) := by
      have e : hDct M1 M.length = some (setD fnd) := by unfold hDct; rw [hm1]
      unfold gListA
      dsimp only
      rw [e]
      simp [setD]
    rw [hl]
    try walk_at "mi"
    have hg : (M1 ++ [MO.lst (fnd.map prD)])[M1.length]? = some (.lst (fnd.map prD)) := get_push
    rw [g_sortedP (items_lst hg)]
    refine ⟨_, fnd, rfl, get_push, nd1, fun q => ?_, fr1.pushHi.pushHi, by have := fr1.1; simp; omega⟩
    rw [me1]
    constructor
    · rintro ⟨p, hp, h⟩; exact ⟨p, (hmo p).mp hp, h⟩
    · rintro ⟨p, hp, h⟩; exact ⟨p, (hmo p).mpr hp, h⟩
end Wk
end
section
set_option maxRecDepth 100000
set_option maxHeartbeats 4000000
set_option autoImplicit false
namespace Wk
open PySem Mi
local macro_rules | `(tactic| walk_at "mi") => `(tactic| simp only [wX_fn, wS_seq, wS_set, wS_ret, wS_expr, wS_pass, wS_if, wS_put, wX_var, wX_c, wX_2, wX_3, wX_anil, wX_acons, wX_tup, wX_lst, wX_dict, wX_b, wX_meth, wX_call, wX_if, wX_t1, wX_and2, wX_or2, wX_not1, wX_true, wX_neg, wX_oN, wX_oS, wX_not, wX_and, wX_or, wX_is, wX_cut, wX_fld, wS_for, wX_ok, wX_no, wO_some, wO_none, wS_nx, wS_rt, List.map_cons, List.map_nil, List.cons_append, List.nil_append, List.append_nil, List.replicate_succ, List.replicate_zero, List.set_cons_zero, List.set_cons_succ, List.getElem?_cons_zero, List.getElem?_cons_succ, List.getElem?_nil, List.length_cons, List.length_nil, Nat.reduceSub, Nat.reduceAdd, Nat.zero_add, Nat.add_zero, if_true, if_false, ite_true, ite_false, reduceIte, Bool.false_eq_true, Bool.not_true, Bool.not_false, ← Nat.add_assoc, reduceCtorEq, List.length_append])
theorem shaped_ts (xs : List Tr3) : SeqAt.shaped (.list (xs.map pdT)) = true := by
  have h1 : PyData.canLayAll0 (xs.map pdT) = true ∧ PyData.depthAll (xs.map pdT) ≤ 3 := by
    induction xs with
    | nil => simp [PyData.canLayAll0, PyData.depthAll]
    | cons x xs ih => simp [PyData.canLayAll0, PyData.canLay0, PyData.depthAll, PyData.depth, pdT, ih.1]; have := ih.2; omega
  unfold SeqAt.shaped
  simp [PyData.canLay0, PyData.depth, h1.1]
  have := h1.2
  omega
theorem g_neT {m n : Nat} {xs : List Tr3} {M : Hs} (h1 : M[m]? = some (.lst (xs.map trD))) (h2 : M[n]? = some (.lst [])) : gNe (.ref m) (.ref n) M = some (.bl (!decide (xs = [])), M) := by
  have e : deep = 11 + 1 := rfl
  have e1 : toPD M deep (.ref m) = some (.list (xs.map pdT)) := by rw [e, pd_ref M 11 m _ h1, pd_trDs M 9 xs]
  have e2 : toPD M deep (.ref n) = some (.list (([] : List Tr3).map pdT)) := by rw [e, pd_ref M 11 n _ h2]; rfl
  have e3 : PyData.eqv (.list (xs.map pdT)) (.list (([] : List Tr3).map pdT)) = decide (xs = []) := by cases xs <;> simp [PyData.eqv, PyData.eqvAll]
  unfold gNe gEqB
  rw [e1, e2]
  dsimp only
  rw [shaped_ts, shaped_ts, e3]
  rfl
theorem erase_map {α β : Type} (f : α → β) : ∀ (xs : List α) (i : Nat), (xs.map f).eraseIdx i = (xs.eraseIdx i).map f
  | [], _ => rfl
  | _ :: _, 0 => rfl
  | x :: xs, i + 1 => by
    simp only [List.map_cons, List.eraseIdx_cons_succ, erase_map f xs i]
theorem erase_perm {α : Type} : ∀ (xs : List α) (i : Nat) (h : i < xs.length), (xs[i] :: xs.eraseIdx i).Perm xs
  | [], _, h => by simp at h
  | _ :: _, 0, _ => .refl _
  | x :: xs, i + 1, h => by
    have ih := erase_perm xs i (by simpa using h)
    simp only [List.getElem_cons_succ, List.eraseIdx_cons_succ]
    exact (List.Perm.swap x _ _).trans (ih.cons x)
theorem law_some_w {M : Hs} (hd : Hd M) {t : Nat} {xs : List Tr3} (ht : 2 ≤ t) (hx : M[t]? = some (.lst (xs.map trD))) (nd : xs.Nodup) (hl : xs.length ≤ 1000) (m : Int) (hm : 0 ≤ m) (hm2 : m ≤ 1000) :
    wX (f__law_some [.ref 1, .ref t, .int m] M) fun d M' => ∃ ys : List Tr3, d = .tup (ys.map trD) ∧ ys.Nodup ∧ (∀ y ∈ ys, y ∈ xs) ∧ ys.length = min m.toNat xs.length ∧ Hd M' ∧ Fr H2 M M' := by
  have hsz := size1
  have hM2 : 2 ≤ M.length := Nat.le_of_lt (Nat.lt_of_le_of_lt ht (lt_of_get hx))
  unfold f__law_some
  try walk_at "mi"
  rw [g_listL hx]
  try walk_at "mi"
  rw [if_pos (Nat.zero_le _)]
  unfold yRg1
  simp only [wX_bind]
  try walk_at "mi"
  have hok : okRg m = true := okRg_mk (by omega) (by omega)
  rw [if_pos hok]
  dsimp only [wX_ok, yRg]
  have fr0 : Fr No M (M ++ [MO.lst (xs.map trD)] ++ [MO.lst []]) := (Fr.push M _).pushHi
  refine wS_forN (I := fun i ζ M' => ∃ (L F : List Tr3) (a : Option D), ζ = [some (.ref 1), some (.ref t), some (.int m), some (.ref M.length), some (.ref (M.length + 1)), a] ∧ Fr H2 M M' ∧ Hd M' ∧ M'[M.length]? = some (.lst (L.map trD)) ∧ M'[M.length + 1]? = some (.lst (F.map trD)) ∧
    (F ++ L).Nodup ∧ (∀ y ∈ F ++ L, y ∈ xs) ∧ F.length + L.length = xs.length ∧ F.length = min i xs.length) m.toNat ?_ ?_ _ 0 _ _ (by omega) (Nat.zero_le _) ⟨xs, [], _, rfl, fr0.imp fun _ _ h => h.elim, hd.fr fr0, by simp, by simp, by simpa using nd, by simp, by simp, by simp⟩
  · rintro i ζ M1 hi ⟨L, F, a, rfl, fr1, hd1, hL, hF, nd1, in1, ln1, lf1⟩
    refine ⟨.int (0 + (i : Int)), [(5, .int (0 + (i : Int)))], by rw [if_pos hi], rfl, ?_⟩
    simp only [setAll]
    try walk_at "mi"
    rw [if_pos (Nat.zero_le _)]
    have frn : Fr No M1 (M1 ++ [MO.lst []]) := Fr.push _ _
    have hL2 : (M1 ++ [MO.lst []])[M.length]? = some (.lst (L.map trD)) := frn.get hL id
    have hF2 : (M1 ++ [MO.lst []])[M.length + 1]? = some (.lst (F.map trD)) := frn.get hF id
    rw [g_neT hL2 get_push]
    try walk_at "mi"
    have fr2 : Fr H2 M (M1 ++ [MO.lst []]) := fr1.trans (Fr.push _ _)
    have hd2 := hd1.fr frn
    generalize (M1 ++ [MO.lst []]) = M2 at fr2 hd2 hL2 hF2 ⊢
    by_cases hLn : L = []
    · simp only [hLn, decide_true, Bool.not_true, Bool.false_eq_true, if_false]
      try walk_at "mi"
      subst hLn
      exact ⟨[], F, _, rfl, fr2, hd2, hL2, hF2, nd1, in1, ln1, by simp at ln1; omega⟩
    · simp only [hLn, decide_false, Bool.not_false, if_true]
      have hLp : 0 < L.length := List.length_pos_iff.mpr hLn
      try walk_at "mi"
      rw [if_pos (isL hF2).1, if_pos (isL hL2).1, g_lenL hL2]
      try walk_at "mi"
      refine wX_mono (law_next_w hd2 _ (by simp; omega) (by simp; omega)) ?_
      rintro d M3 ⟨r, rfl, hr0, hr1, hd3, fr3⟩
      rw [List.length_map] at hr1
      have hL3 : M3[M.length]? = some (.lst (L.map trD)) := fr3.get hL2 (by unfold H2; omega)
      have hF3 : M3[M.length + 1]? = some (.lst (F.map trD)) := fr3.get hF2 (by unfold H2; omega)
      have hrl : r.toNat < L.length := by omega
      have hpop : gPopAt (.ref M.length) [.int r] M3 = some (trD L[r.toNat], M3.set M.length (.lst ((L.eraseIdx r.toNat).map trD))) := by
        unfold gPopAt
        dsimp only
        rw [(isL hL3).2]
        dsimp only
        rw [if_pos hr0, List.getElem?_map, List.getElem?_eq_getElem hrl]
        dsimp only [Option.map]
        congr 3
        rw [erase_map]
      rw [hpop]
      try walk_at "mi"
      have hF4 : (M3.set M.length (MO.lst ((L.eraseIdx r.toNat).map trD)))[M.length + 1]? = some (.lst (F.map trD)) := by rw [List.getElem?_set_ne (by omega)]; exact hF3
      have hln : (F.map trD).length < sizeLine := by rw [List.length_map]; omega
      rw [g_app hF4 hln]
      try walk_at "mi"
      have hperm : (L[r.toNat] :: L.eraseIdx r.toNat).Perm L := erase_perm L _ hrl
      have hperm2 : ((F ++ [L[r.toNat]]) ++ L.eraseIdx r.toNat).Perm (F ++ L) := by
        rw [List.append_assoc]
        exact List.Perm.append_left F hperm
      have hel := hperm.length_eq
      simp only [List.length_cons] at hel
      refine ⟨L.eraseIdx r.toNat, F ++ [L[r.toNat]], _, rfl, ?_, ?_, ?_, ?_, hperm2.nodup_iff.mpr nd1, fun y hy => in1 y (hperm2.mem_iff.mp hy), ?_, ?_⟩
      · refine ((fr2.trans fr3).setHi (Nat.le_refl _)).setHi (Nat.le_succ _)
      · obtain ⟨s, j, zs, z1, z2, z3⟩ := hd3
        exact ⟨s, j, zs, by rw [List.getElem?_set_ne (by omega), List.getElem?_set_ne (by omega)]; exact z1, by rw [List.getElem?_set_ne (by omega), List.getElem?_set_ne (by omega)]; exact z2, z3⟩
      · rw [List.getElem?_set_ne (by omega)]; exact set_get hL3
      · rw [List.map_append]; exact set_get hF4
      · simp only [List.length_append, List.length_singleton]; omega
      · simp only [List.length_append, List.length_singleton]; omega
  · rintro ζ M1 ⟨L, F, a, rfl, fr1, hd1, hL, hF, nd1, in1, ln1, lf1⟩
    refine ⟨by rw [if_neg (by omega)], ?_⟩
    try walk_at "mi"
    have e : gTuple [.ref (M.length + 1)] M1 = some (.tup (F.map trD), M1) := by
      unfold gTuple
      dsimp only
      rw [seq_lst hF]
    rw [e]
    exact ⟨F, rfl, (List.nodup_append.mp nd1).1, fun y hy => in1 y (List.mem_append_left _ hy), lf1, hd1, fr1⟩
theorem okRg_small {k : Int} (h0 : 0 ≤ k) (h1 : k ≤ 1000) : okRg k = true := okRg_mk (by omega) (by omega)
def rowN (ok : Int → Bool) (a b : Int) (i : Nat) : List Tr3 := (List.range i).filterMap fun (k : Nat) => if ok (-2 + (k : Int)) = true then some (a, b, -2 + (k : Int)) else none
theorem rowN_succ (ok : Int → Bool) (a b : Int) (i : Nat) : rowN ok a b (i + 1) = rowN ok a b i ++ if ok (-2 + (i : Int)) = true then [(a, b, -2 + (i : Int))] else [] := by
  unfold rowN
  rw [List.range_succ, List.filterMap_append]
  congr 1
  by_cases h : ok (-2 + (i : Int)) = true <;> simp [h]
theorem rowN_len (ok : Int → Bool) (a b : Int) (i : Nat) : (rowN ok a b i).length ≤ i := by
  have := List.length_filterMap_le (fun k : Nat => if ok (-2 + (k : Int)) = true then some (a, b, -2 + (k : Int)) else none) (List.range i)
  rw [List.length_range] at this
  exact this
theorem y_m23 (ζ : Sl) (M : Hs) : yRg2 (xNeg (xC (.int 2))) (xC (.int 3)) ζ M = .ok (yRg (-2) 5) M := rfl
/-- a row of parts: for each shift that is allowed one -/
theorem row_w {ζ : Sl} {M : Hs} {v : Nat} {t : MT} {f : MX} {a b : Int} (ok : Int → Bool)
    (ht : ∀ (s : Int) (M' : Hs), wX (t ((wipeD ζ [v]).set v (some (.int s))) M') fun c M2 => c = ok s ∧ M2 = M') (hf : ∀ (s : Int) (M' : Hs), wX (f ((wipeD ζ [v]).set v (some (.int s))) M') fun d M2 => d = trD (a, b, s) ∧ M2 = M') :
    wX (xLc (yRg2 (xNeg (xC (.int 2))) (xC (.int 3))) [v] (.n v) t f ζ M) fun d M' => d = .ref M.length ∧ Fr No M M' ∧ M'[M.length]? = some (.lst ((rowN ok a b 5).map trD)) := by
  have hsz := size1
  rw [wX_lc, y_m23, wX_ok]
  dsimp only [yRg]
  refine wX_lcN (Q := fun M' => D.ref M.length = .ref M.length ∧ Fr No M M' ∧ M'[M.length]? = some (.lst ((rowN ok a b 5).map trD))) (I := fun i M' => Fr No M M' ∧ M'[M.length]? = some (.lst ((rowN ok a b i).map trD))) 5 ?_ ?_ 6 0 _ (by omega) (by omega) ⟨Fr.push _ _, by simp [rowN]⟩
  · rintro i M1 hi ⟨fr1, h1⟩
    refine ⟨.int (-2 + (i : Int)), [(v, .int (-2 + (i : Int)))], by rw [if_pos hi], rfl, ?_⟩
    have hl : ((rowN ok a b i).map trD).length < sizeLine := by
      have := rowN_len ok a b i
      rw [List.length_map]
      omega
    refine wX_lcB (c := ok (-2 + (i : Int))) (v := trD (a, b, -2 + (i : Int))) (acc := (rowN ok a b i).map trD) ?_
    refine wX_mono (ht (-2 + (i : Int)) M1) ?_
    rintro c M2 ⟨hc, hM⟩
    refine ⟨hc, ?_⟩
    rw [hM, rowN_succ]
    cases hk : ok (-2 + (i : Int)) with
    | false =>
      simp only [Bool.false_eq_true, if_false, List.append_nil]
      exact ⟨fr1, h1⟩
    | true =>
      simp only [if_true]
      refine wX_mono (hf (-2 + (i : Int)) M1) ?_
      rintro d M3 ⟨hd, hM3⟩
      rw [hM3]
      refine ⟨hd, (isL h1).2, hl, fr1.setHi (Nat.le_refl _), ?_⟩
      rw [List.map_append]
      exact set_get h1
  · rintro M1 ⟨fr1, h1⟩
    exact ⟨by simp, rfl, fr1, h1⟩
def cRow (a b : Int) : List Tr3 := rowN (fun s => decide (s ≠ 0) || decide (a ≠ b)) a b 5
def sRow (a b : Int) : List Tr3 := rowN (fun _ => true) a b 5
def grid (row : Int → Int → List Tr3) (m n : Nat) : List Tr3 := (List.range m).flatMap fun (a : Nat) => (List.range n).flatMap fun (b : Nat) => row a b
theorem fm_succ {α : Type} (f : Nat → List α) (i : Nat) : (List.range (i + 1)).flatMap f = (List.range i).flatMap f ++ f i := by rw [List.range_succ, List.flatMap_append]; simp
theorem law_couplers_w (M : Hs) (k : Int) (hk0 : 0 ≤ k) (hk2 : k ≤ 2) (m : Nat) (hm : m = k.toNat) : wX (f__law_couplers [.int k] M) fun d M' => ∃ n, d = .ref n ∧ M.length ≤ n ∧ M'[n]? = some (.lst ((grid cRow m m).map trD)) ∧ Fr No M M' := by
  have hsz := size1
  unfold f__law_couplers
  try walk_at "mi"
  rw [if_pos (Nat.zero_le _)]
  unfold yRg1
  simp only [wX_bind]
  try walk_at "mi"
  have hok : okRg k = true := okRg_small (by omega) (by omega)
  rw [if_pos hok]
  dsimp only [wX_ok, yRg]
  rw [← hm]
  refine wS_forN (I := fun i ζ M' => ∃ (n : Nat) (xs : List Tr3) (a b c : Option D), ζ = [some (.int k), some (.ref n), a, b, c] ∧ M.length ≤ n ∧ Fr No M M' ∧ M'[n]? = some (.lst (xs.map trD)) ∧ xs.length ≤ 10 * i ∧ xs = (List.range i).flatMap fun (a : Nat) => (List.range m).flatMap fun (b : Nat) => cRow a b)
    m ?_ ?_ _ 0 _ _ (by omega) (Nat.zero_le _) ⟨M.length, [], _, _, _, rfl, Nat.le_refl _, Fr.push _ _, by simp, by simp, by simp⟩
  · rintro i ζ M1 hi ⟨n, xs, a, b, c, rfl, hn, fr1, h1, hl1, e1⟩
    refine ⟨.int (0 + (i : Int)), [(2, .int (0 + (i : Int)))], by rw [if_pos hi], rfl, ?_⟩
    simp only [setAll]
    try walk_at "mi"
    simp only [wX_bind]
    try walk_at "mi"
    rw [if_pos hok]
    dsimp only [wX_ok, yRg]
    rw [← hm]
    refine wS_forN (I := fun j ζ M' => ∃ (n : Nat) (xs : List Tr3) (b c : Option D), ζ = [some (.int k), some (.ref n), some (.int (0 + (i : Int))), b, c] ∧ M.length ≤ n ∧ Fr No M M' ∧ M'[n]? = some (.lst (xs.map trD)) ∧ xs.length ≤ 10 * i + 5 * j ∧
      xs = ((List.range i).flatMap fun (a : Nat) => (List.range m).flatMap fun (b : Nat) => cRow a b) ++ (List.range j).flatMap fun (b : Nat) => cRow i b) m ?_ ?_ _ 0 _ _ (by omega) (Nat.zero_le _) ⟨n, xs, _, _, rfl, hn, fr1, h1, by omega, by rw [e1]; simp⟩
    · rintro j ζ M2 hj ⟨n2, ys, b, c, rfl, hn2, fr2, h2, hl2, e2⟩
      refine ⟨.int (0 + (j : Int)), [(3, .int (0 + (j : Int)))], by rw [if_pos hj], rfl, ?_⟩
      simp only [setAll]
      try walk_at "mi"
      rw [Int.zero_add, Int.zero_add]
      refine wX_mono (row_w (a := i) (b := j) (fun s => decide (s ≠ 0) || decide ((i : Int) ≠ (j : Int))) (fun s M' => ?_) (fun s M' => ?_)) ?_
      · simp only [wipeD]
        try walk_at "mi"
        simp only [g_neI, wO_some]
        by_cases hs : s = 0 <;> by_cases hij : (i : Int) = j <;> simp [hs, hij]
      · simp only [wipeD]
        try walk_at "mi"
        rw [if_pos (show 3 ≤ sizeLine by decide)]
        exact ⟨rfl, trivial⟩
      · rintro d M3 ⟨rfl, fr3, h3⟩
        have hrl : (cRow i j).length ≤ 5 := rowN_len _ _ _ _
        have hrow : rowN (fun s => decide (s ≠ 0) || decide ((i : Int) ≠ (j : Int))) i j 5 = cRow i j := by unfold cRow; rfl
        rw [hrow] at h3
        generalize hcr : cRow i j = row at h3 hrl
        have h23 : M3[n2]? = some (.lst (ys.map trD)) := fr3.get h2 id
        rw [g_catL h23 h3 (by rw [List.length_append, List.length_map, List.length_map]; omega)]
        try walk_at "mi"
        refine ⟨M3.length, ys ++ row, _, _, rfl, (fr2.trans fr3).1, (fr2.trans fr3).pushHi, by rw [List.map_append]; exact get_push, ?_, ?_⟩
        · rw [List.length_append]; omega
        · rw [e2, fm_succ, List.append_assoc, hcr]
    · rintro ζ M2 ⟨n2, ys, b, c, rfl, hn2, fr2, h2, hl2, e2⟩
      refine ⟨by rw [if_neg (by omega)], n2, ys, _, _, _, rfl, hn2, fr2, h2, by omega, ?_⟩
      rw [e2, fm_succ]
  · rintro ζ M1 ⟨n, xs, a, b, c, rfl, hn, fr1, h1, hl1, e1⟩
    refine ⟨by rw [if_neg (by omega)], ?_⟩
    try walk_at "mi"
    exact ⟨n, rfl, hn, by rw [h1, e1]; rfl, fr1⟩
theorem law_stops_w (M : Hs) (k : Int) (hk0 : 0 ≤ k) (hk2 : k ≤ 2) (m : Nat) (hm : m = k.toNat) (k' : Int) (hk0' : 0 ≤ k') (hk2' : k' ≤ 3) (m' : Nat) (hm' : m' = k'.toNat) : wX (f__law_stops [.int k, .int k'] M) fun d M' => ∃ n, d = .ref n ∧ M.length ≤ n ∧ M'[n]? = some (.lst ((grid sRow m m').map trD)) ∧ Fr No M M' := by
  have hsz := size1
  unfold f__law_stops
  try walk_at "mi"
  rw [if_pos (Nat.zero_le _)]
  unfold yRg1
  simp only [wX_bind]
  try walk_at "mi"
  have hok : okRg k = true := okRg_small (by omega) (by omega)
  have hok' : okRg k' = true := okRg_small (by omega) (by omega)
  rw [if_pos hok]
  dsimp only [wX_ok, yRg]
  rw [← hm]
  refine wS_forN (I := fun i ζ M' => ∃ (n : Nat) (xs : List Tr3) (a b c : Option D), ζ = [some (.int k), some (.int k'), some (.ref n), a, b, c] ∧ M.length ≤ n ∧ Fr No M M' ∧ M'[n]? = some (.lst (xs.map trD)) ∧ xs.length ≤ 15 * i ∧ xs = (List.range i).flatMap fun (a : Nat) => (List.range m').flatMap fun (b : Nat) => sRow a b)
    m ?_ ?_ _ 0 _ _ (by omega) (Nat.zero_le _) ⟨M.length, [], _, _, _, rfl, Nat.le_refl _, Fr.push _ _, by simp, by simp, by simp⟩
  · rintro i ζ M1 hi ⟨n, xs, a, b, c, rfl, hn, fr1, h1, hl1, e1⟩
    refine ⟨.int (0 + (i : Int)), [(3, .int (0 + (i : Int)))], by rw [if_pos hi], rfl, ?_⟩
    simp only [setAll]
    try walk_at "mi"
    simp only [wX_bind]
    try walk_at "mi"
    rw [if_pos hok']
    dsimp only [wX_ok, yRg]
    rw [← hm']
    refine wS_forN (I := fun j ζ M' => ∃ (n : Nat) (xs : List Tr3) (b c : Option D), ζ = [some (.int k), some (.int k'), some (.ref n), some (.int (0 + (i : Int))), b, c] ∧ M.length ≤ n ∧ Fr No M M' ∧ M'[n]? = some (.lst (xs.map trD)) ∧ xs.length ≤ 15 * i + 5 * j ∧
      xs = ((List.range i).flatMap fun (a : Nat) => (List.range m').flatMap fun (b : Nat) => sRow a b) ++ (List.range j).flatMap fun (b : Nat) => sRow i b) m' ?_ ?_ _ 0 _ _ (by omega) (Nat.zero_le _) ⟨n, xs, _, _, rfl, hn, fr1, h1, by omega, by rw [e1]; simp⟩
    · rintro j ζ M2 hj ⟨n2, ys, b, c, rfl, hn2, fr2, h2, hl2, e2⟩
      refine ⟨.int (0 + (j : Int)), [(4, .int (0 + (j : Int)))], by rw [if_pos hj], rfl, ?_⟩
      simp only [setAll]
      try walk_at "mi"
      rw [Int.zero_add, Int.zero_add]
      refine wX_mono (row_w (a := i) (b := j) (fun _ => true) (fun s M' => ?_) (fun s M' => ?_)) ?_
      · exact ⟨rfl, rfl⟩
      · simp only [wipeD]
        try walk_at "mi"
        rw [if_pos (show 3 ≤ sizeLine by decide)]
        exact ⟨rfl, trivial⟩
      · rintro d M3 ⟨rfl, fr3, h3⟩
        have hrl : (sRow i j).length ≤ 5 := rowN_len _ _ _ _
        have hrow : rowN (fun _ => true) i j 5 = sRow i j := by unfold sRow; rfl
        rw [hrow] at h3
        generalize hcr : sRow i j = row at h3 hrl
        have h23 : M3[n2]? = some (.lst (ys.map trD)) := fr3.get h2 id
        rw [g_catL h23 h3 (by rw [List.length_append, List.length_map, List.length_map]; omega)]
        try walk_at "mi"
        refine ⟨M3.length, ys ++ row, _, _, rfl, (fr2.trans fr3).1, (fr2.trans fr3).pushHi, by rw [List.map_append]; exact get_push, ?_, ?_⟩
        · rw [List.length_append]; omega
        · rw [e2, fm_succ, List.append_assoc, hcr]
    · rintro ζ M2 ⟨n2, ys, b, c, rfl, hn2, fr2, h2, hl2, e2⟩
      refine ⟨by rw [if_neg (by omega)], n2, ys, _, _, _, rfl, hn2, fr2, h2, by omega, ?_⟩
      rw [e2, fm_succ]
  · rintro ζ M1 ⟨n, xs, a, b, c, rfl, hn, fr1, h1, hl1, e1⟩
    refine ⟨by rw [if_neg (by omega)], ?_⟩
    try walk_at "mi"
    exact ⟨n, rfl, hn, by rw [h1, e1]; rfl, fr1⟩
theorem grid_c (m : Nat) (h : m = 1 ∨ m = 2) : (grid cRow m m).Nodup ∧ (grid cRow m m).length ≤ 100 ∧ ∀ t ∈ grid cRow m m, vC (m : Int) t = true := by
  rcases h with rfl | rfl <;> decide +kernel
theorem grid_s (m R : Nat) (h : m = 1 ∨ m = 2) (hR : R = 1 ∨ R = 2 ∨ R = 3) : (grid sRow m R).Nodup ∧ (grid sRow m R).length ≤ 100 ∧ 5 ≤ (grid sRow m R).length ∧ ∀ t ∈ grid sRow m R, vS (m : Int) t = true := by
  rcases h with rfl | rfl <;> rcases hR with rfl | rfl | rfl <;> decide +kernel
theorem law_organ_w {M : Hs} (hd : Hd M) (hM : 2 ≤ M.length) (L S R : Int) (hL0 : 0 ≤ L) (hL : L ≤ 5) (hS0 : 1 ≤ S) (hS : S ≤ 4) (hR : R = 1 ∨ R = 2 ∨ R = 3) : wX (f__law_organ [.ref 1, .int L, .int S, .int R] M) fun d M' => ∃ t many cs rs ch oct, d = .ref t ∧ 2 ≤ t ∧ Tt M' t many cs rs ch oct ∧ Parts many cs rs ch oct ∧ Hd M' ∧ Fr H2 M M' := by
  have hsz := size1
  unfold f__law_organ
  try walk_at "mi"
  refine wX_mono (law_next_w hd 3 (by decide) (by decide)) ?_
  rintro d M1 ⟨r, rfl, hr0, hr1, hd1, fr1⟩
  try walk_at "mi"
  rw [g_gt]
  try walk_at "mi"
  rw [g_intb]
  try walk_at "mi"
  rw [g_add]
  try walk_at "mi"
  obtain ⟨many, hmany, hm12⟩ : ∃ many : Int, many = 1 + (if decide (0 < r) = true then 1 else 0) ∧ (many = 1 ∨ many = 2) := ⟨_, rfl, by split <;> simp⟩
  rw [← hmany]
  rw [if_pos (show 3 ≤ sizeLine by decide)]
  have fr2 : Fr No M1 (M1 ++ [MO.lst [.str "all", .str "all", .str "pressed"]]) := Fr.push _ _
  refine wX_mono (law_next_w (hd1.fr fr2) 3 (by decide) (by decide)) ?_
  rintro d M3 ⟨r2, rfl, hr20, hr21, hd3, fr3⟩
  have hM1 : 2 ≤ M1.length := Nat.le_trans hM fr1.1
  have hch3 : M3[M1.length]? = some (.lst [.str "all", .str "all", .str "pressed"]) := fr3.get get_push (by unfold H2; omega)
  obtain ⟨ch, hch, hchv⟩ : ∃ ch : Str, [D.str "all", D.str "all", D.str "pressed"][r2.toNat]? = some (.str ch) ∧ (ch = "all" ∨ ch = "pressed") := by
    have : r2 = 0 ∨ r2 = 1 ∨ r2 = 2 := by omega
    rcases this with rfl | rfl | rfl
    · exact ⟨_, rfl, .inl rfl⟩
    · exact ⟨_, rfl, .inl rfl⟩
    · exact ⟨_, rfl, .inr rfl⟩
  rw [g_ixL (i := r2.toNat) hch3 hch (by omega)]
  try walk_at "mi"
  rw [if_pos (show 4 ≤ sizeLine by decide)]
  have fr4 : Fr No M3 (M3 ++ [MO.lst [.int 0, .int 0, .int 2, .int 3]]) := Fr.push _ _
  have hM3 : 2 ≤ M3.length := by have := fr2.1; have := fr3.1; omega
  refine wX_mono (law_next_w (hd3.fr fr4) 4 (by decide) (by decide)) ?_
  rintro d M5 ⟨r4, rfl, hr40, hr41, hd5, fr5⟩
  have hoc5 : M5[M3.length]? = some (.lst [.int 0, .int 0, .int 2, .int 3]) := fr5.get get_push (by unfold H2; omega)
  obtain ⟨oct, hoc, hocv⟩ : ∃ oct : Int, [D.int 0, D.int 0, D.int 2, D.int 3][r4.toNat]? = some (.int oct) ∧ (oct = 0 ∨ oct = 2 ∨ oct = 3) := by
    have : r4 = 0 ∨ r4 = 1 ∨ r4 = 2 ∨ r4 = 3 := by omega
    rcases this with rfl | rfl | rfl | rfl
    · exact ⟨_, rfl, by simp⟩
    · exact ⟨_, rfl, by simp⟩
    · exact ⟨_, rfl, by simp⟩
    · exact ⟨_, rfl, by simp⟩
  rw [g_ixL (i := r4.toNat) hoc5 hoc (by omega)]
  try walk_at "mi"
  have hM5 : 2 ≤ M5.length := by have := fr4.1; have := fr5.1; omega
  refine wX_mono (law_couplers_w M5 many (by omega) (by omega) many.toNat rfl) ?_
  rintro d M6 ⟨n6, rfl, hn6, hc6, fr6⟩
  try walk_at "mi"
  rw [g_add]
  try walk_at "mi"
  refine wX_mono (law_next_w (hd5.fr fr6) (L + 1) (by omega) (by omega)) ?_
  rintro d M7 ⟨r6, rfl, hr60, hr61, hd7, fr7⟩
  try walk_at "mi"
  have hmn : many.toNat = 1 ∨ many.toNat = 2 := by omega
  have hmc : ((many.toNat : Nat) : Int) = many := by omega
  obtain ⟨gc1, gc2, gc3⟩ := grid_c many.toNat hmn
  have hc7 : M7[n6]? = some (.lst ((grid cRow many.toNat many.toNat).map trD)) := fr7.get hc6 (by unfold H2; omega)
  refine wX_mono (law_some_w hd7 (by omega) hc7 gc1 (by omega) r6 hr60 (by omega)) ?_
  rintro d M8 ⟨cs, rfl, cn, cin, cln, hd8, fr8⟩
  try walk_at "mi"
  have hM8 : 2 ≤ M8.length := by have := fr6.1; have := fr7.1; have := fr8.1; omega
  refine wX_mono (law_stops_w M8 many (by omega) (by omega) many.toNat rfl R (by omega) (by omega) R.toNat rfl) ?_
  rintro d M9 ⟨n9, rfl, hn9, hc9, fr9⟩
  try walk_at "mi"
  refine wX_mono (law_next_w (hd8.fr fr9) S (by omega) (by omega)) ?_
  rintro d M10 ⟨r8, rfl, hr80, hr81, hd10, fr10⟩
  try walk_at "mi"
  rw [g_add]
  try walk_at "mi"
  obtain ⟨gs1, gs2, gs3, gs4⟩ := grid_s many.toNat R.toNat hmn (by omega)
  have hc10 : M10[n9]? = some (.lst ((grid sRow many.toNat R.toNat).map trD)) := fr10.get hc9 (by unfold H2; omega)
  refine wX_mono (law_some_w hd10 (by omega) hc10 gs1 (by omega) (1 + r8) (by omega) (by omega)) ?_
  rintro d M11 ⟨rs, rfl, rn, rin, rln, hd11, fr11⟩
  try walk_at "mi"
  rw [if_pos (show 5 ≤ sizeLine by decide)]
  have i2 : ∀ {A B : Hs}, Fr No A B → Fr H2 A B := fun f => f.imp fun _ _ h => h.elim
  have frA : Fr H2 M M11 := ((((((((((fr1.trans (i2 fr2)).trans fr3).trans (i2 fr4)).trans fr5).trans (i2 fr6)).trans fr7).trans fr8).trans (i2 fr9)).trans fr10).trans fr11)
  refine ⟨M11.length, many, cs, rs, ch, oct, rfl, by have := frA.1; omega, get_push, ⟨hm12, cn, by omega, fun t ht => by have := gc3 t (cin t ht); rw [hmc] at this; exact this, rn, by omega, by omega, fun t ht => by have := gs4 t (rin t ht); rw [hmc] at this; exact this, hchv, hocv⟩, hd11.fr (Fr.push _ _), frA.trans (Fr.push _ _)⟩
end Wk
end
section
set_option maxRecDepth 100000
set_option maxHeartbeats 4000000
set_option autoImplicit false
namespace Wk
open PySem Mi
local macro_rules | `(tactic| walk_at "mi") => `(tactic| simp only [wX_fn, wS_seq, wS_set, wS_ret, wS_expr, wS_pass, wS_if, wS_put, wX_var, wX_c, wX_2, wX_3, wX_anil, wX_acons, wX_tup, wX_lst, wX_dict, wX_b, wX_meth, wX_call, wX_if, wX_t1, wX_and2, wX_or2, wX_not1, wX_true, wX_neg, wX_oN, wX_oS, wX_not, wX_and, wX_or, wX_is, wX_cut, wX_fld, wS_for, wX_ok, wX_no, wO_some, wO_none, wS_nx, wS_rt, List.map_cons, List.map_nil, List.cons_append, List.nil_append, List.append_nil, List.replicate_succ, List.replicate_zero, List.set_cons_zero, List.set_cons_succ, List.getElem?_cons_zero, List.getElem?_cons_succ, List.getElem?_nil, List.length_cons, List.length_nil, Nat.reduceSub, Nat.reduceAdd, Nat.zero_add, Nat.add_zero, if_true, if_false, ite_true, ite_false, reduceIte, Bool.false_eq_true, Bool.not_true, Bool.not_false, ← Nat.add_assoc, reduceCtorEq, List.length_append])
theorem built_w {M : Hs} {t : Nat} {many : Int} {cs rs : List Tr3} {ch : Str} {oct : Int} (tt : Tt M t many cs rs ch oct) (p : Parts many cs rs ch oct) : wX (f__law_built [.ref t] M) fun d M' => ∃ g, d = .ref g ∧ M.length ≤ g ∧ OgM M' g many cs rs ch oct ∧ Fr No M M' := by
  have e0 : gIxA (.ref t) (.int 0) M = some (.int many, M) := g_ixL (i := 0) tt rfl
  have e1 : gIxA (.ref t) (.int 1) M = some (.tup (cs.map trD), M) := g_ixL (i := 1) tt rfl
  have e2 : gIxA (.ref t) (.int 2) M = some (.tup (rs.map trD), M) := g_ixL (i := 2) tt rfl
  have e3 : gIxA (.ref t) (.int 3) M = some (.str ch, M) := g_ixL (i := 3) tt rfl
  have e4 : gIxA (.ref t) (.int 4) M = some (.int oct, M) := g_ixL (i := 4) tt rfl
  have oi := organ_init_w p (M := M ++ [.slo 0 []]) (g := M.length) get_push
  unfold f__law_built
  generalize f_Organ_init = F at oi ⊢
  simp only [wX_fn, wS_ret, wX_make, wX_acons, wX_anil, wX_2, wX_var, wX_c, List.map_cons, List.map_nil, List.cons_append, List.nil_append, List.getElem?_cons_zero, e0, e1, e2, e3, e4, wO_some, List.length_cons, List.length_nil, Nat.zero_add, Nat.reduceAdd, if_true]
  refine wX_mono oi ?_
  rintro d M1 ⟨rfl, og, fr⟩
  refine ⟨M.length, rfl, Nat.le_refl _, og, ?_⟩
  have fr0 : Fr No M (M ++ [MO.slo 0 []]) := Fr.push _ _
  exact ⟨Nat.le_trans fr0.1 fr.1, fun n hn _ => (fr.2 n (Nat.lt_of_lt_of_le hn fr0.1) (Nat.ne_of_lt hn)).trans (fr0.2 n hn id)⟩
end Wk
end
section
set_option maxRecDepth 100000
set_option maxHeartbeats 4000000
set_option autoImplicit false
namespace Wk
open PySem Mi
theorem ledP_iff {x s t o k : Int} : ledP x s t o = some k ↔ (0 ≤ k ∧ k ≤ t) ∧ (k = x + s ∨ (0 < o ∧ x + s < 0 ∧ k = x + s + o) ∨ (0 < o ∧ t < x + s ∧ k = x + s - o)) := by
  unfold ledP
  dsimp only
  by_cases h1 : 0 < o ∧ x + s < 0
  · rw [if_pos h1]
    split
    · rw [Option.some.injEq]
      omega
    · constructor
      · intro h; cases h
      · omega
  · rw [if_neg h1]
    by_cases h2 : 0 < o ∧ t < x + s
    · rw [if_pos h2]
      split
      · rw [Option.some.injEq]
        omega
      · constructor
        · intro h; cases h
        · omega
    · rw [if_neg h2]
      split
      · rw [Option.some.injEq]
        omega
      · constructor
        · intro h; cases h
        · omega
theorem mem_ledK {cs : List Tr3} {top oct : Int} {p q : Sp2} : q ∈ ledK cs top oct p ↔ ∃ t ∈ cs, t.1 = p.1 ∧ t.2.1 = q.1 ∧ ledP p.2 t.2.2 top oct = some q.2 := by
  unfold ledK
  rw [List.mem_filterMap]
  constructor
  · rintro ⟨t, ht, e⟩
    split at e
    · rename_i h1
      cases hk : ledP p.2 t.2.2 top oct with
      | none => rw [hk] at e; cases e
      | some k =>
        rw [hk] at e
        cases e
        exact ⟨t, ht, h1, rfl, hk⟩
    · cases e
  · rintro ⟨t, ht, h1, h2, h3⟩
    refine ⟨t, ht, ?_⟩
    rw [if_pos h1, h3, h2]
    rfl
section
variable {cs rs : List Tr3} {top oct : Int} {all : Bool}
theorem fin_led {x y : T3} : Ga.Fin ⟨cs, rs, all, oct⟩ (top + 1) x y ↔ (x.2.2 = 0 ∧ y.2.2 = (Ga.Og.l2 ⟨cs, rs, all, oct⟩)) ∧ (0 ≤ x.1 ∧ x.1 ≤ top) ∧ (y.2.1, y.1) ∈ ledK cs top oct (x.2.1, x.1) := by
  rw [mem_ledK]
  constructor
  · rintro (⟨c, h1, h2, h3, h4, h5, h6, h7, h8⟩ | ⟨c, h1, h2, h3, h4, h5, h6, h7, h8, h9, h10⟩)
    · refine ⟨⟨h4, h5⟩, ⟨h6.1, by omega⟩, c, h1, h2.symm, h3.symm, ledP_iff.mpr ⟨⟨h7.1, by show y.1 ≤ top; omega⟩, ?_⟩⟩
      rcases h8 with h8 | h8
      · exact .inl h8
      · exact .inr (.inl h8)
    · exact ⟨⟨h4, h5⟩, ⟨h6.1, by omega⟩, c, h1, h2.symm, h3.symm, ledP_iff.mpr ⟨⟨h7.1, by show y.1 ≤ top; omega⟩, .inr (.inr ⟨h8, by show top < x.1 + c.2.2; omega, h10⟩)⟩⟩
  · rintro ⟨⟨h4, h5⟩, h6, c, h1, h2, h3, h7⟩
    obtain ⟨h7, h8⟩ := ledP_iff.mp h7
    have h7' : 0 ≤ y.1 ∧ y.1 ≤ top := h7
    rcases h8 with h8 | h8 | h8
    · exact .inl ⟨c, h1, h2.symm, h3.symm, h4, h5, ⟨h6.1, by omega⟩, ⟨h7'.1, by omega⟩, .inl h8⟩
    · exact .inl ⟨c, h1, h2.symm, h3.symm, h4, h5, ⟨h6.1, by omega⟩, ⟨h7'.1, by omega⟩, .inr h8⟩
    · exact .inr ⟨c, h1, h2.symm, h3.symm, h4, h5, ⟨h6.1, by omega⟩, ⟨h7'.1, by omega⟩, h8.1, by have : top < x.1 + c.2.2 := h8.2.1; omega, h8.2.2⟩
theorem end_led {rank pipe : Int} {e : T3} (hp : 0 ≤ pipe ∧ pipe ≤ top) : (Ga.En ⟨cs, rs, all, oct⟩ rank (some pipe) (top + 1) e ∨ Ga.EnHi ⟨cs, rs, all, oct⟩ rank (some pipe) (top + 1) e) ↔ (0 ≤ e.2.2 ∧ e.2.2 ≤ (Ga.Og.l2 ⟨cs, rs, all, oct⟩)) ∧ (0 ≤ e.1 ∧ e.1 ≤ top) ∧ (rank, pipe) ∈ ledK rs top oct (e.2.1, e.1) := by
  rw [mem_ledK]
  constructor
  · rintro (⟨r, h1, h2, h3, h4, h5, p, h6, h7, h8⟩ | ⟨r, h1, h2, h3, h4, h5, p, h6, h7, h8, h9, h10⟩)
    · cases h6
      refine ⟨h4, ⟨h5.1, by omega⟩, r, h1, h3.symm, h2, ledP_iff.mpr ⟨hp, ?_⟩⟩
      rcases h8 with h8 | ⟨h8, h9, h10⟩
      · exact .inl h8.symm
      · exact .inr (.inl ⟨h8, h9, h10.symm⟩)
    · cases h6
      exact ⟨h4, ⟨h5.1, by omega⟩, r, h1, h3.symm, h2, ledP_iff.mpr ⟨hp, .inr (.inr ⟨h8, by show top < e.1 + r.2.2; omega, h10.symm⟩)⟩⟩
  · rintro ⟨h4, h5, r, h1, h3, h2, h8⟩
    obtain ⟨_, h8⟩ := ledP_iff.mp h8
    rcases h8 with h8 | h8 | h8
    · exact .inl ⟨r, h1, h2, h3.symm, h4, ⟨h5.1, by omega⟩, pipe, rfl, ⟨hp.1, by omega⟩, .inl h8.symm⟩
    · exact .inl ⟨r, h1, h2, h3.symm, h4, ⟨h5.1, by omega⟩, pipe, rfl, ⟨hp.1, by omega⟩, .inr ⟨h8.1, h8.2.1, h8.2.2.symm⟩⟩
    · exact .inr ⟨r, h1, h2, h3.symm, h4, ⟨h5.1, by omega⟩, pipe, rfl, ⟨hp.1, by omega⟩, h8.1, by have : top < e.1 + r.2.2 := h8.2.1; omega, h8.2.2.symm⟩
theorem led_rng2 {p q : Sp2} (h : q ∈ ledK cs top oct p) : 0 ≤ q.2 ∧ q.2 ≤ top := by
  obtain ⟨t, _, _, _, h⟩ := mem_ledK.mp h
  exact (ledP_iff.mp h).1
/-- the own walk's answer -/
def Heard (cs rs : List Tr3) (top oct : Int) (all : Bool) (st : List Sp2) (q : Sp2) : Prop := ∃ p, OnW cs top oct all st p ∧ q ∈ ledK rs top oct p
theorem snd_heard {rank manual key pipe : Int} (hm : manual = 0 ∨ manual = 1) (hk : 0 ≤ key ∧ key ≤ top) (hp : 0 ≤ pipe ∧ pipe ≤ top) : Ga.Snd ⟨cs, rs, all, oct⟩ rank (fun k m => k = key ∧ m = manual) (some pipe) (top + 1) ↔ Heard cs rs top oct all [(manual, key)] (rank, pipe) := by
  constructor
  · rintro ⟨p, e, ⟨⟨h1, h2⟩, h3, _, _⟩, he, hr⟩
    obtain ⟨_, he0, he⟩ := (end_led hp).mp he
    have ep : p = (key, manual, 0) := Ga.t3_ext h1 h2 h3
    subst ep
    refine ⟨(e.2.1, e.1), ?_, he⟩
    unfold OnW
    cases hall : all with
    | true =>
      subst hall
      rw [if_pos rfl]
      have : ∀ z, Ga.Rt (Ga.Fin ⟨cs, rs, true, oct⟩ (top + 1)) (key, manual, 0) z → Rch cs top oct [(manual, key)] (z.2.1, z.1) := fun z hz => by
        induction hz with
        | refl => exact .base (by simp)
        | tail _ e ih => exact .step ih (fin_led.mp e).2.2
      exact this e hr
    | false =>
      subst hall
      rw [if_neg Bool.false_ne_true]
      have : ∀ z, Ga.Rt (Ga.Fin ⟨cs, rs, false, oct⟩ (top + 1)) (key, manual, 0) z → z = (key, manual, 0) ∨ (z.2.2 = 1 ∧ (z.2.1, z.1) ∈ ledK cs top oct (manual, key)) := fun z hz => by
        induction hz with
        | refl => exact .inl rfl
        | tail _ e ih =>
          obtain ⟨⟨l1, l2⟩, _, l3⟩ := fin_led.mp e
          rcases ih with rfl | ⟨h, _⟩
          · exact .inr ⟨l2, l3⟩
          · rw [h] at l1
            exact absurd l1 (by decide)
      rcases this e hr with rfl | ⟨_, h⟩
      · exact .inl (by simp)
      · exact .inr ⟨_, by simp, h⟩
  · rintro ⟨q, hq, hl⟩
    have ps : Ga.Ps (fun k m => k = key ∧ m = manual) (top + 1) (key, manual, 0) := ⟨⟨rfl, rfl⟩, rfl, hm, hk.1, by show key < top + 1; omega⟩
    unfold OnW at hq
    cases hall : all with
    | true =>
      subst hall
      rw [if_pos rfl] at hq
      have : ∀ z, Rch cs top oct [(manual, key)] z → (0 ≤ z.2 ∧ z.2 ≤ top) ∧ Ga.Rt (Ga.Fin ⟨cs, rs, true, oct⟩ (top + 1)) (key, manual, 0) (z.2, z.1, 0) := fun z hz => by
        induction hz with
        | base h =>
          simp at h
          subst h
          exact ⟨hk, .refl _⟩
        | step _ h ih => exact ⟨led_rng2 h, .tail ih.2 (fin_led.mpr ⟨⟨rfl, rfl⟩, ih.1, h⟩)⟩
      obtain ⟨h1, h2⟩ := this q hq
      exact ⟨_, _, ps, (end_led hp).mpr ⟨⟨Int.le_refl _, Int.le_refl _⟩, h1, hl⟩, h2⟩
    | false =>
      subst hall
      rw [if_neg Bool.false_ne_true] at hq
      rcases hq with hq | ⟨p, hpm, hq⟩
      · simp at hq
        subst hq
        exact ⟨_, _, ps, (end_led hp).mpr ⟨⟨Int.le_refl _, by show (0 : Int) ≤ 1; decide⟩, hk, hl⟩, .refl _⟩
      · simp at hpm
        subst hpm
        exact ⟨_, (q.2, q.1, 1), ps, (end_led hp).mpr ⟨⟨by show (0 : Int) ≤ 1; decide, by show (1 : Int) ≤ 1; decide⟩, led_rng2 hq, hl⟩, .tail (.refl _) (fin_led.mpr ⟨⟨rfl, rfl⟩, hk, hq⟩)⟩
end
end Wk
end
section
set_option maxRecDepth 100000
set_option maxHeartbeats 4000000
set_option autoImplicit false
namespace Wk
open PySem Mi
section
variable {cs rs : List Tr3} {all : Bool} {oct top : Int}
theorem snd_heardS {rank pipe : Int} {st : List Sp2} {pr : Int → Int → Prop} (hst : ∀ q ∈ st, (q.1 = 0 ∨ q.1 = 1) ∧ 0 ≤ q.2 ∧ q.2 ≤ top) (hpr : ∀ k m, (m = 0 ∨ m = 1) → 0 ≤ k → k ≤ top → (pr k m ↔ (m, k) ∈ st)) (hp : 0 ≤ pipe ∧ pipe ≤ top) :
    Ga.Snd ⟨cs, rs, all, oct⟩ rank pr (some pipe) (top + 1) ↔ Heard cs rs top oct all st (rank, pipe) := by
  have psO : ∀ q ∈ st, Ga.Ps pr (top + 1) (q.2, q.1, 0) := fun q hq => by
    obtain ⟨h1, h2, h3⟩ := hst q hq
    exact ⟨(hpr _ _ h1 h2 h3).mpr hq, rfl, h1, h2, by show q.2 < top + 1; omega⟩
  constructor
  · rintro ⟨p, e, ⟨h1, h3, h4, h5, h6⟩, he, hr⟩
    obtain ⟨_, he0, he⟩ := (end_led hp).mp he
    have hpS : (p.2.1, p.1) ∈ st := (hpr _ _ h4 h5 (by omega)).mp h1
    refine ⟨(e.2.1, e.1), ?_, he⟩
    unfold OnW
    cases hall : all with
    | true =>
      subst hall
      rw [if_pos rfl]
      have : ∀ z, Ga.Rt (Ga.Fin ⟨cs, rs, true, oct⟩ (top + 1)) p z → Rch cs top oct st (z.2.1, z.1) := fun z hz => by
        induction hz with
        | refl => exact .base hpS
        | tail _ e ih => exact .step ih (fin_led.mp e).2.2
      exact this e hr
    | false =>
      subst hall
      rw [if_neg Bool.false_ne_true]
      have : ∀ z, Ga.Rt (Ga.Fin ⟨cs, rs, false, oct⟩ (top + 1)) p z → z = p ∨ (z.2.2 = 1 ∧ (z.2.1, z.1) ∈ ledK cs top oct (p.2.1, p.1)) := fun z hz => by
        induction hz with
        | refl => exact .inl rfl
        | tail _ e ih =>
          obtain ⟨⟨l1, l2⟩, _, l3⟩ := fin_led.mp e
          rcases ih with rfl | ⟨h, _⟩
          · exact .inr ⟨l2, l3⟩
          · rw [h] at l1
            exact absurd l1 (by decide)
      rcases this e hr with rfl | ⟨_, h⟩
      · exact .inl hpS
      · exact .inr ⟨_, hpS, h⟩
  · rintro ⟨q, hq, hl⟩
    unfold OnW at hq
    cases hall : all with
    | true =>
      subst hall
      rw [if_pos rfl] at hq
      have : ∀ z, Rch cs top oct st z → (0 ≤ z.2 ∧ z.2 ≤ top) ∧ ∃ p, Ga.Ps pr (top + 1) p ∧ Ga.Rt (Ga.Fin ⟨cs, rs, true, oct⟩ (top + 1)) p (z.2, z.1, 0) := fun z hz => by
        induction hz with
        | base h => exact ⟨(hst _ h).2, _, psO _ h, .refl _⟩
        | step _ h ih =>
          obtain ⟨i1, p, i2, i3⟩ := ih
          exact ⟨led_rng2 h, p, i2, .tail i3 (fin_led.mpr ⟨⟨rfl, rfl⟩, i1, h⟩)⟩
      obtain ⟨h1, p, ps, h2⟩ := this q hq
      exact ⟨_, _, ps, (end_led hp).mpr ⟨⟨Int.le_refl _, Int.le_refl _⟩, h1, hl⟩, h2⟩
    | false =>
      subst hall
      rw [if_neg Bool.false_ne_true] at hq
      rcases hq with hq | ⟨p, hpm, hq⟩
      · exact ⟨_, _, psO _ hq, (end_led hp).mpr ⟨⟨Int.le_refl _, by show (0 : Int) ≤ 1; decide⟩, (hst _ hq).2, hl⟩, .refl _⟩
      · exact ⟨_, (q.2, q.1, 1), psO _ hpm, (end_led hp).mpr ⟨⟨by show (0 : Int) ≤ 1; decide, by show (1 : Int) ≤ 1; decide⟩, led_rng2 hq, hl⟩, .tail (.refl _) (fin_led.mpr ⟨⟨rfl, rfl⟩, (hst _ hpm).2, hq⟩)⟩
end
end Wk
end
section
set_option maxRecDepth 100000
set_option maxHeartbeats 4000000
set_option autoImplicit false
namespace Wk
open PySem Mi Ga
local macro_rules | `(tactic| walk_at "go") => `(tactic| simp only [wX_fn, wS_seq, wS_set, wS_ret, wS_expr, wS_pass, wS_if, wS_put, wX_var, wX_c, wX_2, wX_3, wX_anil, wX_acons, wX_star, wS_asg, wS_par, wS_aug, wX_tup, wX_lst, wX_dict, wX_b, wX_meth, wX_call, wX_if, wX_t1, wX_and2, wX_or2, wX_not1, wX_true, wX_neg, wX_oN, wX_oS, wX_not, wX_and, wX_or, wX_is, wX_cut, wX_fld, wX_ok, wX_no, wO_some, wO_none, wS_nx, wS_rt, List.map_cons, List.map_nil, List.cons_append, List.nil_append, List.append_nil, List.replicate_succ, List.replicate_zero, List.set_cons_zero, List.set_cons_succ, List.getElem?_cons_zero, List.getElem?_cons_succ, List.getElem?_nil, List.length_cons, List.length_nil, Nat.reduceSub, Nat.reduceAdd, Nat.reduceLeDiff, Nat.zero_add, Nat.add_zero, Nat.zero_le, if_true, if_false, ite_true, ite_false, reduceIte, Bool.false_eq_true, Bool.not_true, Bool.not_false, reduceCtorEq, bp_n, bp_t, bps_n, bps_cn, sa_n, sa_c, Option.map_some, g_eqI, g_neI, g_isN, g_isI, g_isNotN, g_isNotI, g_lenT, g_ix0, g_ix1, g_ix2, g_ix5, g_min, g_mx, g_add, g_sub, g_lt, g_le, g_gt, g_ge, g_listT, sz_eq, decide_eq_true_eq, eqk_t3.gEq, Bool.not_eq_true'])
local macro_rules | `(tactic| walk_at "ev") => `(tactic| simp (disch := (first | assumption | exact get_push | exact fr_lt (by assumption) (by assumption) | exact get_app (by assumption) | exact fr_lt (by assumption) (fr_lt (by assumption) (by assumption)) | exact get_app (get_app (by assumption)) | exact get_app get_push)) only [sl_at, is_L, g_lenD, g_listL, g_listD, if_true, ite_true, reduceIte])
section
variable {ζ : Sl} {M M1 : Hs} {N : Sl → Hs → Prop} {T : D → Hs → Prop} {Q : D → Hs → Prop}
theorem wS_frz {i : Nat} {f : MS} : wS (sFrz i f ζ M) N T = wS (f ζ M) (fun ζ' M' => match ζ'[i]? with
  | some (some (.ref n)) => (match hDct M' n with
    | some kvs => N ζ' (M'.set n (.fdc kvs))
    | none => False)
  | _ => False) T := by
  unfold sFrz
  cases f ζ M with
  | nx ζ1 M1 =>
    show wS (match ζ1[i]? with
      | some (some (.ref n)) => (match hDct M1 n with
        | some kvs => RS.nx ζ1 (M1.set n (.fdc kvs))
        | none => .no)
      | _ => .no) N T = (match ζ1[i]? with
      | some (some (.ref n)) => (match hDct M1 n with
        | some kvs => N ζ1 (M1.set n (.fdc kvs))
        | none => False)
      | _ => False)
    cases ζ1[i]? with
    | none => rfl
    | some o =>
      cases o with
      | none => rfl
      | some d =>
        cases d with
        | ref n =>
          dsimp only
          cases hDct M1 n <;> rfl
        | _ => rfl
  | _ => rfl
theorem wX_dict1 {fk fv : MX} : wX (xDict1 fk fv ζ M) Q = wX (fk ζ (M ++ [.dct []])) fun k M1 => wX (fv ζ M1) fun v M2 => match keyOf k, hDct M2 M.length with
  | some _, some [] => Q (.ref M.length) (M2.set M.length (.dct [(k, v)]))
  | _, _ => False := by
  unfold xDict1
  rw [wX_bind]
  congr
  funext k M1
  rw [wX_bind]
  congr
  funext v M2
  cases keyOf k with
  | none => rfl
  | some q =>
    cases hDct M2 M.length with
    | none => rfl
    | some kvs => cases kvs <;> rfl
theorem dct_h {n : Nat} {kvs : List (D × D)} (h : M[n]? = some (.dct kvs)) : hDct M n = some kvs := by unfold hDct; rw [h]
theorem fdc_h {n : Nat} {kvs : List (D × D)} (h : M[n]? = some (.fdc kvs)) : hFdc M n = some kvs := by unfold hFdc; rw [h]
theorem g_neD {m n : Nat} {kvs : List (D × D)} (h1 : M[m]? = some (.fdc kvs)) (h2 : M[n]? = some (.dct [])) : gNeD (.ref m) (.ref n) M = some (.bl (!decide (kvs.length = 0)), M) := by
  unfold gNeD
  dsimp only
  rw [fdc_h h1, dct_h h2]
theorem src_items {f : MX} {n : Nat} {kvs : List (D × D)} (hf : f ζ M = .ok (.ref n) M1) (h : M1[n]? = some (.fdc kvs)) : Src (yItems f) ζ M (kvs.map fun p => .tup [p.1, p.2]) M1 fun _ => True := by
  unfold Src yItems
  rw [hf]
  show ∃ yd, (match hFdc M1 n with
    | some kvs => R.ok (Yd.mk (fun i _ => some (match kvs[i]? with | some p => some (.tup [p.1, p.2]) | none => none)) (kvs.length + 1)) M1
    | none => .no) = _ ∧ _
  rw [fdc_h h]
  refine ⟨_, rfl, by simp, fun M' _ i => ?_⟩
  dsimp only
  rw [List.getElem?_map]
  cases kvs[i]? <;> rfl
/-- {k a: v a for a in as if c a} -/
theorem dc_ret {α κ : Type} [DecidableEq κ] {kf : κ → D} {kk : κ → NestedKey} (Ky : Kyk κ kf kk) {s : MY} {vs : List Nat} {p : Pt} {t : MT} {fk fv : MX} (e : α → D) (c : α → Bool) (k : α → κ) (v : α → D) {as : List α} {K : Hs → Prop} (S : Src s ζ M (as.map e) M1 K) (hM : Fr No M M1) (hk : ∀ M', Fr No M1 M' → K M') (hl : as.length < sizeLine) (nd : (as.map k).Nodup)
    (go : ∀ a ∈ as, ∀ M', Fr No M1 M' → ∃ l, bindP p (e a) = some l ∧ wX (t (setAll (wipeD ζ vs) l) M') fun b M2 => b = c a ∧ M2 = M' ∧ fk (setAll (wipeD ζ vs) l) M' = .ok (kf (k a)) M' ∧ fv (setAll (wipeD ζ vs) l) M' = .ok (v a) M') :
    wX (xDc s vs p t fk fv ζ M) fun d M' => ∃ n, d = .ref n ∧ M.length ≤ n ∧ M'[n]? = some (.dct (dcK kf ((as.filter c).map fun a => (k a, v a)))) ∧ Fr No M M' := by
  obtain ⟨yd, h1, h2, h3⟩ := S
  unfold xDc
  rw [wX_bind, h1, wX_ok, wX_bind]
  refine wX_mono (wX_lcN (Q := fun M' => Fr No M1 M' ∧ M'[M1.length]? = some (.dct (dcK kf ((as.filter c).map fun a => (k a, v a))))) (fun i M' => Fr No M1 M' ∧ M'[M1.length]? = some (.dct (dcK kf (((as.take i).filter c).map fun a => (k a, v a))))) as.length (fun i M' hi ⟨h4, h5⟩ => ?_) (fun M' ⟨h4, h5⟩ => ?_) yd.fuel 0 (M1 ++ [.dct []]) (by simpa using h2) (Nat.zero_le _) ⟨Fr.push _ _, by simp [dcK]⟩) fun _ M2 ⟨h4, h5⟩ => ?_
  · obtain ⟨l, h6, h7⟩ := go as[i] (List.getElem_mem hi) M' h4
    refine ⟨e as[i], l, ?_, h6, ?_⟩
    · rw [h3 M' (hk _ h4) i]
      simp [hi]
    · obtain ⟨b, M2, e2, rfl, rfl, e3, e4⟩ := wX_get h7
      rw [take_sn hi]
      unfold dcB
      rw [e2]
      cases hc : c as[i] with
      | false =>
        rw [List.filter_append]
        simp only [List.filter_cons, hc, Bool.false_eq_true, if_false, List.filter_nil, List.append_nil]
        exact ⟨h4, h5⟩
      | true =>
        dsimp only
        rw [e3]
        dsimp only
        rw [e4]
        dsimp only
        unfold dput
        rw [dct_h h5]
        dsimp only
        rw [Ky.of]
        dsimp only
        have hlen : ((as.take i).filter c).length ≤ i := Nat.le_trans (List.length_filter_le _ _) (by rw [List.length_take]; omega)
        have hnew : k as[i] ∉ (((as.take i).filter c).map fun a => (k a, v a)).map (·.1) := fun hm => by
          rw [List.map_map] at hm
          obtain ⟨a, ha, ea⟩ := List.mem_map.mp hm
          have ha := (List.mem_filter.mp ha).1
          have : (as.take i ++ [as[i]]).map k = (as.take (i + 1)).map k := by rw [take_sn hi]
          have nd2 : ((as.take i ++ [as[i]]).map k).Nodup := by rw [this]; exact nd.sublist ((List.take_sublist _ _).map _)
          rw [List.map_append, List.nodup_append] at nd2
          exact nd2.2.2 _ (List.mem_map.mpr ⟨a, ha, rfl⟩) _ (by simp) ea
        rw [if_pos (by unfold dcK; rw [List.length_map, List.length_map]; omega), Ky.put, kPut_new hnew]
        refine ⟨h4.setHi (Nat.le_refl _), ?_⟩
        rw [set_get h5, List.filter_append]
        simp only [List.filter_cons, hc, if_true, List.filter_nil, List.map_append, List.map_cons, List.map_nil]
  · refine ⟨?_, h4, ?_⟩
    · rw [h3 M' (hk _ h4)]
      simp
    · rw [List.take_length] at h5
      exact h5
  · exact ⟨M1.length, rfl, hM.1, h5, hM.trans h4⟩
end
def oD : Option Nat → D
  | none => .non
  | some q => .int q
def ve (e : St × Option Nat) : St × D := (e.1, oD e.2)
def sD (e : St × Option Nat) : D := .tup [stD e.1, oD e.2]
section
variable [DecidableEq St]
theorem ve_fst (L : List (St × Option Nat)) : (L.map ve).map (·.1) = L.map (·.1) := by rw [List.map_map]; rfl
theorem get_ve (L : List (St × Option Nat)) (s : St) : kGet (L.map ve) s = (vGet L s).map oD := by
  unfold kGet vGet
  induction L with
  | nil => rfl
  | cons e L ih =>
    rw [List.map_cons, List.find?_cons, List.find?_cons]
    have : (ve e).1 = e.1 := rfl
    rw [this]
    cases decide (e.1 = s) with
    | true => rfl
    | false => exact ih
theorem put_ve (L : List (St × Option Nat)) (s : St) (v : Option Nat) : kPut (L.map ve) s (oD v) = (vPut L s v).map ve := by
  unfold kPut vPut
  rw [kGet_some, ve_fst]
  by_cases h : s ∈ L.map (·.1)
  · rw [decide_eq_true h, if_pos rfl, if_pos h, List.map_map, List.map_map]
    refine List.map_congr_left fun e _ => ?_
    show (if (ve e).1 = s then ((ve e).1, oD v) else ve e) = ve (if e.1 = s then (e.1, v) else e)
    have : (ve e).1 = e.1 := rfl
    rw [this]
    split <;> rfl
  · rw [decide_eq_false h, if_neg h]
    simp only [Bool.false_eq_true, if_false, List.map_append]
    rfl
theorem dck_items (L : List (St × Option Nat)) : (dcK stD (L.map ve)).map (fun p => D.tup [p.1, p.2]) = L.map sD := by
  unfold dcK
  rw [List.map_map, List.map_map]
  rfl
end
end Wk
end
section
set_option maxRecDepth 100000
set_option maxHeartbeats 4000000
set_option autoImplicit false
namespace Wk
open PySem Mi Ga
local macro_rules | `(tactic| walk_at "go") => `(tactic| simp only [wX_fn, wS_seq, wS_set, wS_ret, wS_expr, wS_pass, wS_if, wS_put, wX_var, wX_c, wX_2, wX_3, wX_anil, wX_acons, wX_star, wS_asg, wS_par, wS_aug, wX_tup, wX_lst, wX_dict, wX_b, wX_meth, wX_call, wX_if, wX_t1, wX_and2, wX_or2, wX_not1, wX_true, wX_neg, wX_oN, wX_oS, wX_not, wX_and, wX_or, wX_is, wX_cut, wX_fld, wX_ok, wX_no, wO_some, wO_none, wS_nx, wS_rt, List.map_cons, List.map_nil, List.cons_append, List.nil_append, List.append_nil, List.replicate_succ, List.replicate_zero, List.set_cons_zero, List.set_cons_succ, List.getElem?_cons_zero, List.getElem?_cons_succ, List.getElem?_nil, List.length_cons, List.length_nil, Nat.reduceSub, Nat.reduceAdd, Nat.reduceLeDiff, Nat.zero_add, Nat.add_zero, Nat.zero_le, if_true, if_false, ite_true, ite_false, reduceIte, Bool.false_eq_true, Bool.not_true, Bool.not_false, reduceCtorEq, bp_n, bp_t, bps_n, bps_cn, sa_n, sa_c, Option.map_some, g_eqI, g_neI, g_isN, g_isI, g_isNotN, g_isNotI, g_lenT, g_ix0, g_ix1, g_ix2, g_ix5, g_min, g_mx, g_add, g_sub, g_lt, g_le, g_gt, g_ge, g_listT, sz_eq, decide_eq_true_eq, eqk_t3.gEq, Bool.not_eq_true'])
local macro_rules | `(tactic| walk_at "ev") => `(tactic| simp (disch := (first | assumption | exact get_push | exact fr_lt (by assumption) (by assumption) | exact get_app (by assumption) | exact fr_lt (by assumption) (fr_lt (by assumption) (by assumption)) | exact get_app (get_app (by assumption)) | exact get_app get_push)) only [sl_at, is_L, g_lenD, g_listL, g_listD, if_true, ite_true, reduceIte])
theorem minI_ok : ∀ (xs : List Int) (m : Int), minI m xs ∈ m :: xs ∧ ∀ x ∈ m :: xs, minI m xs ≤ x
  | [], m => ⟨by simp [minI], fun x hx => by simp at hx; subst hx; exact Int.le_refl _⟩
  | y :: xs, m => by
    obtain ⟨h1, h2⟩ := minI_ok xs (if y < m then y else m)
    have e : minI m (y :: xs) = minI (if y < m then y else m) xs := rfl
    rw [e]
    have h3 := h2 _ List.mem_cons_self
    have h4 : ∀ x ∈ xs, minI (if y < m then y else m) xs ≤ x := fun x hx => h2 x (List.mem_cons_of_mem _ hx)
    generalize minI (if y < m then y else m) xs = r at *
    refine ⟨?_, fun x hx => ?_⟩
    · rcases List.mem_cons.mp h1 with h | h
      · rw [h]
        split
        · simp
        · simp
      · exact List.mem_cons_of_mem _ (List.mem_cons_of_mem _ h)
    · rcases List.mem_cons.mp hx with rfl | hx
      · split at h3 <;> omega
      · rcases List.mem_cons.mp hx with rfl | hx
        · split at h3 <;> omega
        · exact h4 x hx
theorem ints_ofU : ∀ xs : List Int, intsOf (xs.map D.int) = some xs
  | [] => rfl
  | x :: xs => by
    rw [List.map_cons]
    show (match intsOf (xs.map D.int) with | some ps => some (x :: ps) | none => none) = _
    rw [ints_ofU xs]
theorem g_minL {M : Hs} {n : Nat} {m : Int} {xs : List Int} (h : M[n]? = some (.lst ((m :: xs).map D.int))) : gMinL [.ref n] M = some (.int (minI m xs), M) := by
  unfold gMinL gExt
  dsimp only
  have e : hSeq M (.ref n) = some ((m :: xs).map D.int) := by simp [hSeq, h]
  rw [e]
  dsimp only
  rw [ints_ofU]
theorem g_tupUp {k : Int} {M : Hs} (h0 : 0 ≤ k) (h1 : k ≤ 100) : gTupRg [.int k] M = some (.tup ((Ga.upTo k).map D.int), M) := by
  unfold gTupRg
  dsimp only
  rw [if_pos (okRgV_mk (by omega) (by omega))]
  unfold rgD Ga.upTo
  rw [List.map_map]
  simp
section
variable {M : Hs} [DecidableEq St]
theorem note_w {n : Nat} {L : List (St × Option Nat)} {s : St} {v : Option Nat} (h : M[n]? = some (.dct (dcK stD (L.map ve)))) (hl : L.length < sizeLine) (ht : vGet L s = some none → v = none) : wX (f_note [.ref n, stD s, oD v] M) fun d M' => d = .non ∧ M' = M.set n (.dct (dcK stD ((noteF L s v).map ve))) := by
  have hg := get_ve L s
  have hp : gPutA (.ref n) (stD s) (oD (noteV L s v)) M = some (M.set n (.dct (dcK stD ((noteF L s v).map ve)))) := by
    rw [kyk_st.gPut h (by rw [List.length_map]; exact hl), put_ve]
    rfl
  unfold f_note
  walk_at "go"
  rw [kyk_st.gIn h, hg]
  simp only [wO_some]
  cases hv : vGet L s with
  | none =>
    have e : noteV L s v = v := by unfold noteV; rw [hv]
    rw [e] at hp
    simp only [Option.map_none, Option.isSome_none, Bool.not_false, if_true]
    rw [hp]
    exact ⟨trivial, rfl⟩
  | some w =>
    simp only [Option.map_some, Option.isSome_some, Bool.not_true, Bool.false_eq_true, if_false]
    cases v with
    | none =>
      have e : noteV L s none = none := by unfold noteV; rw [hv]; cases w <;> rfl
      rw [e] at hp
      rw [show gIs (oD none) .non M = some (.bl true, M) from rfl]
      simp only [wO_some, if_true]
      rw [hp]
      exact ⟨trivial, rfl⟩
    | some b =>
      cases w with
      | none => exact absurd (ht hv) (by simp)
      | some a =>
        have e : noteV L s (some b) = some (mnN a b) := by unfold noteV; rw [hv]
        rw [e] at hp
        rw [show gIs (oD (some b)) .non M = some (.bl false, M) from rfl]
        simp only [wO_some, Bool.false_eq_true, if_false]
        rw [kyk_st.gIx h (d := .int a) (by rw [hg, hv]; rfl)]
        simp only [wO_some]
        have em : gMin2 [.int a, oD (some b)] M = some (oD (some (mnN a b)), M) := by
          show gMin2 [.int (a : Int), .int (b : Int)] M = some (.int (mnN a b : Nat), M)
          rw [g_min]
          congr 3
          unfold mnI mnN
          split <;> split <;> omega
        rw [em]
        simp only [wO_some]
        rw [hp]
        exact ⟨trivial, rfl⟩
end
section
variable {O : Og} {rank : Int} {mans : List Int} (ok : O.Ok) (hm : ∀ m ∈ mans, m = 0 ∨ m = 1)
include ok hm
theorem atl_gd {n : Nat} {s : St} {v : Option Nat} (h : AtL (wA O rank mans) (wB O rank mans) n s v) : Gd s := by
  cases v with
  | none =>
    have h : s = wA O rank mans n := h
    rw [h]
    exact gd_rep ok (by omega) (repA ok hm n)
  | some q =>
    obtain ⟨_, h⟩ := h
    rw [h]
    exact gd_rep ok (by omega) (repB ok hm q _)
theorem atl_in {n : Nat} {s : St} {v : Option Nat} (h : AtL (wA O rank mans) (wB O rank mans) n s v) : s ∈ allS O rank mans := by
  cases v with
  | none =>
    have h : s = wA O rank mans n := h
    rw [h]
    exact in_allA ok hm n
  | some q =>
    obtain ⟨_, h⟩ := h
    rw [h]
    exact in_allB ok hm q _
end
end Wk
end
section
set_option maxRecDepth 100000
set_option maxHeartbeats 8000000
set_option autoImplicit false
namespace Wk
open PySem Mi Ga
local macro_rules | `(tactic| walk_at "go") => `(tactic| simp only [wX_fn, wS_seq, wS_set, wS_ret, wS_expr, wS_pass, wS_if, wS_put, wX_var, wX_c, wX_2, wX_3, wX_anil, wX_acons, wX_star, wS_asg, wS_par, wS_aug, wX_tup, wX_lst, wX_dict, wX_b, wX_meth, wX_call, wX_if, wX_t1, wX_and2, wX_or2, wX_not1, wX_true, wX_neg, wX_oN, wX_oS, wX_not, wX_and, wX_or, wX_is, wX_cut, wX_fld, wX_ok, wX_no, wO_some, wO_none, wS_nx, wS_rt, List.map_cons, List.map_nil, List.cons_append, List.nil_append, List.append_nil, List.replicate_succ, List.replicate_zero, List.set_cons_zero, List.set_cons_succ, List.getElem?_cons_zero, List.getElem?_cons_succ, List.getElem?_nil, List.length_cons, List.length_nil, Nat.reduceSub, Nat.reduceAdd, Nat.reduceLeDiff, Nat.zero_add, Nat.add_zero, Nat.zero_le, if_true, if_false, ite_true, ite_false, reduceIte, Bool.false_eq_true, Bool.not_true, Bool.not_false, reduceCtorEq, bp_n, bp_t, bps_n, bps_cn, sa_n, sa_c, Option.map_some, g_eqI, g_neI, g_isN, g_isI, g_isNotN, g_isNotI, g_lenT, g_ix0, g_ix1, g_ix2, g_ix5, g_min, g_mx, g_add, g_sub, g_lt, g_le, g_gt, g_ge, g_listT, sz_eq, decide_eq_true_eq, eqk_t3.gEq, Bool.not_eq_true'])
local macro_rules | `(tactic| walk_at "ev") => `(tactic| simp (disch := (first | assumption | exact get_push | exact fr_lt (by assumption) (by assumption) | exact get_app (by assumption) | exact fr_lt (by assumption) (fr_lt (by assumption) (by assumption)) | exact get_app (get_app (by assumption)) | exact get_app get_push)) only [sl_at, is_L, g_lenD, g_listL, g_listD, if_true, ite_true, reduceIte])
def SilR (A : Nat → St) (B : Nat → Nat → St) (qt : St → Bool) (d : D) : Prop := (d = .non ∧ ∀ T p, ¬ Quiet B qt T p) ∨ ∃ T p : Nat, d = .tup [.int T, .int p] ∧ Quiet B qt T p ∧ (∀ T' p', T' < T → ¬ Quiet B qt T' p') ∧ ∀ p', Quiet B qt T p' → p ≤ p'
def qv (e : St × Option Nat) : Int := match e.2 with
  | some q => q
  | none => 0
theorem vPut_len (row : List (St × Option Nat)) (s : St) (v : Option Nat) : (vPut row s v).length ≤ row.length + 1 := by
  unfold vPut
  split
  · rw [List.length_map]; omega
  · rw [List.length_append, List.length_singleton]; omega
theorem ix5 (s : St) (M : Hs) : gIxA (stD s) (.int 5) M = some (.bl s.done, M) := by
  unfold stD
  exact g_ixU (by decide) rfl
structure InvS (A : Nat → St) (B : Nat → Nat → St) (qt : St → Bool) (M0 : Hs) (g : Nat) (many rank : Int) (n : Nat) (L : List (St × Option Nat)) (seen : List St) (nl ns : Nat) (M : Hs) : Prop where
  fr : Fr No M0 M
  hl : M[nl]? = some (.fdc (dcK stD (L.map ve)))
  hs : M[ns]? = some (.dct (dcK stD (stK seen)))
  ls : M0.length ≤ ns
  ne : nl ≠ ns
  V : Lv A B (fun s => s.done) qt n L seen
  nd : seen.Nodup
  dj : ∀ e ∈ L, e.1 ∉ seen
section
variable {M : Hs} {g : Nat} {many : Int} {cs rs : List Tr3} {ch : Str} {oct : Int}
theorem look_rank_w {rank : Int} (h : 0 ≤ rank ∧ rank ≤ 2) (M : Hs) : wX (f_look_at_rank [.int rank] M) fun d M' => d = .non ∧ M' = M := by
  have e : ∀ M, f_is_integer [.int rank, .int 0, .int 2] M = .ok (.bl true) M := fun M => by
    obtain ⟨d, M', e, h1, h2⟩ := wX_get (is_integer_w rank 0 2 M)
    rw [e, h1, h2, decide_eq_true h.1, decide_eq_true h.2]
    rfl
  unfold f_look_at_rank
  generalize f_is_integer = F at e ⊢
  try walk_at "go"
  rw [e]
  try walk_at "go"
  exact ⟨trivial, trivial⟩
theorem silent_w (og : OgM M g many cs rs ch oct) (hc : ch = "all" ∨ ch = "pressed") (ok : (ogOf cs rs ch oct).Ok) (hcl : cs.length ≤ 100) (hrl : rs.length ≤ 100) (hmany : many = 1 ∨ many = 2) {rank : Int} (hr : 0 ≤ rank ∧ rank ≤ 2) :
    wX (f_silent [.ref g, .int rank] M) fun d M' => Fr No M M' ∧ SilR (wA (ogOf cs rs ch oct) rank (Ga.upTo many)) (wB (ogOf cs rs ch oct) rank (Ga.upTo many)) (qtF (ogOf cs rs ch oct) rank) d := by
  have hsz : sizeLine = 16777216 := rfl
  have hm : ∀ m ∈ Ga.upTo many, m = 0 ∨ m = 1 := fun m h => by
    have := Ga.mem_upTo.mp h
    omega
  have hml : (Ga.upTo many).length ≤ 100 := by simp [Ga.upTo]; omega
  have W := wld (O := ogOf cs rs ch oct) (rank := rank) ok hm
  have stw := fun (M' : Hs) (s : St) (f : Bool) (o : OgM M' g many cs rs ch oct) (gd : Gd s) => step_w o hc ok hcl hrl gd rank (Ga.upTo many) hm hml f
  have isw := fun (M' : Hs) (s : St) (o : OgM M' g many cs rs ch oct) (gd : Gd s) => is_sounding_w o hc ok hcl hrl gd rank
  have lr := look_rank_w hr
  have nw := @note_w
  have agd := fun {n : Nat} {s : St} {v : Option Nat} => @atl_gd (ogOf cs rs ch oct) rank (Ga.upTo many) ok hm n s v
  have ain := fun {n : Nat} {s : St} {v : Option Nat} => @atl_in (ogOf cs rs ch oct) rank (Ga.upTo many) ok hm n s v
  have alen : (allS (ogOf cs rs ch oct) rank (Ga.upTo many)).length = 5965806 := allS_len
  have ef : ∀ s, stepF (ogOf cs rs ch oct) rank s (Ga.upTo many) false = gF (ogOf cs rs ch oct) rank (Ga.upTo many) s := fun _ => rfl
  have eh : ∀ s, stepF (ogOf cs rs ch oct) rank s (Ga.upTo many) true = hF (ogOf cs rs ch oct) rank (Ga.upTo many) s := fun _ => rfl
  have eq_ : ∀ s, qtF (ogOf cs rs ch oct) rank s = !sndF (ogOf cs rs ch oct) rank s := fun _ => rfl
  have hA0 : wA (ogOf cs rs ch oct) rank (Ga.upTo many) 0 = stFirst := rfl
  have a0 := a_live (O := ogOf cs rs ch oct) (rank := rank) ok hm 0
  generalize eall : allS (ogOf cs rs ch oct) rank (Ga.upTo many) = U at ain alen
  generalize wA (ogOf cs rs ch oct) rank (Ga.upTo many) = A at W agd ain hA0 a0 ⊢
  generalize wB (ogOf cs rs ch oct) rank (Ga.upTo many) = B at W agd ain ⊢
  generalize qtF (ogOf cs rs ch oct) rank = qt at W eq_ ⊢
  generalize gF (ogOf cs rs ch oct) rank (Ga.upTo many) = fF at W ef
  generalize hF (ogOf cs rs ch oct) rank (Ga.upTo many) = fH at W eh
  unfold f_silent
  generalize f_look_at_rank = F1 at lr ⊢
  have f0 := first_state_w
  generalize f_first_state = F2 at f0 ⊢
  generalize f_step = F3 at stw ⊢
  generalize f_is_sounding = F4 at isw ⊢
  generalize f_note = F5 at nw ⊢
  rw [wX_fn]
  try walk_at "go"
  refine wX_mono (lr M) ?_
  rintro d M0 ⟨rfl, rfl⟩
  try walk_at "go"
  rw [sl_at og]
  try walk_at "go"
  rw [g_tupUp (by omega) (by omega)]
  try walk_at "go"
  rw [wS_frz, wS_set, wX_dict1]
  try walk_at "go"
  rw [f0]
  try walk_at "go"
  rw [kyk_st.of, dct_h get_push]
  dsimp only
  have hx0 : ((M0 ++ [MO.dct []]).set M0.length (MO.dct [(stD stFirst, D.non)]))[M0.length]? = some (.dct [(stD stFirst, D.non)]) := set_get get_push
  rw [dct_h hx0]
  dsimp only
  have fr0 : Fr No M0 (((M0 ++ [MO.dct []]).set M0.length (MO.dct [(stD stFirst, D.non)])).set M0.length (MO.fdc [(stD stFirst, D.non)])) := ((Fr.push M0 _).setHi (Nat.le_refl _)).setHi (Nat.le_refl _)
  have hl0 : (((M0 ++ [MO.dct []]).set M0.length (MO.dct [(stD stFirst, D.non)])).set M0.length (MO.fdc [(stD stFirst, D.non)]))[M0.length]? = some (.fdc (dcK stD ([(stFirst, none)].map ve))) := set_get hx0
  have hlen0 : (((M0 ++ [MO.dct []]).set M0.length (MO.dct [(stD stFirst, D.non)])).set M0.length (MO.fdc [(stD stFirst, D.non)])).length = M0.length + 1 := by simp
  generalize (((M0 ++ [MO.dct []]).set M0.length (MO.dct [(stD stFirst, D.non)])).set M0.length (MO.fdc [(stD stFirst, D.non)])) = M1 at fr0 hl0 hlen0 ⊢
  have fr1 : Fr No M0 (M1 ++ [MO.dct []]) := fr0.pushHi
  have vtag : ∀ {n : Nat} {L : List (St × Option Nat)} {seen : List St}, Lv A B (fun s => s.done) qt n L seen → ∀ e ∈ L, (e.2 = none → e.1 = A n) ∧ ∀ q, e.2 = some q → q < n ∧ e.1 = B q (n - 1 - q) := fun V e he => by
    obtain ⟨s, v⟩ := e
    have := (V.at_ s v he).1
    cases v with
    | none => exact ⟨fun _ => this, fun q h => (by cases h)⟩
    | some q => exact ⟨fun h => (by cases h), fun q' h => (by cases h; exact this)⟩
  refine wS_while (I := fun k ζ M' => ∃ n L seen nl ns a6 a7 a8 a9 a10, ζ = [some (.ref g), some (.int rank), some (.tup ((Ga.upTo many).map D.int)), some (.ref nl), some (.ref ns), some (.int (n : Nat)), a6, a7, a8, a9, a10] ∧ InvS A B qt M0 g many rank n L seen nl ns M' ∧ seen.length + k = 5965806) 5965806 (by decide)
    ⟨0, [(stFirst, none)], [], M0.length, M1.length, none, none, none, none, none, rfl, ⟨fr1, get_app hl0, get_push, fr0.1, by omega, by rw [← hA0]; exact Lv.first W a0, List.nodup_nil, fun _ _ h => (by cases h)⟩, by simp⟩ ?_
  rintro k ζ M2 ⟨n, L, seen, nl, ns, a6, a7, a8, a9, a10, rfl, I, hk⟩
  have og2 : OgM M2 g many cs rs ch oct := I.fr.get og id
  try walk_at "go"
  have fr2 : Fr No M2 (M2 ++ [MO.dct []]) := Fr.push _ _
  have hlA := fr2.get I.hl id
  have hsA := fr2.get I.hs id
  have og3 : OgM _ g many cs rs ch oct := fr2.get og2 id
  have frA : Fr No M0 (M2 ++ [MO.dct []]) := I.fr.trans fr2
  rw [g_neD hlA get_push, wO_some]
  have eL : (dcK stD (L.map ve)).length = L.length := by simp [dcK]
  rw [eL]
  generalize (M2 ++ [MO.dct []]) = M3 at fr2 hlA hsA og3 frA ⊢
  have inU : ∀ e ∈ L, e.1 ∈ U := fun e he => ain (I.V.at_ e.1 e.2 he).1
  have gdL : ∀ e ∈ L, Gd e.1 := fun e he => agd (I.V.at_ e.1 e.2 he).1
  have tg := vtag I.V
  have seenU : ∀ s ∈ seen, s ∈ U := fun s hs => by
    obtain ⟨m, v, _, h⟩ := I.V.sn s hs
    exact ain h
  have hLlen : L.length < sizeLine := by
    have := len_in I.V.nd (m := U) (fun x hx => by
      obtain ⟨e, he, rfl⟩ := List.mem_map.mp hx
      exact inU e he)
    rw [List.length_map] at this
    omega
  by_cases hL : L.length = 0
  · rw [decide_eq_true hL]
    simp only [Bool.not_true, Bool.false_eq_true, if_false]
    have eL0 : L = [] := List.length_eq_zero_iff.mp hL
    have V := I.V
    rw [eL0] at V
    exact ⟨frA, .inl ⟨rfl, fun T p => Lv.end_ V T p⟩⟩
  rw [decide_eq_false hL]
  simp only [Bool.not_false, if_true]
  -- the quiet ones
  have S := src_items (ζ := [some (.ref g), some (.int rank), some (.tup ((Ga.upTo many).map D.int)), some (.ref nl), some (.ref ns), some (.int (n : Nat)), a6, a7, a8, a9, a10]) (f := xVar 3) (M := M3) (M1 := M3) rfl hlA
  rw [dck_items] at S
  refine wX_mono (lc_ret sD (fun e => e.2.isSome && qt e.1) (fun e => D.int (qv e)) S (Fr.refl _ _) (fun _ _ => trivial) hLlen fun e he M' fr => ?_) ?_
  · refine ⟨[(6, stD e.1), (7, oD e.2)], rfl, ?_⟩
    simp only [wipeD, setAll, List.set_cons_succ, List.set_cons_zero]
    obtain ⟨s, v⟩ := e
    cases v with
    | none =>
      try walk_at "go"
      rw [show gIsNot (oD none) .non M' = some (.bl false, M') from rfl]
      try walk_at "go"
      exact ⟨rfl, Fr.refl _ _, fun h => (by cases h)⟩
    | some q =>
      try walk_at "go"
      rw [show gIsNot (oD (some q)) .non M' = some (.bl true, M') from rfl]
      try walk_at "go"
      refine wX_mono (isw M' s (fr.get og3 id) (gdL _ he)) ?_
      rintro d M4 ⟨rfl, fr4⟩
      try walk_at "go"
      exact ⟨by simp [eq_], fr4, fun _ => ⟨rfl, Fr.refl _ _⟩⟩
  rintro d M4 ⟨nq, rfl, hnq, hq4, fr4⟩
  try walk_at "go"
  have hqe : ((L.filter fun e => e.2.isSome && qt e.1).map fun e => D.int (qv e)) = ((L.filter fun e => e.2.isSome && qt e.1).map qv).map D.int := by rw [List.map_map]; rfl
  rw [hqe] at hq4
  have fr5 : Fr No M4 (M4 ++ [MO.lst []]) := Fr.push _ _
  rw [eqk_int.gNeNil (fr5.get hq4 id) get_push, wO_some]
  have hq5 := fr5.get hq4 id
  have frB : Fr No M3 (M4 ++ [MO.lst []]) := fr4.trans fr5
  generalize (M4 ++ [MO.lst []]) = M5 at fr5 hq5 frB ⊢
  cases hQ : (L.filter fun e => e.2.isSome && qt e.1) with
  | cons e0 rest =>
    simp only [List.map_cons, List.isEmpty_cons, Bool.not_false, if_true]
    rw [hQ, List.map_cons] at hq5
    rw [g_minL hq5, wO_some]
    refine ⟨frA.trans frB, .inr ?_⟩
    have mem : ∀ e ∈ e0 :: rest, e ∈ L ∧ (∃ q, e.2 = some q) ∧ qt e.1 = true := fun e he => by
      rw [← hQ] at he
      obtain ⟨h1, h2⟩ := List.mem_filter.mp he
      rw [Bool.and_eq_true] at h2
      exact ⟨h1, Option.isSome_iff_exists.mp h2.1, h2.2⟩
    obtain ⟨m1, m2⟩ := minI_ok (rest.map qv) (qv e0)
    obtain ⟨e, he, ee⟩ := List.mem_map.mp (show minI (qv e0) (rest.map qv) ∈ (e0 :: rest).map qv from m1)
    obtain ⟨h1, ⟨q, h2⟩, h3⟩ := mem e he
    obtain ⟨s, v⟩ := e
    simp only at h2
    subst h2
    obtain ⟨k1, k2, k3, k4⟩ := Lv.found I.V h1 h3
    refine ⟨n - 1, q, ?_, k2, k3, fun p' hp => ?_⟩
    · rw [← ee]
      congr 3
      omega
    · obtain ⟨s', q', l1, l2, l3⟩ := k4 p' hp
      have hin : (s', some q') ∈ e0 :: rest := by
        rw [← hQ]
        exact List.mem_filter.mpr ⟨l2, by simp [l3]⟩
      have := m2 (qv (s', some q')) (show qv (s', some q') ∈ (e0 :: rest).map qv from List.mem_map.mpr ⟨_, hin, rfl⟩)
      rw [← ee] at this
      have : (q : Int) ≤ q' := this
      omega
  | nil =>
    simp only [List.map_nil, List.isEmpty_nil, Bool.not_true, Bool.false_eq_true, if_false]
    have nqt : ∀ s q, (s, some q) ∈ L → qt s = false := fun s q h => by
      cases hqs : qt s with
      | false => rfl
      | true =>
        have : (s, some q) ∈ L.filter fun e => e.2.isSome && qt e.1 := List.mem_filter.mpr ⟨h, by simp [hqs]⟩
        rw [hQ] at this
        cases this
    -- what follows
    have fr6 : Fr No M5 (M5 ++ [MO.dct []]) := Fr.push _ _
    have hl6 := fr6.get (frB.get hlA id) id
    have hs6 := fr6.get (frB.get hsA id) id
    have hf6 : (M5 ++ [MO.dct []])[M5.length]? = some (.dct []) := get_push
    have frC : Fr No M0 (M5 ++ [MO.dct []]) := (frA.trans frB).trans fr6
    have hq6 := fr6.get hq5 id
    have hnf : M5.length ≠ ns := by have := lt_of_get (frB.get hsA id); omega
    have hnf2 : nl ≠ M5.length := by have := lt_of_get (frB.get hlA id); omega
    have hnf0 : M0.length ≤ M5.length := (frA.trans frB).1
    generalize M5.length = nf at hf6 hnf hnf2 hnf0 ⊢
    generalize (M5 ++ [MO.dct []]) = M6 at hl6 hs6 hf6 frC ⊢
    clear hq6 hq5 hq4 hqe fr4 fr5 frB fr6
    have hfu : ∀ D F, (∀ x ∈ D, x ∈ L) → Fp fF fH (fun s => s.done) n tgF D F → F.length ≤ 5965806 := fun D F hD P => by
      have := len_in P.rw_.nd (m := U) (fun x hx => by
        obtain ⟨⟨s, v⟩, he, rfl⟩ := List.mem_map.mp hx
        obtain ⟨_, t, h⟩ := P.fs s v he
        rcases h with ⟨rfl, h1, rfl⟩ | ⟨q, rfl, ⟨h1, rfl⟩ | ⟨rfl, h1, rfl⟩⟩
        · have e : t = A n := (tg _ (hD _ h1)).1 rfl
          exact ain (n := n + 1) (v := none) (show fF t = A (n + 1) by rw [W.a1, e])
        · obtain ⟨l, e⟩ := (tg _ (hD _ h1)).2 q rfl
          have e : t = B q (n - 1 - q) := e
          exact ain (n := n + 1) (v := some q) ⟨by omega, by rw [show n + 1 - 1 - q = (n - 1 - q) + 1 from by omega, W.b1, ← e]⟩
        · have e : t = A q := (tg _ (hD _ h1)).1 rfl
          exact ain (n := q + 1) (v := some q) ⟨by omega, by rw [show q + 1 - 1 - q = 0 from by omega, W.b0, e]⟩)
      rw [List.length_map, alen] at this
      exact this
    have S2 := src_items (ζ := [some (.ref g), some (.int rank), some (.tup ((Ga.upTo many).map D.int)), some (.ref nl), some (.ref ns), some (.int (n : Nat)), a6, a7, some (.ref nq), some (.ref nf), a10]) (f := xVar 3) (M := M6) (M1 := M6) rfl hl6
    rw [dck_items] at S2
    rw [wS_frz]
    generalize e7 : (sIf (tB1 (x2 gIs (xVar 7) (xC .non))) (sSeq (sSet 10 (xCall 5 F3 (aCons (xVar 0) (aCons (xVar 6) (aCons (xVar 1) (aCons (xVar 2) (aCons (xC (.bl true)) (aNil)))))))) (sIf (tNot1 (tB1 (x2 gIxA (xVar 10) (xC (.int 5))))) (sExpr (xCall 3 F5 (aCons (xVar 9) (aCons (xVar 10) (aCons (xVar 5) (aNil)))))) (sPass))) (sPass)) = R7
    refine for_list sD S2 (fun dn ζ M' => (∃ b6 b7 b10, ζ = [some (.ref g), some (.int rank), some (.tup ((Ga.upTo many).map D.int)), some (.ref nl), some (.ref ns), some (.int (n : Nat)), b6, b7, some (.ref nq), some (.ref nf), b10]) ∧ Fr No M0 M' ∧ M'[nl]? = some (.fdc (dcK stD (L.map ve))) ∧ M'[ns]? = some (.dct (dcK stD (stK (seen ++ dn.map (·.1))))) ∧ M'[nf]? = some (.dct (dcK stD ((folF fF fH (fun s => s.done) n dn).map ve))) ∧ Fp fF fH (fun s => s.done) n tgF dn (folF fF fH (fun s => s.done) n dn)) ?_ (fun _ _ _ _ => trivial) ?_ ?_
    · exact ⟨⟨_, _, _, rfl⟩, frC, hl6, by rw [List.map_nil, List.append_nil]; exact hs6, hf6, Fp.nil⟩
    · rintro dn ⟨s, v⟩ rest ζ N hdn ⟨⟨b6, b7, b10, rfl⟩, frN, hlN, hsN, hfN, P⟩
      have heL : (s, v) ∈ L := by rw [hdn]; simp
      have hdL : ∀ x ∈ dn, x ∈ L := fun x hx => by rw [hdn]; simp [hx]
      have hFl := hfu dn _ hdL P
      have hsnew : s ∉ seen ++ dn.map (·.1) := fun hm => by
        rcases List.mem_append.mp hm with hm | hm
        · exact I.dj _ heL hm
        · have nd := I.V.nd
          rw [hdn, List.map_append, List.nodup_append] at nd
          exact nd.2.2 _ hm _ (by simp) rfl
      have hslen : (seen ++ dn.map (·.1)).length < sizeLine := by
        have := len_in (l := seen ++ dn.map (·.1)) (m := U) (by
          rw [List.nodup_append]
          refine ⟨I.nd, ?_, fun a ha b hb e => ?_⟩
          · have nd := I.V.nd
            rw [hdn, List.map_append, List.nodup_append] at nd
            exact nd.1
          · subst e
            obtain ⟨e, he, ee⟩ := List.mem_map.mp hb
            exact I.dj e (hdL e he) (by rw [ee]; exact ha)) (fun x hx => by
          rcases List.mem_append.mp hx with hx | hx
          · exact seenU x hx
          · obtain ⟨e, he, rfl⟩ := List.mem_map.mp hx
            exact inU e (hdL e he))
        omega
      refine ⟨[(6, stD s), (7, oD v)], rfl, ?_⟩
      simp only [setAll, List.set_cons_succ, List.set_cons_zero]
      try walk_at "go"
      rw [kyk_st.gPut hsN (by rw [stK_len]; exact hslen)]
      have eadd : kPut (stK (seen ++ dn.map (·.1))) s (.bl true) = stK (seen ++ (dn ++ [(s, v)]).map (·.1)) := by
        rw [stK_put]
        unfold addK
        rw [if_neg hsnew, List.map_append, List.append_assoc]
        rfl
      rw [eadd]
      dsimp only
      have frP : Fr No M0 (N.set ns (.dct (dcK stD (stK (seen ++ (dn ++ [(s, v)]).map (·.1)))))) := frN.setHi I.ls
      have hlP : (N.set ns (.dct (dcK stD (stK (seen ++ (dn ++ [(s, v)]).map (·.1))))))[nl]? = some (.fdc (dcK stD (L.map ve))) := by rw [List.getElem?_set_ne (Ne.symm I.ne)]; exact hlN
      have hsP : (N.set ns (.dct (dcK stD (stK (seen ++ (dn ++ [(s, v)]).map (·.1))))))[ns]? = some (.dct (dcK stD (stK (seen ++ (dn ++ [(s, v)]).map (·.1))))) := set_get hsN
      have hfP : (N.set ns (.dct (dcK stD (stK (seen ++ (dn ++ [(s, v)]).map (·.1))))))[nf]? = some (.dct (dcK stD ((folF fF fH (fun s => s.done) n dn).map ve))) := by rw [List.getElem?_set_ne (Ne.symm hnf)]; exact hfN
      generalize (N.set ns (.dct (dcK stD (stK (seen ++ (dn ++ [(s, v)]).map (·.1)))))) = NP at frP hlP hsP hfP ⊢
      have gds := gdL _ heL
      have t1 : (fF s).done = false → v.isNone = tgF (fF s) := fun _ => by
        cases v with
        | none =>
          have e : s = A n := (tg _ heL).1 rfl
          rw [e, ← W.a1, W.ta]
          rfl
        | some q =>
          obtain ⟨l, e⟩ := (tg _ heL).2 q rfl
          have e : s = B q (n - 1 - q) := e
          rw [e, ← W.b1, W.tb]
          rfl
      have t2 : v = none → (fH s).done = false → tgF (fH s) = false := fun hv _ => by
        subst hv
        have e : s = A n := (tg _ heL).1 rfl
        rw [e, ← W.b0, W.tb]
      have Pn := P.step (e := (s, v)) t1 t2
      have efol : folF fF fH (fun s => s.done) n (dn ++ [(s, v)]) = folE fF fH (fun s => s.done) n (folF fF fH (fun s => s.done) n dn) (s, v) := folF_snoc ..
      generalize hFF : folF fF fH (fun s => s.done) n dn = FF at P Pn hfP hFl efol
      have tail : ∀ (F1 : List (St × Option Nat)) (N9 : Hs) (b10 : Option D), Fr No M0 N9 → N9[nl]? = some (.fdc (dcK stD (L.map ve))) → N9[ns]? = some (.dct (dcK stD (stK (seen ++ (dn ++ [(s, v)]).map (·.1))))) → N9[nf]? = some (.dct (dcK stD (F1.map ve))) →
          F1 = (if (fF s).done = true then FF else noteF FF (fF s) v) → Rw tgF F1 → F1.length ≤ 5965807 →
          wS (R7 [some (.ref g), some (.int rank), some (.tup ((Ga.upTo many).map D.int)), some (.ref nl), some (.ref ns), some (.int (n : Nat)), some (stD s), some (oD v), some (.ref nq), some (.ref nf), b10] N9) (fun ζ M' => (∃ b6 b7 b10, ζ = [some (.ref g), some (.int rank), some (.tup ((Ga.upTo many).map D.int)), some (.ref nl), some (.ref ns), some (.int (n : Nat)), b6, b7, some (.ref nq), some (.ref nf), b10]) ∧ Fr No M0 M' ∧ M'[nl]? = some (.fdc (dcK stD (L.map ve))) ∧ M'[ns]? = some (.dct (dcK stD (stK (seen ++ (dn ++ [(s, v)]).map (·.1))))) ∧ M'[nf]? = some (.dct (dcK stD ((folF fF fH (fun s => s.done) n (dn ++ [(s, v)])).map ve))) ∧ Fp fF fH (fun s => s.done) n tgF (dn ++ [(s, v)]) (folF fF fH (fun s => s.done) n (dn ++ [(s, v)]))) (fun d M' => Fr No M0 M' ∧ SilR A B qt d) := by
        intro F1 N9 b10 fr9 hl9 hs9 hf9 eF1 RF1 hF1
        rw [← e7, wS_if]
        try walk_at "go"
        rw [efol]
        unfold folE at Pn ⊢
        dsimp only at Pn ⊢
        rw [← eF1] at Pn ⊢
        cases v with
        | some q =>
          rw [show gIs (oD (some q)) .non N9 = some (.bl false, N9) from rfl]
          simp only [wO_some, Bool.false_eq_true, if_false]
          simp only [Option.isNone_some, Bool.false_eq_true, if_false] at Pn ⊢
          exact ⟨⟨_, _, _, rfl⟩, fr9, hl9, hs9, hf9, Pn⟩
        | none =>
          rw [show gIs (oD none) .non N9 = some (.bl true, N9) from rfl]
          simp only [wO_some, if_true]
          try walk_at "go"
          refine wX_mono (stw N9 s true (fr9.get og id) gds) ?_
          rintro d N10 ⟨rfl, fr10⟩
          rw [eh, ix5, wO_some]
          simp only [Option.isNone_none, if_true] at Pn ⊢
          rcases Bool.eq_false_or_eq_true (fH s).done with hd2 | hd2
          · simp only [hd2, Bool.true_eq_false, if_false, if_true] at Pn ⊢
            try walk_at "go"
            exact ⟨⟨_, _, _, rfl⟩, fr9.trans fr10, fr10.get hl9 id, fr10.get hs9 id, fr10.get hf9 id, Pn⟩
          · simp only [hd2, Bool.false_eq_true, if_false, if_true] at Pn ⊢
            try walk_at "go"
            refine wX_mono (nw (v := some n) (fr10.get hf9 id) (by omega) fun hv => ?_) ?_
            · have h1 := RF1.tg _ _ (vGet_some hv)
              rw [t2 rfl hd2] at h1
              cases h1
            rintro d N11 ⟨rfl, rfl⟩
            refine ⟨⟨_, _, _, rfl⟩, (fr9.trans fr10).setHi hnf0, ?_, ?_, set_get (fr10.get hf9 id), Pn⟩
            · rw [List.getElem?_set_ne (Ne.symm hnf2)]; exact fr10.get hl9 id
            · rw [List.getElem?_set_ne hnf]; exact fr10.get hs9 id
      refine wX_mono (stw NP s false (frP.get og id) gds) ?_
      rintro d N8 ⟨rfl, fr8⟩
      rw [ef, ix5, wO_some]
      cases hd1 : (fF s).done with
      | true =>
        dsimp only
        simp only [Bool.true_eq_false, if_false]
        try walk_at "go"
        exact tail FF N8 _ (frP.trans fr8) (fr8.get hlP id) (fr8.get hsP id) (fr8.get hfP id) (by rw [hd1, if_pos rfl]) P.rw_ (by omega)
      | false =>
        simp only [if_true]
        refine wX_mono (nw (fr8.get hfP id) (by omega) fun hv => ?_) ?_
        · have h1 := P.rw_.tg _ _ (vGet_some hv)
          rw [← t1 hd1] at h1
          cases v with
          | none => rfl
          | some q => cases h1
        rintro d N9 ⟨rfl, rfl⟩
        refine tail (noteF FF (fF s) v) _ _ ((frP.trans fr8).setHi hnf0) ?_ ?_ (set_get (fr8.get hfP id)) (by rw [hd1, if_neg Bool.false_ne_true]) (note_rw P.rw_ (t1 hd1)) ?_
        · rw [List.getElem?_set_ne (Ne.symm hnf2)]; exact fr8.get hlP id
        · rw [List.getElem?_set_ne hnf]; exact fr8.get hsP id
        · have := vPut_len FF (fF s) (noteV FF (fF s) v)
          show (vPut FF (fF s) (noteV FF (fF s) v)).length ≤ _
          omega
    · rintro ζ N ⟨⟨b6, b7, b10, rfl⟩, frN, hlN, hsN, hfN, P⟩
      have eg : ([some (.ref g), some (.int rank), some (.tup ((Ga.upTo many).map D.int)), some (.ref nl), some (.ref ns), some (.int (n : Nat)), b6, b7, some (.ref nq), some (.ref nf), b10] : Sl)[9]? = some (some (.ref nf)) := rfl
      rw [eg]
      dsimp only
      rw [dct_h hfN]
      dsimp only
      have hFl := hfu L _ (fun x h => h) P
      generalize hFF : folF fF fH (fun s => s.done) n L = FF at P hfN hFl ⊢
      have hfP : (N.set nf (.fdc (dcK stD (FF.map ve))))[nf]? = some (.fdc (dcK stD (FF.map ve))) := set_get hfN
      have hsP : (N.set nf (.fdc (dcK stD (FF.map ve))))[ns]? = some (.dct (dcK stD (stK (seen ++ L.map (·.1))))) := by rw [List.getElem?_set_ne hnf]; exact hsN
      have frP : Fr No M0 (N.set nf (.fdc (dcK stD (FF.map ve)))) := frN.setHi hnf0
      generalize (N.set nf (.fdc (dcK stD (FF.map ve)))) = NP at hfP hsP frP ⊢
      have S3 := src_items (ζ := [some (.ref g), some (.int rank), some (.tup ((Ga.upTo many).map D.int)), some (.ref nl), some (.ref ns), some (.int (n : Nat)), b6, b7, some (.ref nq), some (.ref nf), b10]) (f := xVar 9) (M := NP) (M1 := NP) rfl hfP
      rw [dck_items] at S3
      rw [wS_frz, wS_set]
      refine wX_mono (dc_ret kyk_st sD (fun e => decide (e.1 ∉ seen ++ L.map (·.1))) (fun e => e.1) (fun e => oD e.2) S3 (Fr.refl _ _) (fun _ _ => trivial) (by omega) P.rw_.nd fun e he M' fr => ?_) ?_
      · refine ⟨[(6, stD e.1), (7, oD e.2)], rfl, ?_⟩
        simp only [wipeD, setAll, List.set_cons_succ, List.set_cons_zero]
        try walk_at "go"
        rw [kyk_st.gIn (fr.get hsP id), kGet_some, stK_fst, wO_some]
        refine ⟨?_, rfl, rfl, rfl⟩
        simp
      rintro d N4 ⟨nn, rfl, hnn, hn4, fr4⟩
      simp only [List.set_cons_succ, List.set_cons_zero, List.getElem?_cons_succ, List.getElem?_cons_zero]
      rw [dct_h hn4]
      dsimp only
      have hn5 : (N4.set nn (.fdc (dcK stD ((FF.filter fun e => decide (e.1 ∉ seen ++ L.map (·.1))).map ve))))[nn]? = some (.fdc (dcK stD ((FF.filter fun e => decide (e.1 ∉ seen ++ L.map (·.1))).map ve))) := set_get hn4
      have hnns : ns < nn := by have := lt_of_get hsP; omega
      have hs5 : (N4.set nn (.fdc (dcK stD ((FF.filter fun e => decide (e.1 ∉ seen ++ L.map (·.1))).map ve))))[ns]? = some (.dct (dcK stD (stK (seen ++ L.map (·.1))))) := by rw [List.getElem?_set_ne (by omega)]; exact fr4.get hsP id
      have fr5 : Fr No M0 (N4.set nn (.fdc (dcK stD ((FF.filter fun e => decide (e.1 ∉ seen ++ L.map (·.1))).map ve)))) := (frP.trans fr4).setHi (by have := frP.1; omega)
      have edc : (FF.filter fun e => decide (e.1 ∉ seen ++ L.map (·.1))).map (fun a => (a.1, oD a.2)) = (FF.filter fun e => decide (e.1 ∉ seen ++ L.map (·.1))).map ve := rfl
      rw [edc]
      generalize (N4.set nn (.fdc (dcK stD ((FF.filter fun e => decide (e.1 ∉ seen ++ L.map (·.1))).map ve)))) = N5 at hn5 hs5 fr5 ⊢
      have eaug : gI (fun _ _ => true) (fun i j => D.int (i + j)) (.int (n : Nat)) (.int 1) N5 = some (.int ((n + 1 : Nat) : Int), N5) := by
        show some (D.int ((n : Int) + 1), N5) = _
        congr 3
      rw [eaug, wO_some]
      have nd' : (seen ++ L.map (·.1)).Nodup := by
        rw [List.nodup_append]
        refine ⟨I.nd, I.V.nd, fun a ha b hb e => ?_⟩
        subst e
        obtain ⟨e, he, ee⟩ := List.mem_map.mp hb
        exact I.dj e he (by rw [ee]; exact ha)
      have hlen' := len_in nd' (m := U) (fun x hx => by
        rcases List.mem_append.mp hx with hx | hx
        · exact seenU x hx
        · obtain ⟨e, he, rfl⟩ := List.mem_map.mp hx
          exact inU e he)
      rw [alen] at hlen'
      have hll : (seen ++ L.map (·.1)).length = seen.length + L.length := by rw [List.length_append, List.length_map]
      refine ⟨5965806 - (seen ++ L.map (·.1)).length, by omega, n + 1, FF.filter (fun e => decide (e.1 ∉ seen ++ L.map (·.1))), seen ++ L.map (·.1), nn, ns, _, _, _, _, _, rfl, ⟨fr5, hn5, hs5, I.ls, by omega, ?_, nd', fun e he => ?_⟩, by omega⟩
      · exact Lv.next W I.V P.fo nqt fun s => List.mem_append
      · exact of_decide_eq_true (List.mem_filter.mp he).2
end
end Wk
end
section
set_option maxRecDepth 100000
set_option maxHeartbeats 8000000
set_option autoImplicit false
namespace Wk
open PySem Mi Ga
local macro_rules | `(tactic| walk_at "go") => `(tactic| simp only [wX_fn, wS_seq, wS_set, wS_ret, wS_expr, wS_pass, wS_if, wS_put, wX_var, wX_c, wX_2, wX_3, wX_anil, wX_acons, wX_star, wS_asg, wS_par, wS_aug, wX_tup, wX_lst, wX_dict, wX_b, wX_meth, wX_call, wX_if, wX_t1, wX_and2, wX_or2, wX_not1, wX_true, wX_neg, wX_oN, wX_oS, wX_not, wX_and, wX_or, wX_is, wX_cut, wX_fld, wX_ok, wX_no, wO_some, wO_none, wS_nx, wS_rt, List.map_cons, List.map_nil, List.cons_append, List.nil_append, List.append_nil, List.replicate_succ, List.replicate_zero, List.set_cons_zero, List.set_cons_succ, List.getElem?_cons_zero, List.getElem?_cons_succ, List.getElem?_nil, List.length_cons, List.length_nil, Nat.reduceSub, Nat.reduceAdd, Nat.reduceLeDiff, Nat.zero_add, Nat.add_zero, Nat.zero_le, if_true, if_false, ite_true, ite_false, reduceIte, Bool.false_eq_true, Bool.not_true, Bool.not_false, reduceCtorEq, bp_n, bp_t, bps_n, bps_cn, sa_n, sa_c, Option.map_some, g_eqI, g_neI, g_isN, g_isI, g_isNotN, g_isNotI, g_lenT, g_ix0, g_ix1, g_ix2, g_ix5, g_min, g_mx, g_add, g_sub, g_lt, g_le, g_gt, g_ge, g_listT, sz_eq, decide_eq_true_eq, eqk_t3.gEq, Bool.not_eq_true'])
local macro_rules | `(tactic| walk_at "ev") => `(tactic| simp (disch := (first | assumption | exact get_push | exact fr_lt (by assumption) (by assumption) | exact get_app (by assumption) | exact fr_lt (by assumption) (fr_lt (by assumption) (by assumption)) | exact get_app (get_app (by assumption)) | exact get_app get_push)) only [sl_at, is_L, g_lenD, g_listL, g_listD, if_true, ite_true, reduceIte])
theorem eqk_p2U : Eqk Sp2 prD pdP where
  pd := fun ⟨a, b⟩ => rfl
  eq := fun ⟨a, b⟩ ⟨c, d⟩ => by simp [pdP, PyData.eqv, PyData.eqvAll]
  cl := fun ⟨a, b⟩ => by simp [pdP, PyData.canLay0, PyData.canLayAll0]
  dp := fun ⟨a, b⟩ => by simp [pdP, PyData.depth, PyData.depthAll]
/-- all keys of some manuals -/
def evs (dn : List Int) (top : Int) : List Sp2 := dn.flatMap fun m => (Ga.upTo (top + 1)).map fun k => (m, k)
theorem mem_evs {dn : List Int} {top m k : Int} : (m, k) ∈ evs dn top ↔ m ∈ dn ∧ 0 ≤ k ∧ k ≤ top := by
  unfold evs
  rw [List.mem_flatMap]
  constructor
  · rintro ⟨m', h1, h2⟩
    obtain ⟨k', h3, h4⟩ := List.mem_map.mp h2
    cases h4
    have := Ga.mem_upTo.mp h3
    exact ⟨h1, by omega, by omega⟩
  · rintro ⟨h1, h2, h3⟩
    exact ⟨m, h1, List.mem_map.mpr ⟨k, Ga.mem_upTo.mpr (by omega), rfl⟩⟩
theorem evs_snoc (dn : List Int) (m top : Int) : evs (dn ++ [m]) top = evs dn top ++ (Ga.upTo (top + 1)).map fun k => (m, k) := by
  unfold evs
  rw [List.flatMap_append]
  simp
theorem upTo_len (n : Int) : (Ga.upTo n).length = n.toNat := by simp [Ga.upTo]
theorem evs_len (dn : List Int) {top : Int} (h : 0 ≤ top ∧ top ≤ 200) : (evs dn top).length ≤ 201 * dn.length := by
  have := flat_lenS (G := fun m : Int => (Ga.upTo (top + 1)).map fun k => ((m, k) : Sp2)) (k := 201) (fun m => by rw [List.length_map, upTo_len]; omega) dn
  exact this
noncomputable def nh (cs rs : List Tr3) (all : Bool) (oct many rank top p : Int) : Bool := @decide (¬ Heard cs rs top oct all (evs (Ga.upTo many) top) (rank, p)) (Classical.propDecidable _)
theorem nh_iff {cs rs : List Tr3} {all : Bool} {oct many rank top p : Int} : nh cs rs all oct many rank top p = true ↔ ¬ Heard cs rs top oct all (evs (Ga.upTo many) top) (rank, p) := by
  unfold nh
  exact @decide_eq_true_iff _ (Classical.propDecidable _)
/-- the pipes of a rank that are not heard -/
noncomputable def qlist (cs rs : List Tr3) (all : Bool) (oct many rank top : Int) : List Int := (Ga.upTo (top + 1)).filter (nh cs rs all oct many rank top)
section
variable {M : Hs} {t : Nat} {many : Int} {cs rs : List Tr3} {ch : Str} {oct : Int}
theorem law_quiet_w (tt : Tt M t many cs rs ch oct) (hch : ch = "all" ∨ ch = "pressed") (hcl : cs.length ≤ 100) (hrl : rs.length ≤ 50) (hmany : many = 1 ∨ many = 2) {rank top : Int} (h0 : 0 ≤ top ∧ top ≤ 200) :
    wX (f__law_quiet [.ref t, .int rank, .int top] M) fun d M' => ∃ n, d = .ref n ∧ M'[n]? = some (.lst ((qlist cs rs (decide (ch = "all")) oct many rank top).map D.int)) ∧ Fr No M M' := by
  have hsz : sizeLine = 16777216 := rfl
  have lh := @law_heard_w
  unfold f__law_quiet
  generalize f__law_heard = F1 at lh ⊢
  try walk_at "go"
  have hok : okRg (top + 1) = true := okRg_small (by omega) (by omega)
  have fr0 : Fr No M (M ++ [MO.lst []]) := Fr.push _ _
  have e0 : x2 gIxA (xVar 0) (xC (.int 0)) [some (.ref t), some (.int rank), some (.int top), some (.ref M.length), none, none, none, none] (M ++ [MO.lst []]) = .ok (.int many) (M ++ [MO.lst []]) := by
    have e : gIxA (.ref t) (.int 0) (M ++ [MO.lst []]) = some (.int many, M ++ [MO.lst []]) := g_ixL (i := 0) (fr0.get tt id) rfl
    simp [x2, xVar, xC, R.bind, R.of, e]
  refine for_list D.int (as := Ga.upTo many) (src_rg1 (j := many) e0 (okRg_small (by omega) (by omega))) (fun dn ζ M' => ∃ n a4, ζ = [some (.ref t), some (.int rank), some (.int top), some (.ref n), a4, none, none, none] ∧ Fr No M M' ∧ M'[n]? = some (.lst ((evs dn top).map prD))) ?_ (fun _ _ _ _ => trivial) ?_ ?_
  · exact ⟨_, _, rfl, fr0, by rw [get_push]; rfl⟩
  · rintro dn m rest ζ N hdn ⟨n, a4, rfl, frN, hN⟩
    refine ⟨[(4, .int m)], rfl, ?_⟩
    simp only [setAll, List.set_cons_succ, List.set_cons_zero]
    have hdl : dn.length ≤ 2 := by
      have := congrArg List.length hdn
      rw [upTo_len] at this
      simp at this
      omega
    try walk_at "go"
    refine wX_mono (lc_ret D.int (fun _ => true) (fun k => prD (m, k)) (src_rg1 (f := x2 gAdd (xVar 2) (xC (.int 1))) (j := top + 1) rfl hok) (Fr.refl _ _) (fun _ _ => trivial) (by rw [upTo_len]; omega) fun k hk M' fr => ?_) ?_
    · refine ⟨[(6, .int k)], rfl, rfl, Fr.refl _ _, fun _ => ?_⟩
      simp only [wipeD, setAll, List.set_cons_succ, List.set_cons_zero]
      try walk_at "go"
      exact ⟨rfl, Fr.refl _ _⟩
    rintro d N1 ⟨n1, rfl, hn1, hm1, fr1⟩
    have e1 : ((Ga.upTo (top + 1)).filter fun _ => true).map (fun k => prD (m, k)) = ((Ga.upTo (top + 1)).map fun k => ((m, k) : Sp2)).map prD := by
      rw [List.filter_eq_self.mpr (fun _ _ => rfl), List.map_map]
      rfl
    rw [e1] at hm1
    have hel := evs_len dn h0
    rw [g_catL (fr1.get hN id) hm1 (by rw [List.length_append, List.length_map, List.length_map, List.length_map, upTo_len]; omega), wO_some]
    exact ⟨_, _, rfl, (frN.trans fr1).pushHi, by rw [get_push, evs_snoc, List.map_append]⟩
  · rintro ζ N ⟨n, a4, rfl, frN, hN⟩
    simp only [List.getElem?_cons_succ, List.getElem?_cons_zero]
    have hel := evs_len (Ga.upTo many) h0
    rw [upTo_len] at hel
    refine wX_mono (lh (frN.get tt id) hch hcl hrl top h0.1 (fun _ => by omega) (evs (Ga.upTo many) top) (by omega) hN) ?_
    rintro d N1 ⟨n1, xs, rfl, hm1, nd1, me1, fr1, hn1⟩
    simp only [List.set_cons_succ, List.set_cons_zero]
    refine wX_mono (lc_ret D.int (fun p => !decide ((rank, p) ∈ srtB SrtO.lexB xs)) (fun p => D.int p) (src_rg1 (f := x2 gAdd (xVar 2) (xC (.int 1))) (j := top + 1) rfl hok) (Fr.refl _ _) (fun _ _ => trivial) (by rw [upTo_len]; omega) fun k hk M' fr => ?_) ?_
    · refine ⟨[(7, .int k)], rfl, ?_⟩
      simp only [wipeD, setAll, List.set_cons_succ, List.set_cons_zero]
      try walk_at "go"
      rw [show D.tup [.int rank, .int k] = prD (rank, k) from rfl, eqk_p2U.gIn (.inl ⟨n1, rfl, fr.get hm1 id⟩), wO_some]
      exact ⟨by congr, Fr.refl _ _, fun _ => ⟨trivial, Fr.refl _ _⟩⟩
    rintro d N2 ⟨n2, rfl, hn2, hm2, fr2⟩
    refine ⟨n2, rfl, ?_, (frN.trans fr1).trans fr2⟩
    rw [hm2]
    unfold qlist
    congr 3
    refine List.filter_congr fun p hp => ?_
    have : (rank, p) ∈ srtB SrtO.lexB xs ↔ Heard cs rs top oct (decide (ch = "all")) (evs (Ga.upTo many) top) (rank, p) := by
      rw [srt_mem]
      exact me1 _
    by_cases h : Heard cs rs top oct (decide (ch = "all")) (evs (Ga.upTo many) top) (rank, p)
    · rw [decide_eq_true (this.mpr h)]
      cases hn : nh cs rs (decide (ch = "all")) oct many rank top p with
      | false => rfl
      | true => exact absurd h (nh_iff.mp hn)
    · rw [decide_eq_false (fun z => h (this.mp z)), nh_iff.mpr h]
      rfl
end
/-- what is quiet, by the law's own walk -/
theorem mem_qlist {cs rs : List Tr3} {all : Bool} {oct many rank : Int} (hmany : many = 1 ∨ many = 2) (ok : (⟨cs, rs, all, oct⟩ : Og).Ok) {T p : Int} (hT : 0 ≤ T) :
    p ∈ qlist cs rs all oct many rank T ↔ 0 ≤ p ∧ Quiet (wB ⟨cs, rs, all, oct⟩ rank (Ga.upTo many)) (qtF ⟨cs, rs, all, oct⟩ rank) T.toNat p.toNat := by
  have hm : ∀ m ∈ Ga.upTo many, m = 0 ∨ m = 1 := fun m h => by
    have := Ga.mem_upTo.mp h
    omega
  have eT : ((T.toNat : Nat) : Int) = T := by omega
  unfold qlist
  rw [List.mem_filter, Ga.mem_upTo, quiet_iff ok hm, eT]
  constructor
  · rintro ⟨h1, h2⟩
    have h2 := nh_iff.mp h2
    have ep : ((p.toNat : Nat) : Int) = p := by omega
    refine ⟨h1.1, by omega, ?_⟩
    rw [ep, snd_heardS (st := evs (Ga.upTo many) T) (fun q hq => ?_) (fun k m hm h3 h4 => ?_) ⟨h1.1, by omega⟩]
    · exact h2
    · obtain ⟨m, k⟩ := q
      obtain ⟨h3, h4⟩ := mem_evs.mp hq
      exact ⟨hm m h3, h4⟩
    · rw [mem_evs]
      exact ⟨fun h => ⟨h, h3, h4⟩, fun h => h.1⟩
  · rintro ⟨h1, h2, h3⟩
    have ep : ((p.toNat : Nat) : Int) = p := by omega
    refine ⟨⟨h1, by omega⟩, nh_iff.mpr ?_⟩
    rw [ep, snd_heardS (st := evs (Ga.upTo many) T) (fun q hq => ?_) (fun k m hm h3 h4 => ?_) ⟨h1, by omega⟩] at h3
    · exact h3
    · obtain ⟨m, k⟩ := q
      obtain ⟨h3, h4⟩ := mem_evs.mp hq
      exact ⟨hm m h3, h4⟩
    · rw [mem_evs]
      exact ⟨fun h => ⟨h, h3, h4⟩, fun h => h.1⟩
end Wk
end
section
set_option maxRecDepth 100000
set_option maxHeartbeats 8000000
set_option autoImplicit false
namespace Wk
open PySem Mi Ga
local macro_rules | `(tactic| walk_at "go") => `(tactic| simp only [wX_fn, wS_seq, wS_set, wS_ret, wS_expr, wS_pass, wS_if, wS_put, wX_var, wX_c, wX_2, wX_3, wX_anil, wX_acons, wX_star, wS_asg, wS_par, wS_aug, wX_tup, wX_lst, wX_dict, wX_b, wX_meth, wX_call, wX_if, wX_t1, wX_and2, wX_or2, wX_not1, wX_true, wX_neg, wX_oN, wX_oS, wX_not, wX_and, wX_or, wX_is, wX_cut, wX_fld, wX_ok, wX_no, wO_some, wO_none, wS_nx, wS_rt, List.map_cons, List.map_nil, List.cons_append, List.nil_append, List.append_nil, List.replicate_succ, List.replicate_zero, List.set_cons_zero, List.set_cons_succ, List.getElem?_cons_zero, List.getElem?_cons_succ, List.getElem?_nil, List.length_cons, List.length_nil, Nat.reduceSub, Nat.reduceAdd, Nat.reduceLeDiff, Nat.zero_add, Nat.add_zero, Nat.zero_le, if_true, if_false, ite_true, ite_false, reduceIte, Bool.false_eq_true, Bool.not_true, Bool.not_false, reduceCtorEq, bp_n, bp_t, bps_n, bps_cn, sa_n, sa_c, Option.map_some, g_eqI, g_neI, g_isN, g_isI, g_isNotN, g_isNotI, g_lenT, g_ix0, g_ix1, g_ix2, g_ix5, g_min, g_mx, g_add, g_sub, g_lt, g_le, g_gt, g_ge, g_listT, sz_eq, decide_eq_true_eq, eqk_t3.gEq, Bool.not_eq_true'])
local macro_rules | `(tactic| walk_at "ev") => `(tactic| simp (disch := (first | assumption | exact get_push | exact fr_lt (by assumption) (by assumption) | exact get_app (by assumption) | exact fr_lt (by assumption) (fr_lt (by assumption) (by assumption)) | exact get_app (get_app (by assumption)) | exact get_app get_push)) only [sl_at, is_L, g_lenD, g_listL, g_listD, if_true, ite_true, reduceIte])
def oddsR : List D := [.int (-1), .int 3, .bl true, .non, .str "0"]
theorem silent_odd {d : D} (hd : d ∈ oddsR) (o : D) (M : Hs) : f_silent [o, d] M = .ex 12 [] M := by
  have e : f_look_at_rank [d] M = .ex 12 [] M := by
    unfold oddsR at hd
    simp only [List.mem_cons, List.not_mem_nil, or_false] at hd
    rcases hd with rfl | rfl | rfl | rfl | rfl <;> rfl
  unfold f_silent fnS
  generalize f_look_at_rank = F at e ⊢
  simp [sSeq, sExpr, RS.of, xCall, aCons, aNil, xVar, R.bind, e]
theorem refusedR_w {d : D} (hd : d ∈ oddsR) (o : D) (M : Hs) : wX (f__law_refused [o, d] M) fun e M' => e = .bl true ∧ M' = M := by
  have e := silent_odd hd o M
  refine wX_R ?_
  unfold f__law_refused
  generalize f_silent = F at e ⊢
  rw [wR_fn, wT_seq, wT_set]
  refine wR_x ?_
  try walk_at "go"
  rw [wT_seq]
  refine wT_try ?_
  rw [wT_expr, wR_call]
  refine wR_x ?_
  try walk_at "go"
  rw [e]
  show wT (tryR cN _ 12 [] [some o, some d, some (.bl false)] M) _ _ _
  have e : tryR cN [⟨mt_InvalidRank, none, fun a d c fs => sSet 2 (xC (.bl true))⟩] 12 [] [some o, some d, some (.bl false)] M = .nx [some o, some d, some (.bl true)] M := by
    refine tryR_yes rfl fun a d => ?_
    simp [suR, sEnd, onS, offS, dOf, sSet, xC, RS.of]
  rw [e, wT_nx, wT_ret]
  refine wR_x ?_
  try walk_at "go"
  exact ⟨trivial, trivial⟩
theorem upTo_split {n : Int} {dn rest : List Int} {a : Int} (h : Ga.upTo n = dn ++ a :: rest) : a = dn.length ∧ ∀ x ∈ dn, 0 ≤ x ∧ x < a := by
  have h1 : (Ga.upTo n)[dn.length]? = some a := by rw [h]; simp
  have h2 : ∀ i, i < (Ga.upTo n).length → (Ga.upTo n)[i]? = some (i : Int) := fun i hi => by
    unfold Ga.upTo at hi ⊢
    rw [List.length_map, List.length_range] at hi
    rw [List.getElem?_map, List.getElem?_range hi]
    rfl
  have hl : dn.length < (Ga.upTo n).length := by rw [h]; simp
  have ha : a = dn.length := by rw [h2 _ hl] at h1; exact (Option.some.inj h1).symm
  refine ⟨ha, fun x hx => ?_⟩
  obtain ⟨i, hi⟩ := List.mem_iff_getElem?.mp hx
  have hil := (List.getElem?_eq_some_iff.mp hi).1
  have : (Ga.upTo n)[i]? = some x := by rw [h, List.getElem?_append_left hil]; exact hi
  rw [h2 i (by omega)] at this
  have := Option.some.inj this
  omega
theorem og_okU {many : Int} {cs rs : List Tr3} {ch : Str} {oct : Int} (p : Parts many cs rs ch oct) : (ogOf cs rs ch oct).Ok where
  cm := fun c hc => by
    have := vC_at (p.cv c hc)
    have := p.m
    omega
  rm := fun r hr => by
    have := vS_at (p.rv r hr)
    have := p.m
    omega
  oc := p.o
theorem qlist_head {cs rs : List Tr3} {all : Bool} {oct many rank T h : Int} {r : List Int} (e : qlist cs rs all oct many rank T = h :: r) : ∀ x ∈ qlist cs rs all oct many rank T, h ≤ x := fun x hx => by
  have pw : (Ga.upTo (T + 1)).Pairwise (· < ·) := by
    unfold Ga.upTo
    rw [List.pairwise_map]
    exact List.pairwise_lt_range.imp fun h => by omega
  have pw2 : (qlist cs rs all oct many rank T).Pairwise (· < ·) := pw.sublist List.filter_sublist
  rw [e] at pw2 hx
  rcases List.mem_cons.mp hx with rfl | hx
  · exact Int.le_refl _
  · exact Int.le_of_lt ((List.pairwise_cons.mp pw2).1 x hx)
/-- what is due behind some tops -/
def DueP (ql : Int → List Int) (dn : List Int) (d : D) : Prop := (d = .non ∧ ∀ T ∈ dn, ql T = []) ∨ ∃ T h r, T ∈ dn ∧ d = .tup [.int T, .int h] ∧ ql T = h :: r ∧ ∀ T' ∈ dn, T' < T → ql T' = []
theorem law_w (ns : List Int) (hl : ns.length ≤ 63) : wX (f_law [.klst (ns.map D.int)] []) fun d _ => d = .bl true := by
  have hsz : sizeLine = 16777216 := rfl
  have mw := law_mix_w ns hl 6
  have ow : ∀ M, Hd M → 2 ≤ M.length → _ := fun M hd hM => law_organ_w (M := M) hd hM 4 4 3 (by decide) (by decide) (by decide) (by decide) (by decide)
  have bw := @built_w
  have sw := @silent_w
  have qw := @law_quiet_w
  have rw_ := @refusedR_w
  unfold f_law
  generalize f__law_mix = F1 at mw ⊢
  generalize f__law_organ = F2 at ow ⊢
  generalize f__law_built = F3 at bw ⊢
  generalize f_silent = F4 at sw ⊢
  generalize f__law_quiet = F5 at qw ⊢
  generalize f__law_refused = F6 at rw_ ⊢
  rw [wX_fn]
  simp only [List.length_cons, List.length_nil, Nat.zero_add, Nat.reduceSub, List.map_cons, List.map_nil, List.replicate_succ, List.replicate_zero, List.cons_append, List.nil_append, if_true]
  rw [wS_seq, wS_set, wX_call, wX_acons, wX_var]
  simp only [List.getElem?_cons_zero, wX_acons, wX_anil, wX_c, List.length_cons, List.length_nil, Nat.zero_add, Nat.reduceAdd, if_true]
  refine wX_mono mw ?_
  rintro d M0 ⟨rfl, hd0, hM0⟩
  simp only [List.set_cons_succ, List.set_cons_zero]
  rw [wS_seq, wS_set, wX_call]
  simp only [List.getElem?_cons_zero, List.getElem?_cons_succ, wX_var, wX_acons, wX_anil, wX_c, List.length_cons, List.length_nil, Nat.zero_add, Nat.reduceAdd, if_true]
  refine wX_mono (ow M0 hd0 (by omega)) ?_
  rintro d M1 ⟨t, many, cs, rs, ch, oct, rfl, ht2, tt1, p, hd1, fr1⟩
  simp only [List.set_cons_succ, List.set_cons_zero]
  have hcl := p.cl
  have hrl := p.r4
  have ok := og_okU p
  rw [wS_seq, wS_set, wX_call]
  simp only [List.getElem?_cons_zero, List.getElem?_cons_succ, wX_var, wX_acons, wX_anil, wX_c, List.length_cons, List.length_nil, Nat.zero_add, Nat.reduceAdd, if_true]
  refine wX_mono (bw tt1 p) ?_
  rintro d M2 ⟨g, rfl, hg, og2, fr2⟩
  simp only [List.set_cons_succ, List.set_cons_zero]
  have tt2 : Tt M2 t many cs rs ch oct := fr2.get tt1 id
  rw [wS_seq]
  refine for_list D.int (as := Ga.upTo 3) (src_rg1 (f := xC (.int 3)) (j := 3) rfl (by decide)) (fun dn ζ M' => (∃ a4 a5 a6 a7 a8 a9, ζ = [some (.klst (ns.map D.int)), some (.ref 1), some (.ref t), some (.ref g), a4, a5, a6, a7, a8, a9]) ∧ Fr No M2 M') ?_ (fun _ _ _ _ => trivial) ?_ ?_
  · exact ⟨⟨_, _, _, _, _, _, rfl⟩, Fr.refl _ _⟩
  · rintro dn rank rest ζ N hdn ⟨⟨a4, a5, a6, a7, a8, a9, rfl⟩, frN⟩
    have hrank : 0 ≤ rank ∧ rank < 3 := Ga.mem_upTo.mp (by rw [hdn]; simp)
    refine ⟨[(4, .int rank)], rfl, ?_⟩
    simp only [sa_n, sa_c, List.set_cons_succ, List.set_cons_zero]
    rw [wS_seq, wS_set, wX_call]
    simp only [List.getElem?_cons_zero, List.getElem?_cons_succ, wX_var, wX_acons, wX_anil, wX_c, List.length_cons, List.length_nil, Nat.zero_add, Nat.reduceAdd, if_true]
    refine wX_mono (sw (frN.get og2 id) p.c ok (by omega) (by omega) p.m ⟨hrank.1, by omega⟩) ?_
    rintro told N1 ⟨frN1, sil⟩
    have mq : ∀ {T p' : Int}, 0 ≤ T → (p' ∈ qlist cs rs (decide (ch = "all")) oct many rank T ↔ 0 ≤ p' ∧ Quiet (wB (ogOf cs rs ch oct) rank (Ga.upTo many)) (qtF (ogOf cs rs ch oct) rank) T.toNat p'.toNat) := fun {T p'} h => mem_qlist p.m ok h
    generalize wA (ogOf cs rs ch oct) rank (Ga.upTo many) = A at sil
    generalize wB (ogOf cs rs ch oct) rank (Ga.upTo many) = B at sil mq
    generalize qtF (ogOf cs rs ch oct) rank = qt at sil mq
    have qhd := @qlist_head cs rs (decide (ch = "all")) oct many rank
    have qw' := fun {M : Hs} {T : Int} (tt : Tt M t many cs rs ch oct) (h : 0 ≤ T ∧ T ≤ 200) => qw tt p.c (by omega) (by omega) p.m (rank := rank) (top := T) h
    generalize qlist cs rs (decide (ch = "all")) oct many rank = ql at mq qhd qw'
    have fr1' := frN.trans frN1
    simp only [List.set_cons_succ, List.set_cons_zero]
    rw [wS_seq, wS_set, wX_c]
    simp only [List.set_cons_succ, List.set_cons_zero]
    rw [wS_seq]
    refine for_list D.int (as := Ga.upTo 10) (src_rg1 (f := xC (.int 10)) (j := 10) rfl (by decide)) (fun dn ζ M' => (∃ due a7 a8, ζ = [some (.klst (ns.map D.int)), some (.ref 1), some (.ref t), some (.ref g), some (.int rank), some told, some due, a7, a8, a9] ∧ DueP ql dn due) ∧ Fr No M2 M') ?_ (fun _ _ _ _ => trivial) ?_ ?_
    · exact ⟨⟨.non, _, _, rfl, .inl ⟨rfl, fun _ h => (by cases h)⟩⟩, fr1'⟩
    · rintro dn2 top rest2 ζ N2 hdn2 ⟨⟨due, a7', a8', rfl, hdue⟩, frN2⟩
      obtain ⟨ht1, ht2'⟩ := upTo_split hdn2
      have htop : 0 ≤ top ∧ top < 10 := Ga.mem_upTo.mp (by rw [hdn2]; simp)
      refine ⟨[(7, .int top)], rfl, ?_⟩
      simp only [sa_n, sa_c, List.set_cons_succ, List.set_cons_zero]
      rw [wS_seq, wS_set, wX_call]
      simp only [List.getElem?_cons_zero, List.getElem?_cons_succ, wX_var, wX_acons, wX_anil, wX_c, List.length_cons, List.length_nil, Nat.zero_add, Nat.reduceAdd, if_true]
      refine wX_mono (qw' (frN2.get tt2 id) ⟨htop.1, by omega⟩) ?_
      rintro d N3 ⟨n3, rfl, hm3, fr3⟩
      simp only [List.set_cons_succ, List.set_cons_zero]
      rw [wS_if]
      try walk_at "go"
      rcases hdue with ⟨rfl, hall⟩ | ⟨T, h, r, hT, rfl, hq, hall⟩
      · rw [g_isN]
        simp only [wO_some, if_true]
        have fr4 : Fr No N3 (N3 ++ [MO.lst []]) := Fr.push _ _
        rw [eqk_int.gNeNil (fr4.get hm3 id) get_push, wO_some]
        cases hq : ql top with
        | nil =>
          simp only [List.isEmpty_nil, Bool.not_true, Bool.false_eq_true, if_false]
          exact ⟨⟨_, _, _, rfl, .inl ⟨rfl, fun T hT => (List.mem_append.mp hT).elim (hall T) fun h => by rw [List.mem_singleton.mp h]; exact hq⟩⟩, (frN2.trans fr3).trans fr4⟩
        | cons h r =>
          simp only [List.isEmpty_cons, Bool.not_false, if_true]
          rw [g_ixR (d := .int h) (fr4.get hm3 id) (by decide) (by rw [hq]; rfl), wO_some]
          exact ⟨⟨_, _, _, rfl, .inr ⟨top, h, r, by simp, rfl, hq, fun T' hT' hlt => (List.mem_append.mp hT').elim (fun h => hall T' h) fun h => by have := List.mem_singleton.mp h; omega⟩⟩, (frN2.trans fr3).trans fr4⟩
      · rw [show gIs (D.tup [.int T, .int h]) .non N3 = some (.bl false, N3) from rfl]
        simp only [wO_some, Bool.false_eq_true, if_false]
        exact ⟨⟨_, _, _, rfl, .inr ⟨T, h, r, List.mem_append_left _ hT, rfl, hq, fun T' hT' hlt => (List.mem_append.mp hT').elim (fun h => hall T' h hlt) fun h => by have := List.mem_singleton.mp h; have := ht2' T hT; omega⟩⟩, frN2.trans fr3⟩
    · rintro ζ N2 ⟨⟨due, a7', a8', rfl, hdue⟩, frN2⟩
      have mem10 : ∀ T : Int, T ∈ Ga.upTo 10 ↔ 0 ≤ T ∧ T < 10 := fun T => Ga.mem_upTo
      rw [wS_seq, wS_if]
      try walk_at "go"
      rcases hdue with ⟨rfl, hall⟩ | ⟨T, h, r, hT, rfl, hq, hall⟩
      · -- nothing is due
        rw [show gIsNot D.non .non N2 = some (.bl false, N2) from rfl]
        simp only [wO_some, Bool.false_eq_true, if_false]
        try walk_at "go"
        rcases sil with ⟨rfl, hno⟩ | ⟨T, q, rfl, hq, hmin, hle⟩
        · rw [show gIsNot D.non .non N2 = some (.bl false, N2) from rfl]
          simp only [wO_some, Bool.false_eq_true, if_false]
          try walk_at "go"
          exact ⟨⟨_, _, _, _, _, _, rfl⟩, frN2⟩
        · rw [show gIsNot (D.tup [.int T, .int q]) .non N2 = some (.bl true, N2) from rfl]
          simp only [wO_some, if_true]
          have hT10 : 10 ≤ T := by
            rcases Nat.lt_or_ge T 10 with h | h
            · have h1 : ql (T : Int) = [] := hall T ((mem10 _).mpr ⟨by omega, by omega⟩)
              have h2 : (q : Int) ∈ ql (T : Int) := (mq (by omega)).mpr ⟨by omega, by simpa using hq⟩
              rw [h1] at h2
              cases h2
            · exact h
          rw [g_ix0, wO_some, g_lt, wO_some, decide_eq_false (show ¬ (T : Int) < 10 by omega)]
          simp only [Bool.false_eq_true, if_false]
          try walk_at "go"
          by_cases h99 : (T : Int) < 99
          · rw [if_pos h99]
            refine wX_mono (qw' (frN2.get tt2 id) (T := T) ⟨by omega, by omega⟩) ?_
            rintro d N3 ⟨n3, rfl, hm3, fr3⟩
            have h2 : (q : Int) ∈ ql (T : Int) := (mq (by omega)).mpr ⟨by omega, by simpa using hq⟩
            rw [eqk_int.gIn (.inl ⟨n3, rfl, hm3⟩), wO_some, decide_eq_true h2]
            simp only [Bool.not_true, Bool.false_eq_true, if_false]
            try walk_at "go"
            exact ⟨⟨_, _, _, _, _, _, rfl⟩, frN2.trans fr3⟩
          · rw [if_neg h99]
            exact ⟨⟨_, _, _, _, _, _, rfl⟩, frN2⟩
      · -- something is due
        have hT10 := (mem10 T).mp hT
        have hh : h ∈ ql T := by rw [hq]; exact List.mem_cons_self
        obtain ⟨h0, hQ⟩ := (mq hT10.1).mp hh
        have etold : told = prD (T, h) := by
          rcases sil with ⟨_, hno⟩ | ⟨T', q, rfl, hq', hmin, hle⟩
          · exact absurd hQ (hno _ _)
          · have h1 : ¬ (T : Int).toNat < T' := fun hlt => hmin _ _ hlt hQ
            have hin : (q : Int) ∈ ql (T' : Int) := (mq (by omega)).mpr ⟨by omega, by simpa using hq'⟩
            have h2 : ¬ (T' : Int) < T := fun hlt => by
              rw [hall T' ((mem10 _).mpr ⟨by omega, by omega⟩) hlt] at hin
              cases hin
            have eT : (T' : Int) = T := by omega
            rw [eT] at hin
            have h3 := qhd hq _ hin
            have eT2 : T.toNat = T' := by omega
            rw [eT2] at hQ
            have h4 := hle _ hQ
            show D.tup [.int (T' : Int), .int (q : Int)] = .tup [.int T, .int h]
            rw [eT, show (q : Int) = h by omega]
        rw [show gIsNot (D.tup [.int T, .int h]) .non N2 = some (.bl true, N2) from rfl]
        simp only [wO_some, if_true]
        rw [etold, show D.tup [.int T, .int h] = prD (T, h) from rfl, eqk_p2U.gNe, wO_some]
        simp only [decide_true, Bool.not_true, Bool.false_eq_true, if_false]
        try walk_at "go"
        rw [show gIs (prD (T, h)) .non N2 = some (.bl false, N2) from rfl]
        simp only [wO_some, Bool.false_eq_true, if_false]
        try walk_at "go"
        exact ⟨⟨_, _, _, _, _, _, rfl⟩, frN2⟩
  · rintro ζ N ⟨⟨a4, a5, a6, a7, a8, a9, rfl⟩, frN⟩
    rw [wS_ret]
    try walk_at "go"
    have hsrc : wX ((xLst (aCons (xNeg (xC (.int 1))) (aCons (xC (.int 3)) (aCons (xC (.bl true)) (aCons (xC .non) (aCons (xC (.str "0")) aNil)))))) [some (.klst (ns.map D.int)), some (.ref 1), some (.ref t), some (.ref g), a4, a5, a6, a7, a8, a9] N) fun d M' => d = .ref N.length ∧ M' = N ++ [.lst oddsR] := by
      try walk_at "go"
      exact ⟨trivial, rfl⟩
    obtain ⟨d0, N0, e0, rfl, rfl⟩ := wX_get hsrc
    have h0 : (N ++ [MO.lst oddsR])[N.length]? = some (.lst oddsR) := get_push
    refine wX_mono (lc_ret (id : D → D) (fun _ => true) (fun _ => D.bl true) (as := oddsR) (src_d (xs := oddsR) e0 (s_ref h0)) (Fr.push _ _) (fun M' fr => s_ref (fr.get h0 id)) (by show 5 < sizeLine; omega) fun d hd M' fr => ?_) ?_
    · refine ⟨[(9, d)], bp_n, rfl, Fr.refl _ _, fun _ => ?_⟩
      simp only [wipeD, setAll, List.set_cons_succ, List.set_cons_zero]
      try walk_at "go"
      refine wX_mono (rw_ hd _ _) ?_
      rintro e M2 ⟨rfl, rfl⟩
      exact ⟨rfl, Fr.refl _ _⟩
    rintro d N1 ⟨n, rfl, hn, hm, fr1⟩
    have ea : gAll [.ref n] N1 = some (.bl true, N1) := by
      unfold gAll gBools
      dsimp only
      rw [s_ref hm]
      rfl
    rw [ea]
    rfl
theorem pure (ns : List Int) (hl : ns.length ≤ 63) : ∃ M, f_law [.klst (ns.map .int)] [] = .ok (.bl true) M := by
  obtain ⟨d, M, e, h⟩ := wX_get (law_w ns hl)
  exact ⟨M, by rw [e, h]⟩
end Wk
end
section
set_option maxRecDepth 1000000
set_option maxHeartbeats 0
set_option autoImplicit false
namespace Wk
open PySem PySem.Spec PyProof.Rows L2 Mi
abbrev Rw : PySem.W.OpenRow := PySem.W.OpenLaw.row PySem.Challenge.rw_couplerreach_k06_whole_silent_pipes
abbrev hk : PySem.W.Hook := hookM 6 fa fn
def ob (s : PySem.W.SharedT) : He.AlD := obsMG 6 fa fn (HandSHeadRun.getT s)
theorem ob_eq (s : PySem.W.SharedT) : ob s = hk.obs s.abs := obsMG_eq (HandSHeadRun.getT_eq s)
def loose0 : List Str := ["_wall", "OrganError", "InvalidManuals", "InvalidCoupler", "InvalidStop", "InvalidChain", "InvalidOctave", "InvalidRank", "CHAINS", "OCTAVES", "MOST_COUPLERS", "MOST_STOPS", "MOST_RANK", "MOST_SHIFT", "is_integer", "is_coupler", "is_stop", "look_at_couplers", "look_at_stops", "Organ", "parts_of", "WINDOW", "FAR", "DONE", "first_state", "layers_of", "new_links", "low_pairs", "high_pairs", "new_ends"]
def loose1 : List Str := ["with_layers", "closed", "settled", "older", "step", "is_sounding", "look_at_rank", "silent", "note", "_law_mix", "_law_next", "_law_some", "_law_couplers", "_law_stops", "_law_organ", "_law_built", "_law_led", "_law_on", "_law_heard", "_law_quiet", "_law_refused"]
abbrev loose : List Str := loose0 ++ loose1
theorem run (w : World) : HandSHeadRun.RunEq Rw (PySem.W.view Rw.prog [56]) hk ob 12000 loose w := by
  intro os
  kernel_rfl
/-- the pure law -/
def Pure : Prop := ∀ ns : List Int, ns.length ≤ 63 → ∃ M, f_law [.klst (ns.map .int)] [] = .ok (.bl true) M
theorem only_rel {K : PySem.W.Frag} {H : Hp} {a : Addr} {ns : List Int} (ho : Only H) (h : SqL K H a (ns.map V.int)) : RV K H [] (.klst (ns.map D.int)) (.ref a) := by
  refine .kls (SqK.of h fun e => ?_) (RVs.ints ns)
  rcases ho a with z | ⟨o, xs, z⟩
  · rw [z] at e; cases e
  · rw [z] at e; cases e
theorem law_ok (pure : Pure) {P : Program} {w : World} {K : PySem.W.Frag} {H : Hp} {a : Addr} {ns : List Int} (hl : ns.length ≤ 63) (ho : Only H) (h : SqL K H a (ns.map V.int)) : spF P w K (GmK K) 1 f_law [.ref a] H (fun v _ => v = .bl true) fun _ _ _ => False := by
  obtain ⟨M, e⟩ := pure ns hl
  refine ⟨[.klst (ns.map D.int)], [], [], ⟨rfl, .nil, fun n o b h => by simp at h⟩, .cons (only_rel ho h) .nil, rfl, ?_⟩
  rw [e]
  intro v H' μ' _ _ r
  cases r
  rfl
end Wk
open PySem PySem.W PySem.Calls PyProof.Rows
theorem holds_of (pure : Wk.Pure) : PySem.Challenge.rw_couplerreach_k06_whole_silent_pipes.Holds := by
  w_on; o_law
  refine HandSHeadRun.head_any (r := OpenLaw.row PySem.Challenge.rw_couplerreach_k06_whole_silent_pipes) (q := view (OpenLaw.row PySem.Challenge.rw_couplerreach_k06_whole_silent_pipes).prog [56]) (H := Wk.hk) (ob := Wk.ob) (M := 12000) (loose := Wk.loose) (d := HandSHeadRun.topDef (OpenLaw.row PySem.Challenge.rw_couplerreach_k06_whole_silent_pipes).prog 56) (kwd := []) Wk.ob_eq
    (by kernel_rfl) (fun s => by kernel_rfl) Wk.run (by kernel_rfl) (by kernel_rfl) (by kernel_rfl) (by rfl) (by first | assumption | decide +kernel) (by decide +kernel) ⟨rfl, rfl, rfl, rfl, rfl, by decide +kernel⟩ ?hw ?hc
  case hw => w_witness2
  case hc =>
    refine Mi.walk_at (l := PySem.Challenge.rw_couplerreach_k06_whole_silent_pipes) (n := 63) (k := 8) (x := "_law_script") rfl (by decide) (by kernel_rfl) ⟨rfl, by decide, by decide⟩ ?T
    intro w mg fa h Y G hmg0
    obtain ⟨K, KX, c⟩ := Y
    have hmg : mg ("law" : PySem.Str) = some (.ref fa) := by
      have e : (HandSHeadRun.topDef (OpenLaw.row PySem.Challenge.rw_couplerreach_k06_whole_silent_pipes).prog 56).name = ("law" : PySem.Str) := by kernel_rfl
      rw [← e]
      exact hmg0
    have FT : Wk.Fct K mg := ⟨⟨h, KX, G⟩, c⟩
    have e := hmg.symm.trans (FT.glo (x := "law") 82)
    cases e
    obtain ⟨fd, FD⟩ := FT.c.def_ 35 (d := Wk.d_law) rfl
    have b := L2.FunD.bindsA (ps := ["_law_script"]) FD fun _ _ _ _ _ _ us hl => match us, hl with | [_], _ => rfl
    refine ⟨K, fd, Mi.spF PySem.Challenge.rw_couplerreach_k06_whole_silent_pipes.prog w K (Wk.GmK K) 1 Wk.f_law, KX, fun s v => b s [v] rfl, fun H a ns hl ho hS => Wk.law_ok pure hl ho hS, fun base => ?_⟩
    exact Wk.k_law (P := PySem.Challenge.rw_couplerreach_k06_whole_silent_pipes.prog) (w := w) (base := base) FT FD
end
set_option maxRecDepth 100000 in
theorem PySem.Challenge.cw_couplerreach_k06_whole_silent_pipes_holds : PySem.Challenge.rw_couplerreach_k06_whole_silent_pipes.Holds := by
  exact holds_of fun ns hl => Wk.pure ns hl
