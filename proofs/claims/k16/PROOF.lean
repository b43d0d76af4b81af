import PyProof.Rows.All
import HandS.ForMost
import HandS.ForExc
import HandS.More
import HandS.Star
import HandS.CallSlots
import HandS.Slots
import HandS.SlotsOwn
import HandS.Property
import HandS.TryMany
import KE.KDictKeyed
import KE.KDictWalk
import KE.GoesDict
import HandS.Deep
import HandS.TupAny
import HandS.TupMul
import HandS.Conv
import HandS.Style
import HandS.IsInst
import HandS.WordsExc
import HandS.Comp
import HandS.Iter
import KE.GoesEnum
import HandS.Defaults
import HandS.Dict
import HandS.Small
import HandS.ExcInit
import HandS.ExcIs
import HandS.ExcField
import KE.KExcIs
import HandS.SortInts
import HandS.SortRule
import KE.KDictCopyH
import KE.KDictSum
import PyProof.TupleOfSeq
import HandS.HeadHook2
import HandS.HeadEnd
import HandS.Head2
import HandS.TupSets
import HandS.SetFor
import HandS.Strs
import HandS.DictComp
import KE.SortData
import OpenK.KOps
import KE.KUnpack
import KE.KDictDisplayH
import HandS.DictSubView
import HandS.Text
import HandS.FStr
import PyProof.StrBlock2
import HandS.ExcCtx
import HandS.HotCalls
import HandS.ExcInitHot
import HandS.ExcBuiltin
import PySem.Challenge.RW_couplerreach_k16_errors_apart
set_option Elab.async false
set_option linter.all false
section
set_option maxRecDepth 100000
set_option maxHeartbeats 2000000
set_option autoImplicit false
namespace Mi
open PySem PySem.Spec PyProof.Rows L2

inductive D where
  | non | bl (b : Bool) | int (i : Int) | str (x : Str) | tup (xs : List D) | ref (n : Nat) | klst (xs : List D) | exc (a : Addr) (d : Option Addr) (c : Nat) (ns : List Str) (fs : List D)

/-- what stands at a number -/
inductive MO where
  | lst (xs : List D)
  | ro (xs : List D)
  | dct (kvs : List (D × D))
  | fdc (kvs : List (D × D))
  | dks (kvs : List (Key × D))
  | ins (c : Nat) (fs : List D)
  | slo (c : Nat) (fs : List (Option D))

abbrev Sl := List (Option D)
abbrev Hs := List MO

inductive R (α : Type) where
  | ok (a : α) (M : Hs)
  | ex (c : Nat) (fs : List D) (M : Hs)
  | no

def R.bind {α β : Type} (r : R α) (k : α → Hs → R β) : R β := match r with
  | .ok a M => k a M
  | .ex c fs M => .ex c fs M
  | .no => .no

/-- a statement's end -/
inductive RS where
  | nx (ζ : Sl) (M : Hs)
  | rt (d : D) (M : Hs)
  | bk (ζ : Sl) (M : Hs)
  | ct (ζ : Sl) (M : Hs)
  | ex (c : Nat) (fs : List D) (ζ : Sl) (M : Hs)
  | no

abbrev MX := Sl → Hs → R D
abbrev MT := Sl → Hs → R Bool
abbrev MA := Sl → Hs → R (List D)
abbrev MS := Sl → Hs → RS
abbrev MF := List D → Hs → R D

/-- the classes of the program by numbers: where they stand, their fields' names -/
structure Gm where
  cA : Nat → Addr
  cN : Nat → List Str

/-- a list that nothing writes: the script, a list of the module -/
def SqK (K : PySem.W.Frag) (H : Hp) (a : Addr) (xs : List V) : Prop := (∃ o, H a = some (.frz o (.lst xs))) ∨
  ∃ (o : Obj) (its : Array Value) (n : Nat), K.lookup a = some o ∧ o.cls = .type "list" ∧ o.dict = none ∧ o.data = .seq its n ∧ its.size ≤ sizeLine ∧ Vals xs its.toList
theorem SqK.sq {K : PySem.W.Frag} {H : Hp} {a : Addr} {xs : List V} (h : SqK K H a xs) : SqL K H a xs := h.imp (fun h => .inr h) id
theorem SqK.of {K : PySem.W.Frag} {H : Hp} {a : Addr} {xs : List V} (h : SqL K H a xs) (n : H a ≠ some (.lst xs)) : SqK K H a xs := by
  rcases h with (h | h) | h
  · exact absurd h n
  · exact .inl h
  · exact .inr h
mutual
inductive RV (K : PySem.W.Frag) (H : Hp) (μ : List Addr) : D → V → Prop
  | non : RV K H μ .non .non
  | bl (b : Bool) : RV K H μ (.bl b) (.bl b)
  | int (i : Int) : RV K H μ (.int i) (.int i)
  | str (x : Str) : RV K H μ (.str x) (.str x)
  | tup {a : Addr} {vs : List V} {ds : List D} : SqT K H a vs → RVs K H μ ds vs → RV K H μ (.tup ds) (.ref a)
  | ref {n : Nat} {a : Addr} : μ[n]? = some a → RV K H μ (.ref n) (.ref a)
  | kls {a : Addr} {vs : List V} {ds : List D} : SqK K H a vs → RVs K H μ ds vs → RV K H μ (.klst ds) (.ref a)
  | excN {a : Addr} {c : Nat} {ns : List Str} : RV K H μ (.exc a none c ns []) (.ref a)
  | excD {a d : Addr} {c : Nat} {ns : List Str} {fs : List D} {vs : List V} : H d = some (.xd (ns.zip vs)) → fs.length = ns.length → RVs K H μ fs vs → RV K H μ (.exc a (some d) c ns fs) (.ref a)
inductive RVs (K : PySem.W.Frag) (H : Hp) (μ : List Addr) : List D → List V → Prop
  | nil : RVs K H μ [] []
  | cons {d : D} {v : V} {ds : List D} {vs : List V} : RV K H μ d v → RVs K H μ ds vs → RVs K H μ (d :: ds) (v :: vs)
end

/-- from (μ, H) to (μ', H') nothing that is by value has changed -/
structure Nx (μ : List Addr) (H : Hp) (μ' : List Addr) (H' : Hp) : Prop where
  pre : ∀ (n : Nat) (a : Addr), μ[n]? = some a → μ'[n]? = some a
  tup : ∀ a xs, Rd H a (.tup xs) → Rd H' a (.tup xs)
  frz : ∀ a o u, H a = some (.frz o u) → H' a = some (.frz o u)
  xd : ∀ a fs, H a = some (.xd fs) → H' a = some (.xd fs)
theorem Nx.refl (μ : List Addr) (H : Hp) : Nx μ H μ H := ⟨fun _ _ e => e, fun _ _ e => e, fun _ _ _ e => e, fun _ _ e => e⟩
theorem Nx.trans {μ μ1 μ2 : List Addr} {H H1 H2 : Hp} (x : Nx μ H μ1 H1) (y : Nx μ1 H1 μ2 H2) : Nx μ H μ2 H2 :=
  ⟨fun n a e => y.pre n a (x.pre n a e), fun a xs e => y.tup a xs (x.tup a xs e), fun a o u e => y.frz a o u (x.frz a o u e), fun a fs e => y.xd a fs (x.xd a fs e)⟩
section
variable {K : PySem.W.Frag} {H H' : Hp} {μ μ' : List Addr}
theorem Nx.sqT (x : Nx μ H μ' H') {a : Addr} {xs : List V} (h : SqT K H a xs) : SqT K H' a xs := h.imp (x.tup a xs) id
mutual
theorem RV.mono (x : Nx μ H μ' H') : ∀ {d : D} {v : V}, RV K H μ d v → RV K H' μ' d v
  | _, _, .non => .non
  | _, _, .bl b => .bl b
  | _, _, .int i => .int i
  | _, _, .str z => .str z
  | _, _, .tup h r => .tup (x.sqT h) (RVs.mono x r)
  | _, _, .ref e => .ref (x.pre _ _ e)
  | _, _, .kls h r => .kls (h.imp (fun ⟨o, h⟩ => ⟨o, x.frz _ _ _ h⟩) id) (RVs.mono x r)
  | _, _, .excN => .excN
  | _, _, .excD h l r => .excD (x.xd _ _ h) l (RVs.mono x r)
theorem RVs.mono (x : Nx μ H μ' H') : ∀ {ds : List D} {vs : List V}, RVs K H μ ds vs → RVs K H' μ' ds vs
  | _, _, .nil => .nil
  | _, _, .cons r t => .cons (RV.mono x r) (RVs.mono x t)
end
theorem RVs.length : ∀ {ds : List D} {vs : List V}, RVs K H μ ds vs → ds.length = vs.length
  | _, _, .nil => rfl
  | _, _, .cons _ t => congrArg (· + 1) (RVs.length t)
theorem RVs.get : ∀ {ds : List D} {vs : List V} {i : Nat} {d : D}, RVs K H μ ds vs → ds[i]? = some d → ∃ v, vs[i]? = some v ∧ RV K H μ d v
  | _, _, _, _, .nil, e => by simp at e
  | _, _, 0, _, .cons r _, e => by simp at e; subst e; exact ⟨_, rfl, r⟩
  | _, _, i + 1, d, .cons _ t, e => by
    obtain ⟨v, h1, h2⟩ := RVs.get (i := i) (d := d) t (by simpa using e)
    exact ⟨v, by simpa using h1, h2⟩
theorem RVs.got : ∀ {ds : List D} {vs : List V} {i : Nat} {v : V}, RVs K H μ ds vs → vs[i]? = some v → ∃ d, ds[i]? = some d ∧ RV K H μ d v
  | _, _, _, _, .nil, e => by simp at e
  | _, _, 0, _, .cons r _, e => by simp at e; subst e; exact ⟨_, rfl, r⟩
  | _, _, i + 1, d, .cons _ t, e => by
    obtain ⟨v, h1, h2⟩ := RVs.got (i := i) t (by simpa using e)
    exact ⟨v, by simpa using h1, h2⟩
theorem RVs.append : ∀ {ds es : List D} {vs us : List V}, RVs K H μ ds vs → RVs K H μ es us → RVs K H μ (ds ++ es) (vs ++ us)
  | _, _, _, _, .nil, s => s
  | _, _, _, _, .cons r t, s => .cons r (RVs.append t s)
theorem RVs.take : ∀ {ds : List D} {vs : List V} (n : Nat), RVs K H μ ds vs → RVs K H μ (ds.take n) (vs.take n)
  | _, _, 0, _ => .nil
  | _, _, _ + 1, .nil => .nil
  | _, _, n + 1, .cons r t => .cons r (RVs.take n t)
theorem RVs.drop : ∀ {ds : List D} {vs : List V} (n : Nat), RVs K H μ ds vs → RVs K H μ (ds.drop n) (vs.drop n)
  | _, _, 0, r => r
  | _, _, _ + 1, .nil => .nil
  | _, _, n + 1, .cons _ t => RVs.drop n t
theorem RVs.set {d : D} {v : V} (r : RV K H μ d v) : ∀ {ds : List D} {vs : List V} (i : Nat), RVs K H μ ds vs → RVs K H μ (ds.set i d) (vs.set i v)
  | _, _, _, .nil => .nil
  | _, _, 0, .cons _ t => .cons r t
  | _, _, i + 1, .cons q t => .cons q (RVs.set r i t)
theorem RVs.eraseIdx : ∀ {ds : List D} {vs : List V} (i : Nat), RVs K H μ ds vs → RVs K H μ (ds.eraseIdx i) (vs.eraseIdx i)
  | _, _, _, .nil => .nil
  | _, _, 0, .cons _ t => t
  | _, _, i + 1, .cons r t => .cons r (RVs.eraseIdx i t)
theorem RVs.dropLast {ds : List D} {vs : List V} (r : RVs K H μ ds vs) : RVs K H μ ds.dropLast vs.dropLast := by
  rw [List.dropLast_eq_take, List.dropLast_eq_take, r.length]
  exact r.take _
theorem RVs.reverse : ∀ {ds : List D} {vs : List V}, RVs K H μ ds vs → RVs K H μ ds.reverse vs.reverse
  | _, _, .nil => .nil
  | _, _, .cons r t => by
    rw [List.reverse_cons, List.reverse_cons]
    exact (RVs.reverse t).append (.cons r .nil)
theorem RVs.map {α : Type} (f : α → D) (g : α → V) (h : ∀ a, RV K H μ (f a) (g a)) : ∀ xs : List α, RVs K H μ (xs.map f) (xs.map g)
  | [] => .nil
  | a :: xs => .cons (h a) (RVs.map f g h xs)
theorem RVs.ints (ns : List Int) : RVs K H μ (ns.map D.int) (ns.map V.int) := RVs.map _ _ (fun i => .int i) ns
end

mutual
def nkey : D → Option NestedKey
  | .non => some NestedKey.none
  | .bl b => some (.num (if b = true then 1 else 0))
  | .int i => some (.num i)
  | .str x => some (.text x)
  | .tup xs => (nkeys xs).map .tup
  | .ref _ => none
  | .klst _ => none
  | .exc .. => none
def nkeys : List D → Option (List NestedKey)
  | [] => some []
  | x :: xs => match nkey x, nkeys xs with
    | some k, some ks => some (k :: ks)
    | _, _ => none
end

/-- the dict at d: its entries, keys known by where they stand -/
def dObj (P : Program) (w : World) (d : Addr) (es : List (NestedKey × Addr × V)) (h : Heap) : Prop :=
  ∃ xs : List (NestedKey × Addr × Value), Paired (fun (p : NestedKey × Addr × V) (q : NestedKey × Addr × Value) => p.1 = q.1 ∧ p.2.1 = q.2.1 ∧ RelV p.2.2 q.2.2) es xs ∧
    ∃ o ds ep, h.get? d = some o ∧ o.ExactDict ∧ o.data = .dict ds ep ∧ ds.toList = xs.map (entryOfKey (nestedKind P w)) ∧ (xs.map (·.1)).Nodup ∧ (d == sysModules) = false ∧ xs.length ≤ sizeLine
def dHO (P : Program) (w : World) (d : Addr) (es : List (NestedKey × Addr × V)) : HO := .ext (dObj P w d es)

section
variable (P : Program) (w : World) (K : PySem.W.Frag) (Γ : Gm)
/-- one entry of a dict -/
def REn (K : PySem.W.Frag) (H : Hp) (μ : List Addr) (p : D × D) (q : NestedKey × Addr × V) : Prop := nkey p.1 = some q.1 ∧ q.1.depth ≤ 8 ∧ RV K H μ p.1 (.ref q.2.1) ∧ RV K H μ p.2 q.2.2
def RO (H : Hp) (μ : List Addr) (a : Addr) : MO → Prop
  | .lst xs => ∃ vs, H a = some (.lst vs) ∧ RVs K H μ xs vs
  | .ro xs => ∃ vs, (∃ o, H a = some (.frz o (.lst vs))) ∧ RVs K H μ xs vs
  | .dct kvs => ∃ es, H a = some (dHO P w a es) ∧ Paired (REn K H μ) kvs es
  | .fdc kvs => ∃ es, (∃ o, H a = some (.frz o (dHO P w a es))) ∧ Paired (REn K H μ) kvs es
  | .dks kvs => ∃ vs, H a = some (.dK vs) ∧ Paired (fun (p : Key × D) (q : Key × V) => p.1 = q.1 ∧ RV K H μ p.2 q.2) kvs vs ∧ (kvs.map (·.1)).Nodup
  | .ins c fs => ∃ dx vs, RVs K H μ fs vs ∧ H a = some (.ins (Γ.cA c) dx ((Γ.cN c).zip vs)) ∧ vs.length ≤ (Γ.cN c).length
  | .slo c fs => ∃ (dx : Addr) (vs : List (Option V)), SlX.Slt H a (Γ.cA c) dx vs ∧ dx ≠ a ∧ (H dx = some (.own a) ∨ H dx = some (.xd [])) ∧ ∀ (i : Nat) (d : D), fs[i]? = some (some d) → ∃ v, vs[i]? = some (some v) ∧ RV K H μ d v
/-- the numbers' world lies in the heap -/
structure RH (μ : List Addr) (M : Hs) (H : Hp) : Prop where
  len : M.length = μ.length
  nd : μ.Nodup
  at_ : ∀ (n : Nat) (o : MO) (a : Addr), M[n]? = some o → μ[n]? = some a → RO P w K Γ H μ a o
end
/-- the slots -/
structure RSl (K : PySem.W.Frag) (H : Hp) (μ : List Addr) (ζ : Sl) (σ : L2.St) : Prop where
  len : ζ.length = σ.length
  at_ : ∀ (i : Nat) (d : D), ζ[i]? = some (some d) → ∃ v, σ[i]? = some (some v) ∧ RV K H μ d v
theorem RSl.mono {K : PySem.W.Frag} {H H' : Hp} {μ μ' : List Addr} {ζ : Sl} {σ : L2.St} (r : RSl K H μ ζ σ) (x : Nx μ H μ' H') : RSl K H' μ' ζ σ :=
  ⟨r.len, fun i d e => let ⟨v, h1, h2⟩ := r.at_ i d e; ⟨v, h1, h2.mono x⟩⟩
theorem RSl.set {K : PySem.W.Frag} {H : Hp} {μ : List Addr} {ζ : Sl} {σ : L2.St} (r : RSl K H μ ζ σ) {d : D} {v : V} (rv : RV K H μ d v) (i : Nat) : RSl K H μ (ζ.set i (some d)) (σ.set i (some v)) := by
  refine ⟨by simp [r.len], fun j e h => ?_⟩
  by_cases hj : i = j
  · subst hj
    by_cases hl : i < ζ.length
    · rw [List.getElem?_set_self hl] at h
      cases h
      exact ⟨v, List.getElem?_set_self (by rw [← r.len]; exact hl), rv⟩
    · rw [List.getElem?_eq_none (by simpa using hl)] at h
      cases h
  · rw [List.getElem?_set_ne hj] at h ⊢
    exact r.at_ j e h

section
variable (P : Program) (w : World) (K : PySem.W.Frag) (Γ : Gm)
/-- an exception of the class c with the fields fs -/
def RX (H : Hp) (μ : List Addr) (c : Nat) (fs : List D) (cls : Value) (dd : Option Addr) : Prop :=
  cls = .ref (Γ.cA c) ∧ (fs = [] ∧ dd = none ∨ fs ≠ [] ∧ ∃ d vs, dd = some d ∧ H d = some (.xd ((Γ.cN c).zip vs)) ∧ fs.length = (Γ.cN c).length ∧ RVs K H μ fs vs)
def Pst {α β : Type} (rel : Hp → List Addr → α → β → Prop) (W : WX) (σ : L2.St) (μ : List Addr) (H : Hp) (r : R α) (Q : β → Hp → Prop) : Prop := match r with
  | .ok d M' => ∀ v H' μ', Nx μ H μ' H' → RH P w K Γ μ' M' H' → rel H' μ' d v → Q v H'
  | .ex c fs M' => ∀ cls dd H' μ', Nx μ H μ' H' → RH P w K Γ μ' M' H' → RX K Γ H' μ' c fs cls dd → W cls dd σ H'
  | .no => False
abbrev relV (H : Hp) (μ : List Addr) (d : D) (v : V) : Prop := RV K H μ d v
abbrev relA (H : Hp) (μ : List Addr) (ds : List D) (vs : List V) : Prop := RVs K H μ ds vs
abbrev relB (_ : Hp) (_ : List Addr) (b : Bool) (c : Bool) : Prop := b = c
def PstS (W : WX) (μ : List Addr) (H : Hp) (r : RS) (E : Ends) : Prop := match r with
  | .nx ζ M' => ∀ σ' H' μ', Nx μ H μ' H' → RH P w K Γ μ' M' H' → RSl K H' μ' ζ σ' → E.nx σ' H'
  | .rt d M' => ∀ v H' μ', Nx μ H μ' H' → RH P w K Γ μ' M' H' → RV K H' μ' d v → E.rt v H'
  | .bk ζ M' => ∀ σ' H' μ', Nx μ H μ' H' → RH P w K Γ μ' M' H' → RSl K H' μ' ζ σ' → E.bk σ' H'
  | .ct ζ M' => ∀ σ' H' μ', Nx μ H μ' H' → RH P w K Γ μ' M' H' → RSl K H' μ' ζ σ' → E.ct σ' H'
  | .ex c fs ζ M' => ∀ cls dd σ' H' μ', Nx μ H μ' H' → RH P w K Γ μ' M' H' → RSl K H' μ' ζ σ' → RX K Γ H' μ' c fs cls dd → W cls dd σ' H'
  | .no => False
/-- the state -/
structure RR (μ : List Addr) (H : Hp) (ζ : Sl) (M : Hs) (σ : L2.St) : Prop where
  sl : RSl K H μ ζ σ
  hp : RH P w K Γ μ M H
def tX (W : WX) (f : MX) : TE := fun σ H Q => ∃ ζ M μ, RR P w K Γ μ H ζ M σ ∧ Pst P w K Γ (relV K) W σ μ H (f ζ M) Q
def tT (W : WX) (f : MT) : TT := fun σ H Q => ∃ ζ M μ, RR P w K Γ μ H ζ M σ ∧ Pst P w K Γ relB W σ μ H (f ζ M) Q
def tA (W : WX) (f : MA) : TA := fun σ H Q => ∃ ζ M μ, RR P w K Γ μ H ζ M σ ∧ Pst P w K Γ (relA K) W σ μ H (f ζ M) Q
def tS (W : WX) (f : MS) : TS := fun E σ H => ∃ ζ M μ, RR P w K Γ μ H ζ M σ ∧ PstS P w K Γ W μ H (f ζ M) E
end
section
variable {P : Program} {w : World} {K : PySem.W.Frag} {Γ : Gm} {W : WX} {σ : L2.St} {μ μ1 : List Addr} {H H1 : Hp}
theorem Pst.mono {α β : Type} {rel : Hp → List Addr → α → β → Prop} {r : R α} {Q : β → Hp → Prop} (h : Pst P w K Γ rel W σ μ H r Q) (x : Nx μ H μ1 H1) : Pst P w K Γ rel W σ μ1 H1 r Q := by
  cases r with
  | ok d M => exact fun v H' μ' y rh rv => h v H' μ' (x.trans y) rh rv
  | ex c fs M => exact fun cls dd H' μ' y rh rx => h cls dd H' μ' (x.trans y) rh rx
  | no => exact h
theorem PstS.mono {r : RS} {E : Ends} (h : PstS P w K Γ W μ H r E) (x : Nx μ H μ1 H1) : PstS P w K Γ W μ1 H1 r E := by
  cases r with
  | nx ζ M => exact fun σ' H' μ' y => h σ' H' μ' (x.trans y)
  | bk ζ M => exact fun σ' H' μ' y => h σ' H' μ' (x.trans y)
  | ct ζ M => exact fun σ' H' μ' y => h σ' H' μ' (x.trans y)
  | rt d M => exact fun v H' μ' y => h v H' μ' (x.trans y)
  | ex c fs ζ M => exact fun cls dd σ' H' μ' y => h cls dd σ' H' μ' (x.trans y)
  | no => exact h
theorem Pst.bind {α β γ δ : Type} {rel : Hp → List Addr → α → β → Prop} {rel' : Hp → List Addr → γ → δ → Prop} {r : R α} {k : α → Hs → R γ} {Q : δ → Hp → Prop} (h : Pst P w K Γ rel' W σ μ H (r.bind k) Q) :
    Pst P w K Γ rel W σ μ H r fun v H1 => ∃ d M1 μ1, Nx μ H μ1 H1 ∧ RH P w K Γ μ1 M1 H1 ∧ rel H1 μ1 d v ∧ Pst P w K Γ rel' W σ μ1 H1 (k d M1) Q := by
  cases r with
  | ok d M => exact fun v H' μ' y rh rv => ⟨d, M, μ', y, rh, rv, Pst.mono h y⟩
  | ex c fs M => exact h
  | no => exact h
end
/-- weaker readings -/
theorem PE.imp {X : Cx} {e : Expr} {t t' : TE} (h : PE X e t) (i : ∀ σ H Q, t' σ H Q → t σ H Q) : PE X e t' := ⟨fun pins s σ H Q I q => h.run pins s σ H Q I (i _ _ _ q)⟩
theorem PT.imp {X : Cx} {e : Expr} {t t' : TT} (h : PT X e t) (i : ∀ σ H Q, t' σ H Q → t σ H Q) : PT X e t' := ⟨fun pins s σ H Q I q => h.run pins s σ H Q I (i _ _ _ q)⟩
theorem PA.imp {X : Cx} {e : List Expr} {t t' : TA} (h : PA X e t) (i : ∀ σ H Q, t' σ H Q → t σ H Q) : PA X e t' := ⟨fun pos pins s σ H Q I q => h.run pos pins s σ H Q I (i _ _ _ q)⟩
theorem PS.imp {X : Cx} {e : Stmt} {t t' : TS} (h : PS X e t) (i : ∀ E σ H, t' E σ H → t E σ H) : PS X e t' := ⟨fun pins s σ H E I q => h.run pins s σ H E I (i _ _ _ q)⟩
theorem PSs.imp {X : Cx} {e : List Stmt} {t t' : TS} (h : PSs X e t) (i : ∀ E σ H, t' E σ H → t E σ H) : PSs X e t' := ⟨fun pins s σ H E I q => h.run pins s σ H E I (i _ _ _ q)⟩
end Mi
end
section
set_option maxRecDepth 100000
set_option maxHeartbeats 2000000
set_option autoImplicit false
namespace Mi
open PySem PySem.Spec PyProof.Rows L2

section
variable {P : Program} {w : World} {K : PySem.W.Frag} {Γ : Gm} {W : WX} {σ : L2.St} {μ μ' : List Addr} {H H' : Hp} {M : Hs}
theorem Paired.imp {α β : Type} {F G : α → β → Prop} : ∀ {l₁ : List α} {l₂ : List β}, Paired F l₁ l₂ → (∀ a b, F a b → G a b) → Paired G l₁ l₂
  | _, _, .nil, _ => .nil
  | _, _, .cons r t, f => .cons (f _ _ r) (Paired.imp t f)
theorem REn.mono (x : Nx μ H μ' H') {p : D × D} {q : NestedKey × Addr × V} (h : REn K H μ p q) : REn K H' μ' p q := ⟨h.1, h.2.1, h.2.2.1.mono x, h.2.2.2.mono x⟩
theorem RO.keep {a : Addr} {o : MO} (h : RO P w K Γ H μ a o) (x : Nx μ H μ' H') (e : ∀ u, H a = some u → H' a = some u) (eo : ∀ b, H b = some (.own a) → H' b = some (.own a)) (ed : ∀ b, H b = some (.xd []) → H' b = some (.xd [])) : RO P w K Γ H' μ' a o := by
  cases o with
  | lst xs => obtain ⟨vs, h1, r⟩ := h; exact ⟨vs, e _ h1, r.mono x⟩
  | ro xs => obtain ⟨vs, ⟨o, h1⟩, r⟩ := h; exact ⟨vs, ⟨o, e _ h1⟩, r.mono x⟩
  | dct kvs => obtain ⟨es, h1, r⟩ := h; exact ⟨es, e _ h1, Paired.imp r fun _ _ => REn.mono x⟩
  | fdc kvs => obtain ⟨es, ⟨o, h1⟩, r⟩ := h; exact ⟨es, ⟨o, e _ h1⟩, Paired.imp r fun _ _ => REn.mono x⟩
  | dks kvs => obtain ⟨vs, h1, r, nd⟩ := h; exact ⟨vs, e _ h1, Paired.imp r fun _ _ q => ⟨q.1, q.2.mono x⟩, nd⟩
  | ins c fs => obtain ⟨dx, vs, r, h1, h2⟩ := h; exact ⟨dx, vs, r.mono x, e _ h1, h2⟩
  | slo c fs =>
    obtain ⟨dx, vs, h1, h2, h3, h4⟩ := h
    refine ⟨dx, vs, ?_, h2, h3.imp (eo _) (ed _), fun i d q => let ⟨v, q1, q2⟩ := h4 i d q; ⟨v, q1, q2.mono x⟩⟩
    rcases h1 with ⟨h1, h5⟩ | ⟨h1, h5⟩
    · exact .inl ⟨e _ h1, h5⟩
    · exact .inr ⟨e _ h1, ed _ h5⟩
theorem RO.some {a : Addr} {o : MO} (h : RO P w K Γ H μ a o) : ∃ u, H a = some u := by
  cases o with
  | lst xs => obtain ⟨vs, h1, r⟩ := h; exact ⟨_, h1⟩
  | ro xs => obtain ⟨vs, ⟨o, h1⟩, r⟩ := h; exact ⟨_, h1⟩
  | dct kvs => obtain ⟨es, h1, r⟩ := h; exact ⟨_, h1⟩
  | fdc kvs => obtain ⟨es, ⟨o, h1⟩, r⟩ := h; exact ⟨_, h1⟩
  | dks kvs => obtain ⟨vs, h1, r, nd⟩ := h; exact ⟨_, h1⟩
  | ins c fs => obtain ⟨dx, vs, r, h1, h2⟩ := h; exact ⟨_, h1⟩
  | slo c fs =>
    obtain ⟨dx, vs, h1 | h1, h2⟩ := h
    · exact ⟨_, h1.1⟩
    · exact ⟨_, h1.1⟩
theorem Nx.fresh {p : Addr} {u : HO} (hp : H p = none) (l : List Addr) : Nx μ H (μ ++ l) (upd H p u) := by
  refine ⟨fun n a e => ?_, fun a xs e => ?_, fun a o v e => by rw [upd_ne (ne_of_none e hp)]; exact e, fun a fs e => by rw [upd_ne (ne_of_none e hp)]; exact e⟩
  · rw [List.getElem?_append_left (List.getElem?_eq_some_iff.mp e).1]
    exact e
  · rcases e with e | ⟨o, e⟩
    · exact .inl (by rw [upd_ne (ne_of_none e hp)]; exact e)
    · exact .inr ⟨o, by rw [upd_ne (ne_of_none e hp)]; exact e⟩
theorem Nx.fresh0 {p : Addr} {u : HO} (hp : H p = none) : Nx μ H μ (upd H p u) := by
  have := Nx.fresh (μ := μ) (u := u) hp []
  rwa [List.append_nil] at this
theorem RH.fresh {p : Addr} {u : HO} (rh : RH P w K Γ μ M H) (hp : H p = none) : RH P w K Γ μ M (upd H p u) :=
  ⟨rh.len, rh.nd, fun n o a h1 h2 => (rh.at_ n o a h1 h2).keep (Nx.fresh0 hp) (fun v e => by rw [upd_ne (ne_of_none e hp)]; exact e) (fun b e => by rw [upd_ne (ne_of_none e hp)]; exact e) fun b e => by rw [upd_ne (ne_of_none e hp)]; exact e⟩
theorem RH.alloc {p : Addr} {u : HO} {o : MO} (rh : RH P w K Γ μ M H) (hp : H p = none) (new : RO P w K Γ (upd H p u) (μ ++ [p]) p o) : RH P w K Γ (μ ++ [p]) (M ++ [o]) (upd H p u) := by
  have hpm : p ∉ μ := fun hm => by
    obtain ⟨n, hn⟩ := List.mem_iff_getElem?.mp hm
    have hl : n < M.length := by rw [rh.len]; exact (List.getElem?_eq_some_iff.mp hn).1
    obtain ⟨v, hv⟩ := (rh.at_ n _ p (List.getElem?_eq_getElem hl) hn).some
    rw [hp] at hv; cases hv
  refine ⟨by simp [rh.len], ?_, fun n o' a h1 h2 => ?_⟩
  · rw [List.nodup_append]
    exact ⟨rh.nd, by simp, fun a ha b hb e => by simp at hb; subst hb; subst e; exact hpm ha⟩
  · by_cases hn : n < M.length
    · rw [List.getElem?_append_left hn] at h1
      rw [List.getElem?_append_left (by rw [← rh.len]; exact hn)] at h2
      exact (rh.at_ n o' a h1 h2).keep (Nx.fresh hp [p]) (fun v e => by rw [upd_ne (ne_of_none e hp)]; exact e) (fun b e => by rw [upd_ne (ne_of_none e hp)]; exact e) fun b e => by rw [upd_ne (ne_of_none e hp)]; exact e
    · rw [List.getElem?_append_right (by omega)] at h1
      rw [List.getElem?_append_right (by rw [← rh.len]; omega)] at h2
      have e1 : n - M.length = 0 := by
        by_cases z : n - M.length = 0
        · exact z
        · rw [List.getElem?_eq_none (by simp; omega)] at h1; cases h1
      rw [e1] at h1
      rw [← rh.len, e1] at h2
      simp at h1 h2
      subst h1; subst h2
      exact new
theorem mutNe {a b : Addr} {u : HO} (hm : Mut (H a)) (e : H b = some u) (nm : ¬ Mut (some u)) : b ≠ a := fun z => by
  subst z
  rw [e] at hm
  exact nm hm
theorem Nx.write {a : Addr} {u : HO} (hm : Mut (H a)) : Nx μ H μ (upd H a u) := by
  refine ⟨fun n a e => e, fun b xs e => ?_, fun b o v e => by rw [upd_ne (mutNe hm e (fun z => z))]; exact e, fun b fs e => by rw [upd_ne (mutNe hm e (fun z => z))]; exact e⟩
  rcases e with e | ⟨o, e⟩
  · exact .inl (by rw [upd_ne (mutNe hm e (fun z => z))]; exact e)
  · exact .inr ⟨o, by rw [upd_ne (mutNe hm e (fun z => z))]; exact e⟩
theorem RH.write {n : Nat} {a : Addr} {u : HO} {o : MO} (rh : RH P w K Γ μ M H) (hn : μ[n]? = some a) (hm : Mut (H a)) (new : RO P w K Γ (upd H a u) μ a o) : RH P w K Γ μ (M.set n o) (upd H a u) := by
  refine ⟨by simp [rh.len], rh.nd, fun m o' b h1 h2 => ?_⟩
  by_cases hmn : n = m
  · subst hmn
    rw [hn] at h2; cases h2
    by_cases hl : n < M.length
    · rw [List.getElem?_set_self hl] at h1; cases h1
      exact new
    · rw [List.getElem?_eq_none (by simpa using hl)] at h1; cases h1
  · rw [List.getElem?_set_ne hmn] at h1
    have hba : b ≠ a := fun z => by
      subst z
      exact hmn ((List.getElem?_inj (List.getElem?_eq_some_iff.mp hn).1 rh.nd).mp (hn.trans h2.symm))
    exact (rh.at_ m o' b h1 h2).keep (Nx.write hm) (fun v e => by rw [upd_ne hba]; exact e) (fun c e => by rw [upd_ne (mutNe hm e (fun z => z))]; exact e) fun c e => by rw [upd_ne (mutNe hm e (fun z => z))]; exact e
theorem RH.addr {n : Nat} {o : MO} (rh : RH P w K Γ μ M H) (h : M[n]? = some o) : ∃ a, μ[n]? = some a ∧ RO P w K Γ H μ a o := by
  have hl : n < μ.length := by rw [← rh.len]; exact (List.getElem?_eq_some_iff.mp h).1
  exact ⟨_, List.getElem?_eq_getElem hl, rh.at_ n o _ h (List.getElem?_eq_getElem hl)⟩
theorem RH.last {p : Addr} (rh : RH P w K Γ μ M H) : (μ ++ [p])[M.length]? = some p := by
  rw [rh.len]
  simp

def R.of {α : Type} : Option (α × Hs) → R α
  | some (a, M) => .ok a M
  | none => .no
variable (P w K Γ) in
def Pk {α β : Type} (rel : Hp → List Addr → α → β → Prop) (μ : List Addr) (H : Hp) (r : Option (α × Hs)) (Q : β → Hp → Prop) : Prop := match r with
  | some (d, M') => ∀ v H' μ', Nx μ H μ' H' → RH P w K Γ μ' M' H' → rel H' μ' d v → Q v H'
  | none => False
theorem Pst.of {α β : Type} {rel : Hp → List Addr → α → β → Prop} {r : Option (α × Hs)} {Q : β → Hp → Prop} (h : Pst P w K Γ rel W σ μ H (R.of r) Q) : Pk P w K Γ rel μ H r Q := by
  cases r with
  | none => exact h
  | some p => exact h
theorem Pst.imp {α β : Type} {rel : Hp → List Addr → α → β → Prop} {r : R α} {Q Q' : β → Hp → Prop} (h : Pst P w K Γ rel W σ μ H r Q) (i : ∀ v H', Q v H' → Q' v H') : Pst P w K Γ rel W σ μ H r Q' := by
  cases r with
  | ok d M => exact fun v H' μ' x rh rv => i _ _ (h v H' μ' x rh rv)
  | ex c fs M => exact h
  | no => exact h
theorem Pst.then {α β γ δ : Type} {rel : Hp → List Addr → α → β → Prop} {rel' : Hp → List Addr → γ → δ → Prop} {r : R α} {k : α → Hs → R γ} {Q : δ → Hp → Prop} {Q' : β → Hp → Prop} (h : Pst P w K Γ rel' W σ μ H (r.bind k) Q)
    (i : ∀ v H1 d M1 μ1, Nx μ H μ1 H1 → RH P w K Γ μ1 M1 H1 → rel H1 μ1 d v → Pst P w K Γ rel' W σ μ1 H1 (k d M1) Q → Q' v H1) : Pst P w K Γ rel W σ μ H r Q' :=
  Pst.imp (Pst.bind h) fun v H1 ⟨d, M1, μ1, a, b, c, e⟩ => i v H1 d M1 μ1 a b c e
theorem Pk.new {Q : VK} {o : MO} {p : Addr} {u : HO} (rh : RH P w K Γ μ M H) (h : Pk P w K Γ (relV K) μ H (some (.ref M.length, M ++ [o])) Q) (hp : H p = none) (new : RO P w K Γ (upd H p u) (μ ++ [p]) p o) : Q (.ref p) (upd H p u) :=
  h _ _ _ (Nx.fresh hp [p]) (rh.alloc hp new) (.ref rh.last)
theorem Pk.tup {Q : VK} {ds : List D} {vs : List V} {p : Addr} (rh : RH P w K Γ μ M H) (h : Pk P w K Γ (relV K) μ H (some (.tup ds, M)) Q) (hp : H p = none) (r : RVs K H μ ds vs) : Q (.ref p) (upd H p (.tup vs)) :=
  h _ _ _ (Nx.fresh0 hp) (rh.fresh hp) (.tup (SqT.of upd_same) (r.mono (Nx.fresh0 hp)))
theorem Pk.here {α β : Type} {rel : Hp → List Addr → α → β → Prop} {Q : β → Hp → Prop} {d : α} {v : β} (rh : RH P w K Γ μ M H) (h : Pk P w K Γ rel μ H (some (d, M)) Q) (r : rel H μ d v) : Q v H := h _ _ _ (Nx.refl _ _) rh r
theorem nlst (rh : RH P w K Γ μ M H) {n : Nat} {a : Addr} {xs : List D} (h : M[n]? = some (.lst xs)) (e : μ[n]? = some a) : ∃ vs, H a = some (.lst vs) ∧ RVs K H μ xs vs := rh.at_ n _ a h e
end

abbrev EX (X : Cx) (Γ : Gm) (W : WX) (e : Expr) (f : MX) : Prop := PE X e (tX X.prog X.w X.K Γ W f)
abbrev ET (X : Cx) (Γ : Gm) (W : WX) (e : Expr) (f : MT) : Prop := PT X e (tT X.prog X.w X.K Γ W f)
abbrev EW (X : Cx) (Γ : Gm) (W : WX) (e : Expr) (f : MT) : Prop := PW X e (tT X.prog X.w X.K Γ W f)
abbrev EA (X : Cx) (Γ : Gm) (W : WX) (es : List Expr) (f : MA) : Prop := PA X es (tA X.prog X.w X.K Γ W f)
abbrev ES (X : Cx) (Γ : Gm) (W : WX) (st : Stmt) (f : MS) : Prop := PS X st (tS X.prog X.w X.K Γ W f)
abbrev ESs (X : Cx) (Γ : Gm) (W : WX) (st : List Stmt) (f : MS) : Prop := PSs X st (tS X.prog X.w X.K Γ W f)

section
variable {X : Cx} {Γ : Gm} {W : WX} {a b c : Expr} {fa fb fc : MX} {pos : Pos}
def xVar (i : Nat) : MX := fun ζ M => match ζ[i]? with
  | some (some d) => .ok d M
  | _ => .no
def xC (d : D) : MX := fun _ M => .ok d M
theorem ex_var (i : Nat) {x : Str} (hN : X.N[i]? = some x := by rfl) (hv : Vis X.env.scope x := by first | exact Or.inl rfl | exact Or.inr (Or.inl rfl) | exact Or.inr (Or.inr rfl)) (hd : (x == ("__debug__" : Str)) = false := by decide)
    (hcd : (x == ("__classdict__" : Str)) = false := by decide) : EX X Γ W (.Name x pos) (xVar i) := PE.imp (pe_var hN hv hd hcd) fun σ H Q ⟨ζ, M, μ, rr, h⟩ => by
  unfold xVar at h
  cases e : ζ[i]? with
  | none => rw [e] at h; exact h.elim
  | some o =>
    cases o with
    | none => rw [e] at h; exact h.elim
    | some d =>
      rw [e] at h
      obtain ⟨v, h1, h2⟩ := rr.sl.at_ i d e
      exact ⟨v, h1, h _ _ _ (Nx.refl _ _) rr.hp h2⟩
theorem ex_const {e : Expr} {d : D} {v : V} (h : PE X e (tC v)) (r : ∀ H μ, RV X.K H μ d v) : EX X Γ W e (xC d) := PE.imp h fun σ H Q ⟨ζ, M, μ, rr, h⟩ => h _ _ _ (Nx.refl _ _) rr.hp (r _ _)
theorem ex_int {i : Int} {j} : EX X Γ W (.Constant (.int i) j pos) (xC (.int i)) := ex_const pe_int fun _ _ => .int i
theorem ex_bl {i : Bool} {j} : EX X Γ W (.Constant (.bool i) j pos) (xC (.bl i)) := ex_const pe_bl fun _ _ => .bl i
theorem ex_non {j} : EX X Γ W (.Constant .none j pos) (xC .non) := ex_const pe_non fun _ _ => .non
theorem ex_str {x : Str} {j} : EX X Γ W (.Constant (.str x) j pos) (xC (.str x)) := ex_const pe_str fun _ _ => .str x
/-- a module's constant -/
def CstOk (K : PySem.W.Frag) (mg : Str → Option Value) (x : Str) (d : D) : Prop := ∃ u v, mg x = some u ∧ RelV v u ∧ ∀ H μ, RV K H μ d v
theorem ex_glob {x : Str} {d : D} (h : CstOk X.K X.mg x d) (hg : Gl X x := by rfl) (hd : (x == ("__debug__" : Str)) = false := by decide) : EX X Γ W (.Name x pos) (xC d) := by
  obtain ⟨u, v, h1, h2, h3⟩ := h
  exact ex_const (pe_glob hg h1 h2 hd) h3

def x2 (g : D → D → Hs → Option (D × Hs)) (fa fb : MX) : MX := fun ζ M => (fa ζ M).bind fun x M1 => (fb ζ M1).bind fun y M2 => R.of (g x y M2)
def r2 (P : Program) (w : World) (K : PySem.W.Frag) (Γ : Gm) (g : D → D → Hs → Option (D × Hs)) : R2 := fun x y H Q => ∃ d e M μ, RH P w K Γ μ M H ∧ RV K H μ d x ∧ RV K H μ e y ∧ Pk P w K Γ (relV K) μ H (g d e M) Q
abbrev Op2 (X : Cx) (Γ : Gm) (f : Value → Value → Sem Value) (g : D → D → Hs → Option (D × Hs)) : Prop := OpR X f (r2 X.prog X.w X.K Γ g)
theorem tOp_of {g : D → D → Hs → Option (D × Hs)} {σ : L2.St} {H : Hp} {Q : VK} (h : tX X.prog X.w X.K Γ W (x2 g fa fb) σ H Q) : tOp (r2 X.prog X.w X.K Γ g) (tX X.prog X.w X.K Γ W fa) (tX X.prog X.w X.K Γ W fb) σ H Q := by
  obtain ⟨ζ, M, μ, rr, h⟩ := h
  exact ⟨ζ, M, μ, rr, Pst.then h fun v H1 d M1 μ1 nx rh rv h1 => ⟨ζ, M1, μ1, ⟨rr.sl.mono nx, rh⟩, Pst.then h1 fun v2 H2 e M2 μ2 nx2 rh2 rv2 h2 => ⟨d, e, M2, μ2, rh2, rv.mono nx2, rv2, h2.of⟩⟩⟩
theorem ex_op {op : Operator} {g : D → D → Hs → Option (D × Hs)} (ho : Op2 X Γ (binaryOp op) g) (ha : EX X Γ W a fa) (hb : EX X Γ W b fb) : EX X Γ W (.BinOp a op b pos) (x2 g fa fb) :=
  PE.imp (pe_op ho ha hb) fun _ _ _ h => tOp_of h
theorem ex_cmp {op : CmpOp} {g : D → D → Hs → Option (D × Hs)} (ho : Op2 X Γ (compareOp op) g) (ha : EX X Γ W a fa) (hb : EX X Γ W b fb) (hm : behindInMarks op b = false := by rfl) : EX X Γ W (.Compare a [op] [b] pos) (x2 g fa fb) :=
  PE.imp (pe_cmpR ho ha hb hm) fun _ _ _ h => tOp_of h
/-- a value that is a truth value, as a test -/
def tB1 (f : MX) : MT := fun ζ M => (f ζ M).bind fun x M1 => match x with
  | .bl k => .ok k M1
  | _ => .no
theorem tTest_of {f : MX} {t : TE} {σ : L2.St} {H : Hp} {Q : Bool → Hp → Prop} (i : ∀ Q, tX X.prog X.w X.K Γ W f σ H Q → t σ H Q) (h : tT X.prog X.w X.K Γ W (tB1 f) σ H Q) : tTest t σ H Q := by
  obtain ⟨ζ, M, μ, rr, h⟩ := h
  refine i _ ⟨ζ, M, μ, rr, Pst.then h fun v H1 d M1 μ1 nx rh rv h1 => ?_⟩
  cases d with
  | bl k => cases rv; exact ⟨k, rfl, h1 _ _ _ (Nx.refl _ _) rh rfl⟩
  | _ => exact h1.elim
theorem et_cmp {op : CmpOp} {g : D → D → Hs → Option (D × Hs)} (ho : Op2 X Γ (compareOp op) g) (ha : EX X Γ W a fa) (hb : EX X Γ W b fb) (hm : behindInMarks op b = false := by rfl) : ET X Γ W (.Compare a [op] [b] pos) (tB1 (x2 g fa fb)) :=
  PT.imp (pt_cmpR ho ha hb hm) fun _ _ _ h => tTest_of (fun _ => tOp_of) h
theorem et_val (ha : EX X Γ W a fa) (he : ∀ whole, isTrue a X.env whole = (do let v ← whole; standAt a.pos; holding [v] (truthy v)) := by intro _; rfl) : ET X Γ W a (tB1 fa) :=
  PT.imp (pt_val ha he) fun _ _ _ h => tTest_of (fun _ h => h) h
/-- a < b < c -/
def x3 (g g' : D → D → Hs → Option (D × Hs)) (fa fb fc : MX) : MX := fun ζ M => (fa ζ M).bind fun x M1 => (fb ζ M1).bind fun y M2 => (R.of (g x y M2)).bind fun z M3 => match z with
  | .bl true => (fc ζ M3).bind fun u M4 => R.of (g' y u M4)
  | .bl false => .ok (.bl false) M3
  | _ => .no
end

def hLst (M : Hs) (n : Nat) : Option (List D) := match M[n]? with
  | some (.lst xs) => some xs
  | _ => none
def hSeq (M : Hs) : D → Option (List D)
  | .tup xs => some xs
  | .klst xs => some xs
  | .ref n => match M[n]? with
    | some (.lst xs) => some xs
    | some (.ro xs) => some xs
    | _ => none
  | _ => none
def newL (xs : List D) (M : Hs) : Option (D × Hs) := if xs.length ≤ sizeLine then some (.ref M.length, M ++ [.lst xs]) else none
def gAdd (x y : D) (M : Hs) : Option (D × Hs) := match x, y with
  | .int i, .int j => some (.int (i + j), M)
  | .str x, .str y => if x.length + y.length ≤ sizeLine then some (.str (x ++ y), M) else none
  | .tup xs, .tup ys => if xs.length + ys.length ≤ sizeLine then some (.tup (xs ++ ys), M) else none
  | .ref m, .ref n => match M[m]?, M[n]? with
    | some (.lst xs), some (.lst ys) => newL (xs ++ ys) M
    | _, _ => none
  | _, _ => none
def gI (C : Int → Int → Bool) (g : Int → Int → D) (x y : D) (M : Hs) : Option (D × Hs) := match x, y with
  | .int i, .int j => if C i j = true then some (g i j, M) else none
  | _, _ => none
def gSub : D → D → Hs → Option (D × Hs) := gI (fun _ _ => true) fun i j => .int (i - j)
def inW (i : Int) : Bool := decide (-(2 ^ 64) < i) && decide (i < 2 ^ 64)
def gMul : D → D → Hs → Option (D × Hs) := gI (fun i j => inW i || inW j) fun i j => .int (i * j)
def gDiv : D → D → Hs → Option (D × Hs) := gI (fun _ j => decide (0 < j) && decide (j < 1073741824)) fun i j => .int (i / j)
def gMod : D → D → Hs → Option (D × Hs) := gI (fun _ j => decide (0 < j)) fun i j => .int (i % j)
def gPow : D → D → Hs → Option (D × Hs) := gI (fun i j => decide (0 ≤ j) && decide (j ≤ 1000000) && decide (i.natAbs < 2 ^ 64)) fun i j => .int (i ^ j.toNat)
def gLt : D → D → Hs → Option (D × Hs) := gI (fun _ _ => true) fun i j => .bl (decide (i < j))
def gLe : D → D → Hs → Option (D × Hs) := gI (fun _ _ => true) fun i j => .bl (decide (i ≤ j))
def gGt : D → D → Hs → Option (D × Hs) := gI (fun _ _ => true) fun i j => .bl (decide (j < i))
def gGe : D → D → Hs → Option (D × Hs) := gI (fun _ _ => true) fun i j => .bl (decide (j ≤ i))
section
variable {X : Cx} {Γ : Gm}
theorem gI_ok {f : Value → Value → Sem Value} {C : Int → Int → Bool} {g : Int → Int → D} {gv : Int → Int → V} {C' : Int → Int → Prop} (h : OpR X f (rI C' gv)) (hc : ∀ i j, C i j = true → C' i j) (hg : ∀ H μ i j, RV X.K H μ (g i j) (gv i j)) : Op2 X Γ f (gI C g) := by
  intro pins s σ H x y v u Q I rx ry hq
  obtain ⟨d, e, M, μ, rh, rd, re, hq⟩ := hq
  unfold gI at hq
  cases d with
  | int i =>
    cases e with
    | int j =>
      cases rd; cases re
      simp only at hq
      split at hq
      · rename_i hcc
        exact h pins s σ H _ _ v u Q I rx ry ⟨i, j, rfl, rfl, hc i j hcc, Pk.here rh hq (hg _ _ _ _)⟩
      · exact hq.elim
    | _ => exact hq.elim
  | _ => exact hq.elim
theorem gI_ok0 {f : Value → Value → Sem Value} {g : Int → Int → D} {gv : Int → Int → V} (h : OpR X f (rI0 gv)) (hg : ∀ H μ i j, RV X.K H μ (g i j) (gv i j)) : Op2 X Γ f (gI (fun _ _ => true) g) :=
  gI_ok (C' := fun _ _ => True) (gv := gv) (fun pins s σ H x y v u Q I rx ry ⟨i, j, e1, e2, _, q⟩ => h pins s σ H x y v u Q I rx ry ⟨i, j, e1, e2, q⟩) (fun _ _ _ => trivial) hg
theorem m_sub : Op2 X Γ (binaryOp .Sub) gSub := gI_ok0 op_sub fun _ _ _ _ => .int _
theorem inW_ok {i : Int} (h : inW i = true) : -(2 ^ 64) < i ∧ i < 2 ^ 64 := by
  unfold inW at h
  rw [Bool.and_eq_true, decide_eq_true_eq, decide_eq_true_eq] at h
  exact h
theorem m_mul : Op2 X Γ (binaryOp .Mult) gMul := gI_ok op_mul (fun i j h => by
  rw [Bool.or_eq_true] at h
  exact h.imp inW_ok inW_ok) fun _ _ _ _ => .int _
theorem m_div : Op2 X Γ (binaryOp .FloorDiv) gDiv := gI_ok op_fdiv (fun i j h => by
  rw [Bool.and_eq_true, decide_eq_true_eq, decide_eq_true_eq] at h
  exact h) fun _ _ _ _ => .int _
theorem m_mod : Op2 X Γ (binaryOp .Mod) gMod := gI_ok op_mod (fun i j h => of_decide_eq_true h) fun _ _ _ _ => .int _
theorem m_pow : Op2 X Γ (binaryOp .Pow) gPow := gI_ok op_pow (fun i j h => by
  rw [Bool.and_eq_true, Bool.and_eq_true, decide_eq_true_eq, decide_eq_true_eq, decide_eq_true_eq] at h
  exact ⟨h.1.1, h.1.2, h.2⟩) fun _ _ _ _ => .int _
theorem m_lt : Op2 X Γ (compareOp .Lt) gLt := gI_ok0 op_lt fun _ _ _ _ => .bl _
theorem m_le : Op2 X Γ (compareOp .LtE) gLe := gI_ok0 op_le fun _ _ _ _ => .bl _
theorem m_gt : Op2 X Γ (compareOp .Gt) gGt := gI_ok0 op_gt fun _ _ _ _ => .bl _
theorem m_ge : Op2 X Γ (compareOp .GtE) gGe := gI_ok0 op_ge fun _ _ _ _ => .bl _
theorem m_add : Op2 X Γ (binaryOp .Add) gAdd := by
  intro pins s σ H x y v u Q I rx ry hq
  obtain ⟨d, e, M, μ, rh, rd, re, hq⟩ := hq
  unfold gAdd at hq
  split at hq
  · cases rd; cases re
    exact op_add pins s σ H _ _ v u Q I rx ry ⟨_, _, rfl, rfl, Pk.here rh hq (.int _)⟩
  · cases rd; cases re
    split at hq
    · rename_i hl
      exact op_add_str pins s σ H _ _ v u Q I rx ry ⟨_, _, rfl, rfl, hl, Pk.here rh hq (.str _)⟩
    · exact hq.elim
  · cases rd with
    | tup h1 r1 =>
      cases re with
      | tup h2 r2 =>
        split at hq
        · rename_i hl
          refine op_catA pins s σ H _ _ v u Q I rx ry ⟨_, _, _, _, rfl, rfl, h1, h2, by rw [← r1.length, ← r2.length]; exact hl, fun e => ?_, fun _ e => ?_, fun _ _ p hp => Pk.tup rh hq hp (r1.append r2)⟩
          · subst e
            cases r1
            exact Pk.here rh hq (.tup h2 r2)
          · subst e
            cases r2
            rw [List.append_nil] at hq
            exact Pk.here rh hq (.tup h1 r1)
        · exact hq.elim
  · cases rd with
    | ref e1 =>
      cases re with
      | ref e2 =>
        split at hq
        · rename_i xs ys h1 h2
          obtain ⟨vs1, g1, r1⟩ := nlst rh h1 e1
          obtain ⟨vs2, g2, r2⟩ := nlst rh h2 e2
          unfold newL at hq
          split at hq
          · rename_i hl
            rw [List.length_append] at hl
            refine op_cat pins s σ H _ _ v u Q I rx ry ⟨_, _, _, _, rfl, rfl, g1, g2, by rw [← r1.length, ← r2.length]; exact hl, fun p hp => ?_⟩
            exact Pk.new rh hq hp ⟨_, upd_same, (r1.append r2).mono (Nx.fresh hp _)⟩
          · exact hq.elim
        · exact hq.elim
  · exact hq.elim
end
end Mi
end
section
set_option maxRecDepth 100000
set_option maxHeartbeats 2000000
set_option autoImplicit false
namespace Mi
open PySem PySem.Spec PyProof.Rows L2

def mapO {α β : Type} (f : α → Option β) : List α → Option (List β)
  | [] => some []
  | x :: xs => match f x, mapO f xs with
    | some y, some ys => some (y :: ys)
    | _, _ => none
/-- data as a whole -/
def toPD (M : Hs) : Nat → D → Option PyData
  | 0, _ => none
  | n + 1, d => match d with
    | .non => some .none
    | .bl b => some (.bool b)
    | .int i => some (.int i)
    | .str x => some (.str x)
    | .tup xs => match mapO (toPD M n) xs with
      | some ps => some (.tuple ps)
      | none => none
    | .ref m => match M[m]? with
      | some (.lst xs) => (match mapO (toPD M n) xs with
        | some ps => some (.list ps)
        | none => none)
      | some (.ro xs) => (match mapO (toPD M n) xs with
        | some ps => some (.list ps)
        | none => none)
      | _ => none
    | .klst _ => none
    | .exc .. => none
section
variable {P : Program} {w : World} {K : PySem.W.Frag} {Γ : Gm} {W : WX} {σ : L2.St} {μ μ' : List Addr} {H H' : Hp} {M : Hs}
theorem dpAll_of {n : Nat} (ih : ∀ d p v, toPD M n d = some p → RV K H μ d v → Dp K H v p) : ∀ {xs : List D} {ps : List PyData} {vs : List V}, mapO (toPD M n) xs = some ps → RVs K H μ xs vs → DpAll K H vs ps
  | [], ps, vs, h, r => by
    cases r
    cases h
    exact .nil
  | x :: xs, ps, vs, h, r => by
    unfold mapO at h
    split at h
    · rename_i y ys h1 h2
      cases h
      cases r with
      | cons r1 r2 => exact .cons (ih _ _ _ h1 r1) (dpAll_of ih h2 r2)
    · cases h
theorem dp_of (rh : RH P w K Γ μ M H) : ∀ (n : Nat) (d : D) (p : PyData) (v : V), toPD M n d = some p → RV K H μ d v → Dp K H v p
  | 0, _, _, _, h, _ => by cases h
  | n + 1, d, p, v, h, r => by
    have ih := dp_of rh n
    cases r with
    | non => cases h; exact .non
    | bl b => cases h; exact .bl b
    | int i => cases h; exact .int i
    | str x => cases h; exact .str x
    | kls => cases h
    | excN => cases h
    | excD => cases h
    | tup h1 r1 =>
      simp only [toPD] at h
      split at h
      · rename_i ps h2
        cases h
        exact .tup h1 (dpAll_of ih h2 r1)
      · cases h
    | ref e =>
      simp only [toPD] at h
      split at h
      · rename_i xs h3
        split at h
        · rename_i ps h2
          cases h
          obtain ⟨vs, g, r1⟩ := rh.at_ _ _ _ h3 e
          exact .lst (SqL.of g) (dpAll_of ih h2 r1)
        · cases h
      · rename_i xs h3
        split at h
        · rename_i ps h2
          cases h
          obtain ⟨vs, ⟨o, g⟩, r1⟩ := rh.at_ _ _ _ h3 e
          exact .lst (.inl (.inr ⟨o, g⟩)) (dpAll_of ih h2 r1)
        · cases h
      · cases h
end
/-- how deep data may lie -/
def deep : Nat := 12
def gEqB (k : Bool → Bool) (x y : D) (M : Hs) : Option (D × Hs) := match toPD M deep x, toPD M deep y with
  | some p, some q => if (SeqAt.shaped p && SeqAt.shaped q) = true then some (.bl (k (PyData.eqv p q)), M) else none
  | _, _ => none
def gEq : D → D → Hs → Option (D × Hs) := gEqB id
def gNe : D → D → Hs → Option (D × Hs) := gEqB not
def gInB (k : Bool → Bool) (x y : D) (M : Hs) : Option (D × Hs) := match toPD M deep x, toPD M deep y with
  | some p, some (.list qs) => if (SeqAt.shaped p && SeqAt.shaped (.list qs)) = true then some (.bl (k (qs.any fun z => PyData.eqv z p)), M) else none
  | some p, some (.tuple qs) => if (SeqAt.shaped p && SeqAt.shaped (.tuple qs)) = true then some (.bl (k (qs.any fun z => PyData.eqv z p)), M) else none
  | _, _ => none
def gIn : D → D → Hs → Option (D × Hs) := gInB id
def gNotIn : D → D → Hs → Option (D × Hs) := gInB not
def isNon : D → Bool
  | .non => true
  | _ => false
def gIsN (k : Bool → Bool) (x y : D) (M : Hs) : Option (D × Hs) := match y with
  | .non => some (.bl (k (isNon x)), M)
  | _ => none
def gIs : D → D → Hs → Option (D × Hs) := gIsN id
def gIsNot : D → D → Hs → Option (D × Hs) := gIsN not
section
variable {X : Cx} {Γ : Gm}
theorem m_eq (hu : X.A.units + 64 < cLine) : Op2 X Γ (compareOp .Eq) gEq := by
  intro pins s σ H x y v u Q I rx ry hq
  obtain ⟨d, e, M, μ, rh, rd, re, hq⟩ := hq
  unfold gEq gEqB at hq
  split at hq
  · rename_i p q h1 h2
    split at hq
    · rename_i hs
      rw [Bool.and_eq_true] at hs
      exact op_eqD hu pins s σ H _ _ v u Q I rx ry ⟨p, q, dp_of rh _ _ _ _ h1 rd, dp_of rh _ _ _ _ h2 re, hs.1, hs.2, Pk.here rh hq (.bl _)⟩
    · exact hq.elim
  · exact hq.elim
theorem m_ne (hu : X.A.units + 64 < cLine) : Op2 X Γ (compareOp .NotEq) gNe := by
  intro pins s σ H x y v u Q I rx ry hq
  obtain ⟨d, e, M, μ, rh, rd, re, hq⟩ := hq
  unfold gNe gEqB at hq
  split at hq
  · rename_i p q h1 h2
    split at hq
    · rename_i hs
      rw [Bool.and_eq_true] at hs
      exact op_neD hu pins s σ H _ _ v u Q I rx ry ⟨p, q, dp_of rh _ _ _ _ h1 rd, dp_of rh _ _ _ _ h2 re, hs.1, hs.2, Pk.here rh hq (.bl _)⟩
    · exact hq.elim
  · exact hq.elim
theorem m_in (hu : X.A.units + 65 < cLine) : Op2 X Γ (compareOp .In) gIn := by
  intro pins s σ H x y v u Q I rx ry hq
  obtain ⟨d, e, M, μ, rh, rd, re, hq⟩ := hq
  unfold gIn gInB at hq
  split at hq
  · rename_i p qs h1 h2
    split at hq
    · rename_i hs
      rw [Bool.and_eq_true] at hs
      exact op_inD hu pins s σ H _ _ v u Q I rx ry ⟨p, qs, dp_of rh _ _ _ _ h1 rd, dp_of rh _ _ _ _ h2 re, hs.1, hs.2, Pk.here rh hq (.bl _)⟩
    · exact hq.elim
  · rename_i p qs h1 h2
    split at hq
    · rename_i hs
      rw [Bool.and_eq_true] at hs
      obtain ⟨as, r1⟩ := Dp.reads I p x v (dp_of rh _ _ _ _ h1 rd) rx
      obtain ⟨bs, r2⟩ := Dp.reads I (.tuple qs) y u (dp_of rh _ _ _ _ h2 re) ry
      exact SeqAt.in_tuple_reads r2 r1 (SeqAt.canLay_of_shaped hs.2) (SeqAt.canLay_of_shaped hs.1) (room_in_shaped hs.1 hu) ⟨.bl _, H, I, rfl, Pk.here rh hq (.bl _)⟩
    · exact hq.elim
  · exact hq.elim
theorem m_notIn (hu : X.A.units + 65 < cLine) : Op2 X Γ (compareOp .NotIn) gNotIn := by
  intro pins s σ H x y v u Q I rx ry hq
  obtain ⟨d, e, M, μ, rh, rd, re, hq⟩ := hq
  unfold gNotIn gInB at hq
  split at hq
  · rename_i p qs h1 h2
    split at hq
    · rename_i hs
      rw [Bool.and_eq_true] at hs
      exact op_notInD hu pins s σ H _ _ v u Q I rx ry ⟨p, qs, dp_of rh _ _ _ _ h1 rd, dp_of rh _ _ _ _ h2 re, hs.1, hs.2, Pk.here rh hq (.bl _)⟩
    · exact hq.elim
  · rename_i p qs h1 h2
    split at hq
    · rename_i hs
      rw [Bool.and_eq_true] at hs
      obtain ⟨as, r1⟩ := Dp.reads I p x v (dp_of rh _ _ _ _ h1 rd) rx
      obtain ⟨bs, r2⟩ := Dp.reads I (.tuple qs) y u (dp_of rh _ _ _ _ h2 re) ry
      exact SeqAt.notIn_tuple_reads r2 r1 (SeqAt.canLay_of_shaped hs.2) (SeqAt.canLay_of_shaped hs.1) (room_in_shaped hs.1 hu) ⟨.bl _, H, I, rfl, Pk.here rh hq (.bl _)⟩
    · exact hq.elim
  · exact hq.elim
theorem isN_of {K : PySem.W.Frag} {H : Hp} {μ : List Addr} {d : D} {x : V} (r : RV K H μ d x) : decide (x = .non) = isNon d := by
  cases r <;> first | rfl | exact decide_eq_false (fun e => by cases e)
theorem m_is : Op2 X Γ (compareOp .Is) gIs := by
  intro pins s σ H x y v u Q I rx ry hq
  obtain ⟨d, e, M, μ, rh, rd, re, hq⟩ := hq
  unfold gIs gIsN at hq
  split at hq
  · cases re
    exact op_isN pins s σ H _ _ v u Q I rx ry ⟨rfl, by rw [isN_of rd]; exact Pk.here rh hq (.bl _)⟩
  · exact hq.elim
theorem m_isNot : Op2 X Γ (compareOp .IsNot) gIsNot := by
  intro pins s σ H x y v u Q I rx ry hq
  obtain ⟨d, e, M, μ, rh, rd, re, hq⟩ := hq
  unfold gIsNot gIsN at hq
  split at hq
  · cases re
    exact op_notN pins s σ H _ _ v u Q I rx ry ⟨rfl, by rw [isN_of rd]; exact Pk.here rh hq (.bl _)⟩
  · exact hq.elim
end

def tAnd2 (f g : MT) : MT := fun ζ M => (f ζ M).bind fun c M1 => if c = true then g ζ M1 else .ok false M1
def tOr2 (f g : MT) : MT := fun ζ M => (f ζ M).bind fun c M1 => if c = true then .ok true M1 else g ζ M1
def tNot1 (f : MT) : MT := fun ζ M => (f ζ M).bind fun c M1 => .ok (!c) M1
def xAnd (f g : MX) : MX := fun ζ M => (f ζ M).bind fun x M1 => match x with
  | .bl true => g ζ M1
  | .bl false => .ok (.bl false) M1
  | _ => .no
def xOr (f g : MX) : MX := fun ζ M => (f ζ M).bind fun x M1 => match x with
  | .bl true => .ok (.bl true) M1
  | .bl false => g ζ M1
  | _ => .no
def xNot (f : MX) : MX := fun ζ M => (f ζ M).bind fun x M1 => match x with
  | .bl k => .ok (.bl (!k)) M1
  | _ => .no
def xIf (t : MT) (f g : MX) : MX := fun ζ M => (t ζ M).bind fun c M1 => if c = true then f ζ M1 else g ζ M1
def xNeg (f : MX) : MX := fun ζ M => (f ζ M).bind fun x M1 => match x with
  | .int i => .ok (.int (-i)) M1
  | _ => .no
section
variable {X : Cx} {Γ : Gm} {W : WX} {a b c : Expr} {rest : List Expr} {fa fb fc : MX} {ta tb : MT} {pos : Pos}
theorem PW.imp {e : Expr} {t t' : TT} (h : PW X e t) (i : ∀ σ H Q, t' σ H Q → t σ H Q) : PW X e t' := ⟨fun wh pins s σ H Q I q => h.run wh pins s σ H Q I (i _ _ _ q)⟩
theorem et_and1 (ha : ET X Γ W a ta) : EW X Γ W (.BoolOp .And [a] pos) ta := pw_and1 ha
theorem et_or1 (ha : ET X Γ W a ta) : EW X Γ W (.BoolOp .Or [a] pos) ta := pw_or1 ha
theorem et_and (ha : ET X Γ W a ta) (hb : EW X Γ W (.BoolOp .And (b :: rest) pos) tb) : EW X Γ W (.BoolOp .And (a :: b :: rest) pos) (tAnd2 ta tb) :=
  PW.imp (pw_and ha hb) fun σ H Q ⟨ζ, M, μ, rr, h⟩ => ⟨ζ, M, μ, rr, Pst.then h fun v H1 d M1 μ1 nx rh rv h1 => by
    have rv : d = v := rv
    subst rv
    cases d with
    | true => exact ⟨ζ, M1, μ1, ⟨rr.sl.mono nx, rh⟩, h1⟩
    | false => exact h1 _ _ _ (Nx.refl _ _) rh rfl⟩
theorem et_or (ha : ET X Γ W a ta) (hb : EW X Γ W (.BoolOp .Or (b :: rest) pos) tb) : EW X Γ W (.BoolOp .Or (a :: b :: rest) pos) (tOr2 ta tb) :=
  PW.imp (pw_or ha hb) fun σ H Q ⟨ζ, M, μ, rr, h⟩ => ⟨ζ, M, μ, rr, Pst.then h fun v H1 d M1 μ1 nx rh rv h1 => by
    have rv : d = v := rv
    subst rv
    cases d with
    | false => exact ⟨ζ, M1, μ1, ⟨rr.sl.mono nx, rh⟩, h1⟩
    | true => exact h1 _ _ _ (Nx.refl _ _) rh rfl⟩
theorem et_w (h : EW X Γ W a ta) : ET X Γ W a ta := PW.pt h
theorem et_not (ha : ET X Γ W a ta) : ET X Γ W (.UnaryOp .Not a pos) (tNot1 ta) :=
  PT.imp (pt_not ha) fun σ H Q ⟨ζ, M, μ, rr, h⟩ => ⟨ζ, M, μ, rr, Pst.then h fun v H1 d M1 μ1 nx rh rv h1 => by
    cases rv
    exact h1 _ _ _ (Nx.refl _ _) rh rfl⟩
theorem ex_one {op} (h : EX X Γ W a fa) : EX X Γ W (.BoolOp op [a] pos) fa := pe_one h
theorem ex_and (ha : EX X Γ W a fa) (hb : EX X Γ W (.BoolOp .And (b :: rest) pos) fb) : EX X Γ W (.BoolOp .And (a :: b :: rest) pos) (xAnd fa fb) :=
  PE.imp (pe_and ha hb) fun σ H Q ⟨ζ, M, μ, rr, h⟩ => ⟨ζ, M, μ, rr, Pst.then h fun v H1 d M1 μ1 nx rh rv h1 => by
    cases d with
    | bl k =>
      cases rv
      refine ⟨k, rfl, ?_⟩
      cases k with
      | true => exact ⟨ζ, M1, μ1, ⟨rr.sl.mono nx, rh⟩, h1⟩
      | false => exact h1 _ _ _ (Nx.refl _ _) rh (.bl _)
    | _ => exact h1.elim⟩
theorem ex_or (ha : EX X Γ W a fa) (hb : EX X Γ W (.BoolOp .Or (b :: rest) pos) fb) : EX X Γ W (.BoolOp .Or (a :: b :: rest) pos) (xOr fa fb) :=
  PE.imp (pe_or ha hb) fun σ H Q ⟨ζ, M, μ, rr, h⟩ => ⟨ζ, M, μ, rr, Pst.then h fun v H1 d M1 μ1 nx rh rv h1 => by
    cases d with
    | bl k =>
      cases rv
      refine ⟨k, rfl, ?_⟩
      cases k with
      | false => exact ⟨ζ, M1, μ1, ⟨rr.sl.mono nx, rh⟩, h1⟩
      | true => exact h1 _ _ _ (Nx.refl _ _) rh (.bl _)
    | _ => exact h1.elim⟩
theorem ex_not (ha : EX X Γ W a fa) : EX X Γ W (.UnaryOp .Not a pos) (xNot fa) :=
  PE.imp (pe_not ha) fun σ H Q ⟨ζ, M, μ, rr, h⟩ => ⟨ζ, M, μ, rr, Pst.then h fun v H1 d M1 μ1 nx rh rv h1 => by
    cases d with
    | bl k =>
      cases rv
      exact ⟨k, rfl, h1 _ _ _ (Nx.refl _ _) rh (.bl _)⟩
    | _ => exact h1.elim⟩
theorem ex_if (hc : ET X Γ W c ta) (ha : EX X Γ W a fa) (hb : EX X Γ W b fb) : EX X Γ W (.IfExp c a b pos) (xIf ta fa fb) :=
  PE.imp (pe_ifExp hc ha hb) fun σ H Q ⟨ζ, M, μ, rr, h⟩ => ⟨ζ, M, μ, rr, Pst.then h fun v H1 d M1 μ1 nx rh rv h1 => by
    have rv : d = v := rv
    subst rv
    cases d with
    | true => exact ⟨ζ, M1, μ1, ⟨rr.sl.mono nx, rh⟩, h1⟩
    | false => exact ⟨ζ, M1, μ1, ⟨rr.sl.mono nx, rh⟩, h1⟩⟩
theorem ex_neg (ha : EX X Γ W a fa) : EX X Γ W (.UnaryOp .USub a pos) (xNeg fa) :=
  PE.imp (pe_un un_neg ha) fun σ H Q ⟨ζ, M, μ, rr, h⟩ => ⟨ζ, M, μ, rr, Pst.then h fun v H1 d M1 μ1 nx rh rv h1 => by
    cases d with
    | int i =>
      cases rv
      exact ⟨i, rfl, h1 _ _ _ (Nx.refl _ _) rh (.int _)⟩
    | _ => exact h1.elim⟩
theorem tChain_of {g g' : D → D → Hs → Option (D × Hs)} {σ : L2.St} {H : Hp} {Q : VK} (h : tX X.prog X.w X.K Γ W (x3 g g' fa fb fc) σ H Q) :
    tChain (r2 X.prog X.w X.K Γ g) (r2 X.prog X.w X.K Γ g') (tX X.prog X.w X.K Γ W fa) (tX X.prog X.w X.K Γ W fb) (tX X.prog X.w X.K Γ W fc) σ H Q := by
  obtain ⟨ζ, M, μ, rr, h⟩ := h
  refine ⟨ζ, M, μ, rr, Pst.then h fun v H1 d M1 μ1 nx rh rv h1 => ⟨ζ, M1, μ1, ⟨rr.sl.mono nx, rh⟩, Pst.then h1 fun v2 H2 e M2 μ2 nx2 rh2 rv2 h2 => ⟨d, e, M2, μ2, rh2, rv.mono nx2, rv2, ?_⟩⟩⟩
  cases hg : g d e M2 with
  | none => rw [hg] at h2; exact h2.elim
  | some p =>
    rw [hg] at h2
    obtain ⟨z, M3⟩ := p
    intro v3 H3 μ3 nx3 rh3 rv3
    have h3 := Pst.mono h2 nx3
    cases z with
    | bl k =>
      cases rv3
      refine ⟨k, rfl, ?_⟩
      cases k with
      | true =>
        rw [if_pos rfl]
        exact ⟨ζ, M3, μ3, ⟨(rr.sl.mono nx).mono (nx2.trans nx3), rh3⟩, Pst.then h3 fun v4 H4 u M4 μ4 nx4 rh4 rv4 h4 => ⟨e, u, M4, μ4, rh4, (rv2.mono nx3).mono nx4, rv4, h4.of⟩⟩
      | false =>
        rw [if_neg Bool.false_ne_true]
        exact h3 _ _ _ (Nx.refl _ _) rh3 (.bl _)
    | _ => exact h3.elim
theorem ex_chain {op op' : CmpOp} {g g' : D → D → Hs → Option (D × Hs)} (ho : Op2 X Γ (compareOp op) g) (ho' : Op2 X Γ (compareOp op') g') (ha : EX X Γ W a fa) (hb : EX X Γ W b fb) (hc : EX X Γ W c fc)
    (hm : lastMarks [op, op'] [b, c] = false := by with_unfolding_all rfl) : EX X Γ W (.Compare a [op, op'] [b, c] pos) (x3 g g' fa fb fc) := PE.imp (pe_chain ho ho' ha hb hc hm) fun _ _ _ h => tChain_of h
theorem et_chain {op op' : CmpOp} {g g' : D → D → Hs → Option (D × Hs)} (ho : Op2 X Γ (compareOp op) g) (ho' : Op2 X Γ (compareOp op') g') (ha : EX X Γ W a fa) (hb : EX X Γ W b fb) (hc : EX X Γ W c fc)
    (hm : lastMarks [op, op'] [b, c] = false := by with_unfolding_all rfl) : ET X Γ W (.Compare a [op, op'] [b, c] pos) (tB1 (x3 g g' fa fb fc)) := PT.imp (pt_chain ho ho' ha hb hc hm) fun _ _ _ h => tTest_of (fun _ => tChain_of) h
end
end Mi
end
section
set_option maxRecDepth 100000
set_option maxHeartbeats 2000000
set_option autoImplicit false
namespace Mi
open PySem PySem.Spec PyProof.Rows L2

def aNil : MA := fun _ M => .ok [] M
def aCons (f : MX) (g : MA) : MA := fun ζ M => (f ζ M).bind fun x M1 => (g ζ M1).bind fun xs M2 => .ok (x :: xs) M2
def aStar (f : MX) (g : MA) : MA := fun ζ M => (f ζ M).bind fun x M1 => match hSeq M1 x with
  | some ys => (g ζ M1).bind fun xs M2 => .ok (ys ++ xs) M2
  | none => .no
def xTup (g : MA) : MX := fun ζ M => (g ζ M).bind fun ds M1 => if ds.length ≤ sizeLine then .ok (.tup ds) M1 else .no
def xLst (g : MA) : MX := fun ζ M => (g ζ M).bind fun ds M1 => R.of (newL ds M1)
section
variable {X : Cx} {Γ : Gm} {W : WX} {a b c e : Expr} {es : List Expr} {fa fb fc fe : MX} {ga : MA} {pos p : Pos}
theorem ea_nil : EA X Γ W [] aNil := PA.imp pa_nil fun σ H Q ⟨ζ, M, μ, rr, h⟩ => h _ _ _ (Nx.refl _ _) rr.hp .nil
theorem ea_cons (he : EX X Γ W e fe) (hr : EA X Γ W es ga) (hs : starEach (e :: es) X.env = (false, eval e X.env) :: starEach es X.env := by rfl) : EA X Γ W (e :: es) (aCons fe ga) :=
  PA.imp (pa_cons he hr hs) fun σ H Q ⟨ζ, M, μ, rr, h⟩ => ⟨ζ, M, μ, rr, Pst.then h fun v H1 d M1 μ1 nx rh rv h1 => ⟨ζ, M1, μ1, ⟨rr.sl.mono nx, rh⟩, Pst.then h1 fun vs H2 ds M2 μ2 nx2 rh2 rvs h2 =>
    h2 _ _ _ (Nx.refl _ _) rh2 (.cons (rv.mono nx2) rvs)⟩⟩
theorem hSeq_ok {P : Program} {w : World} {K : PySem.W.Frag} {μ : List Addr} {M : Hs} {H : Hp} {d : D} {v : V} {xs : List D} (rh : RH P w K Γ μ M H) (h : hSeq M d = some xs) (r : RV K H μ d v) : ∃ a vs, v = .ref a ∧ (SqL K H a vs ∨ SqT K H a vs) ∧ RVs K H μ xs vs := by
  cases r with
  | tup h1 r1 => cases h; exact ⟨_, _, rfl, .inr h1, r1⟩
  | kls h1 r1 => cases h; exact ⟨_, _, rfl, .inl h1.sq, r1⟩
  | ref e1 =>
    simp only [hSeq] at h
    split at h
    · rename_i ys h2
      cases h
      obtain ⟨vs, g, r1⟩ := rh.at_ _ _ _ h2 e1
      exact ⟨_, vs, rfl, .inl (SqL.of g), r1⟩
    · rename_i ys h2
      cases h
      obtain ⟨vs, ⟨o, g⟩, r1⟩ := rh.at_ _ _ _ h2 e1
      exact ⟨_, vs, rfl, .inl (.inl (.inr ⟨o, g⟩)), r1⟩
    · cases h
  | _ => cases h
theorem hRef_ok {P : Program} {w : World} {K : PySem.W.Frag} {μ : List Addr} {M : Hs} {H : Hp} {n : Nat} {v : V} {xs : List D} (rh : RH P w K Γ μ M H) (h : hSeq M (.ref n) = some xs) (r : RV K H μ (.ref n) v) : ∃ a vs, v = .ref a ∧ SqL K H a vs ∧ RVs K H μ xs vs := by
  cases r with
  | ref e1 =>
    simp only [hSeq] at h
    split at h
    · rename_i ys h2
      cases h
      obtain ⟨vs, g, r1⟩ := rh.at_ _ _ _ h2 e1
      exact ⟨_, vs, rfl, SqL.of g, r1⟩
    · rename_i ys h2
      cases h
      obtain ⟨vs, ⟨o, g⟩, r1⟩ := rh.at_ _ _ _ h2 e1
      exact ⟨_, vs, rfl, (.inl (.inr ⟨o, g⟩)), r1⟩
    · cases h
theorem ea_star (he : EX X Γ W e fe) (hr : EA X Γ W es ga) (hs : starEach (.Starred e p :: es) X.env = (true, eval e X.env) :: starEach es X.env := by rfl) : EA X Γ W (.Starred e p :: es) (aStar fe ga) :=
  PA.imp (StX.pa_star he hr hs) fun σ H Q ⟨ζ, M, μ, rr, h⟩ => ⟨ζ, M, μ, rr, Pst.then h fun v H1 d M1 μ1 nx rh rv h1 => by
    cases hq : hSeq M1 d with
    | none => rw [hq] at h1; exact h1.elim
    | some ys =>
      rw [hq] at h1
      obtain ⟨a, vs, rfl, hs, r⟩ := hSeq_ok rh hq rv
      exact ⟨a, vs, rfl, hs.symm, ⟨ζ, M1, μ1, ⟨rr.sl.mono nx, rh⟩, Pst.then h1 fun ws H2 ds M2 μ2 nx2 rh2 rvs h2 => h2 _ _ _ (Nx.refl _ _) rh2 ((r.mono nx2).append rvs)⟩⟩⟩
theorem ex_tup {k} (ha : EA X Γ W es ga) : EX X Γ W (.Tuple es k pos) (xTup ga) :=
  PE.imp (pe_tup ha) fun σ H Q ⟨ζ, M, μ, rr, h⟩ => ⟨ζ, M, μ, rr, Pst.then h fun vs H1 ds M1 μ1 nx rh rv h1 => by
    split at h1
    · rename_i hl
      exact ⟨by rw [← RVs.length rv]; exact hl, fun p hp => h1 _ _ _ (Nx.fresh0 hp) (rh.fresh hp) (.tup (SqT.of upd_same) (RVs.mono (Nx.fresh0 hp) rv))⟩
    · exact h1.elim⟩
theorem ex_lst (ha : EA X Γ W es ga) : EX X Γ W (.List es pos) (xLst ga) :=
  PE.imp (pe_lst ha) fun σ H Q ⟨ζ, M, μ, rr, h⟩ => ⟨ζ, M, μ, rr, Pst.then h fun vs H1 ds M1 μ1 nx rh rv h1 => by
    unfold newL at h1
    split at h1
    · rename_i hl
      exact ⟨by rw [← RVs.length rv]; exact hl, fun p hp => Pk.new rh h1 hp ⟨_, upd_same, RVs.mono (Nx.fresh hp _) rv⟩⟩
    · exact h1.elim⟩

def gIx (x y : D) (M : Hs) : Option (D × Hs) := match hSeq M x, y with
  | some xs, .int i => match atI xs i with
    | some d => some (d, M)
    | none => none
  | _, _ => none
theorem atI_rel {K : PySem.W.Frag} {H : Hp} {μ : List Addr} {xs : List D} {vs : List V} {i : Int} {d : D} (r : RVs K H μ xs vs) (h : atI xs i = some d) : ∃ v, atI vs i = some v ∧ RV K H μ d v := by
  unfold atI at h ⊢
  rw [← r.length]
  cases e : ixN xs.length i with
  | none => rw [e] at h; cases h
  | some j =>
    rw [e] at h
    exact r.get h
theorem ix_any : IxR X (fun x y H Q => rIxL X.K x y H Q ∨ rIxT X.K x y H Q) := ix_list.or ix_tup
theorem ex_ix (ha : EX X Γ W a fa) (hb : EX X Γ W b fb) (hs : PlainIx b := by intro _ _; rfl) : EX X Γ W (.Subscript a b pos) (x2 gIx fa fb) :=
  PE.imp (pe_ix ix_any ha hb hs) fun σ H Q ⟨ζ, M, μ, rr, h⟩ => ⟨ζ, M, μ, rr, Pst.then h fun v H1 d M1 μ1 nx rh rv h1 => ⟨ζ, M1, μ1, ⟨rr.sl.mono nx, rh⟩, Pst.then h1 fun v2 H2 e M2 μ2 nx2 rh2 rv2 h2 => by
    replace h2 := h2.of
    unfold gIx at h2
    split at h2
    · rename_i xs i hq
      cases rv2
      split at h2
      · rename_i z hz
        obtain ⟨a, vs, rfl, hs, r⟩ := hSeq_ok rh2 hq (RV.mono nx2 rv)
        obtain ⟨u, g1, g2⟩ := atI_rel r hz
        rcases hs with hs | hs
        · exact .inl ⟨_, _, _, _, rfl, rfl, hs, g1, Pk.here rh2 h2 g2⟩
        · exact .inr ⟨_, _, _, _, rfl, rfl, hs, g1, Pk.here rh2 h2 g2⟩
      · exact h2.elim
    · exact h2.elim⟩⟩
abbrev MO' := Sl → Hs → R (Option Int)
def oNone : MO' := fun _ M => .ok none M
def oSome (f : MX) : MO' := fun ζ M => (f ζ M).bind fun x M1 => match x with
  | .int i => .ok (some i) M1
  | _ => .no
abbrev EO (X : Cx) (Γ : Gm) (W : WX) (e : Option Expr) (f : MO') : Prop := PO X e (fun σ H Q => ∃ ζ M μ, RR X.prog X.w X.K Γ μ H ζ M σ ∧ Pst X.prog X.w X.K Γ (fun _ _ a b => a = b) W σ μ H (f ζ M) Q)
theorem PO.imp {e : Option Expr} {t t' : TO} (h : PO X e t) (i : ∀ σ H Q, t' σ H Q → t σ H Q) : PO X e t' := ⟨fun pins s σ H Q I q => h.run pins s σ H Q I (i _ _ _ q)⟩
theorem eo_none : EO X Γ W none oNone := PO.imp po_none fun σ H Q ⟨ζ, M, μ, rr, h⟩ => h _ _ _ (Nx.refl _ _) rr.hp rfl
theorem eo_some (ha : EX X Γ W a fa) : EO X Γ W (some a) (oSome fa) := PO.imp (po_some ha) fun σ H Q ⟨ζ, M, μ, rr, h⟩ => ⟨ζ, M, μ, rr, Pst.then h fun v H1 d M1 μ1 nx rh rv h1 => by
  cases d with
  | int i => cases rv; exact ⟨i, rfl, h1 _ _ _ (Nx.refl _ _) rh rfl⟩
  | _ => exact h1.elim⟩
def cutD {α : Type} (xs : List α) (lo hi : Option Int) : List α := (xs.drop (HT.sIx xs.length 0 lo)).take (HT.sIx xs.length xs.length hi - HT.sIx xs.length 0 lo)
theorem cut_rel {K : PySem.W.Frag} {H : Hp} {μ : List Addr} {xs : List D} {vs : List V} (r : RVs K H μ xs vs) (lo hi : Option Int) : RVs K H μ (cutD xs lo hi) (cutV vs lo hi) := by
  unfold cutD cutV
  rw [← r.length]
  exact (r.drop _).take _
theorem cutV_whole {vs : List V} {lo hi : Option Int} (h : HT.sIx vs.length 0 lo = 0 ∧ HT.sIx vs.length vs.length hi = vs.length) : cutV vs lo hi = vs := by
  unfold cutV
  rw [h.1, h.2]
  simp
def gCut (x : D) (lo hi : Option Int) (M : Hs) : Option (D × Hs) := match x with
  | .tup xs => some (.tup (cutD xs lo hi), M)
  | .ref n => match hSeq M (.ref n) with
    | some xs => some (.ref M.length, M ++ [.lst (cutD xs lo hi)])
    | none => none
  | _ => none
def xCut (f : MX) (l h : MO') : MX := fun ζ M => (f ζ M).bind fun x M1 => (l ζ M1).bind fun i M2 => (h ζ M2).bind fun j M3 => R.of (gCut x i j M3)
theorem sl_any : L2.SlR X (fun x lo hi H Q => rSlL X.K x lo hi H Q ∨ rSlA X.K x lo hi H Q) := sl_list.or sl_tupA
theorem ex_cut {lo hi : Option Expr} {fl fh : MO'} {p2 : Pos} (ha : EX X Γ W a fa) (hl : EO X Γ W lo fl) (hh : EO X Γ W hi fh) : EX X Γ W (.Subscript a (.Slice lo hi none p2) pos) (xCut fa fl fh) :=
  PE.imp (pe_slice sl_any ha hl hh) fun σ H Q ⟨ζ, M, μ, rr, h⟩ => ⟨ζ, M, μ, rr, Pst.then h fun v H1 d M1 μ1 nx rh rv h1 => ⟨ζ, M1, μ1, ⟨rr.sl.mono nx, rh⟩, Pst.then h1 fun v2 H2 i M2 μ2 nx2 rh2 rv2 h2 =>
    ⟨ζ, M2, μ2, ⟨(rr.sl.mono nx).mono nx2, rh2⟩, Pst.then h2 fun v3 H3 j M3 μ3 nx3 rh3 rv3 h3 => by
    replace h3 := h3.of
    replace rv2 : i = v2 := rv2
    replace rv3 : j = v3 := rv3
    subst rv2 rv3
    replace rv := (RV.mono nx2 rv).mono nx3
    unfold gCut at h3
    split at h3
    · cases rv with
      | tup g r =>
        refine .inr ⟨_, _, rfl, g, fun hw => ?_, fun hw p hp => Pk.tup rh3 h3 hp (cut_rel r _ _)⟩
        refine Pk.here rh3 h3 (.tup g ?_)
        have := cut_rel r i j
        rwa [cutV_whole hw] at this
    · split at h3
      · rename_i n xs hq
        obtain ⟨a, vs, rfl, hs, r⟩ := hRef_ok rh3 hq rv
        exact .inl ⟨_, _, rfl, hs, fun p hp => Pk.new rh3 h3 hp ⟨_, upd_same, (cut_rel r _ _).mono (Nx.fresh hp _)⟩⟩
      · exact h3.elim
    · exact h3.elim⟩⟩⟩
def gRevL (x : D) (M : Hs) : Option (D × Hs) := match x with
  | .ref n => match hSeq M (.ref n) with
    | some xs => some (.ref M.length, M ++ [.lst xs.reverse])
    | none => none
  | _ => none
end
end Mi
end
section
set_option maxRecDepth 100000
set_option maxHeartbeats 2000000
set_option autoImplicit false
namespace Mi
open PySem PySem.Spec PyProof.Rows L2

abbrev GL := List D → Hs → Option (D × Hs)
def xB (g : GL) (fas : MA) : MX := fun ζ M => (fas ζ M).bind fun ds M1 => R.of (g ds M1)
def rC (P : Program) (w : World) (K : PySem.W.Frag) (Γ : Gm) (g : GL) : List V → Hp → VK → Prop := fun xs H Q => ∃ ds M μ, RH P w K Γ μ M H ∧ RVs K H μ ds xs ∧ Pk P w K Γ (relV K) μ H (g ds M) Q
abbrev CB (X : Cx) (Γ : Gm) (f : Value) (g : GL) : Prop := CallR X f (rC X.prog X.w X.K Γ g)
abbrev GM := D → List D → Hs → Option (D × Hs)
def xMeth (ok : D → Hs → Bool) (g : GM) (fo : MX) (fas : MA) : MX := fun ζ M => (fo ζ M).bind fun x M1 => if ok x M1 = true then (fas ζ M1).bind fun ds M2 => R.of (g x ds M2) else .no
def rM (P : Program) (w : World) (K : PySem.W.Frag) (Γ : Gm) (g : GM) : V → List V → Hp → VK → Prop := fun x xs H Q => ∃ d ds M μ, RH P w K Γ μ M H ∧ RV K H μ d x ∧ RVs K H μ ds xs ∧ Pk P w K Γ (relV K) μ H (g d ds M) Q
abbrev CM (X : Cx) (Γ : Gm) (id : String) (g : GM) : Prop := MtR X id (rM X.prog X.w X.K Γ g)
def isLst (d : D) (M : Hs) : Bool := match d with
  | .ref n => (hLst M n).isSome
  | _ => false
def isStr (d : D) (_ : Hs) : Bool := match d with
  | .str _ => true
  | _ => false
/-- of which built-in type a value is told -/
def TyOk (T : String) (ok : D → Hs → Bool) : Prop := ∀ {P : Program} {w : World} {K : PySem.W.Frag} {Γ : Gm} {μ : List Addr} {M : Hs} {H : Hp} {d : D} {v : V}, RH P w K Γ μ M H → RV K H μ d v → ok d M = true → tyV K T v H
theorem hLst_ok {P : Program} {w : World} {K : PySem.W.Frag} {Γ : Gm} {μ : List Addr} {M : Hs} {H : Hp} {n : Nat} {xs : List D} (rh : RH P w K Γ μ M H) (h : hLst M n = some xs) : M[n]? = some (.lst xs) := by
  unfold hLst at h
  split at h
  · rename_i ys e
    cases h
    exact e
  · cases h
theorem ty_lst : TyOk "list" isLst := by
  intro P w K Γ μ M H d v rh r h
  unfold isLst at h
  split at h
  · rename_i n
    cases r with
    | ref e =>
      obtain ⟨xs, hx⟩ := Option.isSome_iff_exists.mp h
      obtain ⟨vs, g, _⟩ := nlst rh (hLst_ok rh hx) e
      exact .inl ⟨rfl, vs, SqL.of g⟩
  · cases h
theorem ty_str : TyOk "str" isStr := by
  intro P w K Γ μ M H d v rh r h
  unfold isStr at h
  split at h
  · cases r
    rfl
  · cases h
section
variable {X : Cx} {Γ : Gm} {W : WX} {a b c e o : Expr} {es : List Expr} {fa fb fc fe fo : MX} {ga : MA} {pos p apos cpos : Pos} {x name : Str} {id T : String}
theorem tCB_of {g : GL} {σ : L2.St} {H : Hp} {Q : VK} (h : tX X.prog X.w X.K Γ W (xB g ga) σ H Q) : tCB (rC X.prog X.w X.K Γ g) (tA X.prog X.w X.K Γ W ga) σ H Q := by
  obtain ⟨ζ, M, μ, rr, h⟩ := h
  exact ⟨ζ, M, μ, rr, Pst.then h fun vs H1 ds M1 μ1 nx rh rv h1 => ⟨ds, M1, μ1, rh, rv, h1.of⟩⟩
theorem ex_callB {g : GL} (hc : CB X Γ (.builtin id) g) (hm : X.mg x = none) (hv : bootBuiltins x = some (.builtin id)) (ha : EA X Γ W (e :: es) ga) (hg : Gl X x := by rfl) (hn : x ≠ "__name__" := by decide) (hdb : (x == ("__debug__" : Str)) = false := by decide)
    (he : starEach (e :: es) X.env = (false, eval e X.env) :: starEach es X.env := by rfl) (hpl : (backTo pos (starEach es X.env)).any (·.1) = false := by rfl) : EX X Γ W (.Call (.Name x p) (e :: es) [] pos) (xB g ga) :=
  PE.imp (pe_callB hc hg hm hv ha hn hdb he hpl) fun _ _ _ h => tCB_of h
theorem ex_callTy {g : GL} (hc : CB X Γ (.type T) g) (hm : X.mg x = none) (hv : bootBuiltins x = some (.type T)) (ha : EA X Γ W (e :: es) ga) (hg : Gl X x := by rfl) (hn : x ≠ "__name__" := by decide) (hdb : (x == ("__debug__" : Str)) = false := by decide)
    (he : starEach (e :: es) X.env = (false, eval e X.env) :: starEach es X.env := by rfl) (hpl : (backTo pos (starEach es X.env)).any (·.1) = false := by rfl) : EX X Γ W (.Call (.Name x p) (e :: es) [] pos) (xB g ga) :=
  PE.imp (pe_callTy hc hg hm hv ha hn hdb he hpl) fun _ _ _ h => tCB_of h
theorem ex_meth {ok : D → Hs → Bool} {g : GM} (pa : PlainAttrs T) (slot : Slot T name id) (hty : typeOf (.builtin id) = pure (.type "method_descriptor")) (hk : TyOk T ok) (hm : CM X Γ id g) (ho : EX X Γ W o fo) (ha : EA X Γ W (e :: es) ga)
    (hbase : attributeBase o name X.env (eval o X.env) = eval o X.env := by rfl)
    (hfew : ((backTo cpos (starEach (e :: es) X.env)).all (fun x => !x.1) && (backToKw cpos (keywordEach [] X.env)).all (fun x => x.1.isSome)
      && decide ((e :: es).length + ([] : List Keyword).length + (if ([] : List Keyword).isEmpty then 0 else 1) < 30)) = true := by rfl)
    (hline : (apos.endLine == cpos.line) = true := by rfl) (hs : starEach (e :: es) X.env = (false, eval e X.env) :: starEach es X.env := by rfl) (hplain : (backTo cpos (starEach es X.env)).any (·.1) = false := by rfl) :
    EX X Γ W (.Call (.Attribute o name apos) (e :: es) [] cpos) (xMeth ok g fo ga) :=
  PE.imp (pe_bm pa slot hty hm ho ha hbase hfew hline hs hplain) fun σ H Q ⟨ζ, M, μ, rr, h⟩ => ⟨ζ, M, μ, rr, Pst.then h fun v H1 d M1 μ1 nx rh rv h1 => by
    split at h1
    · rename_i hok
      exact ⟨hk rh rv hok, ζ, M1, μ1, ⟨rr.sl.mono nx, rh⟩, Pst.then h1 fun vs H2 ds M2 μ2 nx2 rh2 rvs h2 => ⟨d, ds, M2, μ2, rh2, RV.mono nx2 rv, rvs, h2.of⟩⟩
    · exact h1.elim⟩
theorem ex_meth0 {ok : D → Hs → Bool} {g : GM} (pa : PlainAttrs T) (slot : Slot T name id) (hty : typeOf (.builtin id) = pure (.type "method_descriptor")) (hk : TyOk T ok) (hm : CM X Γ id g) (ho : EX X Γ W o fo)
    (hbase : attributeBase o name X.env (eval o X.env) = eval o X.env := by rfl) (hline : (apos.endLine == cpos.line) = true := by rfl) : EX X Γ W (.Call (.Attribute o name apos) [] [] cpos) (xMeth ok g fo aNil) :=
  PE.imp (pe_bm0 pa slot hty hm ho hbase hline) fun σ H Q ⟨ζ, M, μ, rr, h⟩ => ⟨ζ, M, μ, rr, Pst.then h fun v H1 d M1 μ1 nx rh rv h1 => by
    split at h1
    · rename_i hok
      exact ⟨hk rh rv hok, d, [], M1, μ1, rh, rv, .nil, Pst.of h1⟩
    · exact h1.elim⟩
end

def gLen : GL := fun ds M => match ds with
  | [.str x] => if x.length ≤ sizeLine then some (.int x.length, M) else none
  | [d] => match hSeq M d with
    | some xs => some (.int xs.length, M)
    | none => none
  | _ => none
def gAbs : GL := fun ds M => match ds with
  | [.int i] => some (.int (if i < 0 then -i else i), M)
  | _ => none
def gMax2 : GL := fun ds M => match ds with
  | [.int i, .int j] => some (.int (if j > i then j else i), M)
  | _ => none
def gMin2 : GL := fun ds M => match ds with
  | [.int i, .int j] => some (.int (if j < i then j else i), M)
  | _ => none
def gInt : GL := fun ds M => match ds with
  | [.int i] => some (.int i, M)
  | [.bl k] => some (.int (if k then 1 else 0), M)
  | _ => none
def gList : GL := fun ds M => match ds with
  | [d] => match hSeq M d with
    | some xs => some (.ref M.length, M ++ [.lst xs])
    | none => none
  | _ => none
def gTuple : GL := fun ds M => match ds with
  | [d] => match hSeq M d with
    | some xs => some (.tup xs, M)
    | none => none
  | _ => none
def blsOf : List D → Option (List Bool)
  | [] => some []
  | .bl b :: r => match blsOf r with
    | some bs => some (b :: bs)
    | none => none
  | _ => none
def intsOf : List D → Option (List Int)
  | [] => some []
  | .int b :: r => match intsOf r with
    | some bs => some (b :: bs)
    | none => none
  | _ => none
def gBools (k : List Bool → Bool) : GL := fun ds M => match ds with
  | [.ref n] => match hSeq M (.ref n) with
    | some xs => match blsOf xs with
      | some bs => some (.bl (k bs), M)
      | none => none
    | none => none
  | _ => none
def gAny : GL := gBools fun bs => bs.any id
def gAll : GL := gBools fun bs => bs.all id
def minI : Int → List Int → Int
  | m, [] => m
  | m, x :: r => minI (if x < m then x else m) r
def maxI : Int → List Int → Int
  | m, [] => m
  | m, x :: r => maxI (if m < x then x else m) r
def gExt (k : Int → List Int → Int) : GL := fun ds M => match ds with
  | [.ref n] => match hSeq M (.ref n) with
    | some xs => match intsOf xs with
      | some (i :: is) => some (.int (k i is), M)
      | _ => none
    | none => none
  | _ => none
def gMinL : GL := gExt minI
def gMaxL : GL := gExt maxI
section
variable {K : PySem.W.Frag} {H : Hp} {μ : List Addr}
theorem blsOf_ok : ∀ {xs : List D} {bs : List Bool} {vs : List V}, blsOf xs = some bs → RVs K H μ xs vs → vs = bs.map V.bl
  | [], bs, vs, h, r => by cases h; cases r; rfl
  | d :: xs, bs, vs, h, r => by
    cases d with
    | bl b =>
      simp only [blsOf] at h
      split at h
      · rename_i cs e
        cases h
        cases r with
        | cons r1 r2 =>
          cases r1
          rw [List.map_cons, blsOf_ok e r2]
      · cases h
    | _ => cases h
theorem intsOf_ok : ∀ {xs : List D} {bs : List Int} {vs : List V}, intsOf xs = some bs → RVs K H μ xs vs → vs = bs.map V.int
  | [], bs, vs, h, r => by cases h; cases r; rfl
  | d :: xs, bs, vs, h, r => by
    cases d with
    | int b =>
      simp only [intsOf] at h
      split at h
      · rename_i cs e
        cases h
        cases r with
        | cons r1 r2 =>
          cases r1
          rw [List.map_cons, intsOf_ok e r2]
      · cases h
    | _ => cases h
theorem minI_spec : ∀ (r : List Int) (m : Int), (minI m r = m ∨ minI m r ∈ r) ∧ minI m r ≤ m ∧ ∀ y ∈ r, minI m r ≤ y
  | [], m => ⟨.inl rfl, Int.le_refl _, fun y h => nomatch h⟩
  | x :: r, m => by
    have ih := minI_spec r (if x < m then x else m)
    unfold minI
    refine ⟨?_, ?_, fun y hy => ?_⟩
    · rcases ih.1 with h | h
      · split at h
        · rename_i hlt
          rw [if_pos hlt]
          exact .inr (by rw [h]; exact List.mem_cons_self)
        · rename_i hlt
          rw [if_neg hlt]
          exact .inl h
      · exact .inr (List.mem_cons_of_mem _ h)
    · have := ih.2.1
      split at this <;> split <;> omega
    · rcases List.mem_cons.mp hy with e | hy
      · subst e
        have := ih.2.1
        split at this <;> split <;> omega
      · exact ih.2.2 y hy
theorem maxI_spec : ∀ (r : List Int) (m : Int), (maxI m r = m ∨ maxI m r ∈ r) ∧ m ≤ maxI m r ∧ ∀ y ∈ r, y ≤ maxI m r
  | [], m => ⟨.inl rfl, Int.le_refl _, fun y h => nomatch h⟩
  | x :: r, m => by
    have ih := maxI_spec r (if m < x then x else m)
    unfold maxI
    refine ⟨?_, ?_, fun y hy => ?_⟩
    · rcases ih.1 with h | h
      · split at h
        · rename_i hlt
          rw [if_pos hlt]
          exact .inr (by rw [h]; exact List.mem_cons_self)
        · rename_i hlt
          rw [if_neg hlt]
          exact .inl h
      · exact .inr (List.mem_cons_of_mem _ h)
    · have := ih.2.1
      split at this <;> split <;> omega
    · rcases List.mem_cons.mp hy with e | hy
      · subst e
        have := ih.2.1
        split at this <;> split <;> omega
      · exact ih.2.2 y hy
theorem one_rel {d : D} {vs : List V} (r : RVs K H μ [d] vs) : ∃ v, vs = [v] ∧ RV K H μ d v := by
  cases r with
  | cons r1 r2 => cases r2; exact ⟨_, rfl, r1⟩
theorem two_rel {d e : D} {vs : List V} (r : RVs K H μ [d, e] vs) : ∃ v u, vs = [v, u] ∧ RV K H μ d v ∧ RV K H μ e u := by
  cases r with
  | cons r1 r2 =>
    cases r2 with
    | cons r2 r3 => cases r3; exact ⟨_, _, rfl, r1, r2⟩
end
section
variable {X : Cx} {Γ : Gm}
theorem b_len : CB X Γ (.builtin "len") gLen := by
  intro pins s σ H xs us Q I r ⟨ds, M, μ, rh, rv, hq⟩
  unfold gLen at hq
  split at hq
  · obtain ⟨v, rfl, r1⟩ := one_rel rv
    cases r1
    split at hq
    · rename_i hl
      exact call_len pins s σ H _ us Q I r ⟨_, _, rfl, ⟨hl, rfl⟩, Pk.here rh hq (.int _)⟩
    · exact hq.elim
  · obtain ⟨v, rfl, r1⟩ := one_rel rv
    split at hq
    · rename_i ys e
      obtain ⟨a, vs, rfl, hs, r2⟩ := hSeq_ok rh e r1
      rw [r2.length] at hq
      rcases hs with hs | hs
      · exact call_len pins s σ H _ us Q I r ⟨_, _, rfl, .inl ⟨vs, hs, rfl⟩, Pk.here rh hq (.int _)⟩
      · exact call_len pins s σ H _ us Q I r ⟨_, _, rfl, .inr ⟨vs, hs, rfl⟩, Pk.here rh hq (.int _)⟩
    · exact hq.elim
  · exact hq.elim
theorem b_abs : CB X Γ (.builtin "abs") gAbs := by
  intro pins s σ H xs us Q I r ⟨ds, M, μ, rh, rv, hq⟩
  unfold gAbs at hq
  split at hq
  · obtain ⟨v, rfl, r1⟩ := one_rel rv
    cases r1
    exact call_abs pins s σ H _ us Q I r ⟨_, rfl, Pk.here rh hq (.int _)⟩
  · exact hq.elim
theorem b_max2 (hc : X.calm = true) : CB X Γ (.builtin "max") gMax2 := by
  intro pins s σ H xs us Q I r ⟨ds, M, μ, rh, rv, hq⟩
  unfold gMax2 at hq
  split at hq
  · obtain ⟨v, u, rfl, r1, r2⟩ := two_rel rv
    cases r1; cases r2
    exact call_max2 hc pins s σ H _ us Q I r ⟨_, _, rfl, Pk.here rh hq (.int _)⟩
  · exact hq.elim
theorem b_min2 (hc : X.calm = true) : CB X Γ (.builtin "min") gMin2 := by
  intro pins s σ H xs us Q I r ⟨ds, M, μ, rh, rv, hq⟩
  unfold gMin2 at hq
  split at hq
  · obtain ⟨v, u, rfl, r1, r2⟩ := two_rel rv
    cases r1; cases r2
    exact call_min2 hc pins s σ H _ us Q I r ⟨_, _, rfl, Pk.here rh hq (.int _)⟩
  · exact hq.elim
theorem b_int : CB X Γ (.type "int") gInt := by
  intro pins s σ H xs us Q I r ⟨ds, M, μ, rh, rv, hq⟩
  unfold gInt at hq
  split at hq
  · obtain ⟨v, rfl, r1⟩ := one_rel rv
    cases r1
    exact call_int1 pins s σ H _ us Q I r (.inl ⟨_, rfl, Pk.here rh hq (.int _)⟩)
  · obtain ⟨v, rfl, r1⟩ := one_rel rv
    cases r1
    exact call_int1 pins s σ H _ us Q I r (.inr ⟨_, rfl, Pk.here rh hq (.int _)⟩)
  · exact hq.elim
theorem b_list : CB X Γ (.type "list") gList := by
  intro pins s σ H xs us Q I r ⟨ds, M, μ, rh, rv, hq⟩
  unfold gList at hq
  split at hq
  · obtain ⟨v, rfl, r1⟩ := one_rel rv
    split at hq
    · rename_i ys e
      obtain ⟨a, vs, rfl, hs, r2⟩ := hSeq_ok rh e r1
      exact call_list_of pins s σ H _ us Q I r ⟨_, vs, rfl, hs, fun p hp => Pk.new rh hq hp ⟨_, upd_same, r2.mono (Nx.fresh hp _)⟩⟩
    · exact hq.elim
  · exact hq.elim
theorem b_tuple : CB X Γ (.type "tuple") gTuple := by
  intro pins s σ H xs us Q I r ⟨ds, M, μ, rh, rv, hq⟩
  unfold gTuple at hq
  split at hq
  · obtain ⟨v, rfl, r1⟩ := one_rel rv
    split at hq
    · rename_i ys e
      obtain ⟨a, vs, rfl, hs, r2⟩ := hSeq_ok rh e r1
      refine call_tuple_of pins s σ H _ us Q I r ⟨_, vs, rfl, hs.imp (fun hs => ⟨hs, fun p hp => Pk.tup rh hq hp r2⟩) fun hs => ⟨hs, Pk.here rh hq (.tup hs r2)⟩⟩
    · exact hq.elim
  · exact hq.elim
theorem b_bools {id : String} {k : List Bool → Bool} (h : CallR X (.builtin id) (fun vs H Q => ∃ (a : Addr) (bs : List Bool), vs = [V.ref a] ∧ SqL X.K H a (bs.map V.bl) ∧ Q (.bl (k bs)) H)) : CB X Γ (.builtin id) (gBools k) := by
  intro pins s σ H xs us Q I r ⟨ds, M, μ, rh, rv, hq⟩
  unfold gBools at hq
  split at hq
  · obtain ⟨v, rfl, r1⟩ := one_rel rv
    split at hq
    · rename_i ys e
      obtain ⟨a, vs, rfl, hs, r2⟩ := hRef_ok rh e r1
      split at hq
      · rename_i bs e2
        have e3 := blsOf_ok e2 r2
        subst e3
        exact h pins s σ H _ us Q I r ⟨a, bs, rfl, hs, Pk.here rh hq (.bl _)⟩
      · exact hq.elim
    · exact hq.elim
  · exact hq.elim
theorem b_any (hc : X.calm = true) : CB X Γ (.builtin "any") gAny := b_bools (cr_any hc)
theorem b_all (hc : X.calm = true) : CB X Γ (.builtin "all") gAll := b_bools (cr_all hc)
theorem b_minL (hc : X.calm = true) : CB X Γ (.builtin "min") gMinL := by
  intro pins s σ H xs us Q I r ⟨ds, M, μ, rh, rv, hq⟩
  unfold gMinL gExt at hq
  split at hq
  · obtain ⟨v, rfl, r1⟩ := one_rel rv
    split at hq
    · rename_i ys e
      obtain ⟨a, vs, rfl, hs, r2⟩ := hRef_ok rh e r1
      split at hq
      · rename_i i is e2
        have e3 := intsOf_ok e2 r2
        subst e3
        refine cr_min hc pins s σ H _ us Q I r ⟨a, i :: is, rfl, hs, by simp, fun m hm hle => ?_⟩
        have sp := minI_spec is i
        have e4 : m = minI i is := by
          have h1 : m ≤ minI i is := hle _ (by rcases sp.1 with h | h; rw [h]; exact List.mem_cons_self; exact List.mem_cons_of_mem _ h)
          have h2 : minI i is ≤ m := by rcases List.mem_cons.mp hm with h | h; rw [h]; exact sp.2.1; exact sp.2.2 m h
          omega
        rw [e4]
        exact Pk.here rh hq (.int _)
      · exact hq.elim
    · exact hq.elim
  · exact hq.elim
theorem b_maxL (hc : X.calm = true) : CB X Γ (.builtin "max") gMaxL := by
  intro pins s σ H xs us Q I r ⟨ds, M, μ, rh, rv, hq⟩
  unfold gMaxL gExt at hq
  split at hq
  · obtain ⟨v, rfl, r1⟩ := one_rel rv
    split at hq
    · rename_i ys e
      obtain ⟨a, vs, rfl, hs, r2⟩ := hRef_ok rh e r1
      split at hq
      · rename_i i is e2
        have e3 := intsOf_ok e2 r2
        subst e3
        refine cr_max hc pins s σ H _ us Q I r ⟨a, i :: is, rfl, hs, by simp, fun m hm hle => ?_⟩
        have sp := maxI_spec is i
        have e4 : m = maxI i is := by
          have h1 : maxI i is ≤ m := hle _ (by rcases sp.1 with h | h; rw [h]; exact List.mem_cons_self; exact List.mem_cons_of_mem _ h)
          have h2 : m ≤ maxI i is := by rcases List.mem_cons.mp hm with h | h; rw [h]; exact sp.2.1; exact sp.2.2 m h
          omega
        rw [e4]
        exact Pk.here rh hq (.int _)
      · exact hq.elim
    · exact hq.elim
  · exact hq.elim

def gAppend : GM := fun d ds M => match d, ds with
  | .ref n, [y] => match hLst M n with
    | some xs => if xs.length < sizeLine then some (.non, M.set n (.lst (xs ++ [y]))) else none
    | none => none
  | _, _ => none
def gExtend : GM := fun d ds M => match d, ds with
  | .ref n, [.ref m] => match hLst M n, hLst M m with
    | some xs, some ys => if xs.length + ys.length ≤ sizeLine then some (.non, M.set n (.lst (xs ++ ys))) else none
    | _, _ => none
  | _, _ => none
def gPop : GM := fun d ds M => match d, ds with
  | .ref n, [] => match hLst M n with
    | some xs => match xs[xs.length - 1]? with
      | some y => some (y, M.set n (.lst xs.dropLast))
      | none => none
    | none => none
  | _, _ => none
def gPopAt : GM := fun d ds M => match d, ds with
  | .ref n, [.int i] => match hLst M n with
    | some xs => if 0 ≤ i then match xs[i.toNat]? with
      | some y => some (y, M.set n (.lst (xs.eraseIdx i.toNat)))
      | none => none else none
    | none => none
  | _, _ => none
def gInsert : GM := fun d ds M => match d, ds with
  | .ref n, [.int i, y] => match hLst M n with
    | some xs => if 0 ≤ i ∧ i < 2 ^ 63 ∧ xs.length < sizeLine then some (.non, M.set n (.lst (xs.take i.toNat ++ [y] ++ xs.drop i.toNat))) else none
    | none => none
  | _, _ => none
def gReverse : GM := fun d ds M => match d, ds with
  | .ref n, [] => match hLst M n with
    | some xs => some (.non, M.set n (.lst xs.reverse))
    | none => none
  | _, _ => none
theorem mutL {H : Hp} {a : Addr} {vs : List V} (h : H a = some (.lst vs)) : Mut (H a) := by rw [h]; trivial
theorem Pk.lst {P : Program} {w : World} {K : PySem.W.Frag} {Γ : Gm} {μ : List Addr} {M : Hs} {H : Hp} {Q : VK} {n : Nat} {a : Addr} {vs vs' : List V} {xs' : List D} {d : D} {v : V} (rh : RH P w K Γ μ M H) (e : μ[n]? = some a) (g : H a = some (.lst vs))
    (h : Pk P w K Γ (relV K) μ H (some (d, M.set n (.lst xs'))) Q) (r : RVs K H μ xs' vs') (rd : RV K H μ d v) : Q v (upd H a (.lst vs')) :=
  h _ _ _ (Nx.write (mutL g)) (rh.write e (mutL g) ⟨_, upd_same, r.mono (Nx.write (mutL g))⟩) (RV.mono (Nx.write (mutL g)) rd)
theorem ref_rel {H : Hp} {μ : List Addr} {K : PySem.W.Frag} {n : Nat} {v : V} (r : RV K H μ (.ref n) v) : ∃ a, v = .ref a ∧ μ[n]? = some a := by
  cases r with
  | ref e => exact ⟨_, rfl, e⟩
theorem l_append : CM X Γ "list.append" gAppend := by
  intro pins s σ H x xs v us Q I rx rs ⟨d, ds, M, μ, rh, rd, rv, hq⟩
  unfold gAppend at hq
  split at hq
  · obtain ⟨a, rfl, e⟩ := ref_rel rd
    obtain ⟨y, rfl, r1⟩ := one_rel rv
    split at hq
    · rename_i ys e2
      obtain ⟨vs, g, r2⟩ := nlst rh (hLst_ok rh e2) e
      split at hq
      · rename_i hl
        exact mt_append pins s σ H _ _ v us Q I rx rs ⟨a, vs, y, rfl, rfl, g, by rw [← r2.length]; exact hl, Pk.lst rh e g hq (r2.append (.cons r1 .nil)) .non⟩
      · exact hq.elim
    · exact hq.elim
  · exact hq.elim
theorem l_extend : CM X Γ "list.extend" gExtend := by
  intro pins s σ H x xs v us Q I rx rs ⟨d, ds, M, μ, rh, rd, rv, hq⟩
  unfold gExtend at hq
  split at hq
  · obtain ⟨a, rfl, e⟩ := ref_rel rd
    obtain ⟨y, rfl, r1⟩ := one_rel rv
    obtain ⟨b, rfl, e'⟩ := ref_rel r1
    split at hq
    · rename_i ys zs e2 e3
      obtain ⟨vs, g, r2⟩ := nlst rh (hLst_ok rh e2) e
      obtain ⟨us', g', r3⟩ := nlst rh (hLst_ok rh e3) e'
      split at hq
      · rename_i hl
        exact mt_extend pins s σ H _ _ v us Q I rx rs ⟨a, b, vs, us', rfl, rfl, g, g', by rw [← r2.length, ← r3.length]; exact hl, Pk.lst rh e g hq (r2.append r3) .non⟩
      · exact hq.elim
    · exact hq.elim
  · exact hq.elim
theorem l_pop : CM X Γ "list.pop" gPop := by
  intro pins s σ H x xs v us Q I rx rs ⟨d, ds, M, μ, rh, rd, rv, hq⟩
  unfold gPop at hq
  split at hq
  · obtain ⟨a, rfl, e⟩ := ref_rel rd
    cases rv
    split at hq
    · rename_i ys e2
      obtain ⟨vs, g, r2⟩ := nlst rh (hLst_ok rh e2) e
      split at hq
      · rename_i y hy
        obtain ⟨u, hu, r3⟩ := r2.get hy
        rw [r2.length] at hu
        exact mt_pop pins s σ H _ _ v us Q I rx rs ⟨a, vs, u, rfl, rfl, g, hu, Pk.lst rh e g hq r2.dropLast r3⟩
      · exact hq.elim
    · exact hq.elim
  · exact hq.elim
theorem l_popAt : CM X Γ "list.pop" gPopAt := by
  intro pins s σ H x xs v us Q I rx rs ⟨d, ds, M, μ, rh, rd, rv, hq⟩
  unfold gPopAt at hq
  split at hq
  · obtain ⟨a, rfl, e⟩ := ref_rel rd
    obtain ⟨y, rfl, r1⟩ := one_rel rv
    cases r1
    split at hq
    · rename_i ys e2
      obtain ⟨vs, g, r2⟩ := nlst rh (hLst_ok rh e2) e
      split at hq
      · rename_i h0
        split at hq
        · rename_i y hy
          obtain ⟨u, hu, r3⟩ := r2.get hy
          have hl : vs.length ≤ sizeLine := (I.hok a _ g).1
          have hlt : _ < vs.length := (List.getElem?_eq_some_iff.mp hu).1
          have h63 := line63
          refine mt_popAt pins s σ H _ _ v us Q I rx rs ⟨a, vs, _, _, u, rfl, rfl, g, by omega, by omega, PySem.StrLaws.seqIndex_nonneg h0 (by omega), hu, Pk.lst rh e g hq (r2.eraseIdx _) r3⟩
        · exact hq.elim
      · exact hq.elim
    · exact hq.elim
  · exact hq.elim
theorem l_insert : CM X Γ "list.insert" gInsert := by
  intro pins s σ H x xs v us Q I rx rs ⟨d, ds, M, μ, rh, rd, rv, hq⟩
  unfold gInsert at hq
  split at hq
  · obtain ⟨a, rfl, e⟩ := ref_rel rd
    obtain ⟨y, z, rfl, r1, r2⟩ := two_rel rv
    cases r1
    split at hq
    · rename_i ys e2
      obtain ⟨vs, g, r3⟩ := nlst rh (hLst_ok rh e2) e
      split at hq
      · rename_i hc
        exact mt_insert pins s σ H _ _ v us Q I rx rs ⟨a, vs, _, z, rfl, rfl, g, by rw [← r3.length]; exact hc.2.2, hc.1, hc.2.1, Pk.lst rh e g hq (((r3.take _).append (.cons r2 .nil)).append (r3.drop _)) .non⟩
      · exact hq.elim
    · exact hq.elim
  · exact hq.elim
theorem l_reverse : CM X Γ "list.reverse" gReverse := by
  intro pins s σ H x xs v us Q I rx rs ⟨d, ds, M, μ, rh, rd, rv, hq⟩
  unfold gReverse at hq
  split at hq
  · obtain ⟨a, rfl, e⟩ := ref_rel rd
    cases rv
    split at hq
    · rename_i ys e2
      obtain ⟨vs, g, r2⟩ := nlst rh (hLst_ok rh e2) e
      exact mt_reverse pins s σ H _ _ v us Q I rx rs ⟨a, vs, rfl, rfl, g, Pk.lst rh e g hq r2.reverse .non⟩
    · exact hq.elim
  · exact hq.elim
end

def kindOf (d : D) (M : Hs) : Option String := match d with
  | .non => some "NoneType"
  | .bl _ => some "bool"
  | .int _ => some "int"
  | .str _ => some "str"
  | .tup _ => some "tuple"
  | .ref n => match M[n]? with
    | some (.lst _) => some "list"
    | some (.ro _) => some "list"
    | _ => none
  | .klst _ => none
  | .exc .. => none
def isKind (a b : String) : Bool := a == b || (a == "bool" && b == "int")
def xIs (T : String) (f : MX) : MX := fun ζ M => (f ζ M).bind fun x M1 => match kindOf x M1 with
  | some k => .ok (.bl (isKind k T)) M1
  | none => .no
def KindOk (T : String) : Prop := ∀ a ∈ ["NoneType", "bool", "int", "str", "tuple", "list"], kitB a T = some (isKind a T)
theorem kind_int : KindOk "int" := by unfold KindOk; decide +kernel
theorem kind_bool : KindOk "bool" := by unfold KindOk; decide +kernel
theorem kind_str : KindOk "str" := by unfold KindOk; decide +kernel
theorem kind_tuple : KindOk "tuple" := by unfold KindOk; decide +kernel
theorem kind_list : KindOk "list" := by unfold KindOk; decide +kernel
theorem kind_dict : KindOk "dict" := by unfold KindOk; decide +kernel
theorem kindOf_ok {P : Program} {w : World} {K : PySem.W.Frag} {Γ : Gm} {μ : List Addr} {M : Hs} {H : Hp} {d : D} {v : V} {k : String} (rh : RH P w K Γ μ M H) (r : RV K H μ d v) (h : kindOf d M = some k) : TyX K H v (.type k) ∧ k ∈ ["NoneType", "bool", "int", "str", "tuple", "list"] := by
  cases r with
  | non => cases h; exact ⟨.base .non, by simp⟩
  | bl b => cases h; exact ⟨.base (.bl b), by simp⟩
  | int b => cases h; exact ⟨.base (.int b), by simp⟩
  | str b => cases h; exact ⟨.base (.str b), by simp⟩
  | kls => cases h
  | excN => cases h
  | excD => cases h
  | tup g r =>
    cases h
    refine ⟨?_, by simp⟩
    rcases g with (g | ⟨o, g⟩) | ⟨o, its, n, g, hc, _⟩
    · exact .base (.tup g)
    · exact .fTuple g
    · exact .kTuple g hc
  | ref e =>
    simp only [kindOf] at h
    split at h
    · rename_i xs hx
      cases h
      obtain ⟨vs, g, _⟩ := rh.at_ _ _ _ hx e
      exact ⟨.base (.lst g), by simp⟩
    · rename_i xs hx
      cases h
      obtain ⟨vs, ⟨o, g⟩, _⟩ := rh.at_ _ _ _ hx e
      exact ⟨.base (.frz g), by simp⟩
    · cases h
section
variable {X : Cx} {Γ : Gm} {W : WX} {e : Expr} {fe : MX} {pos p p2 : Pos} {T : String} {x : Str}
theorem ex_isTy (hT : KindOk T) (he : EX X Γ W e fe) (hm : X.mg "isinstance" = none) (hm2 : X.mg x = none) (hv2 : bootBuiltins x = some (.type T)) (hg : Gl X "isinstance" := by rfl) (hg2 : Gl X x := by rfl)
    (he1 : starEach [e, .Name x p2] X.env = (false, eval e X.env) :: starEach [.Name x p2] X.env := by rfl) (hn : x ≠ "__name__" := by decide) (hdb : (x == ("__debug__" : Str)) = false := by decide) :
    EX X Γ W (.Call (.Name "isinstance" p) [e, .Name x p2] [] pos) (xIs T fe) :=
  PE.imp (pe_callB call_isi hg hm boot_isinstance (pa_cons he (pa_cons (pe_bltn (v := .ty T) hg2 hm2 hv2 rfl hn hdb) pa_nil) he1) (by decide) (by decide) he1) fun σ H Q ⟨ζ, M, μ, rr, h⟩ => ⟨ζ, M, μ, rr, Pst.then h fun v H1 d M1 μ1 nx rh rv h1 => by
    cases hk : kindOf d M1 with
    | none => rw [hk] at h1; exact h1.elim
    | some k =>
      rw [hk] at h1
      obtain ⟨h2, h3⟩ := kindOf_ok rh rv hk
      exact ⟨v, .ty T, .type k, .type T, isKind k T, rfl, .ty T, h2, kit_ty (hT k h3), h1 _ _ _ (Nx.refl _ _) rh (.bl _)⟩⟩
end
end Mi
end
section
set_option maxRecDepth 100000
set_option maxHeartbeats 2000000
set_option autoImplicit false
namespace Mi
open PySem PySem.Spec PyProof.Rows L2

inductive Pt where
  | n (i : Nat)
  | t (ps : List Pt)
mutual
def bindP : Pt → D → Option (List (Nat × D))
  | .n i, d => some [(i, d)]
  | .t ps, .tup ds => bindPs ps ds
  | .t _, _ => none
def bindPs : List Pt → List D → Option (List (Nat × D))
  | [], [] => some []
  | p :: ps, d :: ds => match bindP p d, bindPs ps ds with
    | some l, some r => some (l ++ r)
    | _, _ => none
  | _, _ => none
end
mutual
def Pt.slots : Pt → List Nat
  | .n i => [i]
  | .t ps => slotsOf ps
def slotsOf : List Pt → List Nat
  | [] => []
  | p :: ps => p.slots ++ slotsOf ps
end
def setAll {α : Type} (ζ : List (Option α)) : List (Nat × α) → List (Option α)
  | [] => ζ
  | (i, d) :: r => setAll (ζ.set i (some d)) r
theorem setAll_app {α : Type} : ∀ (l r : List (Nat × α)) (ζ : List (Option α)), setAll ζ (l ++ r) = setAll (setAll ζ l) r
  | [], _, _ => rfl
  | (i, d) :: l, r, ζ => setAll_app l r (ζ.set i (some d))
abbrev BR (K : PySem.W.Frag) (H : Hp) (μ : List Addr) : List (Nat × D) → List (Nat × V) → Prop := Paired fun p q => p.1 = q.1 ∧ RV K H μ p.2 q.2
theorem RSl.setAll {K : PySem.W.Frag} {H : Hp} {μ : List Addr} {l : List (Nat × D)} {l' : List (Nat × V)} (br : BR K H μ l l') : ∀ {ζ : Sl} {σ : L2.St}, RSl K H μ ζ σ → RSl K H μ (Mi.setAll ζ l) (Mi.setAll σ l') := by
  induction br with
  | nil => intro ζ σ r; exact r
  | @cons p q _ _ h t ih =>
    obtain ⟨i, d⟩ := p
    obtain ⟨j, v⟩ := q
    obtain ⟨e, q⟩ := h
    have e : i = j := e
    subst e
    intro ζ σ r
    exact ih (RSl.set r q i)
theorem paired_app {α β : Type} {F : α → β → Prop} : ∀ {a : List α} {b : List β} {c : List α} {d : List β}, Paired F a b → Paired F c d → Paired F (a ++ c) (b ++ d)
  | _, _, _, _, .nil, s => s
  | _, _, _, _, .cons r t, s => .cons r (paired_app t s)
def gP (P : Program) (w : World) (K : PySem.W.Frag) (Γ : Gm) (p : Pt) : TG := fun v σ H Q => ∃ d M μ, RH P w K Γ μ M H ∧ RV K H μ d v ∧ match bindP p d with
  | some l => ∀ l', BR K H μ l l' → Q (setAll σ l') H
  | none => False
def gPs (P : Program) (w : World) (K : PySem.W.Frag) (Γ : Gm) (ps : List Pt) : TGs := fun vs σ H Q => ∃ ds M μ, RH P w K Γ μ M H ∧ RVs K H μ ds vs ∧ match bindPs ps ds with
  | some l => ∀ l', BR K H μ l l' → Q (setAll σ l') H
  | none => False
theorem PG.imp {X : Cx} {e : Expr} {t t' : TG} (h : PG X e t) (i : ∀ v σ H Q, t' v σ H Q → t v σ H Q) : PG X e t' := ⟨fun pins s σ H v u Q I r q => h.run pins s σ H v u Q I r (i _ _ _ _ q)⟩
theorem PGs.imp {X : Cx} {e : List Expr} {t t' : TGs} (h : PGs X e t) (i : ∀ v σ H Q, t' v σ H Q → t v σ H Q) : PGs X e t' := ⟨fun pins s σ H v u Q I r q => h.run pins s σ H v u Q I r (i _ _ _ _ q)⟩
abbrev EG (X : Cx) (Γ : Gm) (e : Expr) (p : Pt) : Prop := PG X e (gP X.prog X.w X.K Γ p)
abbrev EGs (X : Cx) (Γ : Gm) (es : List Expr) (ps : List Pt) : Prop := PGs X es (gPs X.prog X.w X.K Γ ps)
section
variable {X : Cx} {Γ : Gm} {e : Expr} {es : List Expr} {p : Pt} {ps : List Pt} {pos : Pos}
theorem eg_name (i : Nat) {x : Str} (hN : X.N.Nodup) (hi : X.N[i]? = some x := by rfl) (hx : Loc X.env.scope x := by first | exact Or.inl rfl | exact Or.inr rfl) (hf : X.fn x = true ∨ X.env.scope.names.lookup x = some .local := by first | exact .inl rfl | exact .inr rfl) : EG X Γ (.Name x pos) (.n i) :=
  PG.imp (pg_name hN hi hx hf) fun v σ H Q ⟨d, M, μ, rh, r, h⟩ => h [(i, v)] (.cons ⟨rfl, r⟩ .nil)
theorem egs_nil : EGs X Γ [] [] := PGs.imp pgs_nil fun v σ H Q ⟨ds, M, μ, rh, r, h⟩ => by
  cases ds with
  | nil =>
    cases r
    exact ⟨rfl, h [] .nil⟩
  | cons d ds => exact h.elim
theorem egs_cons (h1 : EG X Γ e p) (h2 : EGs X Γ es ps) (hs : (assignEach (e :: es) X.env).map (·.2) = assign e X.env :: (assignEach es X.env).map (·.2) := by rfl) : EGs X Γ (e :: es) (p :: ps) :=
  PGs.imp (pgs_cons h1 h2 hs) fun v σ H Q ⟨ds, M, μ, rh, r, h⟩ => by
    cases r with
    | nil => exact h.elim
    | cons r1 r2 =>
      simp only [bindPs] at h
      split at h
      · rename_i l hl
        split at hl
        · rename_i l1 l2 e1 e2
          cases hl
          refine ⟨_, _, rfl, _, M, μ, rh, r1, ?_⟩
          rw [e1]
          intro l1' b1
          refine ⟨_, M, μ, rh, r2, ?_⟩
          rw [e2]
          intro l2' b2
          rw [← setAll_app]
          exact h _ (paired_app b1 b2)
        · cases hl
      · exact h.elim
theorem eg_tup {k} (hc : X.calm = true) (h : EGs X Γ es ps) (hn : (assignEach es X.env).length = ps.length := by rfl) (hst : (assignEach es X.env).findIdx? (·.1) = none := by rfl) : EG X Γ (.Tuple es k pos) (.t ps) :=
  PG.imp (pg_tup hc h hn hst) fun v σ H Q ⟨d, M, μ, rh, r, h⟩ => by
    cases r with
    | tup g rs =>
      simp only [bindP] at h
      refine ⟨_, _, rfl, g, ?_, _, M, μ, rh, rs, h⟩
      split at h
      · rename_i l hl
        rw [← rs.length]
        exact bindPs_len hl
      · exact h.elim
    | _ => exact h.elim
where
  bindPs_len : ∀ {ps : List Pt} {ds : List D} {l : List (Nat × D)}, bindPs ps ds = some l → ds.length = ps.length := by
    intro ps
    induction ps with
    | nil => intro ds l h; cases ds with | nil => rfl | cons d ds => simp [bindPs] at h
    | cons p ps ih =>
      intro ds l h
      cases ds with
      | nil => simp [bindPs] at h
      | cons d ds =>
        simp only [bindPs] at h
        split at h
        · rename_i h1 h2
          rw [List.length_cons, List.length_cons, ih h2]
        · cases h
end

def RS.of {α : Type} (ζ : Sl) (r : R α) (k : α → Hs → RS) : RS := match r with
  | .ok a M => k a M
  | .ex c fs M => .ex c fs ζ M
  | .no => .no
def sAsg (f : MX) (p : Pt) : MS := fun ζ M => RS.of ζ (f ζ M) fun d M1 => match bindP p d with
  | some l => .nx (setAll ζ l) M1
  | none => .no
def sSet (i : Nat) (f : MX) : MS := fun ζ M => RS.of ζ (f ζ M) fun d M1 => .nx (ζ.set i (some d)) M1
def sPar (i j : Nat) (g : MA) : MS := fun ζ M => RS.of ζ (g ζ M) fun ds M1 => match ds with
  | [d, e] => .nx ((ζ.set i (some d)).set j (some e)) M1
  | _ => .no
def sPut (g : D → D → D → Hs → Option Hs) (fo fi fv : MX) : MS := fun ζ M => RS.of ζ (fv ζ M) fun v M1 => RS.of ζ (fo ζ M1) fun o M2 => RS.of ζ (fi ζ M2) fun i M3 => match g o i v M3 with
  | some M4 => .nx ζ M4
  | none => .no
def sAug (i : Nat) (g : D → D → Hs → Option (D × Hs)) (f : MX) : MS := fun ζ M => match ζ[i]? with
  | some (some x) => RS.of ζ (f ζ M) fun y M1 => match g x y M1 with
    | some (d, M2) => .nx (ζ.set i (some d)) M2
    | none => .no
  | _ => .no
def sExpr (f : MX) : MS := fun ζ M => RS.of ζ (f ζ M) fun _ M1 => .nx ζ M1
def sRet (f : MX) : MS := fun ζ M => RS.of ζ (f ζ M) fun d M1 => .rt d M1
def sRetN : MS := fun _ M => .rt .non M
def sPass : MS := fun ζ M => .nx ζ M
def sIf (t : MT) (a b : MS) : MS := fun ζ M => RS.of ζ (t ζ M) fun c M1 => if c = true then a ζ M1 else b ζ M1
def sSeq (a b : MS) : MS := fun ζ M => match a ζ M with
  | .nx ζ1 M1 => b ζ1 M1
  | r => r
def whileN (t : MT) (b : MS) : Nat → MS
  | 0 => fun _ _ => .no
  | n + 1 => fun ζ M => RS.of ζ (t ζ M) fun c M1 => if c = true then match b ζ M1 with
      | .nx ζ' M' => whileN t b n ζ' M'
      | .ct ζ' M' => whileN t b n ζ' M'
      | .bk ζ' M' => .nx ζ' M'
      | r => r
    else .nx ζ M1
/-- more turns than any loop here takes -/
def far : Nat := 10 ^ 30
def sWhile (t : MT) (b : MS) : MS := whileN t b far
/-- what a loop walks: the item at a turn (none: it is told by nobody; some none: the end), and more turns than it takes -/
structure Yd where
  y : Nat → Hs → Option (Option D)
  fuel : Nat
abbrev MY := Sl → Hs → R Yd
def forN (y : Nat → Hs → Option (Option D)) (p : Pt) (b : MS) : Nat → Nat → MS
  | 0, _ => fun _ _ => .no
  | n + 1, i => fun ζ M => match y i M with
    | none => .no
    | some none => .nx ζ M
    | some (some d) => match bindP p d with
      | none => .no
      | some l => match b (setAll ζ l) M with
        | .nx ζ' M' => forN y p b n (i + 1) ζ' M'
        | .ct ζ' M' => forN y p b n (i + 1) ζ' M'
        | .bk ζ' M' => .nx ζ' M'
        | r => r
def sFor (s : MY) (p : Pt) (b : MS) : MS := fun ζ M => RS.of ζ (s ζ M) fun yd M1 => forN yd.y p b yd.fuel 0 ζ M1

section
variable {P : Program} {w : World} {K : PySem.W.Frag} {Γ : Gm} {W : WX} {σ : L2.St} {μ μ1 : List Addr} {H H1 : Hp} {M : Hs} {ζ : Sl}
theorem PstS.then {α β : Type} {rel : Hp → List Addr → α → β → Prop} {r : R α} {k : α → Hs → RS} {E : Ends} {Q' : β → Hp → Prop} (h : PstS P w K Γ W μ H (RS.of ζ r k) E) (sl : RSl K H μ ζ σ)
    (i : ∀ v H1 d M1 μ1, Nx μ H μ1 H1 → RH P w K Γ μ1 M1 H1 → rel H1 μ1 d v → PstS P w K Γ W μ1 H1 (k d M1) E → Q' v H1) : Pst P w K Γ rel W σ μ H r Q' := by
  cases r with
  | ok d M1 => exact fun v H' μ' x rh rv => i v H' d M1 μ' x rh rv (PstS.mono h x)
  | ex c fs M1 => exact fun cls dd H' μ' x rh rx => h cls dd σ H' μ' x rh (sl.mono x) rx
  | no => exact h.elim
theorem PstS.ends {r : RS} {E E' : Ends} (h : PstS P w K Γ W μ H r E) (h1 : ∀ σ H, E.nx σ H → E'.nx σ H) (h2 : ∀ v H, E.rt v H → E'.rt v H) (h3 : ∀ σ H, E.bk σ H → E'.bk σ H) (h4 : ∀ σ H, E.ct σ H → E'.ct σ H) : PstS P w K Γ W μ H r E' := by
  cases r with
  | nx ζ M => exact fun σ' H' μ' a b c => h1 _ _ (h σ' H' μ' a b c)
  | rt d M => exact fun σ' H' μ' a b c => h2 _ _ (h σ' H' μ' a b c)
  | bk ζ M => exact fun σ' H' μ' a b c => h3 _ _ (h σ' H' μ' a b c)
  | ct ζ M => exact fun σ' H' μ' a b c => h4 _ _ (h σ' H' μ' a b c)
  | ex c fs ζ M => exact h
  | no => exact h
end
section
variable {X : Cx} {Γ : Gm} {W : WX} {a b c e o v : Expr} {es : List Expr} {st : Stmt} {rest sa sb : List Stmt} {fa fb fc fe fo fv : MX} {ft : MT} {ga : MA} {ms ms' : MS} {pos pos' : Pos} {x : Str} {i j : Nat} {p : Pt}
theorem es_nil : ESs X Γ W [] sPass := PSs.imp pss_nil fun E σ H ⟨ζ, M, μ, rr, h⟩ => h _ _ _ (Nx.refl _ _) rr.hp rr.sl
theorem es_cons (h1 : ES X Γ W st ms) (h2 : ESs X Γ W rest ms') : ESs X Γ W (st :: rest) (sSeq ms ms') :=
  PSs.imp (pss_cons h1 h2) fun E σ H ⟨ζ, M, μ, rr, h⟩ => ⟨ζ, M, μ, rr, by
    unfold sSeq at h
    cases hr : ms ζ M with
    | nx ζ1 M1 => rw [hr] at h; exact fun σ' H' μ' x rh sl => ⟨ζ1, M1, μ', ⟨sl, rh⟩, PstS.mono h x⟩
    | rt d M1 => rw [hr] at h; exact h
    | bk ζ1 M1 => rw [hr] at h; exact h
    | ct ζ1 M1 => rw [hr] at h; exact h
    | ex c fs ζ1 M1 => rw [hr] at h; exact h
    | no => rw [hr] at h; exact h⟩
theorem es_one (h1 : ES X Γ W st ms) : ESs X Γ W [st] ms := pss_one h1
theorem es_pass : ES X Γ W (.Pass pos) sPass := PS.imp ps_pass fun E σ H ⟨ζ, M, μ, rr, h⟩ => h _ _ _ (Nx.refl _ _) rr.hp rr.sl
theorem es_doc {x : Str} {j} : ES X Γ W (.Expr (.Constant (.str x) j pos) pos') sPass := PS.imp ps_doc fun E σ H ⟨ζ, M, μ, rr, h⟩ => h _ _ _ (Nx.refl _ _) rr.hp rr.sl
theorem es_expr (he : EX X Γ W e fe) (hs : swapsWith e none pos.line X.env = pure false := by rfl) : ES X Γ W (.Expr e pos) (sExpr fe) :=
  PS.imp (ps_expr he hs) fun E σ H ⟨ζ, M, μ, rr, h⟩ => ⟨ζ, M, μ, rr, PstS.then h rr.sl fun v H1 d M1 μ1 nx rh rv h1 => h1 _ _ _ (Nx.refl _ _) rh (rr.sl.mono nx)⟩
theorem es_ret (he : EX X Γ W e fe) : ES X Γ W (.Return (some e) pos) (sRet fe) :=
  PS.imp (ps_ret he) fun E σ H ⟨ζ, M, μ, rr, h⟩ => ⟨ζ, M, μ, rr, PstS.then h rr.sl fun v H1 d M1 μ1 nx rh rv h1 => h1 _ _ _ (Nx.refl _ _) rh rv⟩
theorem es_retN : ES X Γ W (.Return none pos) sRetN := PS.imp ps_retN fun E σ H ⟨ζ, M, μ, rr, h⟩ => h _ _ _ (Nx.refl _ _) rr.hp .non
theorem es_if {ma mb : MS} (hc : ET X Γ W c ft) (ha : ESs X Γ W sa ma) (hb : ESs X Γ W sb mb) : ES X Γ W (.If c sa sb pos) (sIf ft ma mb) :=
  PS.imp (ps_if hc ha hb) fun E σ H ⟨ζ, M, μ, rr, h⟩ => ⟨ζ, M, μ, rr, PstS.then h rr.sl fun v H1 d M1 μ1 nx rh rv h1 => by
    have rv : d = v := rv
    subst rv
    cases d with
    | true => exact ⟨ζ, M1, μ1, ⟨rr.sl.mono nx, rh⟩, h1⟩
    | false => exact ⟨ζ, M1, μ1, ⟨rr.sl.mono nx, rh⟩, h1⟩⟩
theorem es_set (i : Nat) {pos' : Pos} (hN : X.N.Nodup) (he : EX X Γ W e fe) (hi : X.N[i]? = some x := by rfl) (hx : Loc X.env.scope x := by first | exact Or.inl rfl | exact Or.inr rfl) (hs : swapsWith e (some (.Name x pos')) pos.line X.env = pure false := by rfl)
    (hf : X.fn x = true ∨ X.env.scope.names.lookup x = some .local := by first | exact .inl rfl | exact .inr rfl) : ES X Γ W (.Assign [.Name x pos'] e pos) (sSet i fe) :=
  PS.imp (ps_set hN hi hx he hs hf) fun E σ H ⟨ζ, M, μ, rr, h⟩ => ⟨ζ, M, μ, rr, PstS.then h rr.sl fun v H1 d M1 μ1 nx rh rv h1 => h1 _ _ _ (Nx.refl _ _) rh ((rr.sl.mono nx).set rv i)⟩
theorem es_asg {tg : Expr} (he : EX X Γ W e fe) (hg : EG X Γ tg p) (hs : swapsWithSole [tg] e pos.line X.env = pure false := by rfl) (hw : swappedStores [tg] e X.env = pure none := by rfl)
    (h1 : (assignEach [tg] X.env).map (·.2) = [assign tg X.env] := by rfl) : ES X Γ W (.Assign [tg] e pos) (sAsg fe p) :=
  PS.imp (ps_asg he hg hs hw h1) fun E σ H ⟨ζ, M, μ, rr, h⟩ => ⟨ζ, M, μ, rr, PstS.then h rr.sl fun v H1 d M1 μ1 nx rh rv h1 => by
    refine ⟨d, M1, μ1, rh, rv, ?_⟩
    cases hb : bindP p d with
    | none => rw [hb] at h1; exact h1.elim
    | some l =>
      rw [hb] at h1
      exact fun l' br => h1 _ _ _ (Nx.refl _ _) rh (RSl.setAll br (rr.sl.mono nx))⟩
theorem es_par (i j : Nat) {y : Str} {px py pt : Pos} {kt k2 pt2} (hc : X.calm = true) (hN : X.N.Nodup) (ha : EA X Γ W [a, b] ga) (hij : i ≠ j) (hi : X.N[i]? = some x := by rfl) (hj : X.N[j]? = some y := by rfl)
    (hx : X.env.scope.names.lookup x = some .local := by rfl) (hy : X.env.scope.names.lookup y = some .local := by rfl)
    (hw : swappedStores [.Tuple [.Name x px, .Name y py] kt pt] (.Tuple [a, b] k2 pt2) X.env = pure (some [x, y]) := by rfl)
    (hs : swapsWithSole [.Tuple [.Name x px, .Name y py] kt pt] (.Tuple [a, b] k2 pt2) pos.line X.env = pure false := by rfl) :
    ES X Γ W (.Assign [.Tuple [.Name x px, .Name y py] kt pt] (.Tuple [a, b] k2 pt2) pos) (sPar i j ga) :=
  PS.imp (ps_par hc hN hi hj hij hx hy ha hw hs) fun E σ H ⟨ζ, M, μ, rr, h⟩ => ⟨ζ, M, μ, rr, PstS.then h rr.sl fun vs H1 ds M1 μ1 nx rh rv h1 => by
    replace rv : RVs X.K H1 μ1 ds vs := rv
    split at h1
    · obtain ⟨u, w', rfl, r1, r2⟩ := two_rel rv
      exact ⟨u, w', rfl, h1 _ _ _ (Nx.refl _ _) rh (((rr.sl.mono nx).set r1 i).set r2 j)⟩
    · exact h1.elim⟩
/-- o[i] = v -/
def rPut (P : Program) (w : World) (K : PySem.W.Frag) (Γ : Gm) (g : D → D → D → Hs → Option Hs) : TSet := fun o i v H Q => ∃ d e u M μ, RH P w K Γ μ M H ∧ RV K H μ d o ∧ RV K H μ e i ∧ RV K H μ u v ∧ match g d e u M with
  | some M' => ∀ H' μ', Nx μ H μ' H' → RH P w K Γ μ' M' H' → Q H'
  | none => False
theorem es_put {g : D → D → D → Hs → Option Hs} {fi : MX} {p2 : Pos} {ix : Expr} (hset : PSet X (rPut X.prog X.w X.K Γ g)) (ho : EX X Γ W o fo) (hi : EX X Γ W ix fi) (hv : EX X Γ W v fv)
    (ha : ∀ v, assign (.Subscript o ix p2) X.env v = (do
      let ov ← holding [v] (eval o X.env)
      let iv ← holding [v, ov] (eval ix X.env)
      standAt p2
      holding [v, ov, iv] (setItem ov iv v)
      release [v, ov, iv] []) := by intro _; rfl)
    (hs : swapsWithSole [.Subscript o ix p2] v pos.line X.env = pure false := by rfl) (hw : swappedStores [.Subscript o ix p2] v X.env = pure none := by rfl)
    (h1 : (assignEach [.Subscript o ix p2] X.env).map (·.2) = [assign (.Subscript o ix p2) X.env] := by rfl) : ES X Γ W (.Assign [.Subscript o ix p2] v pos) (sPut g fo fi fv) :=
  PS.imp (ps_asg hv (pg_sub ho hi hset ha) hs hw h1) fun E σ H ⟨ζ, M, μ, rr, h⟩ => ⟨ζ, M, μ, rr, PstS.then h rr.sl fun v H1 d M1 μ1 nx rh rv h1 => ⟨ζ, M1, μ1, ⟨rr.sl.mono nx, rh⟩, PstS.then h1 (rr.sl.mono nx) fun u H2 e M2 μ2 nx2 rh2 ru h2 =>
    ⟨ζ, M2, μ2, ⟨(rr.sl.mono nx).mono nx2, rh2⟩, PstS.then h2 ((rr.sl.mono nx).mono nx2) fun z H3 k M3 μ3 nx3 rh3 rz h3 => by
      refine ⟨e, k, d, M3, μ3, rh3, RV.mono nx3 ru, rz, RV.mono nx3 (RV.mono nx2 rv), ?_⟩
      cases hg : g e k d M3 with
      | none => rw [hg] at h3; exact h3.elim
      | some M4 =>
        rw [hg] at h3
        exact fun H4 μ4 nx4 rh4 => h3 _ _ _ nx4 rh4 (((rr.sl.mono nx).mono nx2).mono (nx3.trans nx4))⟩⟩⟩
def gPutL (o i v : D) (M : Hs) : Option Hs := match o, i with
  | .ref n, .int k => match hLst M n with
    | some xs => match ixN xs.length k with
      | some j => some (M.set n (.lst (xs.set j v)))
      | none => none
    | none => none
  | _, _ => none
theorem put_list : PSet X (rPut X.prog X.w X.K Γ gPutL) := by
  intro pins s σ H o i v ov iv u Q I ro ri rv ⟨d, e, f, M, μ, rh, rd, re, rf, h⟩
  unfold gPutL at h
  split at h
  · rename_i M' hg
    split at hg
    · obtain ⟨a, rfl, e1⟩ := ref_rel rd
      cases re
      split at hg
      · rename_i ys e2
        obtain ⟨vs, g, r2⟩ := nlst rh (hLst_ok rh e2) e1
        split at hg
        · rename_i j hj
          cases hg
          refine set_list pins s σ H _ _ v ov iv u Q I ro ri rv ⟨a, vs, _, j, rfl, rfl, g, by rw [← r2.length]; exact hj, ?_⟩
          exact h _ _ (Nx.write (mutL g)) (rh.write e1 (mutL g) ⟨_, upd_same, (RVs.set rf j r2).mono (Nx.write (mutL g))⟩)
        · cases hg
      · cases hg
    · cases hg
  · exact h.elim
/-- x op= e -/
def ipR (P : Program) (w : World) (K : PySem.W.Frag) (Γ : Gm) (g : D → D → Hs → Option (D × Hs)) : TIp := r2 P w K Γ g
theorem es_aug (i : Nat) {op : Operator} {g : D → D → Hs → Option (D × Hs)} {pos' : Pos} (hN : X.N.Nodup) (ho : PIp X op (ipR X.prog X.w X.K Γ g)) (he : EX X Γ W e fe) (hi : X.N[i]? = some x := by rfl) (hx : Loc X.env.scope x := by first | exact Or.inl rfl | exact Or.inr rfl)
    (hf : X.fn x = true ∨ X.env.scope.names.lookup x = some .local := by first | exact .inl rfl | exact .inr rfl) : ES X Γ W (.AugAssign (.Name x pos') op e pos) (sAug i g fe) :=
  PS.imp (ps_aug hN hi hx he ho hf) fun E σ H ⟨ζ, M, μ, rr, h⟩ => by
    unfold sAug at h
    split at h
    · rename_i d hd
      obtain ⟨v, e1, e2⟩ := rr.sl.at_ i d hd
      refine ⟨v, e1, ζ, M, μ, rr, PstS.then h rr.sl fun u H1 k M1 μ1 nx rh rv h1 => ⟨d, k, M1, μ1, rh, RV.mono nx e2, rv, ?_⟩⟩
      cases hg : g d k M1 with
      | none => rw [hg] at h1; exact h1.elim
      | some q =>
        rw [hg] at h1
        exact fun z H2 μ2 nx2 rh2 rz => h1 _ _ _ nx2 rh2 (((rr.sl.mono nx).mono nx2).set rz i)
    · exact h.elim
theorem ip_i {op : Operator} {g : Int → Int → Int} (h : PIp X op (ipI g)) : PIp X op (ipR X.prog X.w X.K Γ (gI (fun _ _ => true) fun i j => .int (g i j))) := by
  intro pins s σ H x y v u Q I rx ry ⟨d, e, M, μ, rh, rd, re, hq⟩
  unfold gI at hq
  split at hq
  · cases rd; cases re
    exact h pins s σ H _ _ v u Q I rx ry ⟨_, _, rfl, rfl, Pk.here rh hq (.int _)⟩
  · exact hq.elim
theorem i_add : PIp X .Add (ipR X.prog X.w X.K Γ (gI (fun _ _ => true) fun i j => .int (i + j))) := ip_i ip_add
theorem i_sub : PIp X .Sub (ipR X.prog X.w X.K Γ gSub) := ip_i ip_sub
theorem es_while {mb : MS} (hp : PassesOwn (model X.prog X.w) X.A X.env X.xe) (hc : ET X Γ W c ft) (hb : ESs X Γ W sb mb) : ES X Γ W (.While c sb [] pos) (sWhile ft mb) :=
  PS.imp (ps_while hp hc hb) fun E σ H ⟨ζ, M, μ, rr, h⟩ => by
    refine ⟨fun m σ H => ∃ ζ M μ, RR X.prog X.w X.K Γ μ H ζ M σ ∧ PstS X.prog X.w X.K Γ W μ H (whileN ft mb m ζ M) E, ⟨far, ζ, M, μ, rr, h⟩, ?_⟩
    rintro m σ H ⟨ζ, M, μ, rr, h⟩
    cases m with
    | zero => exact h.elim
    | succ m =>
      refine ⟨ζ, M, μ, rr, PstS.then h rr.sl fun v H1 d M1 μ1 nx rh rv h1 => ?_⟩
      have rv : d = v := rv
      subst rv
      cases d with
      | true =>
        rw [if_pos rfl]
        refine ⟨fun σ' H' => ∃ ζ M μ, RR X.prog X.w X.K Γ μ H' ζ M σ' ∧ PstS X.prog X.w X.K Γ W μ H' (whileN ft mb m ζ M) E, fun σ' H' q => ⟨m, Nat.lt_succ_self _, q⟩, ζ, M1, μ1, ⟨rr.sl.mono nx, rh⟩, ?_⟩
        rw [if_pos rfl] at h1
        cases hr : mb ζ M1 with
        | nx ζ1 M1 => rw [hr] at h1; exact fun σ' H' μ' x rh sl => ⟨ζ1, M1, μ', ⟨sl, rh⟩, PstS.mono h1 x⟩
        | ct ζ1 M1 => rw [hr] at h1; exact fun σ' H' μ' x rh sl => ⟨ζ1, M1, μ', ⟨sl, rh⟩, PstS.mono h1 x⟩
        | bk ζ1 M1 => rw [hr] at h1; exact h1
        | rt d M1 => rw [hr] at h1; exact h1
        | ex c fs ζ1 M1 => rw [hr] at h1; exact h1
        | no => rw [hr] at h1; exact h1
      | false =>
        rw [if_neg Bool.false_ne_true]
        exact h1 _ _ _ (Nx.refl _ _) rh (rr.sl.mono nx)
/-- the walked thing goes as told -/
def YOk (P : Program) (w : World) (K : PySem.W.Frag) (Γ : Gm) (H0 : Hp) (μ0 : List Addr) (yd : Yd) (J : It) : Prop := ∀ (i : Nat) (H : Hp) (μ : List Addr) (M : Hs), Nx μ0 H0 μ H → RH P w K Γ μ M H →
  (yd.y i M = some none → J.stop i H) ∧ ∀ d, yd.y i M = some (some d) → J.go i H ∧ ∀ x H2, J.yld i H x H2 → ∃ μ2, Nx μ H μ2 H2 ∧ RH P w K Γ μ2 M H2 ∧ RV K H2 μ2 d x
def iY (P : Program) (w : World) (K : PySem.W.Frag) (Γ : Gm) (W : WX) (s : MY) : TI := fun σ H R => ∃ ζ M μ, RR P w K Γ μ H ζ M σ ∧ Pst P w K Γ (YOk P w K Γ) W σ μ H (s ζ M) R
abbrev EI (X : Cx) (Γ : Gm) (W : WX) (tg it : Expr) (s : MY) : Prop := PI X tg it (iY X.prog X.w X.K Γ W s)
theorem PI.imp {tg e : Expr} {t t' : TI} (h : PI X tg e t) (i : ∀ σ H Q, t' σ H Q → t σ H Q) : PI X tg e t' := ⟨fun pins s σ H Q I q => h.run pins s σ H Q I (i _ _ _ q)⟩
theorem es_for {tg it : Expr} {s : MY} {mb : MS} (hp : PassesOwn (model X.prog X.w) X.A X.env X.xe) (hc : X.calm = true) (hi : EI X Γ W tg it s) (hg : EG X Γ tg p) (hb : ESs X Γ W sb mb)
    (hs : ∀ x, foldedSetIterable it X.env x = pure x := by intro _; rfl) : ES X Γ W (.For tg it sb [] pos) (sFor s p mb) :=
  PS.imp (ps_for hp hc hi hg hb hs) fun E σ H ⟨ζ, M, μ, rr, h⟩ => ⟨ζ, M, μ, rr, PstS.then h rr.sl fun J H1 yd M1 μ1 nx rh rv h1 => by
    refine ⟨fun i m σ H => ∃ ζ M μ, Nx μ1 H1 μ H ∧ RR X.prog X.w X.K Γ μ H ζ M σ ∧ PstS X.prog X.w X.K Γ W μ H (forN yd.y p mb m i ζ M) E, ⟨yd.fuel, ζ, M1, μ1, Nx.refl _ _, ⟨rr.sl.mono nx, rh⟩, h1⟩, ?_⟩
    rintro i m σ H ⟨ζ, M, μ, nx, rr, h⟩
    cases m with
    | zero => exact h.elim
    | succ m =>
      obtain ⟨st, go⟩ := rv i H μ M nx rr.hp
      simp only [forN] at h
      split at h
      · exact h.elim
      · rename_i hy
        exact .inl ⟨st hy, h _ _ _ (Nx.refl _ _) rr.hp rr.sl⟩
      · rename_i d hy
        obtain ⟨g1, g2⟩ := go d hy
        refine .inr ⟨g1, fun σ' H' => ∃ ζ M μ, Nx μ1 H1 μ H' ∧ RR X.prog X.w X.K Γ μ H' ζ M σ' ∧ PstS X.prog X.w X.K Γ W μ H' (forN yd.y p mb m (i + 1) ζ M) E, fun σ' H' q => ⟨m, Nat.lt_succ_self _, q⟩, fun x H2 hx => ?_⟩
        obtain ⟨μ2, nx2, rh2, rv2⟩ := g2 x H2 hx
        refine ⟨d, M, μ2, rh2, rv2, ?_⟩
        split at h
        · exact h.elim
        · rename_i l hl
          rw [hl]
          intro l' br
          refine ⟨setAll ζ l, M, μ2, ⟨RSl.setAll br (rr.sl.mono nx2), rh2⟩, ?_⟩
          have h2 := PstS.mono h nx2
          have n2 := nx.trans nx2
          cases hr : mb (setAll ζ l) M with
          | nx ζ3 M3 => rw [hr] at h2; exact fun σ' H' μ' x rh sl => ⟨ζ3, M3, μ', n2.trans x, ⟨sl, rh⟩, PstS.mono h2 x⟩
          | ct ζ3 M3 => rw [hr] at h2; exact fun σ' H' μ' x rh sl => ⟨ζ3, M3, μ', n2.trans x, ⟨sl, rh⟩, PstS.mono h2 x⟩
          | bk ζ3 M3 => rw [hr] at h2; exact h2
          | rt d M3 => rw [hr] at h2; exact h2
          | ex c fs ζ3 M3 => rw [hr] at h2; exact h2
          | no => rw [hr] at h2; exact h2⟩
end
end Mi
end
section
set_option maxRecDepth 100000
set_option maxHeartbeats 2000000
set_option autoImplicit false
namespace PySem
open Sem (wp)
open AutoSeq1 (wpAny_loadPart')
theorem mi_enumT (l : Addr) (items : Array Value) (n : Nat) (dct : Option Addr) (sl : Array (Option Value)) :
    Meets (Builtin.«enumerate.__new__» ⟨[.type "enumerate", .ref l], []⟩) (fun _ R s => s.heap.get? l = some { cls := .type "tuple", dict := dct, data := .seq items n, slots := sl } ∧
      R (.ok (.ret (.ref (s.heap.push { cls := .type "tuple_iterator", data := .fields #[.ref l, .int 0 0] }).objs.size)))
        { s with heap := (s.heap.push { cls := .type "tuple_iterator", data := .fields #[.ref l, .int 0 0] }).push { cls := .type "enumerate", data := .fields #[.none, .bool false, .ref s.heap.objs.size, rawInt 0, .none, .none] } }) :=
  .of_wp fun prog w A R s h => by
    obtain ⟨hp, g, d, tk, os⟩ := s; obtain ⟨hl, h⟩ := h
    have hsub := sub_enumerate
    have hL : Heap.IsTuple (Shared.heap ⟨hp, g, d, tk, os⟩) l items := ⟨_, hl, rfl, n, rfl⟩
    wp_walk using wpAny_loadPart' hl
    refine wpAny_stack_any fun st => wpAny_pure ?_
    split
    · rename_i c _ _ _ _ _
      cases (c == Value.type "enumerate")
      · wp_walk using wpAny_loadPart' hl, wpAny_pyIter_tuple hL
        exact ⟨_, rfl, h⟩
      · wp_walk using wpAny_loadPart' hl, wpAny_pyIter_tuple hL
        exact ⟨_, rfl, h⟩
    · wp_walk using wpAny_loadPart' hl, wpAny_pyIter_tuple hL
      exact ⟨_, rfl, h⟩
theorem mi_call_enumT {prog : Program} {w : World} {A : Around} {E : Value → Shared → Prop} {s : Shared} {l : Addr} {items : Array Value} {Q : Value → Shared → Prop} (hL : s.heap.IsTuple l items)
    (h : ∀ h', IsEnum h' (s.heap.objs.size + 1) s.heap.objs.size 0 .none → h'.IsTupleIter s.heap.objs.size l 0 → h'.objs.size = s.heap.objs.size + 2 →
      (∀ b o, s.heap.get? b = some o → h'.get? b = some o) → Q (.ref (s.heap.objs.size + 1)) { s with heap := h' }) :
    wpAny (model prog w) A (call (.type "enumerate") [.ref l]) Q E s := by
  obtain ⟨⟨c, dct, dt, sl⟩, hl, hc, n, hd⟩ := hL
  replace hc : c = .type "tuple" := hc
  replace hd : dt = .seq items n := hd
  subst hc hd
  refine callType_new F.called_enumerate (by decide) (F.typeCall_enumerate_1 _) (F.newCall_enumerate_1 _) (fun obj => F.args_object_init_2 obj _) F.entry_enumerate_new
    (mi_enumT l items n dct sl) ⟨hl, ?_⟩
  have hz : (s.heap.push { cls := .type "tuple_iterator", data := .fields #[.ref l, .int 0 0] }).objs.size = s.heap.objs.size + 1 := Heap.size_push ..
  show _ ∧ _
  rw [hz]
  have he : IsEnum ((s.heap.push { cls := .type "tuple_iterator", data := .fields #[.ref l, .int 0 0] }).push
      { cls := .type "enumerate", data := .fields #[.none, .bool false, .ref s.heap.objs.size, rawInt 0, .none, .none] }) (s.heap.objs.size + 1) s.heap.objs.size 0 .none := by
    have := Heap.get?_push_size (s.heap.push { cls := .type "tuple_iterator", data := .fields #[.ref l, .int 0 0] })
      (o := { cls := .type "enumerate", data := .fields #[.none, .bool false, .ref s.heap.objs.size, rawInt 0, .none, .none] }) rfl
    rw [hz] at this; exact this
  refine ⟨⟨_, he, rfl⟩, h _ he ⟨_, Heap.get?_push_of_some _ (Heap.get?_push_size _ rfl), rfl, rfl⟩ (by rw [Heap.size_push, hz]) fun b o x => Heap.get?_push_of_some _ (Heap.get?_push_of_some _ x)⟩
end PySem
namespace Mi
open PySem PySem.Spec PyProof.Rows L2

def IteT (K : PySem.W.Frag) (a : Addr) : It :=
  ⟨fun i H => ∃ (xs : List V) (x : V), SqT K H a xs ∧ xs[i]? = some x, fun i H v H' => ∃ T x, v = .ref T ∧ H T = none ∧ H' = upd H T (.tup [.int (i : Nat), x]) ∧ ∀ xs, SqT K H a xs → xs[i]? = some x, fun i H => ∃ xs : List V, SqT K H a xs ∧ xs.length ≤ i⟩
theorem turn_enumT {P : Program} {w : World} {K : PySem.W.Frag} {elts : List Expr} {kk : Nat} {tpos : Pos} (a e it : Addr) :
    Turn P w K (.Tuple elts kk tpos) (IteT K a) [e, it] e (fun i h => (∃ old, IsEnum h e it ((i : Nat) : Int) old) ∧ h.IsTupleIter it a i ∧ e ≠ it ∧ a ≠ it ∧ a ≠ e) where
  mem := by simp
  obj := fun i h st b hb => by
    obtain ⟨⟨old, he⟩, ⟨o, ho, hc, hd⟩, _⟩ := st
    have e' : b = e ∨ b = it := by simpa using hb
    rcases e' with z | z
    · rw [z]; exact ⟨_, he, fun v q => nomatch q⟩
    · rw [z]; exact ⟨o, ho, fun v q => by rw [hd] at q; cases q⟩
  keep := fun i h h' st k => let ⟨⟨old, he⟩, hi, hne⟩ := st; ⟨⟨old, k e (by simp) _ he⟩, hi.at fun o q => k it (by simp) o q, hne⟩
  item := by
    intro X hP hw hK hc i pins s σ H E I hf st hg
    subst hP hw hK
    obtain ⟨⟨old, he⟩, hit, hne, hai, hae⟩ := st
    obtain ⟨xs, x, hq, hx⟩ := hg
    obtain ⟨its, rv, p, hz⟩ := I.tuple hq
    obtain ⟨u, hu, ru⟩ := rv.get hx
    have hel : e < s.heap.objs.size := Heap.lt_size he
    have hil : it < s.heap.objs.size := by obtain ⟨_, q, _⟩ := hit; exact Heap.lt_size q
    have hit0 := hit
    have pt : s.heap.IsTuple a its.toArray := p
    have hlt : i < its.toArray.size := by
      have := (List.getElem?_eq_some_iff.mp hu).1
      simpa using this
    refine wpAny_pyNext_enum_itemD (Draws.tuple (by show X.A.in1.handled = none; exact I.ok.hd hc) it a hai its.toArray) he ⟨hit, pt⟩ hlt hne (by simp; exact ⟨hne, fun z => hae z.symm⟩) fun x' h' tk hP ho hit' hT hsz hk => ?_
    have hx' : x' = u := by
      have h1 : its.toArray[i]? = some x' := hP
      have h2 : its.toArray[i]? = some u := by simpa using hu
      rw [h1] at h2
      exact Option.some.inj h2
    subst hx'
    refine ⟨_, rfl, wpAny_letOwnedTupleGo_enum (s := { s with heap := h', toks := tk + 1 }) ho fun h'' he' sb => ?_⟩
    have hT2 : h''.get? s.heap.objs.size = some { cls := .type "tuple", data := .seq #[.int i tk, x'] } := (sb.2 _ (Nat.ne_of_gt hel)).trans hT
    have new : ObjOk X.prog X.w (upd H s.heap.objs.size (.tup [.int (i : Nat), x])) h'' s.heap.objs.size (.tup [.int (i : Nat), x]) :=
      ⟨by show 2 ≤ sizeLine; decide, [.int i tk, x'], .cons ⟨_, rfl⟩ (.cons ru .nil), ⟨_, hT2, rfl, _, rfl⟩⟩
    have I1 : Inv X pins σ (upd H s.heap.objs.size (.tup [.int (i : Nat), x])) { s with heap := h'', toks := tk + 1 } :=
      I.turnedNew (ch := [e, it]) (fun b ob hb q => (sb.2 b (fun z => hb (by simp [z]))).trans (hk b ob (fun z => hb (by simp [z])) (fun z => hb (by simp [z])) q)) hf (Nat.le_refl _) new
    refine ⟨.ref s.heap.objs.size, _, I1, rfl, ⟨_, x, rfl, I.hok.fresh (Nat.le_refl _), rfl, fun ys hy => by rw [I.tuple_inj hy hq]; exact hx⟩, ⟨⟨x', ?_⟩, hit'.1.at fun o q => (sb.2 it (Ne.symm hne)).trans q, hne, hai, hae⟩, fun b hb => ?_⟩
    · have e1 : ((i + 1 : Nat) : Int) = (i : Int) + 1 := by omega
      rw [e1]; exact he'
    · have hb' : b < s.heap.objs.size := by
        have e' : b = e ∨ b = it := by simpa using hb
        rcases e' with z | z
        · rw [z]; exact hel
        · rw [z]; exact hil
      rw [upd_ne (Nat.ne_of_lt hb')]
      exact (hf b hb).1
  done := by
    intro X hP hw hK hc i pins s σ H E I hf st hg
    subst hP hw hK
    obtain ⟨⟨old, he⟩, hit, hne, hai, hae⟩ := st
    obtain ⟨xs, hq, hx⟩ := hg
    obtain ⟨its, rv, p, hz⟩ := I.tuple hq
    obtain ⟨f0, f1, f2, f3, f4, f5⟩ := hf it (by simp)
    have hl := rv.length
    have pt : s.heap.IsTuple a its.toArray := p
    have hT : s.TypeIs (.ref e) "enumerate" := ⟨_, he, rfl⟩
    unfold pyNext
    refine wpAny_bind (wpAny_attempt (wpAny_callSpecial?_slot (name := Str.ofString "__next__") hT F.slot_enumerate_next
      (wpAny_call_entry F.slot_enumerate_next hT F.entry_enumerate_next ?_ (F.args_enumerate_next_1 _))))
    show wpAny _ _ (field (.ref e) 2 >>= _) _ _ _
    refine wpAny_bind (wpAny_field he rfl (x := .ref it) rfl ?_)
    refine wpAny_bind (wpAny_nextOf_tuple_end (by show X.A.in1.handled = none; exact I.ok.hd hc) hit pt (by simp; omega) fun h' x he' hx' => ?_)
    obtain ⟨o, ho, hcl⟩ := hx'
    refine wpAny_bind (wpAny_isInstance (T := "StopIteration") (b := true) ⟨o, ho, hcl⟩ isSubtype_stop ?_)
    exact wpAny_pure ⟨rfl, I.turned (t' := s.toks) (fun b o hb q => he' b o hb q) f0 f1 f3 f4 f5⟩
  self := fun A i s Q E st h => let ⟨⟨_, he⟩, _⟩ := st; wpAny_pyIter_enum he h
def iEnumT (K : PySem.W.Frag) (ta : TA) : TI := fun σ H R => ta σ H fun vs H1 => ∃ a xs, vs = [.ref a] ∧ SqT K H1 a xs ∧ R (IteT K a) H1
theorem pi_enumT {X : Cx} {e : Expr} {ta : TA} {p pos tpos : Pos} {elts : List Expr} {kk : Nat} (hg : Gl X "enumerate") (hm : X.mg "enumerate" = none) (ha : PA X [e] ta) (hs : starEach [e] X.env = [(false, eval e X.env)] := by rfl) :
    PI X (.Tuple elts kk tpos) (.Call (.Name "enumerate" p) [e] [] pos) (fun σ H R => ta σ H fun vs H1 => ∃ a xs, vs = [.ref a] ∧ ((SqL X.K H1 a xs ∧ R (Ite X.K a) H1) ∨ (SqT X.K H1 a xs ∧ R (IteT X.K a) H1))) := by
  refine ⟨fun pins s σ H R I h => ?_⟩
  refine Call_ (ld_blt I hg hm boot_enumerate (PyProof.Rows.callWith_type1 (thn (ha.run pos pins s σ H _ I h) fun us s1 ⟨vs, H1, I1, r1, q1⟩ => ?_) hs rfl))
  obtain ⟨a, xs, ex, hq⟩ := q1
  subst ex
  cases r1 with
  | cons r rr =>
    cases rr
    cases r
    have key : ∀ b, b = s1.heap.objs.size + 1 ∨ b = s1.heap.objs.size → s1.heap.objs.size ≤ b := fun b e' => by
      rcases e' with z | z
      · rw [z]; exact Nat.le_add_right _ _
      · rw [z]; exact Nat.le_refl _
    rcases hq with ⟨hq, q⟩ | ⟨hq, q⟩
    · obtain ⟨its, rv, p', hz⟩ := I1.list hq
      refine call_enumerate_list p'.isList fun h' he hit hsz hk => wpAny_pyIter_enum he ?_
      have I2 : Inv X pins σ H1 { s1 with heap := h' } := I1.kept (t' := s1.toks) hk
      refine ⟨s1.heap.objs.size + 1, [s1.heap.objs.size + 1, s1.heap.objs.size], _, _, H1, rfl, I2, turn_enum a (s1.heap.objs.size + 1) s1.heap.objs.size, ⟨⟨.none, he⟩, hit, Nat.succ_ne_self _⟩, fun b hb => ?_, q⟩
      have hle := key b (by simpa using hb)
      exact I1.fpOk hle (I1.hok.fresh hle)
    · obtain ⟨its, rv, p', hz⟩ := I1.tuple hq
      have pt : s1.heap.IsTuple a its.toArray := p'
      have hal : a < s1.heap.objs.size := by obtain ⟨o, ho, _⟩ := pt; exact Heap.lt_size ho
      refine mi_call_enumT pt fun h' he hit hsz hk => wpAny_pyIter_enum he ?_
      have I2 : Inv X pins σ H1 { s1 with heap := h' } := I1.kept (t' := s1.toks) hk
      refine ⟨s1.heap.objs.size + 1, [s1.heap.objs.size + 1, s1.heap.objs.size], _, _, H1, rfl, I2, turn_enumT a (s1.heap.objs.size + 1) s1.heap.objs.size, ⟨⟨.none, he⟩, hit, Nat.succ_ne_self _, Nat.ne_of_lt hal, Nat.ne_of_lt (Nat.lt_succ_of_lt hal)⟩, fun b hb => ?_, q⟩
      have hle := key b (by simpa using hb)
      exact I1.fpOk hle (I1.hok.fresh hle)

def ySeq (f : MX) : MY := fun ζ M => (f ζ M).bind fun d M1 => match d with
  | .tup xs => .ok ⟨fun i _ => some xs[i]?, xs.length + 1⟩ M1
  | .klst xs => .ok ⟨fun i _ => some xs[i]?, xs.length + 1⟩ M1
  | .ref n => match hSeq M1 (.ref n) with
    | some xs => .ok ⟨fun i M => match hSeq M (.ref n) with
      | some ys => some ys[i]?
      | none => none, xs.length + 1⟩ M1
    | none => .no
  | _ => .no
/-- what range takes; by cases, so that the kernel stops at an unknown number -/
def okRg (i : Int) : Bool := match i with
  | .ofNat m => Nat.ble m 4611686018427387903
  | .negSucc m => Nat.ble m 4611686018427387903
theorem okRg_ok {i : Int} (h : okRg i = true) : -(2 ^ 62) ≤ i ∧ i < 2 ^ 62 := by
  cases i with
  | ofNat m =>
    have := Nat.le_of_ble_eq_true (show Nat.ble m 4611686018427387903 = true from h)
    rw [show Int.ofNat m = (m : Int) from rfl]
    omega
  | negSucc m =>
    have := Nat.le_of_ble_eq_true (show Nat.ble m 4611686018427387903 = true from h)
    rw [Int.negSucc_eq]
    omega
theorem okRg_mk {i : Int} (h0 : -4611686018427387904 ≤ i) (h1 : i < 4611686018427387904) : okRg i = true := by
  cases i with
  | ofNat m =>
    rw [show Int.ofNat m = (m : Int) from rfl] at h0 h1
    exact Nat.ble_eq_true_of_le (show m ≤ 4611686018427387903 by omega)
  | negSucc m =>
    rw [Int.negSucc_eq] at h0 h1
    exact Nat.ble_eq_true_of_le (show m ≤ 4611686018427387903 by omega)
def yRg (lo : Int) (n : Nat) : Yd := ⟨fun i _ => some (if i < n then some (.int (lo + i)) else none), n + 1⟩
def yRg1 (f : MX) : MY := fun ζ M => (f ζ M).bind fun d M1 => match d with
  | .int j => if okRg j = true then .ok (yRg 0 j.toNat) M1 else .no
  | _ => .no
def yRg2 (f g : MX) : MY := fun ζ M => (f ζ M).bind fun d M1 => (g ζ M1).bind fun e M2 => match d, e with
  | .int i, .int j => if (okRg i && okRg j) = true then .ok (yRg i (j - i).toNat) M2 else .no
  | _, _ => .no
def yEnum (f : MX) : MY := fun ζ M => (f ζ M).bind fun d M1 => match d with
  | .tup xs => .ok ⟨fun i _ => some (match xs[i]? with | some x => some (.tup [.int (i : Nat), x]) | none => none), xs.length + 1⟩ M1
  | .ref n => match hSeq M1 (.ref n) with
    | some xs => .ok ⟨fun i M => match hSeq M (.ref n) with
      | some ys => some (match ys[i]? with | some x => some (.tup [.int (i : Nat), x]) | none => none)
      | none => none, xs.length + 1⟩ M1
    | none => .no
  | _ => .no
section
variable {P : Program} {w : World} {K : PySem.W.Frag} {Γ : Gm} {μ0 : List Addr} {H0 : Hp}
theorem RVs.getN {H : Hp} {μ : List Addr} {xs : List D} {vs : List V} {i : Nat} (r : RVs K H μ xs vs) (h : xs[i]? = none) : vs.length ≤ i := by
  rw [← r.length]
  exact List.getElem?_eq_none_iff.mp h
theorem y_tup {a : Addr} {vs : List V} {xs : List D} {f : Nat} (g : SqT K H0 a vs) (r : RVs K H0 μ0 xs vs) : YOk P w K Γ H0 μ0 ⟨fun i _ => some xs[i]?, f⟩ (Itt K a) := by
  intro i H μ M nx rh
  refine ⟨fun h => ⟨vs, nx.sqT g, (r.mono nx).getN (Option.some.inj h)⟩, fun d h => ?_⟩
  obtain ⟨v, h1, h2⟩ := (r.mono nx).get (Option.some.inj h)
  refine ⟨⟨vs, v, nx.sqT g, h1⟩, fun x H2 hy => ?_⟩
  obtain ⟨e, hy⟩ := hy
  subst e
  have h3 := hy vs (nx.sqT g)
  rw [h1] at h3
  cases h3
  exact ⟨μ, Nx.refl _ _, rh, h2⟩
theorem y_kls {a : Addr} {vs : List V} {xs : List D} {f : Nat} (g : SqK K H0 a vs) (r : RVs K H0 μ0 xs vs) : YOk P w K Γ H0 μ0 ⟨fun i _ => some xs[i]?, f⟩ (Itl K a) := by
  intro i H μ M nx rh
  have g1 : SqL K H a vs := (show SqK K H a vs from g.imp (fun ⟨o, h⟩ => ⟨o, nx.frz _ _ _ h⟩) id).sq
  refine ⟨fun h => ⟨vs, g1, (r.mono nx).getN (Option.some.inj h)⟩, fun d h => ?_⟩
  obtain ⟨v, h1, h2⟩ := (r.mono nx).get (Option.some.inj h)
  refine ⟨⟨vs, v, g1, h1⟩, fun x H2 hy => ?_⟩
  obtain ⟨e, hy⟩ := hy
  subst e
  have h3 := hy vs g1
  rw [h1] at h3
  cases h3
  exact ⟨μ, Nx.refl _ _, rh, h2⟩
theorem y_ref {a : Addr} {n f : Nat} (g : μ0[n]? = some a) : YOk P w K Γ H0 μ0 ⟨fun i M => match hSeq M (.ref n) with | some ys => some ys[i]? | none => none, f⟩ (Itl K a) := by
  intro i H μ M nx rh
  have e := nx.pre _ _ g
  have key : ∀ ys, hSeq M (.ref n) = some ys → ∃ vs, SqL K H a vs ∧ RVs K H μ ys vs := fun ys hy => by
    obtain ⟨b, vs, hb, hs, r⟩ := hRef_ok rh hy (.ref e)
    cases hb
    exact ⟨vs, hs, r⟩
  refine ⟨fun h => ?_, fun d h => ?_⟩
  · simp only at h
    split at h
    · rename_i ys hy
      obtain ⟨vs, hs, r⟩ := key ys hy
      exact ⟨vs, hs, r.getN (Option.some.inj h)⟩
    · cases h
  · simp only at h
    split at h
    · rename_i ys hy
      obtain ⟨vs, hs, r⟩ := key ys hy
      obtain ⟨v, h1, h2⟩ := r.get (Option.some.inj h)
      refine ⟨⟨vs, v, hs, h1⟩, fun x H2 hy => ?_⟩
      obtain ⟨e, hy⟩ := hy
      subst e
      have h3 := hy vs hs
      rw [h1] at h3
      cases h3
      exact ⟨μ, Nx.refl _ _, rh, h2⟩
    · cases h
theorem y_rg {lo : Int} {n : Nat} : YOk P w K Γ H0 μ0 (yRg lo n) (Itr lo n) := by
  intro i H μ M nx rh
  refine ⟨fun h => ?_, fun d h => ?_⟩
  · simp only [yRg] at h
    split at h
    · cases h
    · rename_i hn
      exact Nat.not_lt.mp hn
  · simp only [yRg] at h
    split at h
    · rename_i hn
      cases h
      refine ⟨hn, fun x H2 hy => ?_⟩
      obtain ⟨e, hy⟩ := hy
      subst e hy
      exact ⟨μ, Nx.refl _ _, rh, .int _⟩
    · cases h
theorem y_enumT {a : Addr} {vs : List V} {xs : List D} {f : Nat} (g : SqT K H0 a vs) (r : RVs K H0 μ0 xs vs) : YOk P w K Γ H0 μ0 ⟨fun i _ => some (match xs[i]? with | some x => some (.tup [.int (i : Nat), x]) | none => none), f⟩ (IteT K a) := by
  intro i H μ M nx rh
  refine ⟨fun h => ?_, fun d h => ?_⟩
  · simp only at h
    split at h
    · cases h
    · rename_i hx
      exact ⟨vs, nx.sqT g, (r.mono nx).getN hx⟩
  · simp only at h
    split at h
    · rename_i z hz
      cases h
      obtain ⟨v, h1, h2⟩ := (r.mono nx).get hz
      refine ⟨⟨vs, v, nx.sqT g, h1⟩, fun x H2 hy => ?_⟩
      obtain ⟨T, y, e1, hT, e2, hy⟩ := hy
      subst e1 e2
      have h3 := hy vs (nx.sqT g)
      rw [h1] at h3
      cases h3
      exact ⟨μ, Nx.fresh0 hT, rh.fresh hT, .tup (SqT.of upd_same) (.cons (.int _) (.cons (h2.mono (Nx.fresh0 hT)) .nil))⟩
    · cases h
theorem y_enumL {a : Addr} {n f : Nat} (g : μ0[n]? = some a) : YOk P w K Γ H0 μ0 ⟨fun i M => match hSeq M (.ref n) with | some ys => some (match ys[i]? with | some x => some (.tup [.int (i : Nat), x]) | none => none) | none => none, f⟩ (Ite K a) := by
  intro i H μ M nx rh
  have e := nx.pre _ _ g
  have key : ∀ ys, hSeq M (.ref n) = some ys → ∃ vs, SqL K H a vs ∧ RVs K H μ ys vs := fun ys hy => by
    obtain ⟨b, vs, hb, hs, r⟩ := hRef_ok rh hy (.ref e)
    cases hb
    exact ⟨vs, hs, r⟩
  refine ⟨fun h => ?_, fun d h => ?_⟩
  · simp only at h
    split at h
    · rename_i ys hy
      obtain ⟨vs, hs, r⟩ := key ys hy
      split at h
      · cases h
      · rename_i hx
        exact ⟨vs, hs, r.getN hx⟩
    · cases h
  · simp only at h
    split at h
    · rename_i ys hy
      obtain ⟨vs, hs, r⟩ := key ys hy
      split at h
      · rename_i z hz
        cases h
        obtain ⟨v, h1, h2⟩ := r.get hz
        refine ⟨⟨vs, v, hs, h1⟩, fun x H2 hy => ?_⟩
        obtain ⟨T, y, e1, hT, e2, hy⟩ := hy
        subst e1 e2
        have h3 := hy vs hs
        rw [h1] at h3
        cases h3
        exact ⟨μ, Nx.fresh0 hT, rh.fresh hT, .tup (SqT.of upd_same) (.cons (.int _) (.cons (h2.mono (Nx.fresh0 hT)) .nil))⟩
      · cases h
    · cases h
end
section
variable {X : Cx} {Γ : Gm} {W : WX} {tg a b e : Expr} {fa fb fe : MX} {p pos tpos : Pos} {elts : List Expr} {kk : Nat}
theorem pi_seq {l : Expr} {tl : TE} (hl : PE X l tl) : PI X tg l (fun σ H R => tl σ H fun x H1 => ∃ a, x = .ref a ∧ (((∃ xs, SqL X.K H1 a xs) ∧ R (Itl X.K a) H1) ∨ ((∃ xs, SqT X.K H1 a xs) ∧ R (Itt X.K a) H1))) := by
  refine ⟨fun pins s σ H R I h => ?_⟩
  refine thn (hl.run pins s σ H _ I h) fun v s1 ⟨x, H1, I1, r1, q1⟩ => ?_
  obtain ⟨a, e, q⟩ := q1
  subst e
  cases r1
  rcases q with ⟨⟨xs, hq⟩, q⟩ | ⟨⟨xs, hq⟩, q⟩
  · obtain ⟨its, rv, p, hz⟩ := I1.list hq
    refine wpAny_pyIter_list p.isList ?_
    refine ⟨s1.heap.objs.size, [s1.heap.objs.size], _, _, H1, rfl, I1.kept (t' := s1.toks) fun b o e => Heap.get?_push_of_some _ e, turn_list a _, ⟨_, Heap.get?_push_size _ rfl, rfl, rfl⟩, fun b hb => ?_, q⟩
    have e : b = s1.heap.objs.size := by simpa using hb
    subst e
    exact I1.fpOk (Nat.le_refl _) (I1.hok.fresh (Nat.le_refl _))
  · obtain ⟨its, rv, p, hz⟩ := I1.tuple hq
    refine wpAny_pyIter_tuple (show s1.heap.IsTuple a its.toArray from p) ?_
    refine ⟨s1.heap.objs.size, [s1.heap.objs.size], _, _, H1, rfl, I1.kept (t' := s1.toks) fun b o e => Heap.get?_push_of_some _ e, turn_tuple a _, ⟨_, Heap.get?_push_size _ rfl, rfl, rfl⟩, fun b hb => ?_, q⟩
    have e : b = s1.heap.objs.size := by simpa using hb
    subst e
    exact I1.fpOk (Nat.le_refl _) (I1.hok.fresh (Nat.le_refl _))
theorem ei_seq (he : EX X Γ W e fe) : EI X Γ W tg e (ySeq fe) :=
  PI.imp (pi_seq he) fun σ H R ⟨ζ, M, μ, rr, h⟩ => ⟨ζ, M, μ, rr, Pst.then h fun v H1 d M1 μ1 nx rh rv h1 => by
    replace rv : RV X.K H1 μ1 d v := rv
    cases rv with
    | tup g r => exact ⟨_, rfl, .inr ⟨⟨_, g⟩, h1 _ _ _ (Nx.refl _ _) rh (y_tup g r)⟩⟩
    | kls g r => exact ⟨_, rfl, .inl ⟨⟨_, g.sq⟩, h1 _ _ _ (Nx.refl _ _) rh (y_kls g r)⟩⟩
    | ref e1 =>
      simp only at h1
      split at h1
      · rename_i xs hx
        obtain ⟨b, vs, hb, hs, r⟩ := hRef_ok rh hx (.ref e1)
        cases hb
        exact ⟨_, rfl, .inl ⟨⟨_, hs⟩, h1 _ _ _ (Nx.refl _ _) rh (y_ref e1)⟩⟩
      · exact h1.elim
    | _ => exact h1.elim⟩
theorem ei_range1 (ha : EX X Γ W a fa) (hm : X.mg "range" = none) (hg : Gl X "range" := by rfl) (hs : starEach [a] X.env = [(false, eval a X.env)] := by rfl) : EI X Γ W tg (.Call (.Name "range" p) [a] [] pos) (yRg1 fa) :=
  PI.imp (pi_range1 hg hm (pa_cons ha pa_nil hs) hs) fun σ H R ⟨ζ, M, μ, rr, h⟩ => ⟨ζ, M, μ, rr, Pst.then h fun v H1 d M1 μ1 nx rh rv h1 => by
    cases d with
    | int j =>
      cases rv
      simp only at h1
      split at h1
      · rename_i hj
        obtain ⟨j1, j2⟩ := okRg_ok hj
        exact ⟨j, rfl, j1, j2, h1 _ _ _ (Nx.refl _ _) rh y_rg⟩
      · exact h1.elim
    | _ => exact h1.elim⟩
theorem ei_range2 (ha : EX X Γ W a fa) (hb : EX X Γ W b fb) (hm : X.mg "range" = none) (hg : Gl X "range" := by rfl) (hs : starEach [a, b] X.env = [(false, eval a X.env), (false, eval b X.env)] := by rfl)
    (hs2 : starEach [b] X.env = [(false, eval b X.env)] := by rfl) (hs3 : starEach [a, b] X.env = (false, eval a X.env) :: starEach [b] X.env := by rfl) : EI X Γ W tg (.Call (.Name "range" p) [a, b] [] pos) (yRg2 fa fb) :=
  PI.imp (pi_range2 hg hm (pa_cons ha (pa_cons hb pa_nil hs2) hs3) hs hs2) fun σ H R ⟨ζ, M, μ, rr, h⟩ => ⟨ζ, M, μ, rr, Pst.then h fun v H1 d M1 μ1 nx rh rv h1 => ⟨ζ, M1, μ1, ⟨rr.sl.mono nx, rh⟩, Pst.then h1 fun u H2 e M2 μ2 nx2 rh2 ru h2 => by
    replace rv : RV X.K H1 μ1 d v := rv
    replace ru : RV X.K H2 μ2 e u := ru
    split at h2
    · cases rv
      cases ru
      split at h2
      · rename_i hj
        rw [Bool.and_eq_true] at hj
        obtain ⟨i1, i2⟩ := okRg_ok hj.1
        obtain ⟨j1, j2⟩ := okRg_ok hj.2
        exact ⟨_, _, rfl, ⟨i1, i2, j1, j2⟩, h2 _ _ _ (Nx.refl _ _) rh2 y_rg⟩
      · exact h2.elim
    · exact h2.elim⟩⟩
theorem ei_enum (ha : EX X Γ W a fa) (hm : X.mg "enumerate" = none) (hg : Gl X "enumerate" := by rfl) (hs : starEach [a] X.env = [(false, eval a X.env)] := by rfl) : EI X Γ W (.Tuple elts kk tpos) (.Call (.Name "enumerate" p) [a] [] pos) (yEnum fa) :=
  PI.imp (pi_enumT hg hm (pa_cons ha pa_nil hs) hs) fun σ H R ⟨ζ, M, μ, rr, h⟩ => ⟨ζ, M, μ, rr, Pst.then h fun v H1 d M1 μ1 nx rh rv h1 => by
    replace rv : RV X.K H1 μ1 d v := rv
    cases rv with
    | tup g r => exact ⟨_, _, rfl, .inr ⟨g, h1 _ _ _ (Nx.refl _ _) rh (y_enumT g r)⟩⟩
    | ref e1 =>
      simp only at h1
      split at h1
      · rename_i xs hx
        obtain ⟨b, vs, hb, hs, r⟩ := hRef_ok rh hx (.ref e1)
        cases hb
        exact ⟨_, _, rfl, .inl ⟨hs, h1 _ _ _ (Nx.refl _ _) rh (y_enumL e1)⟩⟩
      · exact h1.elim
    | _ => exact h1.elim⟩
end
end Mi
end
section
set_option maxRecDepth 100000
set_option maxHeartbeats 2000000
set_option autoImplicit false
namespace Mi
open PySem PySem.Spec PyProof.Rows L2

def wipeD (ζ : Sl) : List Nat → Sl
  | [] => ζ
  | v :: vs => (wipeD ζ vs).set v none
def lcN (y : Nat → Hs → Option (Option D)) (p : Pt) (k : Sl → Hs → R Unit) (ζ : Sl) : Nat → Nat → Hs → R Unit
  | 0, _ => fun _ => .no
  | m + 1, i => fun M => match y i M with
    | none => .no
    | some none => .ok () M
    | some (some d) => match bindP p d with
      | none => .no
      | some l => match k (setAll ζ l) M with
        | .ok _ M' => lcN y p k ζ m (i + 1) M'
        | _ => .no
def lput (n : Nat) (v : D) (M : Hs) : R Unit := match hLst M n with
  | some acc => if acc.length < sizeLine then .ok () (M.set n (.lst (acc ++ [v]))) else .no
  | none => .no
def lcB (t : MT) (f : MX) (n : Nat) : Sl → Hs → R Unit := fun ζ M => match t ζ M with
  | .ok false M1 => .ok () M1
  | .ok true M1 => match f ζ M1 with
    | .ok v M2 => lput n v M2
    | _ => .no
  | _ => .no
def lcB2 (t : MT) (s : MY) (p1 : Pt) (vs1 : List Nat) (t1 : MT) (f : MX) (n : Nat) : Sl → Hs → R Unit := fun ζ M => match t ζ M with
  | .ok false M1 => .ok () M1
  | .ok true M1 => match s ζ M1 with
    | .ok yd M2 => lcN yd.y p1 (lcB t1 f n) (wipeD ζ vs1) yd.fuel 0 M2
    | _ => .no
  | _ => .no
def tTrue : MT := fun _ M => .ok true M
def xLc (s : MY) (vs : List Nat) (p : Pt) (t : MT) (f : MX) : MX := fun ζ M => (s ζ M).bind fun yd M1 => (lcN yd.y p (lcB t f M1.length) (wipeD ζ vs) yd.fuel 0 (M1 ++ [.lst []])).bind fun _ M2 => .ok (.ref M1.length) M2
def xLc2 (s : MY) (vs : List Nat) (p : Pt) (t : MT) (s1 : MY) (p1 : Pt) (vs1 : List Nat) (t1 : MT) (f : MX) : MX := fun ζ M => (s ζ M).bind fun yd M1 => (lcN yd.y p (lcB2 t s1 p1 vs1 t1 f M1.length) (wipeD ζ vs) yd.fuel 0 (M1 ++ [.lst []])).bind fun _ M2 => .ok (.ref M1.length) M2

theorem RSl.wiped {K : PySem.W.Frag} {H : Hp} {μ : List Addr} {ζ : Sl} {σ : L2.St} (r : RSl K H μ ζ σ) : ∀ vs : List Nat, RSl K H μ (wipeD ζ vs) (wipe σ vs)
  | [] => r
  | v :: vs => by
    have ih := RSl.wiped r vs
    refine ⟨by simp [wipeD, wipe, ih.len], fun i d h => ?_⟩
    simp only [wipeD] at h
    by_cases hi : v = i
    · subst hi
      by_cases hv : v < (wipeD ζ vs).length
      · rw [List.getElem?_set_self hv] at h; cases h
      · rw [List.getElem?_eq_none (by simpa using hv)] at h; cases h
    · rw [List.getElem?_set_ne hi] at h
      simp only [wipe]
      rw [List.getElem?_set_ne hi]
      exact ih.at_ i d h
theorem wipe_set {σ : L2.St} {i : Nat} {x : Option V} : ∀ {vs : List Nat}, i ∈ vs → wipe (σ.set i x) vs = wipe σ vs
  | [], h => by cases h
  | v :: vs, h => by
    simp only [wipe]
    by_cases hi : i ∈ vs
    · rw [wipe_set hi]
    · have hv : v = i := by
        rcases List.mem_cons.mp h with e | e
        · exact e.symm
        · exact absurd e hi
      subst hv
      rw [wipe_setn hi]
      rw [List.set_set]
where
  wipe_setn {σ : L2.St} {i : Nat} {x : Option V} : ∀ {vs : List Nat}, i ∉ vs → wipe (σ.set i x) vs = (wipe σ vs).set i x
    | [], _ => rfl
    | v :: vs, h => by
      have h1 : v ≠ i := fun e => h (by rw [e]; exact List.mem_cons_self)
      have h2 : i ∉ vs := fun m => h (List.mem_cons_of_mem _ m)
      simp only [wipe]
      rw [wipe_setn h2, List.set_comm _ _ (Ne.symm h1)]
theorem wipe_setAll : ∀ {l : List (Nat × V)} {σ : L2.St} {vs : List Nat}, (∀ p ∈ l, p.1 ∈ vs) → wipe (setAll σ l) vs = wipe σ vs
  | [], _, _, _ => rfl
  | (i, x) :: l, σ, vs, h => by
    show wipe (setAll (σ.set i (some x)) l) vs = _
    rw [wipe_setAll fun p hp => h p (List.mem_cons_of_mem _ hp), wipe_set (h (i, x) List.mem_cons_self)]
theorem wipe_wipe {σ : L2.St} : ∀ {vs us : List Nat}, (∀ v ∈ us, v ∈ vs) → wipe (wipe σ us) vs = wipe σ vs
  | _, [], _ => rfl
  | vs, u :: us, h => by
    show wipe ((wipe σ us).set u none) vs = _
    rw [wipe_set (h u List.mem_cons_self), wipe_wipe fun v hv => h v (List.mem_cons_of_mem _ hv)]
mutual
theorem bindP_slots : ∀ (p : Pt) {d : D} {l : List (Nat × D)}, bindP p d = some l → ∀ q ∈ l, q.1 ∈ p.slots
  | .n i, d, l, h => by
    simp only [bindP] at h
    cases h
    intro q hq
    simp only [List.mem_singleton] at hq
    subst hq
    simp [Pt.slots]
  | .t ps, d, l, h => by
    cases d with
    | tup ds => simp only [bindP] at h; simp only [Pt.slots]; exact bindPs_slots ps h
    | _ => simp [bindP] at h
theorem bindPs_slots : ∀ (ps : List Pt) {ds : List D} {l : List (Nat × D)}, bindPs ps ds = some l → ∀ q ∈ l, q.1 ∈ slotsOf ps
  | [], [], l, h => by simp only [bindPs] at h; cases h; intro q hq; cases hq
  | [], _ :: _, l, h => by simp [bindPs] at h
  | p :: ps, [], l, h => by simp [bindPs] at h
  | p :: ps, d :: ds, l, h => by
    simp only [bindPs] at h
    split at h
    · rename_i l1 l2 h1 h2
      cases h
      intro q hq
      simp only [slotsOf, List.mem_append]
      rcases List.mem_append.mp hq with hq | hq
      · exact .inl (bindP_slots p h1 q hq)
      · exact .inr (bindPs_slots ps h2 q hq)
    · cases h
end
theorem br_slots {K : PySem.W.Frag} {H : Hp} {μ : List Addr} {vs : List Nat} : ∀ {l : List (Nat × D)} {l' : List (Nat × V)}, BR K H μ l l' → (∀ q ∈ l, q.1 ∈ vs) → ∀ q ∈ l', q.1 ∈ vs
  | _, _, .nil, _ => fun q h => by cases h
  | _, _, .cons r t, h => fun q hq => by
    rcases List.mem_cons.mp hq with e | hq
    · subst e
      rw [← r.1]
      exact h _ List.mem_cons_self
    · exact br_slots t (fun q hq => h q (List.mem_cons_of_mem _ hq)) q hq
section
variable {X : Cx} {Γ : Gm} {W : WX}
/-- no exception leaves the block -/
abbrev W0 : WX := fun _ _ _ _ => False
/-- a turn of the block, told by its k -/
def Turned (P : Program) (w : World) (K : PySem.W.Frag) (Γ : Gm) (H1 : Hp) (μ1 : List Addr) (n : Nat) (D : Addr) (Q : Prop) : Prop := Q
theorem lput_ok {P : Program} {w : World} {K : PySem.W.Frag} {Γ : Gm} {n : Nat} {D' : Addr} {d : D} {v : V} {μ : List Addr} {M M' : Hs} {H : Hp} (rh : RH P w K Γ μ M H) (hn : μ[n]? = some D') (r : RV K H μ d v) (h : lput n d M = .ok () M') :
    ∃ acc, H D' = some (.lst acc) ∧ acc.length < sizeLine ∧ RH P w K Γ μ M' (upd H D' (.lst (acc ++ [v]))) ∧ Nx μ H μ (upd H D' (.lst (acc ++ [v]))) := by
  unfold lput at h
  split at h
  · rename_i acc hl
    obtain ⟨vs, g, ra⟩ := nlst rh (hLst_ok rh hl) hn
    split at h
    · rename_i hz
      cases h
      exact ⟨vs, g, by rw [← ra.length]; exact hz, rh.write hn (mutL g) ⟨_, upd_same, (ra.append (.cons r .nil)).mono (Nx.write (mutL g))⟩, Nx.write (mutL g)⟩
    · cases h
  · cases h
theorem ets_nil : PTs X [] (tT X.prog X.w X.K Γ W tTrue) := ⟨fun pins s σ H Q I ⟨ζ, M, μ, rr, h⟩ => pts_nil.run pins s σ H Q I (h _ _ _ (Nx.refl _ _) rr.hp rfl)⟩
theorem ets_one {c : Expr} {t : MT} (h : ET X Γ W c t) : PTs X [c] (tT X.prog X.w X.K Γ W t) := pts_one h
abbrev ETs (X : Cx) (Γ : Gm) (W : WX) (ifs : List Expr) (t : MT) : Prop := PTs X ifs (tT X.prog X.w X.K Γ W t)
variable {elt tg iter tg1 iter1 : Expr} {ifs ifs1 : List Expr} {scope : Scope} {own : List (Str × Nat)} {pos : Pos} {s s1 : MY} {p p1 : Pt} {t t1 : MT} {f : MX} {vs1 : List Nat}
theorem tLc_of {vs : List Nat} {σ : L2.St} {H : Hp} {Q : VK} (hp : ∀ i ∈ p.slots, i ∈ vs) (h : tX X.prog X.w X.K Γ W (xLc s vs p t f) σ H Q) :
    tLc (iY X.prog X.w X.K Γ W s) (gP X.prog X.w X.K Γ p) (tT X.prog X.w X.K Γ W0 t) (tX X.prog X.w X.K Γ W0 f) vs σ H Q := by
  obtain ⟨ζ, M, μ, rr, h⟩ := h
  refine ⟨ζ, M, μ, rr, Pst.then h fun J H1 yd M1 μ1 nx rh rv h1 => fun D' hD => ?_⟩
  have nx0 : Nx μ1 H1 (μ1 ++ [D']) (upd H1 D' (.lst [])) := Nx.fresh hD [D']
  have rh0 : RH X.prog X.w X.K Γ (μ1 ++ [D']) (M1 ++ [.lst []]) (upd H1 D' (.lst [])) := rh.alloc hD ⟨[], upd_same, .nil⟩
  refine ⟨fun i m H => ∃ M μ, Nx μ1 H1 μ H ∧ RH X.prog X.w X.K Γ μ M H ∧ μ[M1.length]? = some D' ∧
    Pst X.prog X.w X.K Γ (relV X.K) W σ μ H ((lcN yd.y p (lcB t f M1.length) (wipeD ζ vs) m i M).bind fun _ M2 => .ok (.ref M1.length) M2) Q,
    ⟨yd.fuel, _, _, nx0, rh0, rh.last, Pst.mono h1 nx0⟩, ?_⟩
  rintro i m H2 ⟨M2, μ2, nx2, rh2, hn, h2⟩
  cases m with
  | zero => exact h2.elim
  | succ m =>
    obtain ⟨st, go⟩ := rv i H2 μ2 M2 nx2 rh2
    simp only [lcN] at h2
    split at h2
    · exact h2.elim
    · rename_i hy
      exact .inl ⟨st hy, h2 _ _ _ (Nx.refl _ _) rh2 (.ref hn)⟩
    · rename_i d hy
      obtain ⟨g1, g2⟩ := go d hy
      refine .inr ⟨g1, fun H' => ∃ M μ, Nx μ1 H1 μ H' ∧ RH X.prog X.w X.K Γ μ M H' ∧ μ[M1.length]? = some D' ∧
        Pst X.prog X.w X.K Γ (relV X.K) W σ μ H' ((lcN yd.y p (lcB t f M1.length) (wipeD ζ vs) m (i + 1) M).bind fun _ M2 => .ok (.ref M1.length) M2) Q, fun H' q => ⟨m, Nat.lt_succ_self _, q⟩, fun x H3 hx => ?_⟩
      obtain ⟨μ3, nx3, rh3, rv3⟩ := g2 x H3 hx
      refine ⟨d, M2, μ3, rh3, rv3, ?_⟩
      split at h2
      · exact h2.elim
      · rename_i l hl
        rw [hl]
        intro l' br
        have hs : ∀ q ∈ l', q.1 ∈ vs := br_slots br fun q hq => hp _ (bindP_slots p hl q hq)
        refine ⟨(wipe_setAll hs).trans (wipe_wipe fun _ h => h), ?_⟩
        have sl3 : RSl X.K H3 μ3 (setAll (wipeD ζ vs) l) (setAll (wipe σ vs) l') := RSl.setAll br (((rr.sl.mono nx).mono (nx2.trans nx3)).wiped vs)
        have n3 := nx2.trans nx3
        have hn3 := nx3.pre _ _ hn
        have h3 := Pst.mono h2 nx3
        refine ⟨_, M2, μ3, ⟨sl3, rh3⟩, ?_⟩
        unfold lcB at h3
        cases ht : t (setAll (wipeD ζ vs) l) M2 with
        | ex c fs M4 => rw [ht] at h3; exact h3.elim
        | no => rw [ht] at h3; exact h3.elim
        | ok b M4 =>
          rw [ht] at h3
          intro b' H4 μ4 nx4 rh4 rb
          have rb : b = b' := rb
          subst rb
          have h4 := Pst.mono h3 nx4
          cases b with
          | false =>
            rw [if_neg Bool.false_ne_true]
            exact ⟨M4, μ4, n3.trans nx4, rh4, nx4.pre _ _ hn3, h4⟩
          | true =>
            rw [if_pos rfl]
            refine ⟨_, M4, μ4, ⟨sl3.mono nx4, rh4⟩, ?_⟩
            simp only at h4
            cases hf : f (setAll (wipeD ζ vs) l) M4 with
            | ex c fs M5 => rw [hf] at h4; exact h4.elim
            | no => rw [hf] at h4; exact h4.elim
            | ok v M5 =>
              rw [hf] at h4
              intro z H5 μ5 nx5 rh5 rz
              have h5 := Pst.mono h4 nx5
              simp only at h5
              cases hput : lput M1.length v M5 with
              | ex c fs M6 => rw [hput] at h5; exact h5.elim
              | no => rw [hput] at h5; exact h5.elim
              | ok u M6 =>
                rw [hput] at h5
                have hn5 := nx5.pre _ _ (nx4.pre _ _ hn3)
                obtain ⟨acc, ha, hz, rh6, nx6⟩ := lput_ok rh5 hn5 rz hput
                exact ⟨acc, ha, hz, M6, μ5, ((n3.trans nx4).trans nx5).trans nx6, rh6, hn5, Pst.mono h5 nx6⟩
theorem ex_lc (hc : X.calm = true) (hN : X.N.Nodup) (hi : EI X Γ W tg iter s) (ok : BlkOk X.N X.env.scope scope own) (hp : ∀ i ∈ p.slots, i ∈ own.map (·.2))
    (hg : ∀ (s : Shared) (H : Hp) (C : Addr) (cl : List (Str × Addr)) (fp : List Addr), EG (X.blk s H scope (compEnvC scope cl C X.env) fp) Γ tg p) (ht : ∀ (s : Shared) (H : Hp) (C : Addr) (cl : List (Str × Addr)) (fp : List Addr), ETs (X.blk s H scope (compEnvC scope cl C X.env) fp) Γ W0 ifs t)
    (he : ∀ (s : Shared) (H : Hp) (C : Addr) (cl : List (Str × Addr)) (fp : List Addr), EX (X.blk s H scope (compEnvC scope cl C X.env) fp) Γ W0 elt f) (hs : ∀ x, foldedSetIterable iter X.env x = pure x := by intro _; rfl) :
    EX X Γ W (.ListComp elt [⟨tg, iter, ifs, 0⟩] scope pos) (xLc s (own.map (·.2)) p t f) :=
  PE.imp (pe_lc hc hN hi ok hg ht he hs) fun σ H Q h => tLc_of hp h
/-- name = [..], the name a local on one line -/
theorem es_setLc (i : Nat) {y : Str} {py spos : Pos} (hc : X.calm = true) (hN : X.N.Nodup) (hi : EI X Γ W tg iter s) (ok : BlkOk X.N X.env.scope scope own) (hp : ∀ i ∈ p.slots, i ∈ own.map (·.2))
    (hg : ∀ (s : Shared) (H : Hp) (C : Addr) (cl : List (Str × Addr)) (fp : List Addr), EG (X.blk s H scope (compEnvC scope cl C X.env) fp) Γ tg p) (ht : ∀ (s : Shared) (H : Hp) (C : Addr) (cl : List (Str × Addr)) (fp : List Addr), ETs (X.blk s H scope (compEnvC scope cl C X.env) fp) Γ W0 ifs t)
    (he : ∀ (s : Shared) (H : Hp) (C : Addr) (cl : List (Str × Addr)) (fp : List Addr), EX (X.blk s H scope (compEnvC scope cl C X.env) fp) Γ W0 elt f)
    (hsw : swapsWith (.ListComp elt [⟨tg, iter, ifs, 0⟩] scope pos) (some (.Name y py)) spos.line X.env = pure true) (hy : X.N[i]? = some y := by rfl) (hyl : X.env.scope.names.lookup y = some .local := by rfl)
    (hs : ∀ x, foldedSetIterable iter X.env x = pure x := by intro _; rfl) : ES X Γ W (.Assign [.Name y py] (.ListComp elt [⟨tg, iter, ifs, 0⟩] scope pos) spos) (sSet i (xLc s (own.map (·.2)) p t f)) :=
  PS.imp (ps_setLc hc hN hy hyl hsw hi ok hg ht he hs) fun E σ H ⟨ζ, M, μ, rr, h⟩ => tLc_of hp ⟨ζ, M, μ, rr, PstS.then h rr.sl fun v H1 d M1 μ1 nx rh rv h1 => h1 _ _ _ (Nx.refl _ _) rh ((rr.sl.mono nx).set rv i)⟩
end

def spF (P : Program) (w : World) (K : PySem.W.Frag) (Γ : Gm) (n : Nat) (F : MF) : Sp := fun vs H Q E => ∃ ds M μ, RH P w K Γ μ M H ∧ RVs K H μ ds vs ∧ ds.length = n ∧ match F ds M with
  | .ok d M' => ∀ v H' μ', Nx μ H μ' H' → RH P w K Γ μ' M' H' → RV K H' μ' d v → Q v H'
  | .ex c fs M' => ∀ cls dd H' μ', Nx μ H μ' H' → RH P w K Γ μ' M' H' → RX K Γ H' μ' c fs cls dd → E cls dd H'
  | .no => False
/-- a def of the module that does what F does -/
structure Cal (P : Program) (w : World) (K : PySem.W.Frag) (mg : Str → Option Value) (base : Heap) (Γ : Gm) (k : Nat) (x : Str) (ps : List Str) (F : MF) : Prop where
  ex : ∃ f fd, FnOk P w K mg base (L2.CX P w) k f fd ps (spF P w K Γ ps.length F) ∧ mg x = some (.ref f) ∧ PySem.W.keepIn K (.ref f) = true ∧ Binds K fd ps []
theorem Cal.mono {P : Program} {w : World} {K : PySem.W.Frag} {mg : Str → Option Value} {base : Heap} {Γ : Gm} {j k : Nat} {x : Str} {ps : List Str} {F : MF} (c : Cal P w K mg base Γ j x ps F) (h : j ≤ k) : Cal P w K mg base Γ k x ps F :=
  ⟨let ⟨f, fd, F, a, b, d⟩ := c.ex; ⟨f, fd, F.mono h, a, b, d⟩⟩
def xCall (n : Nat) (F : MF) (ga : MA) : MX := fun ζ M => (ga ζ M).bind fun ds M1 => if ds.length = n then F ds M1 else .no
section
variable {X : Cx} {Γ : Gm} {W : WX} {e : Expr} {es : List Expr} {ga : MA} {k : Nat} {x : Str} {ps : List Str} {F : MF} {p pos : Pos}
theorem spF_of {n : Nat} {σ : L2.St} {μ : List Addr} {H : Hp} {ds : List D} {vs : List V} {M : Hs} {Q : VK} (rh : RH X.prog X.w X.K Γ μ M H) (r : RVs X.K H μ ds vs) (h : Pst X.prog X.w X.K Γ (relV X.K) W σ μ H (if ds.length = n then F ds M else .no) Q) :
    spF X.prog X.w X.K Γ n F vs H Q (WE W σ) := by
  split at h
  · rename_i hl
    refine ⟨ds, M, μ, rh, r, hl, ?_⟩
    cases hF : F ds M with
    | ok d M' => rw [hF] at h; exact h
    | ex c fs M' => rw [hF] at h; exact h
    | no => rw [hF] at h; exact h
  · exact h.elim
theorem ex_call (c : Cal X.prog X.w X.K X.mg X.base Γ k x ps F) (hr : Room k X.A) (tk : Takes X W) (ha : EA X Γ W (e :: es) ga) (hg : Gl X x := by rfl) (hdb : (x == ("__debug__" : Str)) = false := by decide)
    (he : starEach (e :: es) X.env = (false, eval e X.env) :: starEach es X.env := by rfl) (hpl : (backTo pos (starEach es X.env)).any (·.1) = false := by rfl) : EX X Γ W (.Call (.Name x p) (e :: es) [] pos) (xCall ps.length F ga) := by
  obtain ⟨f, fd, F', hm, hk, hb⟩ := c.ex
  exact PE.imp (pe_callSD (E := WE W) F' hr hg hm hk hb .nil (fun σ => passAt tk σ) ha hdb he hpl) fun σ H Q ⟨ζ, M, μ, rr, h⟩ => ⟨ζ, M, μ, rr, Pst.then h fun vs H1 ds M1 μ1 nx rh rv h1 => by
    rw [List.append_nil]
    exact spF_of rh rv h1⟩
theorem ex_call0 (c : Cal X.prog X.w X.K X.mg X.base Γ k x ps F) (hr : Room k X.A) (tk : Takes X W) (hg : Gl X x := by rfl) (hdb : (x == ("__debug__" : Str)) = false := by decide) : EX X Γ W (.Call (.Name x p) [] [] pos) (xCall ps.length F aNil) := by
  obtain ⟨f, fd, F', hm, hk, hb⟩ := c.ex
  refine ⟨fun pins s σ H Q I h => ?_⟩
  obtain ⟨ζ, M, μ, rr, h⟩ := h
  refine wpAny_Call_Name_kw (ld_glob I hg hm ?_ hdb)
  exact PySem.W.callWith_K0 I.kIn hk (run_fnSD (us := []) (E := WE W) F' hr hb .nil (passAt tk σ) I .nil (spF_of rr.hp .nil h))
end
/-- a def by its body: np parameters, nl names -/
def fnS (np nl : Nat) (b : MS) : MF := fun ds M => match b (ds.map some ++ List.replicate (nl - np) none) M with
  | .nx _ M' => .ok .non M'
  | .rt d M' => .ok d M'
  | .ex c fs _ M' => .ex c fs M'
  | _ => .no
section
variable {P : Program} {w : World} {K : PySem.W.Frag} {mg : Str → Option Value} {base : Heap} {Γ : Gm}
theorem rsl_start {H : Hp} {μ : List Addr} {ds : List D} {vs : List V} {N : List Str} {n : Nat} (r : RVs K H μ ds vs) (hn : ds.length = n) : RSl K H μ (ds.map some ++ List.replicate (N.length - n) none) (L2.start N vs) := by
  have hl := r.length
  refine ⟨by unfold L2.start; simp only [List.length_append, List.length_map, List.length_replicate]; omega, fun i d h => ?_⟩
  by_cases hi : i < ds.length
  · rw [List.getElem?_append_left (by simpa using hi), List.getElem?_map] at h
    cases e : ds[i]? with
    | none => rw [e] at h; cases h
    | some d' =>
      rw [e] at h
      cases h
      obtain ⟨v, h1, h2⟩ := r.get e
      refine ⟨v, ?_, h2⟩
      unfold L2.start
      rw [List.getElem?_append_left (by simpa using (List.getElem?_eq_some_iff.mp h1).1), List.getElem?_map, h1]
      rfl
  · rw [List.getElem?_append_right (by simpa using hi), List.getElem?_replicate] at h
    split at h <;> cases h
theorem fn_mk {qual : Str} {params : Arguments} {body : List Stmt} {scope : Scope} {f : Addr} {fd : FuncData} {x : Str} {N ps : List Str} {k : Nat} {b : MS} (F : FunD K x qual params body scope [] [] f fd) (S : FnScope N ps scope)
    (hbody : ∀ (cdv : Value) (A : Around) (outer : List Env) (s : Shared) (H : Hp) (E : XK), Room k (A.deeper (envOfC qual scope s.heap.objs.size f cdv)) →
      ESs (cxOf (L2.CX P w) P w K mg base N qual scope f cdv A outer s H E) Γ (fun cls d _ H => E cls d H) body b) : FnOk P w K mg base (L2.CX P w) (k + 1) f fd ps (spF P w K Γ ps.length (fnS ps.length N.length b)) := by
  refine F.ok S (fun vs H Q E ⟨ds, M, μ, rh, r, hl, _⟩ => by rw [← r.length]; exact hl) fun cdv A outer s H vs Q E hr h => ?_
  obtain ⟨ds, M, μ, rh, r, hl, h⟩ := h
  refine ⟨_, hbody cdv A outer s H E hr, _, M, μ, ⟨rsl_start (N := N) r hl, rh⟩, ?_⟩
  unfold fnS at h
  cases hb : b (ds.map some ++ List.replicate (N.length - ps.length) none) M with
  | nx ζ M' => rw [hb] at h; exact fun σ' H' μ' a c _ => h _ _ _ a c .non
  | rt d M' => rw [hb] at h; exact h
  | bk ζ M' => rw [hb] at h; exact h.elim
  | ct ζ M' => rw [hb] at h; exact h.elim
  | ex c fs ζ M' => rw [hb] at h; exact fun cls dd σ' H' μ' a c _ e => h cls dd H' μ' a c e
  | no => rw [hb] at h; exact h.elim
end
end Mi
end
section
set_option maxRecDepth 100000
set_option maxHeartbeats 2000000
set_option autoImplicit false
namespace Mi
open PySem PySem.Spec PyProof.Rows L2

def isTupD : D → Bool
  | .tup _ => true
  | _ => false
/-- the key of a dict's look-up -/
def keyOf (d : D) : Option NestedKey := if isTupD d = true then match nkey d with
  | some k => if k.depth ≤ 8 then some k else none
  | none => none else none
def dGet (kvs : List (D × D)) (k : NestedKey) : Option D := (kvs.find? fun p => decide (nkey p.1 = some k)).map (·.2)
def dPut (kvs : List (D × D)) (k : NestedKey) (d v : D) : List (D × D) := if (dGet kvs k).isSome then kvs.map fun p => if nkey p.1 = some k then (p.1, v) else p else kvs ++ [(d, v)]
section
variable {X : Cx} {pins : List (Addr × Obj)} {σ : L2.St} {H : Hp} {s : Shared} {μ : List Addr}
mutual
theorem nest_of (I : Inv X pins σ H s) : ∀ {d : D} {v : V} {u : Value} {k : NestedKey}, RV X.K H μ d v → RelV v u → nkey d = some k → NestedIs s.heap k u
  | _, _, _, _, .non, r, h => by cases r; simp only [nkey] at h; cases h; exact .none
  | _, _, _, _, .bl b, r, h => by cases r; simp only [nkey] at h; cases h; exact .bool rfl
  | _, _, _, _, .int i, r, h => by obtain ⟨t, rfl⟩ := r; simp only [nkey] at h; cases h; exact .int i t
  | _, _, _, _, .str x, r, h => by obtain ⟨t, rfl⟩ := r; simp only [nkey] at h; cases h; exact .text x t
  | _, _, _, _, .tup g rs, r, h => by
    cases r
    simp only [nkey] at h
    obtain ⟨its, rv, ⟨o, ho, hc, n, hd⟩, _⟩ := I.tuple g
    cases e : nkeys _ with
    | none => rw [e] at h; cases h
    | some ks =>
      rw [e] at h
      cases h
      exact .tup ho hc hd (nests_of I rs (by simpa using rv) e)
  | _, _, _, _, .ref _, _, h => by simp [nkey] at h
  | _, _, _, _, .kls _ _, _, h => by simp [nkey] at h
  | _, _, _, _, .excN, _, h => by simp [nkey] at h
  | _, _, _, _, .excD _ _ _, _, h => by simp [nkey] at h
theorem nests_of (I : Inv X pins σ H s) : ∀ {ds : List D} {vs : List V} {us : List Value} {ks : List NestedKey}, RVs X.K H μ ds vs → Vals vs us → nkeys ds = some ks → NestedAll s.heap ks us
  | _, _, _, _, .nil, r, h => by cases r; simp only [nkeys] at h; cases h; exact .nil
  | _, _, _, _, .cons a b, r, h => by
    cases r with
    | cons r1 r2 =>
      simp only [nkeys] at h
      split at h
      · rename_i k ks h1 h2
        cases h
        exact .cons (nest_of I a r1 h1) (nests_of I b r2 h2)
      · cases h
end
theorem keyOf_ok {d : D} {k : NestedKey} (h : keyOf d = some k) : nkey d = some k ∧ k.depth ≤ 8 ∧ isTupD d = true := by
  unfold keyOf at h
  split at h
  · rename_i ht
    split at h
    · rename_i k' hk
      split at h
      · rename_i hd
        cases h
        exact ⟨hk, hd, ht⟩
      · cases h
    · cases h
  · cases h
theorem key_is (I : Inv X pins σ H s) {d : D} {v : V} {u : Value} {k : NestedKey} (h : keyOf d = some k) (r : RV X.K H μ d v) (ru : RelV v u) : ∃ a, v = .ref a ∧ u = .ref a ∧ (nestedKind X.prog X.w).is s.heap k a := by
  obtain ⟨h1, h2, h3⟩ := keyOf_ok h
  have n := nest_of I r ru h1
  cases r with
  | tup g rs => cases ru; exact ⟨_, rfl, rfl, n, h2⟩
  | _ => cases h3
theorem entries (I : Inv X pins σ H s) {kvs : List (D × D)} {es : List (NestedKey × Addr × V)} (r : Paired (REn X.K H μ) kvs es) : ∀ {xs : List (NestedKey × Addr × Value)}, Paired (fun (p : NestedKey × Addr × V) (q : NestedKey × Addr × Value) => p.1 = q.1 ∧ p.2.1 = q.2.1 ∧ RelV p.2.2 q.2.2) es xs → ∀ x ∈ xs, (nestedKind X.prog X.w).is s.heap x.1 x.2.1 := by
  induction r with
  | nil => intro xs h x hx; cases h; cases hx
  | cons r1 r2 ih =>
    intro xs h x hx
    cases h with
    | cons q1 q2 =>
      rcases List.mem_cons.mp hx with e | hx
      · subst e
        obtain ⟨h1, h2, h3, _⟩ := r1
        obtain ⟨e1, e2, _⟩ := q1
        rw [← e1, ← e2]
        exact ⟨nest_of (u := .ref _) I h3 rfl h1, h2⟩
      · exact ih q2 x hx
theorem dict_at (I : Inv X pins σ H s) {kvs : List (D × D)} {es : List (NestedKey × Addr × V)} {a : Addr} (r : Paired (REn X.K H μ) kvs es) (g : Rd H a (dHO X.prog X.w a es)) : ∃ xs, Paired (fun (p : NestedKey × Addr × V) (q : NestedKey × Addr × Value) => p.1 = q.1 ∧ p.2.1 = q.2.1 ∧ RelV p.2.2 q.2.2) es xs ∧
    s.heap.DictOfH (nestedKind X.prog X.w) a xs ∧ (a == sysModules) = false ∧ xs.length ≤ sizeLine := by
  obtain ⟨⟨xs, p, o, ds, ep, ho, hx, hd, he, hn, hs, hl⟩, _⟩ := g.ok I.hok
  exact ⟨xs, p, ⟨o, ds, ep, ho, hx, hd, he, entries I r p, hn⟩, hs, hl⟩
theorem atKey_of {K : PySem.W.Frag} {k : NestedKey} : ∀ {kvs : List (D × D)} {es : List (NestedKey × Addr × V)} {xs : List (NestedKey × Addr × Value)}, Paired (REn K H μ) kvs es → Paired (fun (p : NestedKey × Addr × V) (q : NestedKey × Addr × Value) => p.1 = q.1 ∧ p.2.1 = q.2.1 ∧ RelV p.2.2 q.2.2) es xs →
    (match dGet kvs k with
      | some d => ∃ p v, atKey xs k = some p ∧ RelV v p.2 ∧ RV K H μ d v
      | none => atKey xs k = none)
  | _, _, _, .nil, .nil => rfl
  | (d, v) :: kvs, (k', a, z) :: es, (k'', a', u) :: xs, .cons ⟨h1, h2, h3, h4⟩ r, .cons ⟨e1, e2, e3⟩ q => by
    have e1 : k' = k'' := e1
    have e2 : a = a' := e2
    subst e1 e2
    have h1 : nkey d = some k' := h1
    unfold dGet atKey
    rw [List.find?_cons, List.find?_cons]
    by_cases hk : k' = k
    · subst hk
      have c1 : decide (nkey d = some k') = true := decide_eq_true h1
      simp only [c1]
      simp only [decide_eq_true_eq, decide_true, Option.map_some]
      exact ⟨_, z, rfl, e3, h4⟩
    · have c1 : decide (nkey d = some k) = false := decide_eq_false (by rw [h1]; exact fun e => hk (Option.some.inj e))
      have c2 : decide (k' = k) = false := decide_eq_false hk
      simp only [c1, c2]
      exact atKey_of r q
theorem puts_of {K : PySem.W.Frag} {k : NestedKey} {d : D} {a : Addr} {v : V} {w' : D} {u : Value} (hk : nkey d = some k) (hd : k.depth ≤ 8) (rk : RV K H μ d (.ref a)) (rv : RV K H μ w' v) (ru : RelV v u) {kvs : List (D × D)} {es : List (NestedKey × Addr × V)} {xs : List (NestedKey × Addr × Value)} (r : Paired (REn K H μ) kvs es)
    (q : Paired (fun (p : NestedKey × Addr × V) (q : NestedKey × Addr × Value) => p.1 = q.1 ∧ p.2.1 = q.2.1 ∧ RelV p.2.2 q.2.2) es xs) :
    ∃ es', Paired (REn K H μ) (dPut kvs k d w') es' ∧ Paired (fun (p : NestedKey × Addr × V) (q : NestedKey × Addr × Value) => p.1 = q.1 ∧ p.2.1 = q.2.1 ∧ RelV p.2.2 q.2.2) es' (storedH xs k a u) := by
  have ha := atKey_of (k := k) r q
  unfold dPut storedH
  cases hg : dGet kvs k with
  | none =>
    rw [hg] at ha
    simp only at ha
    rw [ha]
    exact ⟨es ++ [(k, a, v)], paired_app r (.cons ⟨hk, hd, rk, rv⟩ .nil), paired_app q (.cons ⟨rfl, rfl, ru⟩ .nil)⟩
  | some d0 =>
    rw [hg] at ha
    simp only at ha
    obtain ⟨p, v0, e, _, _⟩ := ha
    rw [e]
    simp only [Option.isSome_some, if_true]
    refine ⟨es.map fun p => if p.1 = k then (p.1, p.2.1, v) else p, ?_, ?_⟩
    · clear q hg e
      induction r with
      | nil => exact .nil
      | @cons p1 q1 _ _ h t ih =>
        refine .cons ?_ ih
        obtain ⟨h1, h2, h3, h4⟩ := h
        dsimp only
        by_cases hk' : q1.1 = k
        · rw [if_pos hk', if_pos (by rw [h1, hk'])]
          exact ⟨h1, h2, h3, rv⟩
        · rw [if_neg hk', if_neg (by rw [h1]; exact fun e => hk' (Option.some.inj e))]
          exact ⟨h1, h2, h3, h4⟩
    · clear r hg e
      induction q with
      | nil => exact .nil
      | @cons p1 q1 _ _ h t ih =>
        refine .cons ?_ ih
        obtain ⟨h1, h2, h3⟩ := h
        unfold putAt
        dsimp only
        by_cases hk' : p1.1 = k
        · rw [if_pos hk', if_pos (by rw [← h1]; exact hk')]
          exact ⟨h1, h2, ru⟩
        · rw [if_neg hk', if_neg (by rw [← h1]; exact hk')]
          exact ⟨h1, h2, h3⟩
end

def hDct (M : Hs) (n : Nat) : Option (List (D × D)) := match M[n]? with
  | some (.dct kvs) => some kvs
  | _ => none
theorem hDct_ok {M : Hs} {n : Nat} {kvs : List (D × D)} (h : hDct M n = some kvs) : M[n]? = some (.dct kvs) := by
  unfold hDct at h
  split at h
  · cases h
    assumption
  · cases h
def xDict : MX := fun _ M => .ok (.ref M.length) (M ++ [.dct []])
def gInA (k : Bool → Bool) (x y : D) (M : Hs) : Option (D × Hs) := match y with
  | .ref n => match hDct M n with
    | some kvs => match keyOf x with
      | some q => some (.bl (k (dGet kvs q).isSome), M)
      | none => none
    | none => gInB k x y M
  | _ => gInB k x y M
def gIxA (x y : D) (M : Hs) : Option (D × Hs) := match x with
  | .ref n => match hDct M n with
    | some kvs => match keyOf y with
      | some q => match dGet kvs q with
        | some d => some (d, M)
        | none => none
      | none => none
    | none => gIx x y M
  | _ => gIx x y M
def gPutA (o i v : D) (M : Hs) : Option Hs := match o with
  | .ref n => match hDct M n with
    | some kvs => match keyOf i with
      | some q => if kvs.length < sizeLine then some (M.set n (.dct (dPut kvs q i v))) else none
      | none => none
    | none => gPutL o i v M
  | _ => gPutL o i v M
section
variable {X : Cx} {Γ : Gm} {W : WX} {a b : Expr} {fa fb : MX} {pos : Pos}
theorem ex_dict : EX X Γ W (.Dict [] [] pos) xDict := ⟨fun pins s σ H Q I ⟨ζ, M, μ, rr, h⟩ => by
  have hp := I.hok.fresh (Nat.le_refl s.heap.objs.size)
  refine wpAny_Dict_empty ⟨.ref s.heap.objs.size, _, I.laid (a := s.heap.objs.size) (o := dHO X.prog X.w s.heap.objs.size []) (t' := s.toks) (fun _ _ q => Heap.get?_push_of_some _ q) (Nat.le_refl _) ?_, rfl,
    h _ _ _ (Nx.fresh hp [_]) (rr.hp.alloc hp ⟨[], upd_same, .nil⟩) (.ref rr.hp.last)⟩
  have ho := Heap.get?_push_size s.heap (o := { cls := .type "dict", data := .dict #[] }) rfl
  refine ⟨⟨[], .nil, _, #[], 0, ho, ⟨rfl, rfl, rfl⟩, rfl, rfl, List.nodup_nil, beq_eq_false_iff_ne.mpr (Ne.symm (Nat.ne_of_lt I.big)), Nat.zero_le _⟩, ⟨_, ho⟩, ?_⟩
  rintro h1 h2 ⟨xs, p, o, ds, ep, ho, r⟩ k
  exact ⟨xs, p, o, ds, ep, k _ ho, r⟩⟩
theorem dExt {P : Program} {w : World} {d : Addr} {es : List (NestedKey × Addr × V)} : ∀ h1 h2 : Heap, dObj P w d es h1 → (∀ o, h1.get? d = some o → h2.get? d = some o) → dObj P w d es h2 := by
  rintro h1 h2 ⟨xs, p, o, ds, ep, ho, r⟩ k
  exact ⟨xs, p, o, ds, ep, k _ ho, r⟩
theorem ndct {P : Program} {w : World} {K : PySem.W.Frag} {μ : List Addr} {H : Hp} {M : Hs} (rh : RH P w K Γ μ M H) {n : Nat} {a : Addr} {kvs : List (D × D)} (h : hDct M n = some kvs) (e : μ[n]? = some a) : ∃ es, H a = some (dHO P w a es) ∧ Paired (REn K H μ) kvs es := rh.at_ n _ a (hDct_ok h) e
theorem m_inA (hr : Room 1 X.A) : Op2 X Γ (compareOp .In) (gInA id) := by
  have hu := hr.un
  intro pins s σ H x y v u Q I rx ry hq
  obtain ⟨d, e, M, μ, rh, rd, re, hq⟩ := hq
  unfold gInA at hq
  split at hq
  · split at hq
    · rename_i n kvs hk
      split at hq
      · rename_i q hq'
        obtain ⟨b, rfl, e1⟩ := ref_rel re
        cases ry
        obtain ⟨es, g, r⟩ := ndct rh hk e1
        obtain ⟨xs, p, hd, hs, _⟩ := dict_at I r (.inl g)
        obtain ⟨c, rfl, rfl, hi⟩ := key_is I hq' rd rx
        have ha := atKey_of (k := q) r p
        refine wpAny_in_heap (by show X.A.units + 1 + 8 < cLine; omega) hi hs hd ?_
        cases hg : dGet kvs q with
        | none =>
          rw [hg] at ha hq
          have ha : atKey xs q = none := ha
          rw [ha]
          exact ⟨.bl false, H, I.tok _, rfl, Pk.here rh hq (.bl _)⟩
        | some d0 =>
          rw [hg] at ha hq
          obtain ⟨p0, v0, e0, _, _⟩ := ha
          rw [e0]
          exact ⟨.bl true, H, I.tok _, rfl, Pk.here rh hq (.bl _)⟩
      · exact hq.elim
    · exact m_in (by omega) pins s σ H x y v u Q I rx ry ⟨_, _, M, μ, rh, rd, re, hq⟩
  · exact m_in (by omega) pins s σ H x y v u Q I rx ry ⟨_, _, M, μ, rh, rd, re, hq⟩
theorem wpAny_notIn_heap {prog : Program} {w : World} {K : Type} [DecidableEq K] {knd : HeapKind prog w K} {A : Around} {E : Value → Shared → Prop} {s : Shared} {d a : Addr} {k : K} {xs : List (K × Addr × Value)} {Q : Value → Shared → Prop} (hu : knd.room A.in1) (hkey : knd.is s.heap k a) (hd : (d == sysModules) = false) (hm : s.heap.DictOfH knd d xs)
    (h : Q (.bool (!(atKey xs k).isSome)) { s with toks := s.toks + knd.draws k }) : wpAny (model prog w) A (compareOp .NotIn (.ref a) (.ref d)) Q E s :=
  notIn_keyed (kvs := pairsH xs) hu hkey hd ⟨xs, hm, rfl⟩ (by rw [valueAt_pairsH]; simpa using h)
theorem m_notInA (hr : Room 1 X.A) : Op2 X Γ (compareOp .NotIn) (gInA not) := by
  have hu := hr.un
  intro pins s σ H x y v u Q I rx ry hq
  obtain ⟨d, e, M, μ, rh, rd, re, hq⟩ := hq
  unfold gInA at hq
  split at hq
  · split at hq
    · rename_i n kvs hk
      split at hq
      · rename_i q hq'
        obtain ⟨b, rfl, e1⟩ := ref_rel re
        cases ry
        obtain ⟨es, g, r⟩ := ndct rh hk e1
        obtain ⟨xs, p, hd, hs, _⟩ := dict_at I r (.inl g)
        obtain ⟨c, rfl, rfl, hi⟩ := key_is I hq' rd rx
        have ha := atKey_of (k := q) r p
        refine wpAny_notIn_heap (by show X.A.units + 1 + 8 < cLine; omega) hi hs hd ?_
        cases hg : dGet kvs q with
        | none =>
          rw [hg] at ha hq
          have ha : atKey xs q = none := ha
          rw [ha]
          exact ⟨.bl true, H, I.tok _, rfl, Pk.here rh hq (.bl _)⟩
        | some d0 =>
          rw [hg] at ha hq
          obtain ⟨p0, v0, e0, _, _⟩ := ha
          rw [e0]
          exact ⟨.bl false, H, I.tok _, rfl, Pk.here rh hq (.bl _)⟩
      · exact hq.elim
    · exact m_notIn (by omega) pins s σ H x y v u Q I rx ry ⟨_, _, M, μ, rh, rd, re, hq⟩
  · exact m_notIn (by omega) pins s σ H x y v u Q I rx ry ⟨_, _, M, μ, rh, rd, re, hq⟩
theorem put_any (hr : Room 1 X.A) : PSet X (rPut X.prog X.w X.K Γ gPutA) := by
  have hu := hr.un
  intro pins s σ H o i v ov iv u Q I ro ri rv ⟨d, e, f, M, μ, rh, rd, re, rf, h⟩
  unfold gPutA at h
  split at h
  · rename_i M' hg
    split at hg
    · split at hg
      · rename_i n kvs hk
        split at hg
        · rename_i q hq'
          split at hg
          · rename_i hl
            cases hg
            obtain ⟨b, rfl, e1⟩ := ref_rel rd
            cases ro
            obtain ⟨es, g, r⟩ := ndct rh hk e1
            obtain ⟨xs, p, hd, hs, hz⟩ := dict_at I r (.inl g)
            obtain ⟨c, rfl, rfl, hi⟩ := key_is I hq' re ri
            obtain ⟨k1, k2, k3⟩ := keyOf_ok hq'
            have hlen : xs.length < sizeLine := by
              have l1 := Paired.length r
              have l2 := Paired.length p
              omega
            obtain ⟨es', r', p'⟩ := puts_of k1 k2 re rf rv r p
            have hm : Mut (H b) := by rw [g]; trivial
            refine wpAny_setItem_heap (by show X.A.units + 1 + 8 < cLine; omega) hi hd (fun h' hd' sb => ?_) hz
            have new : ObjOk X.prog X.w (upd H b (dHO X.prog X.w b es')) h' b (dHO X.prog X.w b es') := by
              obtain ⟨o', ds', ep', ho', hx', hdt', he', _, hn'⟩ := hd'
              refine ⟨⟨_, p', o', ds', ep', ho', hx', hdt', he', hn', hs, ?_⟩, ⟨_, ho'⟩, dExt⟩
              unfold storedH
              split
              · simp; omega
              · simp; omega
            have hex : ∃ u, h'.get? b = some u := by obtain ⟨o', _, _, ho', _⟩ := hd'; exact ⟨o', ho'⟩
            refine ⟨_, I.write (x := b) (e := b) (o := dHO X.prog X.w b es') (t' := s.toks + (nestedKind X.prog X.w).draws q) hm (.inl rfl) (fun c ob hc hb => (sb.2 c hc).trans hb) hex new, h _ _ (Nx.write hm) (rh.write e1 hm ⟨es', upd_same, Paired.imp r' fun _ _ => REn.mono (Nx.write hm)⟩)⟩
          · cases hg
        · cases hg
      · exact put_list pins s σ H o i v ov iv u Q I ro ri rv ⟨_, _, _, M, μ, rh, rd, re, rf, by rw [hg]; exact h⟩
    · exact put_list pins s σ H o i v ov iv u Q I ro ri rv ⟨_, _, _, M, μ, rh, rd, re, rf, by rw [hg]; exact h⟩
  · exact h.elim
def rIxA (P : Program) (w : World) (K : PySem.W.Frag) (Γ : Gm) : R2 := r2 P w K Γ gIxA
theorem ix_all (hr : Room 1 X.A) : IxR X (rIxA X.prog X.w X.K Γ) := by
  have hu := hr.un
  intro value slice pins s σ H x y v u Q I rx ry ⟨d, e, M, μ, rh, rd, re, hq⟩ hs'
  have plain : Pk X.prog X.w X.K Γ (relV X.K) μ H (gIx d e M) Q → wpAny (model X.prog X.w) X.A (subscriptTail value slice v u) (EP X pins σ Q) X.xe s := by
    clear hq
    intro hq
    unfold gIx at hq
    split at hq
    · rename_i xs i hx
      cases re
      split at hq
      · rename_i z hz
        obtain ⟨a, vs, rfl, hs, r⟩ := hSeq_ok rh hx rd
        obtain ⟨u', g1, g2⟩ := atI_rel r hz
        refine ix_any value slice pins s σ H _ _ v u Q I rx ry ?_ hs'
        rcases hs with hs | hs
        · exact .inl ⟨_, _, _, _, rfl, rfl, hs, g1, Pk.here rh hq g2⟩
        · exact .inr ⟨_, _, _, _, rfl, rfl, hs, g1, Pk.here rh hq g2⟩
      · exact hq.elim
    · exact hq.elim
  unfold gIxA at hq
  split at hq
  · split at hq
    · rename_i n kvs hk
      split at hq
      · rename_i q hq'
        obtain ⟨b, rfl, e1⟩ := ref_rel rd
        cases rx
        obtain ⟨es, g, r⟩ := ndct rh hk e1
        obtain ⟨xs, p, hd, hs, _⟩ := dict_at I r (.inl g)
        obtain ⟨c, rfl, rfl, hi⟩ := key_is I hq' re ry
        have ha := atKey_of (k := q) r p
        cases hg : dGet kvs q with
        | none => rw [hg] at hq; exact hq.elim
        | some d0 =>
          rw [hg] at ha hq
          obtain ⟨p0, v0, e0, r0, r1⟩ := ha
          refine subscriptTail_builtinR (x := p0.2) hd.typeIs F.slot_dict_getitem.lookup (wpAny_getItem_heap (by show X.A.units + 1 + 8 < cLine; omega) hi hd e0 ⟨rfl, ?_⟩) hs'
          exact ⟨v0, H, I.tok _, r0, Pk.here rh hq r1⟩
      · exact hq.elim
    · exact plain hq
  · exact plain hq
theorem ex_ixA (hr : Room 1 X.A) (ha : EX X Γ W a fa) (hb : EX X Γ W b fb) (hs : PlainIx b := by intro _ _; rfl) : EX X Γ W (.Subscript a b pos) (x2 gIxA fa fb) :=
  PE.imp (pe_ix (ix_all hr) ha hb hs) fun _ _ _ h => tOp_of h
end
end Mi
end
section
set_option maxRecDepth 100000
set_option maxHeartbeats 2000000
set_option autoImplicit false
namespace Mi
open PySem PySem.Spec PyProof.Rows L2

section
variable {X : Cx} {Γ : Gm} {W : WX} {C : Addr} {x : Str} {p pos pos2 : Pos} {c n k : Nat} {e : Expr} {es : List Expr} {ga : MA}
/-- of a class without own __init__, with nothing -/
theorem pmk_bare {bmB : List Value} {B newId initId : String} (F : ExcBaseFacts B newId initId bmB) (q : PySem.W.excIn X.K C bmB newId = true) (gC : X.mg x = some (.ref C)) (kC : PySem.W.keepIn X.K (.ref C) = true) (r : Raises X (.ref C)) (hg : Gl X x)
    (hdb : (x == ("__debug__" : Str)) = false := by decide) : PMk X (.Call (.Name x p) [] [] pos) (fun _ H Q => Q (.ref C) none H) := by
  intro pins s σ H Q I h
  refine wpAny_Call_Name_kw (ld_glob I hg gC ?_ hdb)
  refine PySem.W.callWith_K0 I.kIn kC ?_
  obtain ⟨bm, N, nm, qn, bs, hdct, sn, sub, ab, col, dd, k0, k1, k2, k3, k5, mN, hC, hN, hni, T⟩ := exc_obj I.kIn q
  refine wpAny_call_exc_subT F T hC hN hni (fun h' e hm => ?_) (Nat.zero_le _)
  exact mk_of I hm r h (I.hok.gone hm.new)
/-- what the written part says of a class without __init__ -/
structure Rz0 (K : PySem.W.Frag) (mg : Str → Option Value) (C : Addr) (x : Str) : Prop where
  q : PySem.W.excIn K C [.type "ValueError", .type "Exception", .type "BaseException", .type "object"] "ValueError.__new__" = true
  g : mg x = some (.ref C)
  kp : PySem.W.keepIn K (.ref C) = true
  sb : PySem.W.subIn K (.ref C) (.type "BaseException") = some true
  ty : PySem.W.typeIn K (.ref C) = some (.type "type")
def sRaise0 (c : Nat) : MS := fun ζ M => .ex c [] ζ M
theorem es_raise0 (T : Rz0 X.K X.mg (Γ.cA c) x) (hc : X.calm = true) (tk : Takes X W) (hg : Gl X x := by rfl) (hdb : (x == ("__debug__" : Str)) = false := by decide) : ES X Γ W (.Raise (some (.Call (.Name x p) [] [] pos)) none pos2) (sRaise0 c) :=
  PS.imp (ps_raise hc tk (pmk_bare F.excBase_ValueError T.q T.g T.kp (raises_own T.sb T.ty) hg hdb)) fun E σ H ⟨ζ, M, μ, rr, h⟩ => h _ _ _ _ _ (Nx.refl _ _) rr.hp rr.sl ⟨rfl, .inl ⟨rfl, rfl⟩⟩
/-- __init__ puts all it is handed into fields; ns: the fields' names, the last one first -/
def spInit (C : Addr) (ns : List Str) : Sp := fun vs H Q _ => ∃ (a : Addr) (ys : List V), vs = .ref a :: ys ∧ ys.length = ns.length ∧ H a = some (exo a C none) ∧
  ∀ (dx : Addr) (H' : Hp), H dx = none → dx ≠ a → H' a = some (exo a C (some dx)) → H' dx = some (exd dx (ns.zip ys.reverse)) → (∀ b, b ≠ a → b ≠ dx → H' b = H b) → Q .non H'
structure RzI (P : Program) (w : World) (K : PySem.W.Frag) (mg : Str → Option Value) (base : Heap) (k : Nat) (C : Addr) (x : Str) (ns : List Str) : Prop where
  o : OexC K C
  i : ∃ f fd ps, PySem.W.findIn K (.ref C) "__init__" = some (some (.ref f)) ∧ PySem.W.typeIn K (.ref f) = some (.type "function") ∧ FnOk P w K mg base (L2.CX P w) k f fd ps (spInit C ns) ∧ Binds K fd ps []
  g : mg x = some (.ref C)
def sRaise (c n : Nat) (ga : MA) : MS := fun ζ M => RS.of ζ (ga ζ M) fun ds M1 => if ds.length = n then .ex c ds.reverse ζ M1 else .no
theorem es_raise (T : RzI X.prog X.w X.K X.mg X.base k (Γ.cA c) x (Γ.cN c)) (hl : (Γ.cN c).length = n) (hn : 0 < n ∧ n ≤ 900) (hr : Room (k + 1) X.A) (hc : X.calm = true) (tk : Takes X W) (ha : EA X Γ W (e :: es) ga) (hg : Gl X x := by rfl)
    (hdb : (x == ("__debug__" : Str)) = false := by decide) (he : starEach (e :: es) X.env = (false, eval e X.env) :: starEach es X.env := by rfl) (hpl : (backTo pos (starEach es X.env)).any (·.1) = false := by rfl) :
    ES X Γ W (.Raise (some (.Call (.Name x p) (e :: es) [] pos)) none pos2) (sRaise c n ga) := by
  obtain ⟨f, fd, ps, h1, h2, F1, hb⟩ := T.i
  refine PS.imp (ps_raise hc tk (pmk_oex T.o h1 h2 F1 hr hb .nil (fun pins σ H s e s' I hx => passAt (W := fun _ _ _ _ => False) (fun u s' hx => (by obtain ⟨_, _, _, _, _, _, _, _, _, _, _, _, _, _, _, _, z⟩ := hx; exact z.elim)) σ pins H s e s' I hx) hg T.g ha hdb he hpl)) fun E σ H ⟨ζ, M, μ, rr, h⟩ => ⟨ζ, M, μ, rr, PstS.then h rr.sl fun vs H1 ds M1 μ1 nx rh rv h1 => ?_⟩
  replace rv : RVs X.K H1 μ1 ds vs := rv
  split at h1
  · rename_i hd
    have hv : vs.length = (Γ.cN c).length := by rw [← rv.length, hd, hl]
    refine ⟨by omega, fun a hna => ⟨a, vs, by rw [List.append_nil], hv, upd_same, fun dx H2 hdx hne ea ed oth => ⟨rfl, dx, _, ea, ed, ?_, ?_⟩⟩⟩
    · rw [upd_ne hne] at hdx; exact hdx
    · rw [upd_ne hne] at hdx
      have eH : upd (del H2 a) dx (.xd ((Γ.cN c).zip vs.reverse)) = upd H1 dx (.xd ((Γ.cN c).zip vs.reverse)) := by
        funext b
        by_cases hb : b = dx
        · rw [hb, upd_same, upd_same]
        · rw [upd_ne hb, upd_ne hb]
          by_cases hb2 : b = a
          · rw [hb2, del_same, hna]
          · rw [del_ne hb2, oth b hb2 hb, upd_ne hb2]
      rw [eH]
      have nx1 := Nx.fresh0 (μ := μ1) (u := HO.xd ((Γ.cN c).zip vs.reverse)) hdx
      refine h1 _ _ _ _ _ nx1 (rh.fresh hdx) ((rr.sl.mono nx).mono nx1) ⟨rfl, ?_⟩
      exact .inr ⟨fun hz => by rw [List.reverse_eq_nil_iff] at hz; rw [hz] at hd; simp at hd; omega, _, _, rfl, upd_same, by rw [List.length_reverse, hd, hl], (rv.mono nx1).reverse⟩
  · exact h1.elim
def bInit1 (K : PySem.W.Frag) (f : Str) : TS := tOst K f (tVar 0) (tVar 1)
def bInit2 (K : PySem.W.Frag) (f g : Str) : TS := tSeq (tOst K f (tVar 0) (tVar 1)) (tOst K g (tVar 0) (tVar 2))
end
section
variable {P : Program} {w : World} {K : PySem.W.Frag} {mg : Str → Option Value} {base : Heap} {qual : Str} {params : Arguments} {body : List Stmt} {scope : Scope} {i : Addr} {fd : FuncData} {x : Str} {N : List Str} {C : Addr} {f g : Str}
theorem init_mk1 (F : FunD K x qual params body scope [] [] i fd) {a b : Str} (S : FnScope [a, b] [a, b] scope) (T : OexC K C) (hf : PySem.W.findIn K (.ref C) f = some none)
    (hbody : ∀ (cdv : Value) (A : Around) (outer : List Env) (s : Shared) (H : Hp) (E : XK), PSs (cxOf (L2.CX P w) P w K mg base [a, b] qual scope i cdv A outer s H E) body (bInit1 K f)) : FnOk P w K mg base (L2.CX P w) 1 i fd [a, b] (spInit C [f]) := by
  refine F.ok S (fun vs H Q E ⟨o, ys, e, hl, _⟩ => by rw [e]; simp at hl; simp [hl]) fun cdv A outer s H vs Q E hr h => ⟨_, hbody cdv A outer s H E, ?_⟩
  obtain ⟨o, ys, rfl, hl, ho, q⟩ := h
  match ys, hl with
  | [y], _ =>
    refine ⟨y, rfl, .ref o, rfl, o, C, rfl, T, hf, .inl ⟨ho, fun dx h1 h2 => q dx _ h1 h2 upd_same (by rw [upd_ne h2, upd_same]; rfl) fun b h3 h4 => by rw [upd_ne h3, upd_ne h4]⟩⟩
theorem init_mk2 (F : FunD K x qual params body scope [] [] i fd) {a b c : Str} (S : FnScope [a, b, c] [a, b, c] scope) (T : OexC K C) (hf : PySem.W.findIn K (.ref C) f = some none) (hg : PySem.W.findIn K (.ref C) g = some none)
    (hbody : ∀ (cdv : Value) (A : Around) (outer : List Env) (s : Shared) (H : Hp) (E : XK), PSs (cxOf (L2.CX P w) P w K mg base [a, b, c] qual scope i cdv A outer s H E) body (bInit2 K f g)) : FnOk P w K mg base (L2.CX P w) 1 i fd [a, b, c] (spInit C [g, f]) := by
  refine F.ok S (fun vs H Q E ⟨o, ys, e, hl, _⟩ => by rw [e]; simp at hl; simp [hl]) fun cdv A outer s H vs Q E hr h => ⟨_, hbody cdv A outer s H E, ?_⟩
  obtain ⟨o, ys, rfl, hl, ho, q⟩ := h
  match ys, hl with
  | [y, z], _ =>
    refine ⟨y, rfl, .ref o, rfl, o, C, rfl, T, hf, .inl ⟨ho, fun dx h1 h2 => ⟨z, rfl, .ref o, rfl, o, C, rfl, T, hg, .inr ⟨dx, [(f, y)], upd_same, by rw [upd_ne h2, upd_same], by simp, ?_⟩⟩⟩⟩
    exact q dx _ h1 h2 (by rw [upd_ne (Ne.symm h2), upd_same]) (by rw [upd_same]; rfl) fun b h3 h4 => by rw [upd_ne h4, upd_ne h3, upd_ne h4]
end
end Mi
end
section
set_option maxRecDepth 100000
set_option maxHeartbeats 2000000
set_option autoImplicit false
namespace Mi
open PySem PySem.Spec PyProof.Rows L2

/-- a clause, as the layer below takes it: its class, its name's slot, its suite -/
structure VC where
  c : Value
  sl : Option Nat
  ts : Addr → Value → Option Addr → TS
def ungo (sl : Option Nat) (σ : L2.St) : L2.St := match sl with
  | none => σ
  | some i => σ.set i none
def offE (sl : Option Nat) (D : Ends) : Ends := { nx := fun σ H => D.nx (ungo sl σ) H, rt := D.rt, bk := fun σ H => D.bk (ungo sl σ) H, ct := fun σ H => D.ct (ungo sl σ) H }
def onE (sl : Option Nat) (a : Addr) (σ : L2.St) : L2.St := match sl with
  | none => σ
  | some i => σ.set i (some (.ref a))
def wVC (K : PySem.W.Frag) (Wo : WX) (D : Ends) : List VC → WX
  | [] => Wo
  | v :: r => fun cls d σ H => ∃ b, PySem.W.exmOne K cls v.c = some b ∧ (b = true → ∀ a, H a = none → v.ts a cls d (offE v.sl D) (onE v.sl a σ) H) ∧ (b = false → wVC K Wo D r cls d σ H)
def suOk (X : Cx) (su : List Stmt) (ts : Addr → Value → Option Addr → TS) : Prop := ∀ (a : Addr) (oe : Obj) (cls : Value) (d : Option Addr) (pn : List (Addr × Obj)), Zc cls d oe → (∃ vs, oe.data = .fields vs) → PSs (X.suite a ((a, oe) :: pn)) su (ts a cls d)
inductive VCs (X : Cx) : List ExceptHandler → List VC → Prop
  | nil : VCs X [] []
  | bare {x : Str} {v : VC} {b : Stmt} {su : List Stmt} {np pos : Pos} {hds : List ExceptHandler} {l : List VC} (hc : Names X x v.c) (hs : v.sl = none) (hu : suOk X (b :: su) v.ts) (r : VCs X hds l) : VCs X (.ExceptHandler (some (.Name x np)) none (b :: su) pos :: hds) (v :: l)
  | named {x n : Str} {i : Nat} {v : VC} {b : Stmt} {su : List Stmt} {np pos : Pos} {hds : List ExceptHandler} {l : List VC} (hc : Names X x v.c) (hs : v.sl = some i) (hi : X.N[i]? = some n) (hl : X.env.kindOf n = some .local) (hu : suOk X (b :: su) v.ts) (r : VCs X hds l) :
      VCs X (.ExceptHandler (some (.Name x np)) (some n) (b :: su) pos :: hds) (v :: l)
section
variable {X : Cx} {body : List Stmt} {h₀ : ExceptHandler} {hds : List ExceptHandler} {l : List VC} {pos : Pos} {tb : WX → TS} {Wo : WX}
theorem not_frame {h B : Heap} {l : List Env} {a : Addr} {o : Obj} {vs : Array Value} (ff : h.FunFrames B l) (e : h.get? a = some o) (dd : o.data = .fields vs) : a ∉ frs l := fun hm => by
  obtain ⟨_, o', e', hnf⟩ := ff.mem hm
  rw [e] at e'
  cases e'
  exact hnf _ dd
theorem handled (hs : X.stack = X.env :: X.outer) (hf : X.env.frame = some X.env.locals) (hN : X.N.Nodup) (tk : Takes X Wo) {pins : List (Addr × Obj)} {σ : L2.St} {H : Hp} {D : Ends} {a : Addr} {B h3 : Heap} {sI s' : Shared} {cls : Value} {d : Option Addr}
    (J : Inv X pins σ H sI) (nb : ∀ b o, sI.heap.get? b = some o → b ∉ frs X.stack → B.get? b = some o) (up : sI.heap.UpToSlots h3) (na : H a = none) (os : s'.os = sI.os) (ag : AllBare s'.gens)
    (fl : HandSPX.FlyingZ B (X.env :: X.outer) a (Zc cls d) h3) {hds : List ExceptHandler} {l : List VC} (hk : VCs X hds l) : wVC X.K Wo D l cls d σ H → wpAny (model X.prog X.w) X.A (handleBy (.ref a) X.env hds) (SP X pins D) X.xe { s' with heap := h3 } := by
  have ok := J.ok
  have J3 : Inv X pins σ H { s' with heap := h3 } := J.landed nb fl.1 up os ag
  obtain ⟨oe3, vs3, he3, hz3, hd3⟩ := fl.there
  have nfr := not_frame fl.2.2.1 he3 hd3
  have nL : a ≠ X.env.locals := fun z => nfr (List.mem_filterMap.mpr ⟨X.env, List.mem_cons_self, by rw [hf, z]⟩)
  have nF : a ∉ X.fs := fun hm => by
    obtain ⟨e, he, q⟩ := List.mem_filterMap.mp hm
    exact nfr (List.mem_filterMap.mpr ⟨e, List.mem_cons_of_mem _ he, q⟩)
  have S3 := J3.suite he3 hd3 na nL nF
  have LT : PySem.W.Looks (model X.prog X.w) h3 (typeOf (.ref a)) cls := fun A Q E s k q => wpAny_typeOf_ref (k _ _ he3) (by rw [hz3.1]; exact q)
  have test : ∀ {x : Str} {c : Value} {np : Pos} {Q : Value → Shared → Prop} {E : Value → Shared → Prop}, Names X x c → Q c { s' with heap := h3 } → wpAny (model X.prog X.w) (X.A.mark (some (.ref a))) (eval (.Name x np) X.env) Q E { s' with heap := h3 } := fun hc q => by
    obtain ⟨hg, hdbg, hm | ⟨hm, hv, hnn⟩⟩ := hc
    · exact ld_glob (X := X.suite a ((a, oe3) :: (X.pn ++ pins))) S3 hg hm q hdbg
    · exact ld_blt (X := X.suite a ((a, oe3) :: (X.pn ++ pins))) S3 hg hm hv q hnn hdbg
  have land : ∀ {h4' : Heap}, HandSPX.FlyingZ B (X.env :: X.outer) a (Zc cls d) h4' → h3.UpToSlots h4' → ∃ oe4, (∃ vs, oe4.data = .fields vs) ∧ Zc cls d oe4 ∧ Inv (X.suite a ((a, oe4) :: (X.pn ++ pins))) [] σ H { s' with heap := h4' } := fun {h4'} fl4 up4 => by
    obtain ⟨oe4, vs4, he4, hz4, hd4⟩ := fl4.there
    exact ⟨oe4, ⟨_, hd4⟩, hz4, Inv.suite (s := { s' with heap := h4' }) (J.landed (s' := { s' with heap := h4' }) nb fl4.1 (up.trans up4) os ag) he4 hd4 na nL nF⟩
  induction hk with
  | nil =>
    intro w
    refine wpAny_handleBy_nil ?_
    obtain ⟨k1, k2, k3, oe, vs, T, oT, ts', he, hz, hd, h1, hr⟩ := id fl
    unfold PySem.passOn
    refine wpAny_bind (wpAny_field he hd h1 ?_)
    rw [if_neg (show ¬ ((Value.ref T == Value.none) = true) from by simp)]
    have fin : wpAny (model X.prog X.w) X.A (setFlight (.ref a) X.env.frame) (fun _ s4 => wpAny (model X.prog X.w) X.A (throw (.ref a) : Sem Flow) (SP X pins D) X.xe s4) X.xe { s' with heap := h3 } := by
      rw [hf]
      refine HandSPX.setFlight_upZ fl fun h4 hh4 up4 => wpAny_throw (tk _ _ ⟨a, B, sI, pins, σ, H, cls, d, rfl, J, nb, up.trans up4, .inr (.inr (by rw [hs]; exact hh4)), na, os, ag, w⟩)
    first
      | exact wpAny_bind (wpAny_pure (wpAny_bind fin))
      | exact wpAny_bind fin
  | @bare x v b₀ su np pos' hds2 l2 hc hsl hu r ih =>
    rintro ⟨b, hb1, hyes, hno⟩
    have LM := PySem.W.exm_one (M := model X.prog X.w) J3.kIn LT hb1
    refine wpAny_handleBy_cons (codeAny_handlers_test (test hc (LM.here ?_))) (by intro q; cases q)
    cases b with
    | false => exact ih (hno rfl)
    | true =>
      refine codeAny_handlers_suite (HandSPX.lands_againZ fl fun h4 fl4 up4 => ?_)
      obtain ⟨oe4, hv4, hz4, S4⟩ := land fl4 up4
      have hy := hyes rfl a na
      rw [hsl] at hy
      refine wpAny_mono ((hu a oe4 cls d (X.pn ++ pins) hz4 hv4).run [] _ _ H _ S4 hy) (fun f s6 hsp => ?_) (fun _ _ z => False.elim z)
      cases f with
      | next => obtain ⟨σ6, H6, S6, q6⟩ := hsp; exact ⟨_, _, S6.unsuite ok, q6⟩
      | brk => obtain ⟨σ6, H6, S6, q6⟩ := hsp; exact ⟨_, _, S6.unsuite ok, q6⟩
      | cont => obtain ⟨σ6, H6, S6, q6⟩ := hsp; exact ⟨_, _, S6.unsuite ok, q6⟩
      | ret u => obtain ⟨v6, σ6, H6, S6, r6, q6⟩ := hsp; exact ⟨_, _, _, S6.unsuite ok, r6, q6⟩
  | @named x n i v b₀ su np pos' hds2 l2 hc hsl hi hln hu r ih =>
    rintro ⟨b, hb1, hyes, hno⟩
    have LM := PySem.W.exm_one (M := model X.prog X.w) J3.kIn LT hb1
    refine wpAny_handleBy_cons (codeAny_handlers_test (test hc (LM.here ?_))) (by intro q; cases q)
    cases b with
    | false => exact ih (hno rfl)
    | true =>
      refine codeAny_handlers_suite_as (HandSPX.lands_againZ fl fun h4 fl4 up4 => ?_)
      obtain ⟨oe4, hv4, hz4, S4⟩ := land fl4 up4
      have hy := hyes rfl a na
      rw [hsl] at hy
      refine store_ok (X := X.suite a ((a, oe4) :: (X.pn ++ pins))) (v := .ref a) S4 hN hi (.inl hln) rfl (fun s5 S5 => ?_) (.inr hln)
      refine wpAny_mono ((hu a oe4 cls d (X.pn ++ pins) hz4 hv4).run [] s5 _ H _ S5 hy) (fun f s6 hsp => ?_) (fun _ _ z => False.elim z)
      have last : ∀ {σ6 : L2.St} {H6 : Hp} {Q : Shared → Prop}, Inv (X.suite a ((a, oe4) :: (X.pn ++ pins))) [] σ6 H6 s6 → (∀ s7, Inv X pins (σ6.set i none) H6 s7 → Q s7) →
          wpAny (model X.prog X.w) X.A (do bindName X.env n .none; unbindBehindTheSuite X.env n pos') (fun _ s7 => Q s7) X.xe s6 := fun S6 hq => gone_ok (S6.unsuite ok) hN hi hln hq
      cases f with
      | next => obtain ⟨σ6, H6, S6, q6⟩ := hsp; exact last S6 fun s7 J7 => ⟨_, _, J7, q6⟩
      | brk => obtain ⟨σ6, H6, S6, q6⟩ := hsp; exact last S6 fun s7 J7 => ⟨_, _, J7, q6⟩
      | cont => obtain ⟨σ6, H6, S6, q6⟩ := hsp; exact last S6 fun s7 J7 => ⟨_, _, J7, q6⟩
      | ret u => obtain ⟨v6, σ6, H6, S6, r6, q6⟩ := hsp; exact last S6 fun s7 J7 => ⟨_, _, _, J7, r6, q6⟩
theorem ps_tries (hs : X.stack = X.env :: X.outer) (hf : X.env.frame = some X.env.locals) (hN : X.N.Nodup) (tk : Takes X Wo)
    (hb : ∀ (W : WX) (pn : List (Addr × Obj)) (xe : Value → Shared → Prop), Takes (X.tr pn xe) W → PassesOwn (model X.prog X.w) X.A X.env xe → PSs (X.tr pn xe) body (tb W))
    (hh : VCs X (h₀ :: hds) l) : PS X (.Try body (h₀ :: hds) [] [] pos) (fun D σ H => tb (wVC X.K Wo D l) D σ H) := by
  refine ⟨fun pins s σ H D I h => ?_⟩
  have ok := I.ok
  have hfr : X.A.frames = some (X.env :: X.outer) := by rw [ok.frames, hs]
  refine wpAny_Try_except ?_
  refine wpAny_mono ((hb (wVC X.K Wo D l) (X.pn ++ pins) (fun e s₁ => wpAny (model X.prog X.w) X.A (noteFrame e X.env) (fun _ s₂ => wpAny (model X.prog X.w) X.A (setFlight e none) (fun _ s₃ =>
    wpAny (model X.prog X.w) X.A (handleBy e X.env (h₀ :: hds)) (SP X pins D) X.xe s₃) X.xe s₂) X.xe s₁) (fun u s' xx => ?_) PassesOwn.looking).run [] s σ H D (I.toTry _) h) (fun f s1 hsp => ?_) (fun e s1 he => he)
  · obtain ⟨a, B, sI, pins', σ', H', cls, d, rfl, J', nb, up, sky, na, os, ag, w⟩ := xx
    have J : Inv X pins σ' H' sI := J'.ofTry ok
    have sky' : Sky B (X.env :: X.outer) a (Zc cls d) X.env.locals s'.heap := by rw [← hs]; exact sky
    show wpAny (model X.prog X.w) X.A (noteFrame (.ref a) X.env) _ _ _
    exact Sky.land Zc.steady hfr hf sky' fun h3 fl3 up3 => handled hs hf hN tk J nb (up.trans up3) na os ag fl3 hh w
  · cases f with
    | next => obtain ⟨σ', H', J', q⟩ := hsp; exact wpAny_execs_nil ⟨σ', H', J'.ofTry ok, q⟩
    | brk => obtain ⟨σ', H', J', q⟩ := hsp; exact ⟨σ', H', J'.ofTry ok, q⟩
    | cont => obtain ⟨σ', H', J', q⟩ := hsp; exact ⟨σ', H', J'.ofTry ok, q⟩
    | ret u => obtain ⟨v, σ', H', J', r, q⟩ := hsp; exact ⟨v, σ', H', J'.ofTry ok, r, q⟩
end
end Mi
end
section
set_option maxRecDepth 100000
set_option maxHeartbeats 2000000
set_option autoImplicit false
namespace Mi
open PySem PySem.Spec PyProof.Rows L2

/-- a clause: which classes it takes, its name's slot, its suite -/
structure CL where
  ma : Nat → Option Bool
  sl : Option Nat
  f : Addr → Option Addr → Nat → List D → MS
def offS (sl : Option Nat) (ζ : Sl) : Sl := match sl with
  | none => ζ
  | some i => ζ.set i none
def onS (sl : Option Nat) (d : D) (ζ : Sl) : Sl := match sl with
  | none => ζ
  | some i => ζ.set i (some d)
def sEnd (sl : Option Nat) : RS → RS
  | .nx ζ M => .nx (offS sl ζ) M
  | .bk ζ M => .bk (offS sl ζ) M
  | .ct ζ M => .ct (offS sl ζ) M
  | .rt d M => .rt d M
  | _ => .no
open Classical in
noncomputable def uni (f : Addr → Addr → RS) : RS := if h : ∃ r, ∀ a d, f a d = r then h.choose else .no
theorem uni_eq {f : Addr → Addr → RS} {r : RS} (h : ∀ a d, f a d = r) : uni f = r := by
  have hh : ∃ r, ∀ a d, f a d = r := ⟨r, h⟩
  unfold uni
  rw [dif_pos hh]
  exact (hh.choose_spec 0 0).symm.trans (h 0 0)
theorem uni_at {f : Addr → Addr → RS} (hn : uni f ≠ .no) (a d : Addr) : f a d = uni f := by
  unfold uni at hn ⊢
  split
  · rename_i hh
    exact hh.choose_spec a d
  · rename_i hh
    rw [dif_neg hh] at hn
    exact absurd rfl hn
def dOf (fs : List D) (d : Addr) : Option Addr := if fs.isEmpty = true then none else some d
def suR (nm : Nat → List Str) (h : CL) (c : Nat) (fs : List D) (ζ : Sl) (M : Hs) (a d : Addr) : RS := sEnd h.sl (h.f a (dOf fs d) c fs (onS h.sl (.exc a (dOf fs d) c (nm c) fs) ζ) M)
noncomputable def tryR (nm : Nat → List Str) : List CL → Nat → List D → Sl → Hs → RS
  | [], c, fs, ζ, M => .ex c fs ζ M
  | h :: r, c, fs, ζ, M => match h.ma c with
    | none => .no
    | some true => uni (suR nm h c fs ζ M)
    | some false => tryR nm r c fs ζ M
noncomputable def sTry (nm : Nat → List Str) (b : MS) (l : List CL) : MS := fun ζ M => match b ζ M with
  | .ex c fs ζ' M' => tryR nm l c fs ζ' M'
  | r => r
def suD (X : Cx) (Γ : Gm) (su : List Stmt) (f : Addr → Option Addr → Nat → List D → MS) : Prop := ∀ (a : Addr) (oe : Obj) (c : Nat) (d : Option Addr) (fs : List D) (pn : List (Addr × Obj)), Zc (.ref (Γ.cA c)) d oe → (∃ vs, oe.data = .fields vs) → ESs (X.suite a ((a, oe) :: pn)) Γ W0 su (f a d c fs)
inductive CLs (X : Cx) (Γ : Gm) : List ExceptHandler → List CL → Prop
  | nil : CLs X Γ [] []
  | bare {x : Str} {cv : Value} {v : CL} {b : Stmt} {su : List Stmt} {np pos : Pos} {hds : List ExceptHandler} {l : List CL} (hc : Names X x cv) (hm : ∀ c b, v.ma c = some b → PySem.W.exmOne X.K (.ref (Γ.cA c)) cv = some b) (hs : v.sl = none) (hu : suD X Γ (b :: su) v.f) (r : CLs X Γ hds l) :
      CLs X Γ (.ExceptHandler (some (.Name x np)) none (b :: su) pos :: hds) (v :: l)
  | named {x n : Str} {i : Nat} {cv : Value} {v : CL} {b : Stmt} {su : List Stmt} {np pos : Pos} {hds : List ExceptHandler} {l : List CL} (hc : Names X x cv) (hm : ∀ c b, v.ma c = some b → PySem.W.exmOne X.K (.ref (Γ.cA c)) cv = some b) (hs : v.sl = some i) (hi : X.N[i]? = some n)
      (hl : X.env.kindOf n = some .local) (hu : suD X Γ (b :: su) v.f) (r : CLs X Γ hds l) : CLs X Γ (.ExceptHandler (some (.Name x np)) (some n) (b :: su) pos :: hds) (v :: l)
def tsOf (X : Cx) (Γ : Gm) (v : CL) : Addr → Value → Option Addr → TS := fun a cls d E σ H => ∃ c fs, cls = .ref (Γ.cA c) ∧ tS X.prog X.w X.K Γ W0 (v.f a d c fs) E σ H
theorem suD_ok {X : Cx} {Γ : Gm} {su : List Stmt} {v : CL} (h : suD X Γ su v.f) : suOk X su (tsOf X Γ v) := by
  intro a oe cls d pn hz hf
  refine ⟨fun pins s σ H E I ⟨c, fs, e, t⟩ => ?_⟩
  subst e
  exact (h a oe c d fs pn hz hf).run pins s σ H E I t
/-- the clauses below -/
theorem CLs.under {X : Cx} {Γ : Gm} {hds : List ExceptHandler} {l : List CL} (h : CLs X Γ hds l) : ∃ vl, VCs X hds vl ∧ Paired (fun (v : VC) (u : CL) => v.sl = u.sl ∧ v.ts = tsOf X Γ u ∧ ∀ c b, u.ma c = some b → PySem.W.exmOne X.K (.ref (Γ.cA c)) v.c = some b) vl l := by
  induction h with
  | nil => exact ⟨[], .nil, .nil⟩
  | @bare x cv v b su np pos hds l hc hm hs hu r ih =>
    obtain ⟨vl, h1, h2⟩ := ih
    exact ⟨⟨cv, v.sl, tsOf X Γ v⟩ :: vl, .bare hc hs (suD_ok hu) h1, .cons ⟨rfl, rfl, hm⟩ h2⟩
  | @named x n i cv v b su np pos hds l hc hm hs hi hl hu r ih =>
    obtain ⟨vl, h1, h2⟩ := ih
    exact ⟨⟨cv, v.sl, tsOf X Γ v⟩ :: vl, .named hc hs hi hl (suD_ok hu) h1, .cons ⟨rfl, rfl, hm⟩ h2⟩
theorem RSl.off {K : PySem.W.Frag} {H : Hp} {μ : List Addr} {ζ : Sl} {σ : L2.St} (r : RSl K H μ ζ σ) (sl : Option Nat) : RSl K H μ (offS sl ζ) (ungo sl σ) := by
  cases sl with
  | none => exact r
  | some i => exact r.wiped [i]
theorem RSl.on {K : PySem.W.Frag} {H : Hp} {μ : List Addr} {ζ : Sl} {σ : L2.St} {d : D} {a : Addr} (r : RSl K H μ ζ σ) (rv : RV K H μ d (.ref a)) (sl : Option Nat) : RSl K H μ (onS sl d ζ) (onE sl a σ) := by
  cases sl with
  | none => exact r
  | some i => exact r.set rv i
section
variable {P : Program} {w : World} {K : PySem.W.Frag} {Γ : Gm} {W : WX} {μ : List Addr} {H : Hp}
theorem PstS.suited {sl : Option Nat} {r : RS} {E : Ends} (h : PstS P w K Γ W μ H (sEnd sl r) E) : PstS P w K Γ W0 μ H r (offE sl E) := by
  cases r with
  | nx ζ M => exact fun σ' H' μ' a b c => h _ _ _ a b (c.off sl)
  | bk ζ M => exact fun σ' H' μ' a b c => h _ _ _ a b (c.off sl)
  | ct ζ M => exact fun σ' H' μ' a b c => h _ _ _ a b (c.off sl)
  | rt d M => exact h
  | ex c fs ζ M => exact h.elim
  | no => exact h.elim
theorem RX.exc {c : Nat} {fs : List D} {cls : Value} {dd : Option Addr} (x : RX K Γ H μ c fs cls dd) (a : Addr) : (∃ d, dd = dOf fs d) ∧ cls = .ref (Γ.cA c) ∧ RV K H μ (.exc a dd c (Γ.cN c) fs) (.ref a) := by
  obtain ⟨h1, ⟨h2, h3⟩ | ⟨h2, d, vs, h3, h4, h5, h6⟩⟩ := x
  · subst h2 h3
    exact ⟨⟨0, rfl⟩, h1, .excN⟩
  · subst h3
    refine ⟨⟨d, ?_⟩, h1, .excD h4 h5 h6⟩
    unfold dOf
    rw [if_neg (by rw [List.isEmpty_iff]; exact h2)]
theorem caught {X : Cx} {Γ : Gm} {W : WX} {μ : List Addr} {H : Hp} {E : Ends} {vl : List VC} {l : List CL} (hp : Paired (fun (v : VC) (u : CL) => v.sl = u.sl ∧ v.ts = tsOf X Γ u ∧ ∀ c b, u.ma c = some b → PySem.W.exmOne X.K (.ref (Γ.cA c)) v.c = some b) vl l) {c : Nat} {fs : List D} {ζ : Sl} {M : Hs}
    (h : PstS X.prog X.w X.K Γ W μ H (tryR Γ.cN l c fs ζ M) E) {cls : Value} {dd : Option Addr} {σ : L2.St} (rh : RH X.prog X.w X.K Γ μ M H) (sl : RSl X.K H μ ζ σ) (rx : RX X.K Γ H μ c fs cls dd) : wVC X.K W E vl cls dd σ H := by
  induction hp with
  | nil => exact h _ _ _ _ _ (Nx.refl _ _) rh sl rx
  | @cons v u vl l hv t ih =>
    obtain ⟨e1, e2, hm⟩ := hv
    simp only [tryR] at h
    obtain ⟨⟨d, hd⟩, hc, rv⟩ := rx.exc 0
    cases hma : u.ma c with
    | none => rw [hma] at h; exact h.elim
    | some b =>
      rw [hma] at h
      refine ⟨b, by rw [hc]; exact hm c b hma, fun hb a hna => ?_, fun hb => ?_⟩
      · subst hb
        have h : PstS X.prog X.w X.K Γ W μ H (uni (suR Γ.cN u c fs ζ M)) E := h
        have hu : uni (suR Γ.cN u c fs ζ M) ≠ .no := fun z => by rw [z] at h; exact h
        rw [← uni_at hu a d] at h
        rw [e2, e1]
        refine ⟨c, fs, hc, _, M, μ, ⟨sl.on (rx.exc a).2.2 u.sl, rh⟩, ?_⟩
        unfold suR at h
        rw [← hd] at h
        exact h.suited
      · subst hb
        exact ih h
end
section
variable {X : Cx} {Γ : Gm} {W : WX} {body : List Stmt} {h₀ : ExceptHandler} {hds : List ExceptHandler} {l : List CL} {pos : Pos} {mb : MS}
theorem es_try (hs : X.stack = X.env :: X.outer) (hf : X.env.frame = some X.env.locals) (hN : X.N.Nodup) (tk : Takes X W)
    (hb : ∀ (W : WX) (pn : List (Addr × Obj)) (xe : Value → Shared → Prop), Takes (X.tr pn xe) W → PassesOwn (model X.prog X.w) X.A X.env xe → ESs (X.tr pn xe) Γ W body mb)
    (hh : CLs X Γ (h₀ :: hds) l) : ES X Γ W (.Try body (h₀ :: hds) [] [] pos) (sTry Γ.cN mb l) := by
  obtain ⟨vl, h1, h2⟩ := hh.under
  refine PS.imp (ps_tries hs hf hN tk (tb := fun W => tS X.prog X.w X.K Γ W mb) (fun W pn xe t p => hb W pn xe t p) h1) fun E σ H ⟨ζ, M, μ, rr, h⟩ => ⟨ζ, M, μ, rr, ?_⟩
  unfold sTry at h
  cases hr : mb ζ M with
  | nx ζ1 M1 => rw [hr] at h; exact h
  | rt d M1 => rw [hr] at h; exact h
  | bk ζ1 M1 => rw [hr] at h; exact h
  | ct ζ1 M1 => rw [hr] at h; exact h
  | no => rw [hr] at h; exact h
  | ex c fs ζ1 M1 =>
    rw [hr] at h
    exact fun cls dd σ' H' μ' nx rh sl rx => caught h2 (PstS.mono h nx) rh sl rx
end

/-- what a class must say for isinstance -/
structure XcC (K : PySem.W.Frag) (C : Addr) : Prop where
  cl : (PySem.W.clsIn K C).isSome = true
  ga : PySem.W.findIn K (.ref C) "__getattribute__" = some (some (.builtin "BaseException.__getattribute__"))
  gg : PySem.W.findIn K (.ref C) "__getattr__" = some none
  sb : PySem.W.subIn K (.ref C) (.type "BaseException") = some true
  hd : PySem.W.hasDictIn K C = true
  ca : PySem.W.findIn K (.ref C) "__class__" = some (some (.builtin "object.__class__"))
  cn : PySem.W.specialIn K (.builtin "object.__class__") "__get__" = some (some (.builtin "getset_descriptor.__get__"))
  ct : PySem.W.takesIn K (.builtin "object.__class__") = some true
  cm : PySem.W.mroIn K C (.type "object") = some true
def xIsE (a : Addr) (d : Option Addr) (c : Nat) (ma : Nat → Option Bool) (f : MX) : MX := fun ζ M => (f ζ M).bind fun y M1 => match y with
  | .exc a' d' c' _ _ => if a' = a ∧ c' = c ∧ d' = d then match ma c with
    | some b => .ok (.bl b) M1
    | none => .no else .no
  | _ => .no
def xXf (a : Addr) (d : Option Addr) (c i : Nat) (f : MX) : MX := fun ζ M => (f ζ M).bind fun y M1 => match y with
  | .exc a' d' c' _ fs => if a' = a ∧ c' = c ∧ d' = d then match d, fs[i]? with
    | some _, some z => .ok z M1
    | _, _ => .no else .no
  | _ => .no
def rXi (P : Program) (w : World) (K : PySem.W.Frag) (Γ : Gm) (a : Addr) (d : Option Addr) (C : Addr) (cv : Value) : List V → Hp → VK → Prop := fun xs H Q => XcC K C ∧ ∃ (cx : V) (b : Bool), xs = [.ref a, cx] ∧ (∀ u, RelV cx u → u = cv) ∧ PySem.W.kitOne K (.ref C) cv = some b ∧ (∀ dd, d = some dd → ∃ fs, H dd = some (.xd fs)) ∧ Q (.bl b) H
theorem call_xi {X : Cx} {Γ : Gm} {a C : Addr} {oe : Obj} {d : Option Addr} {cv : Value} {pn : List (Addr × Obj)} (hz : Zc (.ref C) d oe) (hf : ∃ vs, oe.data = .fields vs) : CallR (X.suite a ((a, oe) :: pn)) (.builtin "isinstance") (rXi X.prog X.w X.K Γ a d C cv) := by
  intro pins s σ H xs us Q I r h
  obtain ⟨T, cx, b, rfl, hcv, e, hd, q⟩ := h
  cases r with
  | cons rx rr =>
    cases rr with
    | cons rt rr =>
      cases rr
      cases rx
      have ec := hcv _ rt
      subst ec
      obtain ⟨hget, _⟩ := I.pin (a, oe) (List.mem_append.mpr (.inl List.mem_cons_self))
      obtain ⟨vs, hv⟩ := hf
      have J : ∃ od, PySem.W.InstAt s.heap a oe C od := by
        obtain ⟨oc, odi, oda, osl⟩ := oe
        obtain ⟨h1, h2⟩ := hz
        dsimp only at h1 h2 hv
        subst h1 h2 hv
        cases odi with
        | none => exact ⟨none, hget, rfl, rfl, trivial⟩
        | some dd =>
          obtain ⟨fs, hx⟩ := hd dd rfl
          have ho : ObjOk X.prog X.w H s.heap dd (.xd fs) := I.hok dd _ hx
          obtain ⟨mA, hns, _⟩ := ho
          obtain ⟨od, ho, _⟩ := lookIn_ns hns
          exact ⟨some od, hget, rfl, rfl, ho⟩
      obtain ⟨od, J⟩ := J
      exact PySem.W.kia_one (PySem.W.kitx_exc T.cl T.ga T.gg T.sb T.ca T.cn T.ct T.cm) I.kIn J e (fun z => nomatch z) fun tk => ⟨.bl b, H, I.kept (t' := tk) fun _ _ z => z, rfl, q⟩
section
variable {X : Cx} {Γ : Gm} {W : WX} {a : Addr} {oe : Obj} {c : Nat} {d : Option Addr} {pn : List (Addr × Obj)} {e : Expr} {fe : MX} {x f : Str} {p p2 pos : Pos} {cv : Value} {cx : V} {ma : Nat → Option Bool}
theorem exc_dict {K : PySem.W.Frag} {H : Hp} {μ : List Addr} {a' : Addr} {d' : Option Addr} {c' : Nat} {ns : List Str} {fs : List D} {v : V} (r : RV K H μ (.exc a' d' c' ns fs) v) : v = .ref a' ∧ ∀ dd, d' = some dd → ∃ vs, H dd = some (.xd (ns.zip vs)) ∧ fs.length = ns.length ∧ RVs K H μ fs vs := by
  cases r with
  | excN => exact ⟨rfl, fun dd h => nomatch h⟩
  | excD h l r => exact ⟨rfl, fun dd h' => by cases h'; exact ⟨_, h, l, r⟩⟩
theorem ex_isE (hz : Zc (.ref (Γ.cA c)) d oe) (hf : ∃ vs, oe.data = .fields vs) (hma : ∀ b, ma c = some b → XcC X.K (Γ.cA c) ∧ PySem.W.kitOne X.K (.ref (Γ.cA c)) cv = some b) (he : EX (X.suite a ((a, oe) :: pn)) Γ W e fe)
    (hC : PE (X.suite a ((a, oe) :: pn)) (.Name x p2) (tC cx)) (hcx : ∀ u, RelV cx u → u = cv) (hm : X.mg "isinstance" = none) (hg : Gl X "isinstance" := by rfl)
    (he1 : starEach [e, .Name x p2] X.env = (false, eval e X.env) :: starEach [.Name x p2] X.env := by rfl) : EX (X.suite a ((a, oe) :: pn)) Γ W (.Call (.Name "isinstance" p) [e, .Name x p2] [] pos) (xIsE a d c ma fe) :=
  PE.imp (pe_callB (call_xi (Γ := Γ) (cv := cv) hz hf) hg hm boot_isinstance (pa_cons he (pa_cons hC pa_nil) he1) (by decide) (by decide) he1) fun σ H Q ⟨ζ, M, μ, rr, h⟩ => ⟨ζ, M, μ, rr, Pst.then h fun v H1 y M1 μ1 nx rh rv h1 => by
    dsimp only at h1
    split at h1
    · rename_i a' d' c' ns fs
      split at h1
      · rename_i hh
        obtain ⟨rfl, rfl, rfl⟩ := hh
        split at h1
        · rename_i b hb
          obtain ⟨rfl, hd⟩ := exc_dict rv
          exact ⟨(hma b hb).1, cx, b, rfl, hcx, (hma b hb).2, fun dd h => let ⟨vs, h1, _⟩ := hd dd h; ⟨_, h1⟩, h1 _ _ _ (Nx.refl _ _) rh (.bl _)⟩
        · exact h1.elim
      · exact h1.elim
    · exact h1.elim⟩
end
end Mi
end
section
set_option maxRecDepth 100000
set_option maxHeartbeats 2000000
set_option autoImplicit false
namespace Mi
open PySem PySem.Spec PyProof.Rows L2

def slAt (c : Nat) (x : D) (M : Hs) : Option (Nat × List (Option D)) := match x with
  | .ref n => match M[n]? with
    | some (.slo c' fs) => if c' = c then some (n, fs) else none
    | _ => none
  | _ => none
theorem slAt_ok {c n : Nat} {x : D} {M : Hs} {fs : List (Option D)} (h : slAt c x M = some (n, fs)) : x = .ref n ∧ M[n]? = some (.slo c fs) := by
  unfold slAt at h
  split at h
  · split at h
    · split at h
      · rename_i e hc
        cases h
        subst hc
        exact ⟨rfl, e⟩
      · cases h
    · cases h
  · cases h
def putD (i : Nat) (d : D) (fs : List (Option D)) : List (Option D) := (fs ++ List.replicate (i + 1 - fs.length) none).set i (some d)
def xFld (c i : Nat) (f : MX) : MX := fun ζ M => (f ζ M).bind fun x M1 => match slAt c x M1 with
  | some (_, fs) => match fs[i]? with
    | some (some d) => .ok d M1
    | _ => .no
  | none => .no
def sFld (c i : Nat) (fo fv : MX) : MS := fun ζ M => RS.of ζ (fv ζ M) fun y M1 => RS.of ζ (fo ζ M1) fun x M2 => match slAt c x M2 with
  | some (n, fs) => .nx ζ (M2.set n (.slo c (putD i y fs)))
  | none => .no
structure SlF (K : PySem.W.Frag) (C : Addr) (f : Str) (i : Nat) : Prop where
  s : SlX.SCls K C
  t : ∃ p, SlX.Slot1 K C f p i
section
variable {P : Program} {w : World} {K : PySem.W.Frag} {Γ : Gm} {μ : List Addr} {H : Hp} {M : Hs}
theorem putD_get {i j : Nat} {d e : D} {fs : List (Option D)} : (putD i d fs)[j]? = some (some e) → j = i ∧ e = d ∨ j ≠ i ∧ fs[j]? = some (some e) := by
  intro h
  unfold putD at h
  by_cases hj : i = j
  · subst hj
    rw [List.getElem?_set_self (by simp only [List.length_append, List.length_replicate]; omega)] at h
    cases h
    exact .inl ⟨rfl, rfl⟩
  · rw [List.getElem?_set_ne hj] at h
    refine .inr ⟨Ne.symm hj, ?_⟩
    by_cases hl : j < fs.length
    · rw [List.getElem?_append_left hl] at h; exact h
    · rw [List.getElem?_append_right (by omega), List.getElem?_replicate] at h
      split at h <;> cases h
/-- what stands at an address of ours is no dict of an instance's own -/
theorem RO.notOwn {a : Addr} {o : MO} (h : RO P w K Γ H μ a o) : (∀ b : Addr, H a ≠ Option.some (HO.own b)) ∧ ∀ fs : List (Str × V), H a ≠ Option.some (HO.xd fs) := by
  cases o with
  | lst xs => obtain ⟨vs, h1, r⟩ := h; rw [h1]; exact ⟨fun _ z => (nomatch z), fun _ z => (nomatch z)⟩
  | ro xs => obtain ⟨vs, ⟨o, h1⟩, r⟩ := h; rw [h1]; exact ⟨fun _ z => (nomatch z), fun _ z => (nomatch z)⟩
  | dct kvs => obtain ⟨es, h1, r⟩ := h; rw [h1]; exact ⟨fun _ z => (by unfold dHO at z; cases z), fun _ z => (by unfold dHO at z; cases z)⟩
  | fdc kvs => obtain ⟨es, ⟨o, h1⟩, r⟩ := h; rw [h1]; exact ⟨fun _ z => (nomatch z), fun _ z => (nomatch z)⟩
  | dks kvs => obtain ⟨vs, h1, r, nd⟩ := h; rw [h1]; exact ⟨fun _ z => (nomatch z), fun _ z => (nomatch z)⟩
  | ins c fs => obtain ⟨dx, vs, r, h1, h2⟩ := h; rw [h1]; exact ⟨fun _ z => (nomatch z), fun _ z => (nomatch z)⟩
  | slo c fs =>
    obtain ⟨dx, vs, h1 | h1, h2⟩ := h
    · rw [h1.1]; exact ⟨fun _ z => (nomatch z), fun _ z => (nomatch z)⟩
    · rw [h1.1]; exact ⟨fun _ z => (by unfold SlX.SlO at z; cases z), fun _ z => (by unfold SlX.SlO at z; cases z)⟩
theorem slo_store {n c i : Nat} {fs : List (Option D)} {y : D} {v : V} {a dx : Addr} {vs : List (Option V)} (rh : RH P w K Γ μ M H) (hn : μ[n]? = some a) (hs : SlX.Slt H a (Γ.cA c) dx vs) (hd : dx ≠ a) (ho : H dx = some (.own a) ∨ H dx = some (.xd []))
    (hv : ∀ (i : Nat) (d : D), fs[i]? = some (some d) → ∃ v, vs[i]? = some (some v) ∧ RV K H μ d v) (rv : RV K H μ y v) :
    Nx μ H μ (SlX.slH H a (Γ.cA c) dx (SlX.putS i v vs)) ∧ RH P w K Γ μ (M.set n (.slo c (putD i y fs))) (SlX.slH H a (Γ.cA c) dx (SlX.putS i v vs)) := by
  have ha : ∃ u, H a = some u ∧ (∀ xs, u ≠ .tup xs) ∧ (∀ o x, u ≠ .frz o x) ∧ (∀ y, u ≠ .own y) ∧ ∀ y, u ≠ .xd y := by
    rcases hs with ⟨h1, _⟩ | ⟨h1, _⟩
    · exact ⟨_, h1, fun _ z => (nomatch z), fun _ _ z => (nomatch z), fun _ z => (nomatch z), fun _ z => (nomatch z)⟩
    · refine ⟨_, h1, fun _ z => ?_, fun _ _ z => ?_, fun _ z => ?_, fun _ z => ?_⟩ <;> (unfold SlX.SlO at z; cases z)
  obtain ⟨ua, ha, a1, a2, a3, a4⟩ := ha
  have ne : ∀ {b : Addr} {u : HO}, H b = some u → u ≠ ua → b ≠ a := fun e h z => by rw [z, ha] at e; exact h (Option.some.inj e).symm
  have keep : ∀ {b : Addr} {u : HO}, H b = some u → u ≠ ua → (∀ y, u ≠ .own y) → u ≠ .xd [] → SlX.slH H a (Γ.cA c) dx (SlX.putS i v vs) b = some u := fun {b u} e h1 h2 h3 => by
    rw [SlX.slH_ne (ne e h1) fun z => ?_]
    · exact e
    · rw [z] at e
      rcases ho with ho | ho
      · rw [ho] at e; exact h2 _ (Option.some.inj e).symm
      · rw [ho] at e; exact h3 (Option.some.inj e).symm
  have xdk : ∀ b, H b = some (.xd []) → SlX.slH H a (Γ.cA c) dx (SlX.putS i v vs) b = some (.xd []) := fun b e => by
    have hb : b ≠ a := ne e fun z => a4 _ z.symm
    by_cases hb2 : b = dx
    · subst hb2
      unfold SlX.slH
      rw [upd_ne hb, upd_same]
    · rw [SlX.slH_ne hb hb2]; exact e
  have nx : Nx μ H μ (SlX.slH H a (Γ.cA c) dx (SlX.putS i v vs)) := by
    refine ⟨fun _ _ e => e, fun b xs e => ?_, fun b o u e => keep e (fun z => a2 _ _ z.symm) (fun _ z => nomatch z) (fun z => nomatch z), fun b fs e => ?_⟩
    · rcases e with e | ⟨o, e⟩
      · exact .inl (keep e (fun z => a1 _ z.symm) (fun _ z => nomatch z) (fun z => nomatch z))
      · exact .inr ⟨o, keep e (fun z => a2 _ _ z.symm) (fun _ z => nomatch z) (fun z => nomatch z)⟩
    · by_cases hf : fs = []
      · subst hf; exact xdk b e
      · exact keep e (fun z => a4 _ z.symm) (fun _ z => nomatch z) (fun z => by cases z; exact hf rfl)
  refine ⟨nx, by simp [rh.len], rh.nd, fun m o' b h1 h2 => ?_⟩
  by_cases hmn : n = m
  · subst hmn
    rw [hn] at h2; cases h2
    by_cases hl : n < M.length
    · rw [List.getElem?_set_self hl] at h1; cases h1
      refine ⟨dx, SlX.putS i v vs, SlX.slH_slt hd, hd, .inr (SlX.slH_slt (H := H) hd |>.elim (fun z => absurd z.1 (by unfold SlX.slH; rw [upd_same]; intro z; unfold SlX.SlO at z; cases z)) fun z => z.2), fun j d hj => ?_⟩
      rcases putD_get hj with ⟨rfl, rfl⟩ | ⟨hne, hj⟩
      · exact ⟨v, SlX.putS_get _ _ _, rv.mono nx⟩
      · obtain ⟨v', q1, q2⟩ := hv j d hj
        exact ⟨v', (SlX.putS_ne hne).mpr q1, q2.mono nx⟩
    · rw [List.getElem?_eq_none (by simpa using hl)] at h1; cases h1
  · rw [List.getElem?_set_ne hmn] at h1
    have hba : b ≠ a := fun z => by
      subst z
      exact hmn ((List.getElem?_inj (List.getElem?_eq_some_iff.mp hn).1 rh.nd).mp (hn.trans h2.symm))
    have rb := rh.at_ m o' b h1 h2
    obtain ⟨nb1, nb2⟩ := RO.notOwn rb
    refine RO.keep rb nx (fun u e => ?_) (fun b' e => ?_) xdk
    · rw [SlX.slH_ne hba fun z => ?_]
      · exact e
      · rw [z] at nb1 nb2
        rcases ho with ho | ho
        · exact nb1 _ ho
        · exact nb2 _ ho
    · rw [SlX.slH_ne (ne e fun z => a3 _ z.symm) fun z => ?_]
      · exact e
      · rw [z] at e
        rcases ho with ho | ho
        · rw [ho] at e; cases e; exact hba rfl
        · rw [ho] at e; cases e
end
section
variable {X : Cx} {Γ : Gm} {W : WX} {e o v : Expr} {fe fo fv : MX} {f x : Str} {c i k n : Nat} {pos pos' p : Pos} {es : List Expr} {ga : MA}
theorem ex_fld (T : SlF X.K (Γ.cA c) f i) (he : EX X Γ W e fe) (hb : attributeBase e f X.env (eval e X.env) = eval e X.env := by rfl) : EX X Γ W (.Attribute e f pos) (xFld c i fe) :=
  PE.imp (SlX.pe_sl he hb) fun σ H Q ⟨ζ, M, μ, rr, h⟩ => ⟨ζ, M, μ, rr, Pst.then h fun v H1 d M1 μ1 nx rh rv h1 => by
    split at h1
    · rename_i n fs hs
      obtain ⟨rfl, hm⟩ := slAt_ok hs
      cases rv with
      | ref ea =>
        obtain ⟨dx, vs, h2, h3, h4, h5⟩ := rh.at_ _ _ _ hm ea
        split at h1
        · rename_i d hd
          obtain ⟨z, q1, q2⟩ := h5 i d hd
          obtain ⟨pp, T2⟩ := T.t
          exact ⟨_, _, dx, pp, vs, i, z, rfl, h2, T.s, T2, q1, h1 _ _ _ (Nx.refl _ _) rh q2⟩
        · exact h1.elim
    · exact h1.elim⟩
theorem es_fld (T : SlF X.K (Γ.cA c) f i) (ho : EX X Γ W o fo) (hv : EX X Γ W v fv) (hs : swapsWith v (some (.Attribute o f pos')) pos.line X.env = pure false := by rfl) : ES X Γ W (.Assign [.Attribute o f pos'] v pos) (sFld c i fo fv) :=
  PS.imp (SlX.ps_sl ho hv hs) fun E σ H ⟨ζ, M, μ, rr, h⟩ => ⟨ζ, M, μ, rr, PstS.then h rr.sl fun y H1 d M1 μ1 nx rh rv h1 => ⟨ζ, M1, μ1, ⟨rr.sl.mono nx, rh⟩, PstS.then h1 (rr.sl.mono nx) fun u H2 k M2 μ2 nx2 rh2 ru h2 => by
    split at h2
    · rename_i n fs hs
      obtain ⟨rfl, hm⟩ := slAt_ok hs
      cases ru with
      | ref ea =>
        obtain ⟨dx, vs, q1, q2, q3, q4⟩ := rh2.at_ _ _ _ hm ea
        obtain ⟨pp, T2⟩ := T.t
        obtain ⟨nx3, rh3⟩ := slo_store (i := i) (y := d) (v := y) rh2 ea q1 q2 q3 q4 (RV.mono nx2 rv)
        exact ⟨_, _, dx, pp, vs, i, rfl, q1, T.s, T2, h2 _ _ _ nx3 rh3 (((rr.sl.mono nx).mono nx2).mono nx3)⟩
    · exact h2.elim⟩⟩
theorem run_makeAt {CX : CXT} {f C : Addr} {fd : FuncData} {ps : List Str} {sp : Sp} {E : XK} {pins : List (Addr × Obj)} {σ : L2.St} {H : Hp} {s : Shared} {Q : VK} {us : List Value} {vs : List V} (Mc : Mk X.K C f) (F : FnOk X.prog X.w X.K X.mg X.base CX k f fd ps sp) (hr : Room (k + 1) X.A) (hb : Binds X.K fd ps [])
    (hx : PassesAt CX X σ E) (I : Inv X pins σ H s) (r : Vals vs us)
    (h : ∀ x dx, H x = none → H dx = none → dx ≠ x → sp (.ref x :: vs) (upd (upd H dx (.own x)) x (.ins C dx [])) (fun v H2 => v = .non ∧ Q (.ref x) H2) E) : wpAny (model X.prog X.w) X.A (call (.ref C) us) (EP X pins σ Q) X.xe s := by
  have hq := h (s.heap.objs.size + 1) s.heap.objs.size (I.hok.fresh (Nat.le_succ _)) (I.hok.fresh (Nat.le_refl _)) (Nat.ne_of_lt (Nat.lt_succ_self _))
  have J := Inv.made (C := C) I
  have r2 : Vals (V.ref (s.heap.objs.size + 1) :: vs) (Value.ref (s.heap.objs.size + 1) :: us) := .cons rfl r
  have hl : (Value.ref (s.heap.objs.size + 1) :: us ++ []).length = ps.length := by
    rw [List.append_nil, ← r2.length]
    exact F.len _ _ _ _ hq
  have bt := hb _ (Value.ref (s.heap.objs.size + 1) :: us) J.kIn hl
  rw [List.append_nil] at bt
  refine wpAny_call (make_map (f := f) I.kIn Mc.makes Mc.init (beq_iff_eq.mp Mc.fn) (codeAny_mono (F.run _ X.stack _ _ ⟨Value.ref (s.heap.objs.size + 1) :: us, []⟩ (Value.ref (s.heap.objs.size + 1) :: us) _ _ E (hr.make C us [])
    (J.env0.make C us []) bt r2 hq) fun r s' z => ?_))
  cases r with
  | error e => exact hx pins _ _ e s' J z
  | ok fl =>
    cases fl with
    | ret u =>
      obtain ⟨v, H', I3, rv, ev, q3⟩ := J.after z
      subst ev
      exact ⟨rv, ⟨V.ref (s.heap.objs.size + 1), H', I3, rfl, q3⟩⟩
    | next => exact z.elim
    | brk => exact z.elim
    | cont => exact z.elim
/-- the class c is made by __init__ that does what F does -/
structure Mkd (P : Program) (w : World) (K : PySem.W.Frag) (mg : Str → Option Value) (base : Heap) (Γ : Gm) (k c : Nat) (x : Str) (n : Nat) (F : MF) : Prop where
  g : mg x = some (.ref (Γ.cA c))
  i : ∃ f fd ps, Mk K (Γ.cA c) f ∧ FnOk P w K mg base (L2.CX P w) k f fd ps (spF P w K Γ n F) ∧ Binds K fd ps []
def xMake (o : MO) (n : Nat) (F : MF) (ga : MA) : MX := fun ζ M => (ga ζ M).bind fun ds M1 => if ds.length + 1 = n then (F (.ref M1.length :: ds) (M1 ++ [o])).bind fun v M2 => match v with
  | .non => .ok (.ref M1.length) M2
  | _ => .no else .no
theorem made_slo {P : Program} {w : World} {K : PySem.W.Frag} {Γ : Gm} {μ : List Addr} {M : Hs} {H : Hp} {x dx : Addr} (rh : RH P w K Γ μ M H) (h1 : H x = none) (h2 : H dx = none) (h3 : dx ≠ x) :
    Nx μ H (μ ++ [x]) (upd (upd H dx (.own x)) x (.ins (Γ.cA c) dx [])) ∧ RH P w K Γ (μ ++ [x]) (M ++ [.slo c []]) (upd (upd H dx (.own x)) x (.ins (Γ.cA c) dx [])) := by
  have h4 : upd H dx (.own x) x = none := by rw [upd_ne (Ne.symm h3)]; exact h1
  refine ⟨(Nx.fresh0 h2).trans (Nx.fresh h4 [x]), (rh.fresh h2).alloc h4 ⟨dx, [], .inl ⟨upd_same, rfl⟩, h3, .inl (by rw [upd_ne h3, upd_same]), fun i d h => by simp at h⟩⟩
theorem ex_make {F : MF} (T : Mkd X.prog X.w X.K X.mg X.base Γ k c x n F) (hr : Room (k + 1) X.A) (tk : Takes X W) (ha : EA X Γ W (e :: es) ga) (hg : Gl X x := by rfl) (hdb : (x == ("__debug__" : Str)) = false := by decide)
    (he : starEach (e :: es) X.env = (false, eval e X.env) :: starEach es X.env := by rfl) (hpl : (backTo pos (starEach es X.env)).any (·.1) = false := by rfl) : EX X Γ W (.Call (.Name x p) (e :: es) [] pos) (xMake (.slo c []) n F ga) := by
  obtain ⟨f, fd, ps, Mc, F1, hb⟩ := T.i
  refine ⟨fun pins s σ H Q I ⟨ζ, M, μ, rr, h⟩ => ?_⟩
  refine wpAny_Call_Name_kw (ld_glob I hg T.g ?_ hdb)
  have h' : tA X.prog X.w X.K Γ W ga σ H fun vs H1 => ∀ x dx, H1 x = none → H1 dx = none → dx ≠ x → spF X.prog X.w X.K Γ n F (.ref x :: vs) (upd (upd H1 dx (.own x)) x (.ins (Γ.cA c) dx [])) (fun v H2 => v = .non ∧ Q (.ref x) H2) (WE W σ) :=
    ⟨ζ, M, μ, rr, Pst.then h fun vs H1 ds M1 μ1 nx rh rv h1 => fun x dx h2 h3 h4 => by
      replace rv : RVs X.K H1 μ1 ds vs := rv
      obtain ⟨nx2, rh2⟩ := made_slo (c := c) rh h2 h3 h4
      have hx : (μ1 ++ [x])[M1.length]? = some x := rh.last
      split at h1
      · rename_i hl
        refine ⟨_, _, _, rh2, .cons (.ref hx) (rv.mono nx2), hl, ?_⟩
        have h5 := Pst.mono h1 nx2
        cases hF : F (.ref M1.length :: ds) (M1 ++ [.slo c []]) with
        | ok d M' =>
          rw [hF] at h5
          intro v H' μ' nx3 rh3 rv3
          have h6 := Pst.mono h5 nx3
          cases d with
          | non => cases rv3; exact ⟨rfl, h6 _ _ _ (Nx.refl _ _) rh3 (.ref (nx3.pre _ _ hx))⟩
          | _ => exact h6.elim
        | ex c' fs M' => rw [hF] at h5; exact h5
        | no => rw [hF] at h5; exact h5
      · exact h1.elim⟩
  refine PySem.W.callWith_K (h₀ := X.base) I.ok.mod.kin Mc.kp (thn (ha.run pos pins s σ H _ I h') fun us s1 ⟨vs, H1, I1, r, q⟩ => ⟨I1.kIn, ?_⟩) he hpl
  exact run_makeAt Mc F1 hr hb (passAt tk σ) I1 r q
end
end Mi
end
section
set_option maxRecDepth 100000
set_option maxHeartbeats 2000000
set_option autoImplicit false
namespace SrtO
open PySem PyProof.Rows
theorem collect_listK {prog : Program} {w : World} {A : Around} {E : Value → Shared → Prop} {s : Shared} {l : Addr} {vs : List Value} {Q : List Value → Shared → Prop} (hl : s.heap.IsList l vs.toArray) (hz : vs.length ≤ sizeLine)
    (h : ∀ (h' : Heap) (tk : Nat), (∀ b o, s.heap.get? b = some o → h'.get? b = some o) → Q vs { s with heap := h', toks := tk }) : wpAny (model prog w) A (collect (.ref l)) Q E s := by
  refine collect_list hl (h _ s.toks fun b o q => ?_) hz
  have hlt : b < s.heap.objs.size := Heap.lt_size q
  rw [Heap.get?_update_ne _ _ _ _ (Nat.ne_of_lt hlt)]
  exact Heap.get?_push_of_some _ q
end SrtO
namespace Mi
open PySem PySem.Spec PyProof.Rows L2

section
variable {α β : Type}
def insB (lt : α → α → Bool) (x : α) : List α → List α
  | [] => [x]
  | y :: r => if lt y x = true then y :: insB lt x r else x :: y :: r
def srtB (lt : α → α → Bool) : List α → List α
  | [] => []
  | x :: r => insB lt x (srtB lt r)
theorem insB_perm (lt : α → α → Bool) (x : α) : ∀ l : List α, (insB lt x l).Perm (x :: l)
  | [] => .refl _
  | y :: r => by
    unfold insB
    split
    · exact ((insB_perm lt x r).cons y).trans (.swap x y r)
    · exact .refl _
theorem srtB_perm (lt : α → α → Bool) : ∀ l : List α, (srtB lt l).Perm l
  | [] => .refl _
  | x :: r => (insB_perm lt x _).trans ((srtB_perm lt r).cons x)
theorem insB_srtd {lt : α → α → Bool} (O : SrtO.Swo lt) (x : α) : ∀ {l : List α}, SrtO.Srtd lt l → SrtO.Srtd lt (insB lt x l)
  | [], _ => SrtO.srtd_one x
  | y :: r, h => by
    obtain ⟨h1, h2⟩ := List.pairwise_cons.mp h
    unfold insB
    split
    · rename_i hl
      refine List.pairwise_cons.mpr ⟨fun z hz => ?_, insB_srtd O x h2⟩
      rcases List.mem_cons.mp ((insB_perm lt x r).mem_iff.mp hz) with e | hz
      · rw [e]; exact O.asym _ _ hl
      · exact h1 z hz
    · rename_i hl
      have hl : lt y x = false := by cases e : lt y x with
        | true => exact absurd e hl
        | false => rfl
      refine List.pairwise_cons.mpr ⟨fun z hz => ?_, h⟩
      rcases List.mem_cons.mp hz with e | hz
      · rw [e]; exact hl
      · exact O.tr x y z hl (h1 z hz)
theorem srtB_srtd {lt : α → α → Bool} (O : SrtO.Swo lt) : ∀ l : List α, SrtO.Srtd lt (srtB lt l)
  | [] => .nil
  | x :: r => insB_srtd O x (srtB_srtd O r)
theorem stb_perm {lt : α → α → Bool} (hE : ∀ x y, SrtO.eqv lt x y = true → y = x) {l m : List α} (p : l.Perm m) : SrtO.Stb lt l m := ⟨p, fun x => by
  have h1 : ∀ k : List α, k.filter (SrtO.eqv lt x) = List.replicate (k.filter (SrtO.eqv lt x)).length x := fun k => List.eq_replicate_iff.mpr ⟨rfl, fun b hb => hE x b (List.mem_filter.mp hb).2⟩
  rw [h1 l, h1 m, (p.filter _).length_eq]⟩
/-- what the sort leaves, seen by its keys -/
theorem srt_keys {lt : β → β → Bool} (O : SrtO.Swo lt) (hE : ∀ x y, SrtO.eqv lt x y = true → y = x) {k : α → β} {out vs : List α} (h1 : SrtO.Srtd (fun x y => lt (k x) (k y)) out) (h2 : out.Perm vs) : out.map k = srtB lt (vs.map k) :=
  SrtO.stb_uniq O (SrtO.srtd_map h1) (srtB_srtd O _) (stb_perm hE ((h2.map k).trans (srtB_perm lt _).symm))
end
def ltI (x y : Int) : Bool := decide (x < y)
theorem swo_I : SrtO.Swo ltI := ⟨fun x y h => by unfold ltI at *; have := of_decide_eq_true h; exact decide_eq_false (by omega), fun x y z h1 h2 => by
  unfold ltI at *
  have := of_decide_eq_false h1
  have := of_decide_eq_false h2
  exact decide_eq_false (by omega)⟩
theorem eq_I (x y : Int) (h : SrtO.eqv ltI x y = true) : y = x := by
  obtain ⟨h1, h2⟩ := SrtO.eqv_iff.mp h
  unfold ltI at h1 h2
  have := of_decide_eq_false h1
  have := of_decide_eq_false h2
  omega
theorem swo_P : SrtO.Swo SrtO.lexB := by
  refine ⟨fun x y h => ?_, fun x y z h1 h2 => ?_⟩
  · have a := SrtO.lexB_iff.mp h
    refine SrtO.lexB_no.mpr ?_
    omega
  · have a := SrtO.lexB_no.mp h1
    have b := SrtO.lexB_no.mp h2
    refine SrtO.lexB_no.mpr ?_
    omega
theorem eq_P (x y : Int × Int) (h : SrtO.eqv SrtO.lexB x y = true) : y = x := by
  obtain ⟨h1, h2⟩ := SrtO.eqv_iff.mp h
  have a := SrtO.lexB_no.mp h1
  have b := SrtO.lexB_no.mp h2
  obtain ⟨x1, x2⟩ := x
  obtain ⟨y1, y2⟩ := y
  dsimp only at a b
  rw [Prod.mk.injEq]
  omega

def itemsA (M : Hs) (d : D) : Option (List D) := match hSeq M d with
  | some xs => some xs
  | none => match d with
    | .ref n => match hDct M n with
      | some kvs => some (kvs.map (·.1))
      | none => none
    | _ => none
section
variable {X : Cx} {Γ : Gm} {pins : List (Addr × Obj)} {σ : L2.St} {H : Hp} {s : Shared} {μ : List Addr} {M : Hs}
/-- the values us show the data ds at the heap -/
def Shows (K : PySem.W.Frag) (H : Hp) (μ : List Addr) (ds : List D) (us : List Value) : Prop := ∃ vs, RVs K H μ ds vs ∧ Vals vs us
theorem keys_rv {K : PySem.W.Frag} : ∀ {kvs : List (D × D)} {es : List (NestedKey × Addr × V)}, Paired (REn K H μ) kvs es → RVs K H μ (kvs.map (·.1)) (es.map fun e => V.ref e.2.1)
  | _, _, .nil => .nil
  | _, _, .cons q t => .cons q.2.2.1 (keys_rv t)
theorem vals_refs : ∀ as : List Addr, Vals (as.map V.ref) (as.map Value.ref)
  | [] => .nil
  | _ :: as => .cons rfl (vals_refs as)
theorem keys_adr {es : List (NestedKey × Addr × V)} {xs : List (NestedKey × Addr × Value)} (p : Paired (fun (p : NestedKey × Addr × V) (q : NestedKey × Addr × Value) => p.1 = q.1 ∧ p.2.1 = q.2.1 ∧ RelV p.2.2 q.2.2) es xs) : es.map (fun e => e.2.1) = xs.map (fun e => e.2.1) := by
  induction p with
  | nil => rfl
  | cons h t ih => rw [List.map_cons, List.map_cons, ih, h.2.1]
theorem dict_keys (I : Inv X pins σ H s) {kvs : List (D × D)} {es : List (NestedKey × Addr × V)} {a : Addr} (r : Paired (REn X.K H μ) kvs es) (g : Rd H a (dHO X.prog X.w a es)) : ∃ ds ep, s.heap.DictRaw a ds ep ∧ (a == sysModules) = false ∧ ds.size ≤ sizeLine ∧
    ∀ acc : Array Value, ItemsOf (fun i v => ∃ hi : i < ds.size, v = ds[i].key) acc ds.size → Shows X.K H μ (kvs.map (·.1)) acc.toList := by
  obtain ⟨⟨xs, p, o, ds, ep, ho, hx, hd, he, hn, hs, hl⟩, _⟩ := g.ok I.hok
  have l1 : ds.size = xs.length := by rw [← Array.length_toList, he, List.length_map]
  refine ⟨ds, ep, ⟨o, ho, hx, hd⟩, hs, by omega, fun acc ⟨h1, h2⟩ => ⟨_, keys_rv r, ?_⟩⟩
  have e : acc.toList = (es.map fun e => e.2.1).map Value.ref := by
    rw [keys_adr p]
    apply List.ext_getElem
    · rw [Array.length_toList, List.length_map, List.length_map, h1, l1]
    · intro i hi1 hi2
      have ha : acc[i]? = some acc.toList[i] := by rw [← Array.getElem?_toList, List.getElem?_eq_getElem hi1]
      obtain ⟨hi, e⟩ := h2 i _ ha
      rw [e]
      have e2 : ds.toList[i]? = some ds[i] := by rw [Array.getElem?_toList, Array.getElem?_eq_getElem hi]
      rw [he, List.getElem?_map] at e2
      have hx : i < xs.length := by omega
      rw [List.getElem?_eq_getElem hx] at e2
      have e3 := Option.some.inj e2
      rw [← e3]
      simp [entryOfKey]
  rw [e]
  have := vals_refs (es.map fun e => e.2.1)
  rw [List.map_map] at this
  exact this
/-- a list or a dict is collected -/
theorem collect_A {A : Around} {R : List Value → Shared → Prop} {E : Value → Shared → Prop} (hh : A.handled = none) (I : Inv X pins σ H s) (rh : RH X.prog X.w X.K Γ μ M H) {n : Nat} {a : Addr} {ds : List D} (h : itemsA M (.ref n) = some ds) (ea : μ[n]? = some a)
    (hq : ∀ (h' : Heap) (tk : Nat) (acc : List Value), (∀ b o, s.heap.get? b = some o → h'.get? b = some o) → Shows X.K H μ ds acc → acc.length ≤ sizeLine → R acc { s with heap := h', toks := tk }) : wpAny (model X.prog X.w) A (collect (.ref a)) R E s := by
  unfold itemsA at h
  cases hs : hSeq M (.ref n) with
  | some xs =>
    rw [hs] at h
    cases h
    obtain ⟨b, vs, e, hs2, r⟩ := hRef_ok rh hs (.ref ea)
    cases e
    obtain ⟨its, rv, hl, hz⟩ := I.list hs2
    have hz' : its.length ≤ sizeLine := by rw [← Paired.length rv]; exact hz
    refine SrtO.collect_listK hl.isList hz' fun h' tk k => ?_
    exact hq h' tk its k ⟨vs, r, rv⟩ hz'
  | none =>
    rw [hs] at h
    dsimp only at h
    cases hd : hDct M n with
    | none => rw [hd] at h; cases h
    | some kvs =>
      rw [hd] at h
      cases h
      obtain ⟨es, g, r⟩ := ndct rh hd ea
      obtain ⟨xs, ep, h1, h2, h3, h4⟩ := dict_keys I r (.inl g)
      exact PySem.W.kdu_collect (KdlSrc.rawDict h2) hh h1 h3 fun h' tk acc k ia => hq h' tk acc.toList k (h4 acc ia) (by rw [Array.length_toList, ia.1]; exact h3)
theorem collect_T {A : Around} {R : List Value → Shared → Prop} {E : Value → Shared → Prop} (I : Inv X pins σ H s) {a : Addr} {ds : List D} {vs : List V} (g : SqT X.K H a vs) (rv : RVs X.K H μ ds vs)
    (hq : ∀ (h' : Heap) (tk : Nat) (acc : List Value), (∀ b o, s.heap.get? b = some o → h'.get? b = some o) → Shows X.K H μ ds acc → acc.length ≤ sizeLine → R acc { s with heap := h', toks := tk }) : wpAny (model X.prog X.w) A (collect (.ref a)) R E s := by
  obtain ⟨its, r, ⟨o, ho, hc, n, hd⟩, hz⟩ := I.tuple g
  have hz' : its.length ≤ sizeLine := by rw [← Paired.length r]; exact hz
  refine wpAny_collect_seq (T := "tuple") (n := n) a (.inr rfl) ho hc hd (fun h' kp => ?_) (by simpa using hz')
  exact hq h' s.toks _ kp ⟨vs, rv, by simpa using r⟩ (by simpa using hz')
theorem sorted_go {κ : Type} {lt : κ → κ → Bool} (O : SrtO.Swo lt) (hE : ∀ x y, SrtO.eqv lt x y = true → y = x) (f : κ → D) {E : Value → Shared → Prop} {Q : VK} (hc : X.calm = true) (I : Inv X pins σ H s) (rh : RH X.prog X.w X.K Γ μ M H) {a : Addr} {ks : List κ}
    (hcol : ∀ {R : List Value → Shared → Prop} {E : Value → Shared → Prop}, (∀ (h' : Heap) (tk : Nat) (acc : List Value), (∀ b o, s.heap.get? b = some o → h'.get? b = some o) → Shows X.K H μ (ks.map f) acc → acc.length ≤ sizeLine → R acc { s with heap := h', toks := tk }) → wpAny (model X.prog X.w) X.A.in1 (collect (.ref a)) R E s) (hS : ∀ (h' : Heap) (tk : Nat) (us : List Value), Inv X pins σ H { s with heap := h', toks := tk } → Shows X.K H μ (ks.map f) us → ∃ k : Value → κ, us.map k = ks ∧
      (2 ≤ us.length → ∀ (h₁ : Heap) (l : Addr), h₁.get? l = some (PyProof.Rows.seqObj "list" us.toArray 0) → (∀ b o, h'.get? b = some o → b ≠ l ∧ h₁.get? b = some o) → SrtO.SortableO X.prog X.w X.A.in1.in1 { s with heap := h₁, toks := tk } l us fun v u => lt (k v) (k u)))
    (hq : ∀ p, H p = none → ∀ vs, RVs X.K H μ ((srtB lt ks).map f) vs → Q (.ref p) (upd H p (.lst vs))) : wpAny (model X.prog X.w) X.A (call (.builtin "sorted") [.ref a]) (EP X pins σ Q) E s := by
  refine Calls.call_function_entry kind_sorted plain_sorted entry_sorted (args_sorted1 _) ?_
  unfold Builtin.«sorted»
  refine wpAny_bind (m := checkCount "sorted" 1 1 _) (wpAny_pure ?_)
  refine wpAny_bind (hcol fun h' tk us kp sh hz => ?_)
  have I1 : Inv X pins σ H { s with heap := h', toks := tk } := I.kept kp
  obtain ⟨k, ek, hs⟩ := hS h' tk us I1 sh
  refine wpAny_bind (wpAny_newList ?_ hz)
  have hoL : (h'.push (PyProof.Rows.seqObj "list" us.toArray 0)).get? h'.objs.size = some (PyProof.Rows.seqObj "list" us.toArray 0) := Heap.get?_push_size _ rfl
  show wpAny _ _ _ _ _ { s with heap := h'.push (PyProof.Rows.seqObj "list" us.toArray 0), toks := tk }
  have O2 : SrtO.Swo fun v u => lt (k v) (k u) := ⟨fun x y => O.asym (k x) (k y), fun x y z => O.tr (k x) (k y) (k z)⟩
  refine wpAny_bind (wpAny_holding (wpAny_call_entry slot_list_sort ⟨_, hoL, rfl⟩ entry_list_sort (SrtO.list_sort_ord (s := { s with heap := h'.push (PyProof.Rows.seqObj "list" us.toArray 0), toks := tk }) O2 hoL hz
    (fun h2 => hs h2 _ _ hoL fun b o q => ⟨Nat.ne_of_lt (Heap.lt_size q), Heap.get?_push_of_some _ q⟩) fun out h1 h2 => ⟨_, rfl, ?_⟩) (args_list_sort _)))
  have e1 : out.map k = srtB lt ks := by rw [srt_keys O hE h1 h2.perm, ek]
  obtain ⟨vs, rv, rs⟩ := sh
  have each : ∀ u ∈ us, ∃ v, RelV v u ∧ RV X.K H μ (f (k u)) v := by
    have go : ∀ {us : List Value} {ks : List κ} {vs : List V}, us.map k = ks → RVs X.K H μ (ks.map f) vs → Vals vs us → ∀ u ∈ us, ∃ v, RelV v u ∧ RV X.K H μ (f (k u)) v := by
      intro us
      induction us with
      | nil => intro _ _ _ _ _ u hu; cases hu
      | cons u0 us ih =>
        intro ks vs e r t u hu
        subst e
        cases t with
        | cons t1 t2 =>
          cases r with
          | cons r1 r2 =>
            rcases List.mem_cons.mp hu with e | hu
            · subst e; exact ⟨_, t1, r1⟩
            · exact ih rfl r2 t2 u hu
    exact go ek rv rs
  have outs : ∃ ws, RVs X.K H μ ((srtB lt ks).map f) ws ∧ Vals ws out := by
    rw [← e1, List.map_map]
    have go : ∀ {out : List Value}, (∀ u ∈ out, u ∈ us) → ∃ ws, RVs X.K H μ (out.map (f ∘ k)) ws ∧ Vals ws out := by
      intro out
      induction out with
      | nil => intro _; exact ⟨[], .nil, .nil⟩
      | cons u out ih =>
        intro hm
        obtain ⟨ws, r1, r2⟩ := ih fun u hu => hm u (List.mem_cons_of_mem _ hu)
        obtain ⟨v, t1, t2⟩ := each u (hm u List.mem_cons_self)
        exact ⟨v :: ws, .cons t2 r1, .cons t1 r2⟩
    exact go fun u hu => h2.perm.mem_iff.mp hu
  obtain ⟨ws, w1, w2⟩ := outs
  obtain ⟨e', he'⟩ := PyProof.Rows.sortedHeap_at (vs := us) (out := out.toArray) hoL
  refine wpAny_pure ⟨_, rfl, .ref h'.objs.size, upd H h'.objs.size (.lst ws), I1.laid (t' := tk) (fun b u e => ?_) (Nat.le_refl _)
    (show ObjOk X.prog X.w _ _ _ (.lst ws) from ⟨by rw [Paired.length w2, h2.len]; exact hz, out, e', w2, he'⟩), rfl, hq _ (I1.hok.fresh (Nat.le_refl _)) ws w1⟩
  have hb : b < h'.objs.size := Heap.lt_size e
  rw [PyProof.Rows.sortedHeap_old (Nat.ne_of_lt hb) (by rw [size_push']; exact Nat.lt_succ_of_lt hb)]
  exact Heap.get?_push_of_some _ e
def prD (p : Int × Int) : D := .tup [.int p.1, .int p.2]
theorem shows_ints {K : PySem.W.Frag} {ns : List Int} {us : List Value} (h : Shows K H μ (ns.map D.int) us) : IntsAre us ns := by
  obtain ⟨vs, r, t⟩ := h
  induction ns generalizing us vs with
  | nil => cases r; cases t; exact .nil
  | cons n ns ih =>
    cases r with
    | cons r1 r2 =>
      cases r1
      cases t with
      | cons t1 t2 =>
        obtain ⟨t, rfl⟩ := t1
        exact .cons _ _ (ih _ r2 t2)
theorem shows_pairs (I : Inv X pins σ H s) {ps : List (Int × Int)} {us : List Value} (h : Shows X.K H μ (ps.map prD) us) : Paired (fun u (p : Int × Int) => Srt.IsPair s.heap u p.1 p.2) us ps := by
  obtain ⟨vs, r, t⟩ := h
  induction ps generalizing us vs with
  | nil => cases r; cases t; exact .nil
  | cons p ps ih =>
    cases r with
    | cons r1 r2 =>
      cases t with
      | cons t1 t2 =>
        refine .cons ?_ (ih _ r2 t2)
        cases r1 with
        | tup g rs =>
          cases t1
          obtain ⟨its, rv, ⟨o, ho, hc, n, hd⟩, _⟩ := I.tuple g
          obtain ⟨v1, v2, rfl, q1, q2⟩ := two_rel rs
          cases q1; cases q2
          obtain ⟨u1, u2, rfl, z1, z2⟩ := Vals.two rv
          obtain ⟨t1, rfl⟩ := z1
          obtain ⟨t2, rfl⟩ := z2
          exact ⟨_, o, t1, t2, n, rfl, ho, hc, hd⟩
theorem pairs_key : ∀ {us : List Value} {ps : List (Int × Int)} {h : Heap}, Paired (fun u (p : Int × Int) => Srt.IsPair h u p.1 p.2) us ps → ∃ k : Value → Int × Int, us.map k = ps ∧ ∀ u ∈ us, Srt.IsPair h u (k u).1 (k u).2 := by
  intro us ps h r
  classical
  have one : ∀ {u : Value} {p q : Int × Int}, Srt.IsPair h u p.1 p.2 → Srt.IsPair h u q.1 q.2 → p = q := by
    rintro u p q ⟨a, o, t, v, n, e, ho, hc, hd⟩ ⟨a', o', t', v', n', e', ho', hc', hd'⟩
    rw [e] at e'
    cases e'
    rw [ho] at ho'
    cases ho'
    rw [hd] at hd'
    simp at hd'
    exact Prod.ext hd'.1.1.1 hd'.1.2.1
  refine ⟨fun u => if x : ∃ p : Int × Int, Srt.IsPair h u p.1 p.2 then x.choose else (0, 0), ?_, ?_⟩
  · induction r with
    | nil => rfl
    | @cons u p us ps h1 t ih =>
      have x : ∃ p : Int × Int, Srt.IsPair h u p.1 p.2 := ⟨p, h1⟩
      rw [List.map_cons, ih, dif_pos x, one x.choose_spec h1]
  · intro u hu
    have x : ∃ p : Int × Int, Srt.IsPair h u p.1 p.2 := by
      induction r with
      | nil => cases hu
      | @cons u' p us ps h1 t ih =>
        rcases List.mem_cons.mp hu with e | hu
        · subst e; exact ⟨p, h1⟩
        · exact ih hu
    dsimp only
    rw [dif_pos x]
    exact x.choose_spec
end
def pairsD : List D → Option (List (Int × Int))
  | [] => some []
  | .tup [.int i, .int j] :: r => match pairsD r with
    | some ps => some ((i, j) :: ps)
    | none => none
  | _ => none
theorem pairsD_ok : ∀ {xs : List D} {ps : List (Int × Int)}, pairsD xs = some ps → xs = ps.map prD
  | [], ps, h => by cases h; rfl
  | x :: xs, ps, h => by
    unfold pairsD at h
    split at h
    · rename_i e; cases e
    · rename_i i j r e
      cases e
      split at h
      · rename_i qs hq
        cases h
        rw [pairsD_ok hq]
        rfl
      · cases h
    · cases h
theorem intsD_ok : ∀ {xs : List D} {ps : List Int}, intsOf xs = some ps → xs = ps.map D.int
  | [], ps, h => by cases h; rfl
  | x :: xs, ps, h => by
    cases x with
    | int i =>
      simp only [intsOf] at h
      split at h
      · rename_i qs hq
        cases h
        rw [intsD_ok hq]
        rfl
      · cases h
    | _ => cases h
def gSorted : GL := fun ds M => match ds with
  | [.ref n] => match itemsA M (.ref n) with
    | some xs => match intsOf xs with
      | some is => some (.ref M.length, M ++ [.lst ((srtB ltI is).map D.int)])
      | none => match pairsD xs with
        | some ps => some (.ref M.length, M ++ [.lst ((srtB SrtO.lexB ps).map prD)])
        | none => none
    | none => none
  | [.tup xs] => match intsOf xs with
    | some is => some (.ref M.length, M ++ [.lst ((srtB ltI is).map D.int)])
    | none => match pairsD xs with
      | some ps => some (.ref M.length, M ++ [.lst ((srtB SrtO.lexB ps).map prD)])
      | none => none
  | _ => none
def gListA : GL := fun ds M => match ds with
  | [.ref n] => match hDct M n with
    | some kvs => some (.ref M.length, M ++ [.lst (kvs.map (·.1))])
    | none => gList ds M
  | _ => gList ds M
section
variable {X : Cx} {Γ : Gm}
theorem b_sorted (hc : X.calm = true) : CB X Γ (.builtin "sorted") gSorted := by
  intro pins s σ H xs us Q I r ⟨ds, M, μ, rh, rv, hq⟩
  unfold gSorted at hq
  split at hq
  · obtain ⟨v, rfl, r1⟩ := one_rel rv
    obtain ⟨a, rfl, ea⟩ := ref_rel r1
    obtain ⟨u, rfl, ru⟩ := Vals.one r
    cases ru
    split at hq
    · rename_i xs hx
      split at hq
      · rename_i is hi
        have e := intsD_ok hi
        subst e
        refine sorted_go swo_I eq_I D.int hc I rh (fun hq => collect_A (A := X.A.in1) (I.ok.hd hc) I rh hx ea hq) (fun h' tk us I1 sh => ?_) fun p hp vs rv => Pk.new rh hq hp ⟨_, upd_same, rv.mono (Nx.fresh hp _)⟩
        have hI := shows_ints sh
        refine ⟨SrtO.iv, SrtO.iv_ints hI, fun h2 h₁ l hl kp => ?_⟩
        exact SrtO.ints_sortable (s := { s with heap := h₁, toks := tk }) hI h2
      · split at hq
        · rename_i ps hp
          have e := pairsD_ok hp
          subst e
          refine sorted_go swo_P eq_P prD hc I rh (fun hq => collect_A (A := X.A.in1) (I.ok.hd hc) I rh hx ea hq) (fun h' tk us I1 sh => ?_) fun p hp vs rv => Pk.new rh hq hp ⟨_, upd_same, rv.mono (Nx.fresh hp _)⟩
          obtain ⟨k, e1, e2⟩ := pairs_key (shows_pairs I1 sh)
          refine ⟨k, e1, fun h2 h₁ l hl kp => SrtO.pairs_sortableO (s := { s with heap := h₁, toks := tk }) (by omega) (fun v hv => (e2 v hv).keeps fun b o e _ => (kp b o e).2) fun o e => ?_⟩
          have e' : some o = some (PyProof.Rows.seqObj "list" us.toArray 0) := e.symm.trans hl
          cases e'
          intro c
          exact absurd (Value.type.inj c) (by decide)
        · exact hq.elim
    · exact hq.elim
  · obtain ⟨v, rfl, r1⟩ := one_rel rv
    cases r1 with
    | tup g rs =>
      obtain ⟨u, rfl, ru⟩ := Vals.one r
      cases ru
      split at hq
      · rename_i is hi
        have e := intsD_ok hi
        subst e
        refine sorted_go swo_I eq_I D.int hc I rh (fun hq => collect_T I g rs hq) (fun h' tk us I1 sh => ?_) fun p hp vs rv => Pk.new rh hq hp ⟨_, upd_same, rv.mono (Nx.fresh hp _)⟩
        have hI := shows_ints sh
        refine ⟨SrtO.iv, SrtO.iv_ints hI, fun h2 h₁ l hl kp => ?_⟩
        exact SrtO.ints_sortable (s := { s with heap := h₁, toks := tk }) hI h2
      · split at hq
        · rename_i ps hp
          have e := pairsD_ok hp
          subst e
          refine sorted_go swo_P eq_P prD hc I rh (fun hq => collect_T I g rs hq) (fun h' tk us I1 sh => ?_) fun p hp vs rv => Pk.new rh hq hp ⟨_, upd_same, rv.mono (Nx.fresh hp _)⟩
          obtain ⟨k, e1, e2⟩ := pairs_key (shows_pairs I1 sh)
          refine ⟨k, e1, fun h2 h₁ l hl kp => SrtO.pairs_sortableO (s := { s with heap := h₁, toks := tk }) (by omega) (fun v hv => (e2 v hv).keeps fun b o e _ => (kp b o e).2) fun o e => ?_⟩
          have e' : some o = some (PyProof.Rows.seqObj "list" us.toArray 0) := e.symm.trans hl
          cases e'
          intro c
          exact absurd (Value.type.inj c) (by decide)
        · exact hq.elim
  · exact hq.elim
theorem b_listA (hc : X.calm = true) : CB X Γ (.type "list") gListA := by
  intro pins s σ H xs us Q I r ⟨ds, M, μ, rh, rv, hq⟩
  unfold gListA at hq
  split at hq
  · split at hq
    · rename_i n kvs hd
      obtain ⟨v, rfl, r1⟩ := one_rel rv
      obtain ⟨a, rfl, ea⟩ := ref_rel r1
      obtain ⟨u, rfl, ru⟩ := Vals.one r
      cases ru
      obtain ⟨es, g, rr⟩ := ndct rh hd ea
      obtain ⟨xs, ep, h1, h2, h3, h4⟩ := dict_keys I rr (.inl g)
      refine PySem.W.kdl_call (KdlSrc.rawDict h2) (I.ok.hd hc) h1 h3 fun h' tk acc c' hk hD hacc => ?_
      obtain ⟨ws, w1, w2⟩ := h4 acc hacc
      refine ⟨.ref s.heap.objs.size, upd H s.heap.objs.size (.lst ws), I.laid (t' := tk) hk (Nat.le_refl _) (show ObjOk X.prog X.w _ _ _ (.lst ws) from ⟨by rw [Paired.length w2, Array.length_toList, hacc.1]; exact h3, acc.toList, c', w2, by rw [Array.toArray_toList]; exact hD⟩), rfl, ?_⟩
      have hp := I.hok.fresh (Nat.le_refl s.heap.objs.size)
      exact Pk.new rh hq hp ⟨_, upd_same, w1.mono (Nx.fresh hp _)⟩
    · exact b_list pins s σ H xs us Q I r ⟨_, M, μ, rh, rv, hq⟩
  · exact b_list pins s σ H xs us Q I r ⟨_, M, μ, rh, rv, hq⟩
end
end Mi
end
section
set_option maxRecDepth 100000
set_option maxHeartbeats 2000000
set_option autoImplicit false
namespace Mi
open PySem PySem.Spec PyProof.Rows L2

mutual
def cstB (K : PySem.W.Frag) : D → Value → Bool
  | .non, .none => true
  | .bl b, .bool c => b == c
  | .int i, .int j _ => decide (i = j)
  | .str x, .str y _ => decide (x = y)
  | .tup ds, .ref a => match K.lookup a with
    | some ⟨.type c, _, .seq its _, _⟩ => decide (c = "tuple") && (decide (its.size ≤ sizeLine) && cstsB K ds its.toList)
    | _ => false
  | _, _ => false
def cstsB (K : PySem.W.Frag) : List D → List Value → Bool
  | [], [] => true
  | d :: ds, u :: us => cstB K d u && cstsB K ds us
  | _, _ => false
end
mutual
theorem cstB_ok {K : PySem.W.Frag} : ∀ (d : D) (u : Value), cstB K d u = true → ∃ v, RelV v u ∧ ∀ H μ, RV K H μ d v
  | .non, u, h => by
    cases u with
    | none => exact ⟨.non, rfl, fun _ _ => .non⟩
    | _ => simp [cstB] at h
  | .bl b, u, h => by
    cases u with
    | bool c =>
      simp only [cstB, beq_iff_eq] at h
      exact ⟨.bl b, by subst h; rfl, fun _ _ => .bl b⟩
    | _ => simp [cstB] at h
  | .int i, u, h => by
    cases u with
    | int j t =>
      simp only [cstB, decide_eq_true_eq] at h
      exact ⟨.int i, by subst h; exact ⟨t, rfl⟩, fun _ _ => .int i⟩
    | _ => simp [cstB] at h
  | .str x, u, h => by
    cases u with
    | str y t =>
      simp only [cstB, decide_eq_true_eq] at h
      exact ⟨.str x, by subst h; exact ⟨t, rfl⟩, fun _ _ => .str x⟩
    | _ => simp [cstB] at h
  | .tup ds, u, h => by
    cases u with
    | ref a =>
      simp only [cstB] at h
      split at h
      · rename_i c dd its n sl q
        rw [Bool.and_eq_true, Bool.and_eq_true, decide_eq_true_eq, decide_eq_true_eq] at h
        obtain ⟨vs, h1, h2⟩ := cstsB_ok ds its.toList h.2.2
        exact ⟨.ref a, rfl, fun H μ => .tup (.inr ⟨_, its, n, q, congrArg Value.type h.1, rfl, h.2.1, h1⟩) (h2 H μ)⟩
      · cases h
    | _ => simp [cstB] at h
  | .ref n, u, h => by cases u <;> simp [cstB] at h
  | .klst _, u, h => by cases u <;> simp [cstB] at h
  | .exc .., u, h => by cases u <;> simp [cstB] at h
theorem cstsB_ok {K : PySem.W.Frag} : ∀ (ds : List D) (us : List Value), cstsB K ds us = true → ∃ vs, Vals vs us ∧ ∀ H μ, RVs K H μ ds vs
  | [], [], _ => ⟨[], .nil, fun _ _ => .nil⟩
  | [], _ :: _, h => by simp [cstsB] at h
  | _ :: _, [], h => by simp [cstsB] at h
  | d :: ds, u :: us, h => by
    simp only [cstsB, Bool.and_eq_true] at h
    obtain ⟨v, h1, h2⟩ := cstB_ok d u h.1
    obtain ⟨vs, h3, h4⟩ := cstsB_ok ds us h.2
    exact ⟨v :: vs, .cons h1 h3, fun H μ => .cons (h2 H μ) (h4 H μ)⟩
end

def oexB (K : PySem.W.Frag) (C : Addr) : Bool := match K.lookup C with
  | some ⟨.type "type", _, .cls cd, sl⟩ => (match cd.mro, sl.toList with
    | .ref C' :: bm, [_, _, _, _, some (.builtin n), _] => C' == C && n == "ValueError.__new__" && !cd.hasDel && cd.hasDict && HandSPX.refsVE bm
    | _, _ => false)
  | _ => false
inductive Fx where
  | he (f : He.Fa)
  | cst (x : Str) (d : D)
  | oex (x : Str) (fs : List Str)
  | kit (x y : Str) (b : Bool)
  | kitT (x : Str) (T : String) (b : Bool)
  | exmT (x : Str) (T : String) (b : Bool)
  | xcc (x : Str)
  | slc (x : Str)
  | slt (x f : Str) (i : Nat)
  | isi (x : Str)
  | kitB (x T : String) (y : Str) (b : Bool)
  | ntf (x : Str) (T : String)
  | prp (x f : Str)
  | xfd (x f : Str)
def slotP (K : PySem.W.Frag) (C : Addr) (f : Str) : Addr := He.ma K C f
def Fx.ok (K : PySem.W.Frag) : Fx → Bool
  | .he f => f.ok K
  | .cst x d => (match PySem.W.nsIn K mainGlobals x with
    | some (some u) => cstB K d u
    | _ => false)
  | .oex x fs => oexB K (He.ga K x) && (He.eqO (PySem.W.findIn K (.ref (He.ga K x)) "__setattr__") (some (some (.builtin "object.__setattr__"))) && (decide (PySem.W.subIn K (.ref (He.ga K x)) (.type "BaseException") = some true) && (decide (PySem.W.typeIn K (.ref (He.ga K x)) = some (.type "type")) &&
    (PySem.W.keepIn K (.ref (He.ga K x)) && (He.eqO (PySem.W.findIn K (.ref (He.ga K x)) "__init__") (some (some (.ref (He.ma K (He.ga K x) "__init__")))) && (decide (PySem.W.typeIn K (.ref (He.ma K (He.ga K x) "__init__")) = some (.type "function")) &&
    fs.all fun f => He.eqO (PySem.W.findIn K (.ref (He.ga K x)) f) (some none)))))))
  | .kit x y b => decide (PySem.W.kitOne K (.ref (He.ga K x)) (.ref (He.ga K y)) = some b)
  | .kitT x T b => decide (PySem.W.kitOne K (.ref (He.ga K x)) (.type T) = some b)
  | .exmT x T b => decide (PySem.W.exmOne K (.ref (He.ga K x)) (.type T) = some b)
  | .xcc x => (PySem.W.clsIn K (He.ga K x)).isSome && (He.eqO (PySem.W.findIn K (.ref (He.ga K x)) "__getattribute__") (some (some (.builtin "BaseException.__getattribute__"))) && (He.eqO (PySem.W.findIn K (.ref (He.ga K x)) "__getattr__") (some none) &&
    (decide (PySem.W.subIn K (.ref (He.ga K x)) (.type "BaseException") = some true) && (PySem.W.hasDictIn K (He.ga K x) && (He.eqO (PySem.W.findIn K (.ref (He.ga K x)) "__class__") (some (some (.builtin "object.__class__"))) &&
    (He.eqO (PySem.W.specialIn K (.builtin "object.__class__") "__get__") (some (some (.builtin "getset_descriptor.__get__"))) && (decide (PySem.W.takesIn K (.builtin "object.__class__") = some true) && decide (PySem.W.mroIn K (He.ga K x) (.type "object") = some true))))))))
  | .slc x => PySem.W.plainGet K (He.ga K x) Str.empty && (PySem.W.isClsIn K (He.ga K x) && (PySem.W.plainOver K (He.ga K x) && He.eqO (PySem.W.findIn K (.ref (He.ga K x)) "__setattr__") (some (some (.builtin "object.__setattr__")))))
  | .slt x f i => He.eqO (PySem.W.findIn K (.ref (He.ga K x)) f) (some (some (.ref (slotP K (He.ga K x) f)))) && (He.eqO (PySem.W.specialIn K (.ref (slotP K (He.ga K x) f)) "__get__") (some (some (.builtin "member_descriptor.__get__"))) &&
    (decide (PySem.W.takesIn K (.ref (slotP K (He.ga K x) f)) = some true) && (decide (PySem.W.typeIn K (.ref (slotP K (He.ga K x) f)) = some (.type "member_descriptor")) && (decide (PySem.W.slotIn K (slotP K (He.ga K x) f) (He.ga K x) = some i) && decide (i < 1000)))))
  | .isi x => He.eqO (PySem.W.findIn K (.ref (He.ga K x)) "__class__") (some (some (.builtin "object.__class__"))) && (He.eqO (PySem.W.specialIn K (.builtin "object.__class__") "__get__") (some (some (.builtin "getset_descriptor.__get__"))) &&
    (decide (PySem.W.takesIn K (.builtin "object.__class__") = some true) && decide (PySem.W.mroIn K (He.ga K x) (.type "object") = some true)))
  | .kitB _ T y b => decide (PySem.W.kitOne K (.type T) (.ref (He.ga K y)) = some b)
  | .ntf x T => PySem.W.notFirst K (He.ga K x) (.type T)
  | .prp x f => He.eqO (PySem.W.findIn K (.ref (He.ga K x)) f) (some (some (.ref (He.ma K (He.ga K x) f)))) && (He.eqO (PySem.W.specialIn K (.ref (He.ma K (He.ga K x) f)) "__get__") (some (some (.builtin "property.__get__"))) &&
    (decide (PySem.W.takesIn K (.ref (He.ma K (He.ga K x) f)) = some true) && (match PySem.W.recIn K (He.ma K (He.ga K x) f) "property" with
      | some (.ref _ :: _) => true
      | _ => false)))
  | .xfd x f => He.eqO (PySem.W.findIn K (.ref (He.ga K x)) "__getattribute__") (some (some (.builtin "BaseException.__getattribute__"))) && (He.eqO (PySem.W.findIn K (.ref (He.ga K x)) "__getattr__") (some none) &&
    (decide (PySem.W.subIn K (.ref (He.ga K x)) (.type "BaseException") = some true) && (PySem.W.hasDictIn K (He.ga K x) && He.eqO (PySem.W.findIn K (.ref (He.ga K x)) f) (some none))))
section
variable {K : PySem.W.Frag} {h : Heap} {mg : Str → Option Value}
theorem fx_cst (X : K.In h) (G : h.Ns mainGlobals mg) {x : Str} {d : D} (c : (Fx.cst x d).ok K = true) : CstOk K mg x d := by
  have c2 : (match PySem.W.nsIn K mainGlobals x with
    | some (some u) => cstB K d u
    | _ => false) = true := c
  split at c2
  · rename_i u q
    obtain ⟨v, h1, h2⟩ := cstB_ok d u c2
    exact ⟨u, v, PySem.W.mg_of X G q, h1, h2⟩
  · cases c2
theorem oexB_ok {C : Addr} (q : oexB K C = true) : ∃ nm qn N bs bm sn sub ab col dd k0 k1 k2 k3 k5, K.lookup C = some (excClassObj nm qn C N bs bm true sn sub ab col dd k0 k1 k2 k3 k5 "ValueError.__new__") ∧ PySem.HandSPX.refsVE bm = true := by
  unfold oexB at q
  split at q
  · rename_i dd cd sl ho
    split at q
    · rename_i C' bm k0 k1 k2 k3 n k5 hm hs
      simp only [Bool.and_eq_true, beq_iff_eq, Bool.not_eq_true'] at q
      obtain ⟨⟨⟨⟨rfl, rfl⟩, hdel⟩, hd⟩, hr⟩ := q
      obtain ⟨nm, bs, mro, ns, qn, hdi, sn, sub, ab, col, del⟩ := cd
      dsimp only at hm hdel hd
      subst hm hdel hd
      have hsl : sl = #[k0, k1, k2, k3, some (.builtin "ValueError.__new__"), k5] := by
        obtain ⟨l⟩ := sl
        simp only at hs
        rw [hs]
      subst hsl
      exact ⟨nm, qn, ns, bs, bm, sn, sub, ab, col, dd, k0, k1, k2, k3, k5, ho, hr⟩
    · cases q
  · cases q
theorem fx_oex {x : Str} {fs : List Str} (c : (Fx.oex x fs).ok K = true) : OexC K (He.ga K x) ∧ PySem.W.findIn K (.ref (He.ga K x)) "__init__" = some (some (.ref (He.ma K (He.ga K x) "__init__"))) ∧ PySem.W.typeIn K (.ref (He.ma K (He.ga K x) "__init__")) = some (.type "function") ∧
    ∀ f ∈ fs, PySem.W.findIn K (.ref (He.ga K x)) f = some none := by
  obtain ⟨c1, c⟩ := He.ba c
  obtain ⟨c2, c⟩ := He.ba c
  obtain ⟨c3, c⟩ := He.ba c
  obtain ⟨c4, c⟩ := He.ba c
  obtain ⟨c5, c⟩ := He.ba c
  obtain ⟨c6, c⟩ := He.ba c
  obtain ⟨c7, c8⟩ := He.ba c
  exact ⟨⟨oexB_ok c1, He.eqO_ok c2, of_decide_eq_true c3, of_decide_eq_true c4, c5⟩, He.eqO_ok c6, of_decide_eq_true c7, fun f hf => He.eqO_ok (List.all_eq_true.mp c8 f hf)⟩
theorem fx_exc (X : K.In h) (G : h.Ns mainGlobals mg) {x : Str} (g : (Fx.he (.glo x)).ok K = true) (c : (Fx.he (.exc x)).ok K = true) : Rz0 K mg (He.ga K x) x := by
  obtain ⟨c1, c2, c3, c4⟩ := He.exc_ok c
  exact ⟨c1, He.glo_ok X G g, c2, c3, c4⟩
theorem fx_xcc {x : Str} (c : (Fx.xcc x).ok K = true) : XcC K (He.ga K x) := by
  obtain ⟨c1, c⟩ := He.ba c
  obtain ⟨c2, c⟩ := He.ba c
  obtain ⟨c3, c⟩ := He.ba c
  obtain ⟨c4, c⟩ := He.ba c
  obtain ⟨c5, c⟩ := He.ba c
  obtain ⟨c6, c⟩ := He.ba c
  obtain ⟨c7, c⟩ := He.ba c
  obtain ⟨c8, c9⟩ := He.ba c
  exact ⟨c1, He.eqO_ok c2, He.eqO_ok c3, of_decide_eq_true c4, c5, He.eqO_ok c6, He.eqO_ok c7, of_decide_eq_true c8, of_decide_eq_true c9⟩
theorem fx_scl {x : Str} (c : (Fx.slc x).ok K = true) : SlX.SCls K (He.ga K x) := by
  obtain ⟨c1, c⟩ := He.ba c
  obtain ⟨c2, c⟩ := He.ba c
  obtain ⟨c3, c4⟩ := He.ba c
  exact ⟨c1, c2, c3, He.eqO_ok c4⟩
theorem fx_slt {x f : Str} {i : Nat} (c : (Fx.slc x).ok K = true) (d : (Fx.slt x f i).ok K = true) : SlF K (He.ga K x) f i := by
  obtain ⟨c1, c⟩ := He.ba c
  obtain ⟨c2, c⟩ := He.ba c
  obtain ⟨c3, c4⟩ := He.ba c
  obtain ⟨d1, d⟩ := He.ba d
  obtain ⟨d2, d⟩ := He.ba d
  obtain ⟨d3, d⟩ := He.ba d
  obtain ⟨d4, d⟩ := He.ba d
  obtain ⟨d5, d6⟩ := He.ba d
  exact ⟨⟨c1, c2, c3, He.eqO_ok c4⟩, ⟨_, He.eqO_ok d1, He.eqO_ok d2, of_decide_eq_true d3, of_decide_eq_true d4, of_decide_eq_true d5, of_decide_eq_true d6⟩⟩
/-- where a property's getter stands -/
def prA (K : PySem.W.Frag) (x f : Str) : Addr := match PySem.W.recIn K (He.ma K (He.ga K x) f) "property" with
  | some (.ref g :: _) => g
  | _ => 0
theorem fx_isi {x : Str} (c : (Fx.isi x).ok K = true) : SlX.SIsi K (He.ga K x) := by
  obtain ⟨c1, c⟩ := He.ba c
  obtain ⟨c2, c⟩ := He.ba c
  obtain ⟨c3, c4⟩ := He.ba c
  exact ⟨He.eqO_ok c1, He.eqO_ok c2, of_decide_eq_true c3, of_decide_eq_true c4⟩
theorem fx_kitB {x T : String} {y : Str} {b : Bool} (c : (Fx.kitB x T y b).ok K = true) : PySem.W.kitOne K (.type T) (.ref (He.ga K y)) = some b := of_decide_eq_true c
theorem fx_ntf {x : Str} {T : String} (c : (Fx.ntf x T).ok K = true) : PySem.W.notFirst K (He.ga K x) (.type T) = true := c
theorem fx_prp {x f : Str} (c : (Fx.prp x f).ok K = true) : PropOf K (He.ga K x) f (He.ma K (He.ga K x) f) (prA K x f) := by
  obtain ⟨c1, c⟩ := He.ba c
  obtain ⟨c2, c⟩ := He.ba c
  obtain ⟨c3, c4⟩ := He.ba c
  refine ⟨He.eqO_ok c1, He.eqO_ok c2, of_decide_eq_true c3, ?_⟩
  unfold prA
  split at c4
  · rename_i g r e
    rw [e]
    exact ⟨r, rfl⟩
  · cases c4
theorem fx_xfd {x f : Str} (c : (Fx.xfd x f).ok K = true) : XfC K (He.ga K x) ∧ PySem.W.findIn K (.ref (He.ga K x)) f = some none := by
  obtain ⟨c1, c⟩ := He.ba c
  obtain ⟨c2, c⟩ := He.ba c
  obtain ⟨c3, c⟩ := He.ba c
  obtain ⟨c4, c5⟩ := He.ba c
  exact ⟨⟨He.eqO_ok c1, He.eqO_ok c2, of_decide_eq_true c3, c4⟩, He.eqO_ok c5⟩
theorem fx_free (X : K.In h) (G : h.Ns mainGlobals mg) {x : Str} (c : (Fx.he (.free x)).ok K = true) : mg x = none := He.free_ok X G c
theorem fx_glo (X : K.In h) (G : h.Ns mainGlobals mg) {x : Str} (c : (Fx.he (.glo x)).ok K = true) : mg x = some (.ref (He.ga K x)) := He.glo_ok X G c
end
structure DefP extends He.DefD where
  prop : Bool
def DefP.adr (K : PySem.W.Frag) (d : DefP) : Addr := match d.prop with
  | true => prA K d.at_.1 (d.at_.2.getD "")
  | false => He.fAd K d.at_
def fnAt (K : PySem.W.Frag) (a : Addr) : He.FnW := match K.lookup a with
  | some ⟨_, _, .func z, _⟩ => some (z.name, z.qualname, z.params, z.body, z.scope, z.globals, z.closure, z.builtins)
  | _ => none
def okAt (K : PySem.W.Frag) (d : He.DefD) (a : Addr) : Bool := PySem.W.keepIn K (.ref a) && (match K.lookup a with
  | some ⟨_, _, .func z, _⟩ => PySem.W.codeIn K z.code d.qual && (He.dflB K z.defaults (d.dvs K) && He.kwdB K z.kwdefaults (d.kws K))
  | _ => false)
theorem funAt {K : PySem.W.Frag} {d : He.DefD} {a : Addr} (e : fnAt K a = d.val) (c : okAt K d a = true) : ∃ fd, FunD K d.name d.qual d.params d.body d.scope (d.dvs K) (d.kws K) a fd := by
  obtain ⟨kp, c2⟩ := He.ba c
  unfold fnAt at e
  rcases q : K.lookup a with _ | ⟨oc, od, dt, osl⟩
  · rw [q] at c2; cases c2
  rw [q] at c2 e
  cases dt with
  | func z =>
    rcases z with ⟨n1, n2, n3, n4, n5, n6, n7, n8, n9, n10, n11, n12, n13, n14, n15⟩
    have e2 : (some (n1, n2, n3, n4, n5, n6, n7, n15) : He.FnW) = some (d.name, d.qual, d.params, .stmts d.body, d.scope, mainGlobals, [], builtinsNs) := e
    simp only [Option.some.injEq, Prod.mk.injEq] at e2
    rcases e2 with ⟨rfl, rfl, rfl, rfl, rfl, rfl, rfl, rfl⟩
    obtain ⟨k1, k2⟩ := He.ba (show (PySem.W.codeIn K n13 d.qual && (He.dflB K n8 (d.dvs K) && He.kwdB K n9 (d.kws K))) = true from c2)
    obtain ⟨k3, k4⟩ := He.ba k2
    exact ⟨_, ⟨oc, od, n8, n9, n10, n11, n12, n13, n14, osl, rfl, q, k1, He.dflB_ok k3, He.kwdB_ok k4⟩, kp⟩
  | _ => cases c2
def obsM (fa : List Fx) (fn : List DefP) (K : PySem.W.Frag) : He.AlD := ((fa.all fun f => f.ok K) && fn.all fun d => okAt K d.toDefD (d.adr K), fn.map fun d => fnAt K (d.adr K))
def valM (fn : List DefP) : He.AlD := (true, fn.map fun d => d.toDefD.val)
def SaysM (fa : List Fx) (fn : List DefP) (K : PySem.W.Frag) : Prop := obsM fa fn K = valM fn
def obsMG (n : Nat) (fa : List Fx) (fn : List DefP) (g : Addr → Option Obj) : He.AlD := obsM fa fn (He.frG g (He.asD g n))
def hookM (n : Nat) (fa : List Fx) (fn : List DefP) : PySem.W.Hook where
  α := He.AlD
  obs := fun s => obsMG n fa fn s.heap.get?
  val := fun _ => valM fn
  says := fun _ h => ∃ K : PySem.W.Frag, K.In h ∧ SaysM fa fn K
  of := fun _ _ e => ⟨_, He.frG_in, e⟩
  keeps := fun _ _ _ ⟨K, hK, c⟩ k => ⟨K, PySem.W.Frag.In.keeps hK k, c⟩
theorem obsMG_eq {n : Nat} {fa : List Fx} {fn : List DefP} {g : Addr → Option Obj} {s : Shared} (h : ∀ a, g a = s.heap.get? a) : obsMG n fa fn g = (hookM n fa fn).obs s := by
  have e : g = s.heap.get? := funext h
  rw [e] <;> rfl
section
variable {fa : List Fx} {fn : List DefP} {K : PySem.W.Frag}
theorem SaysM.fact (c : SaysM fa fn K) (i : Nat) {f : Fx} (h : fa[i]? = some f := by rfl) : f.ok K = true := by
  have c1 := (He.ba (show ((fa.all fun f => f.ok K) && fn.all fun d => okAt K d.toDefD (d.adr K)) = true from congrArg (fun z : He.AlD => z.1) c)).1
  exact List.all_eq_true.mp c1 f (List.mem_of_getElem? h)
theorem SaysM.def_ (c : SaysM fa fn K) (i : Nat) {d : DefP} (h : fn[i]? = some d := by rfl) : ∃ fd, FunD K d.toDefD.name d.toDefD.qual d.toDefD.params d.toDefD.body d.toDefD.scope (d.toDefD.dvs K) (d.toDefD.kws K) (d.adr K) fd := by
  have c2 := (He.ba (show ((fa.all fun f => f.ok K) && fn.all fun d => okAt K d.toDefD (d.adr K)) = true from congrArg (fun z : He.AlD => z.1) c)).2
  have e : fn.map (fun d => fnAt K (d.adr K)) = fn.map fun d => d.toDefD.val := congrArg (fun z : He.AlD => z.2) c
  have e2 : (fn.map fun d => fnAt K (d.adr K))[i]? = (fn.map fun d => d.toDefD.val)[i]? := by rw [e]
  rw [List.getElem?_map, List.getElem?_map, h] at e2
  exact funAt (Option.some.inj e2) (List.all_eq_true.mp c2 d (List.mem_of_getElem? h))
end
section
variable {P : Program} {w : World} {K : PySem.W.Frag} {mg : Str → Option Value} {base : Heap} {N : List Str} {qual : Str} {scope : Scope} {i : Addr} {cdv : Value} {A : Around} {outer : List Env} {s : Shared} {H : Hp} {E : XK}
theorem takes_cx : Takes (cxOf (L2.CX P w) P w K mg base N qual scope i cdv A outer s H E) (fun cls d _ H => E cls d H) := takes_of rfl rfl rfl rfl
theorem passes_cx : PassesOwn (model P w) (cxOf (L2.CX P w) P w K mg base N qual scope i cdv A outer s H E).A (cxOf (L2.CX P w) P w K mg base N qual scope i cdv A outer s H E).env (cxOf (L2.CX P w) P w K mg base N qual scope i cdv A outer s H E).xe := passes_of rfl
end
theorem takes_W0 {X : Cx} : Takes X W0 := takes_none5
theorem cx_never {P : Program} {w : World} (H : Hp) (s : Shared) (e : Value) (s' : Shared) : L2.CX P w [] H s (fun _ _ _ => False) e s' → False := fun ⟨_, _, _, _, _, _, _, _, _, _, _, _, z⟩ => z
/-- the end of a law whose defs may raise: the promise at each world -/
theorem walk_at {l : PySem.W.OpenLaw} {n k : Nat} {q : Program} {loose : List Str} {XP : (Str → Option Value) → Heap → Prop} {YP : World → Heap → Prop} {d : DefRec} {x : Str} (hn : l.most = some n) (hn2 : n ≤ sizeLine) (hdf : d.params.defaults = []) (hr : Room k callerA)
    (T : ∀ (w : World) (mg : Str → Option Value) (fa : Addr) (h : Heap), YP w h → h.Ns mainGlobals mg → mg d.name = some (.ref fa) → ∃ (K : PySem.W.Frag) (fd : FuncData) (sp : Sp), K.In h ∧ (∀ (s : Shared) (u : Value), BindsTo s fd ⟨[u], []⟩ [(x, u)]) ∧
      (∀ (H : Hp) (a : Addr) (ns : List Int), ns.length ≤ n → Only H → SqL K H a (ns.map V.int) → sp [.ref a] H (fun v _ => v = .bl true) fun _ _ _ => False) ∧ ∀ base : Heap, FnOk l.prog w K mg base (L2.CX l.prog w) k fa fd [x] sp) :
    PySem.W.WalkO q loose XP YP l.row.toRowW d [] (fun f vs => PySem.call f vs) := by
  refine Att.attach_call hn hdf fun w s₀ s₁ mg mb fa o pm cd doc a vs ns G Y ho hd hcd hmg hobj hints hlen hg => ?_
  obtain ⟨K, fd, sp, h1, h2, h3, h4⟩ := T w mg fa _ Y G.T.g hmg
  refine law_call h1 G.T.g G.T.b G.T.builtins G.T.nolimit hg hobj hints (Nat.le_trans hlen hn2) hr (fun base _ _ => h4 base) h2 (fun H hO hS => h3 H a ns hlen hO hS) fun H e s' => cx_never H s₁ e s'
end Mi
end
section
set_option maxRecDepth 100000
set_option maxHeartbeats 4000000
set_option autoImplicit false
namespace Mi
open PySem PySem.Spec PyProof.Rows L2

theorem len_in {α : Type} : ∀ {l m : List α}, l.Nodup → (∀ x ∈ l, x ∈ m) → l.length ≤ m.length
  | [], _, _, _ => Nat.zero_le _
  | x :: l, m, hn, hs => by
    obtain ⟨h1, h2⟩ := List.nodup_cons.mp hn
    obtain ⟨m1, m2, rfl⟩ := List.append_of_mem (hs x List.mem_cons_self)
    have := len_in (l := l) (m := m1 ++ m2) h2 fun y hy => by
      rcases List.mem_append.mp (hs y (List.mem_cons_of_mem _ hy)) with h | h
      · exact List.mem_append_left _ h
      · rcases List.mem_cons.mp h with e | h
        · subst e; exact absurd hy h1
        · exact List.mem_append_right _ h
    simp only [List.length_append, List.length_cons] at this ⊢
    omega
abbrev AL := List (Addr × List Int)
section
variable {P : Program} {w : World} {A : Around} {E : Value → Shared → Prop}
/-- the loop of set.update over things of few keys: what is wanted at its end -/
structure Fil (P : Program) (w : World) (G : Array GenState → Array GenState → Prop) (wr : List Addr) (a : Addr) (ks : AL) (hp : Heap) (t0 t : Shared) : Prop where
  mv : Moved (a :: wr) G t0 t
  st : ∃ L es ep tb, SetTR P w t.heap a L es ep tb ∧ Got ks ks.length L
  kp : ∀ b o, hp.get? b = some o → t.heap.get? b = some o
theorem fill_go {I : Addr} {fp wr : List Addr} {G : Array GenState → Array GenState → Prop} {Pv : Nat → Value → Prop} {St : Nat → Shared → Prop} {R : Result → Shared → Prop} {ks : AL} {U : List (List Int)}
    (W : WalksS P w A.in1 I fp wr G ks.length Pv St) {a : Addr} (ha : a ∉ fp) (hU : U.length < 63) (hin : ∀ p ∈ ks, p.2 ∈ U) (hv : ∀ i v, Pv i v → ∃ p, ks[i]? = some p ∧ v = .ref p.1)
    {hp : Heap} (hk : ∀ p ∈ ks, IsT P w hp p.2 p.1) (ha0 : hp.get? a = none) (hw0 : ∀ b ∈ wr, hp.get? b = none) (hu : A.in1.units < cLine) :
    ∀ (m i : Nat) (t : Shared), i + m = ks.length → St i t → (∀ b o, hp.get? b = some o → t.heap.get? b = some o) → (∃ L es ep tb, SetTR P w t.heap a L es ep tb ∧ Got ks i L) →
      (∀ t', Fil P w G wr a ks hp t t' → R (.ok (.ret .none)) t') → codeAny (model P w) A (.builtin "set.update.loop" ⟨[.ref a, .ref I], []⟩) R t
  | m, i, t, him, hst, hkp, ⟨L, es, ep, tb, hS, g⟩, hR => by
    have up : ∀ b ∈ wr, b ∈ a :: wr := fun b hb => List.mem_cons_of_mem _ hb
    have kept : ∀ {t' : Shared}, Moved wr G t t' → ∀ b o, hp.get? b = some o → t'.heap.get? b = some o := fun mv b o e => mv.heap b o (fun hb => nomatch (hw0 b hb).symm.trans e) (hkp b o e)
    have haw : a ∉ wr := fun z => ha (W.sub _ z)
    have inK : ∀ p ∈ L, p ∈ ks := fun p h => List.mem_of_mem_take (g.sub p h)
    have old : ∀ {t' : Shared}, Moved wr G t t' → SetTR P w t'.heap a L es ep tb := fun mv => hS.keep (fun o e => mv.heap a o haw e) fun p h => isT_keep (hk p (inK p h)) (kept mv)
    refine codeAny_builtin F.entry_set_update_loop ?_
    rw [Around.under_plainId F.plain_set_update_loop _]
    show wpAny _ A.in1 (pyNext (.ref I) >>= _) _ _ t
    match m, him with
    | 0, him =>
      have e : i = ks.length := him
      subst e
      refine wpAny_bind (W.done t _ _ hst fun t' mv => ?_)
      show wpAny _ A.in1 (ret Value.none) _ _ t'
      exact wpAny_pure (hR t' ⟨mv.mono up, ⟨L, es, ep, tb, old mv, g⟩, kept mv⟩)
    | m + 1, him =>
      refine wpAny_bind (W.item i t _ _ (by omega) hst fun v t' hPv hst' mv => ?_)
      obtain ⟨p, hp', rfl⟩ := hv i v hPv
      have hpk := List.mem_of_getElem? hp'
      have isx : IsT P w t'.heap p.2 p.1 := isT_keep (hk p hpk) (kept mv)
      have S1 : SetTR P w t'.heap a L es ep tb := old mv
      have few : L.length < 63 := by
        have h1 := len_in hS.nd (m := U) fun k hk' => by
          obtain ⟨q, hq, rfl⟩ := List.mem_map.mp hk'
          exact hin q (inK q hq)
        rw [List.length_map] at h1
        omega
      show wpAny _ A.in1 (holding [Value.ref p.1] (setAdd a (.ref p.1)) >>= _) _ _ t'
      refine wpAny_bind (wpAny_holding ?_)
      unfold setAdd
      refine wpAny_holding (wpAny_bind (wpAny_pyHash_tuple hu isx ?_))
      refine add_at (s := { t' with toks := t'.toks + (p.2.length + 1) }) S1 isx hu (by omega) fun b h2 L2 es2 ep2 tb2 same S2 c1 c2 => ?_
      have g2 : Got ks (i + 1) L2 := by
        by_cases c : p.2 ∈ L.map (·.2)
        · rw [c1 c]; exact g.same hp' c
        · exact g.more hp' (c2 c)
      have kp2 : ∀ b o, hp.get? b = some o → h2.get? b = some o := fun b o e => (same.2 b (fun z => nomatch (z ▸ ha0).symm.trans e)).trans (kept mv b o e)
      refine wpAny_pure ⟨plainId_quiet F.plain_set_update_loop _, ?_⟩
      refine fill_go W ha hU hin hv hk ha0 hw0 hu m (i + 1) _ (by omega) (W.frame _ t' h2 _ hst' (Nat.le_add_right _ _) fun b hb o e => ?_) kp2 ⟨L2, es2, ep2, tb2, S2, g2⟩ fun t3 f3 => hR t3 ⟨?_, f3.st, f3.kp⟩
      · exact (same.2 b fun z => ha (z ▸ hb)).trans e
      · exact Moved.trans W.gtrans ((mv.mono up).then_heap (Nat.le_add_right _ _) fun b o hb e => (same.2 b fun z => hb (z ▸ List.mem_cons_self)).trans e) f3.mv
/-- set(xs) of a list of things of few keys -/
abbrev newSet (w : World) : Obj := { cls := .type "set", dict := none, data := .set #[] 0 (.fresh 0 0 (!w.params.followText "set-order")) }
abbrev itSet (w : World) (t : Shared) (l : Addr) : Shared := { t with heap := (t.heap.push (newSet w)).push { cls := .type "list_iterator", data := .fields #[.ref l, .int 0 0] } }
theorem hi_none {hp : Heap} {b : Addr} (h : hp.objs.size ≤ b) : hp.get? b = none := by
  cases q : hp.get? b with
  | none => rfl
  | some o => exact absurd (Heap.lt_size q) (Nat.not_lt.mpr h)
theorem set_walk {t : Shared} {l : Addr} {its : Array Value} {R : Result → Shared → Prop} {a : Addr} (e : a = t.heap.objs.size) (hh : A.handled = none) (hl : t.heap.IsList l its)
    (k : ∀ (G : Array GenState → Array GenState → Prop) (it : Addr) (Pv : Nat → Value → Prop) (St : Nat → Shared → Prop), it = (t.heap.push (newSet w)).objs.size → (∀ g g', G g g' → g = g') → WalksS P w A.in1 it [it, l] [it] G its.size Pv St → (∀ i v, Pv i v → its[i]? = some v) → a ∉ [it, l] → St 0 (itSet w t l) → (itSet w t l).heap.get? a = some (newSet w) →
      codeAny (model P w) A (.builtin "set.update.loop" ⟨[.ref a, .ref it], []⟩) R (itSet w t l)) : codeAny (model P w) A (.builtin "set.update.loop" ⟨[.ref a, .ref (t.heap.push (newSet w)).objs.size], []⟩) R (itSet w t l) := by
  subst e
  have hS : (t.heap.push (newSet w)).get? t.heap.objs.size = some (newSet w) := Heap.get?_push_size _ rfl
  have hz : (t.heap.push (newSet w)).objs.size = t.heap.objs.size + 1 := Heap.size_push ..
  obtain ⟨o, hol, hcl, nl, hdl⟩ := hl
  have hlt : l < t.heap.objs.size := Heap.lt_size hol
  have il : (t.heap.push (newSet w)).IsList l its := ⟨_, Heap.get?_push_of_some _ hol, hcl, nl, hdl⟩
  have hh3 : A.in1.handled = none := by simp [hh]
  have ne1 : l ≠ (t.heap.push (newSet w)).objs.size := by rw [hz]; exact Nat.ne_of_lt (Nat.lt_succ_of_lt hlt)
  have ne2 : t.heap.objs.size ∉ [(t.heap.push (newSet w)).objs.size, l] := by
    rw [hz]
    intro z
    rcases List.mem_cons.mp z with z | z
    · exact Nat.ne_of_lt (Nat.lt_succ_self _) z
    · exact Nat.ne_of_gt hlt (List.mem_singleton.mp z)
  exact k _ _ _ _ rfl (fun g g' h => h.symm) ((Walks.list hh3 _ l ne1 its).toS (prog := P) (w := w)) (fun i v hv => hv) ne2 ⟨⟨_, Heap.get?_push_size _ rfl, rfl, rfl⟩, il.push _⟩ (Heap.get?_push_of_some _ hS)
theorem set_fill {t : Shared} {l : Addr} {its : Array Value} {Mk : Heap → Prop} {Q : Value → Shared → Prop} (hl : t.heap.IsList l its)
    (go : ∀ R : Result → Shared → Prop, (∀ h2 k2, Mk h2 → R (.ok (.ret .none)) { t with heap := h2, toks := k2 }) → codeAny (model P w) A.in1 (.builtin "set.update.loop" ⟨[.ref t.heap.objs.size, .ref (t.heap.push (newSet w)).objs.size], []⟩) R (itSet w t l))
    (q : ∀ h2 k2, Mk h2 → Q .none { t with heap := h2, toks := k2 }) : wpAny (model P w) A.in1 (Builtin.«set.__init__» ⟨[.ref t.heap.objs.size, .ref l], []⟩)
      (fun fin s' => match fin with | .done f => wants Q E (.ok f) s' | .again c' => c'.quiet = true ∧ codeAny (model P w) A c' (wants Q E) s') (fun z s' => wants Q E (.error z) s') { t with heap := t.heap.push (newSet w) } := by
  obtain ⟨⟨oc, od, odt, osl⟩, hol, hcl, nl, hdl⟩ := hl
  simp only at hcl hdl
  subst hcl hdl
  have hol2 : (t.heap.push (newSet w)).get? l = some ⟨.type "list", od, .seq its nl, osl⟩ := Heap.get?_push_of_some _ hol
  have f1 := F.sub_list_set
  have f2 := F.sub_list_frozenset
  have f3 : (Value.type "list" == Value.type "dict") = false := by decide
  have il : (t.heap.push (newSet w)).IsList l its := ⟨_, hol2, rfl, nl, rfl⟩
  unfold Builtin.«set.__init__» noKeywords Builtin.Frozenset.updateFrom
  generalize hit : pyIter = it
  wp_walk
  subst hit
  refine wpAny_pyIter_list il (wpAny_bind (wpAny_runValue ?_))
  exact go _ fun h2 k2 m => wpAny_pure (wpAny_pure (q h2 k2 m))
theorem set_call {t : Shared} {l : Addr} {its : Array Value} {Mk : Heap → Prop} {Q : Value → Shared → Prop} (hl : t.heap.IsList l its)
    (go : ∀ R : Result → Shared → Prop, (∀ h2 k2, Mk h2 → R (.ok (.ret .none)) { t with heap := h2, toks := k2 }) → codeAny (model P w) A.in1.in1 (.builtin "set.update.loop" ⟨[.ref t.heap.objs.size, .ref (t.heap.push (newSet w)).objs.size], []⟩) R (itSet w t l))
    (q : ∀ (hp : Heap) (tk : Nat), Mk hp → Q (.ref t.heap.objs.size) { t with heap := hp, toks := tk }) : wpAny (model P w) A (call (.type "set") [.ref l]) Q E t := by
  obtain ⟨c, tl, m1⟩ := F.called_set.mro
  have m2 := F.called_set.made
  have m3 := F.called_set.sub
  have m4 := F.called_set.notType
  have m5 := F.called_set.canCreate
  have m6 := F.typeCall_set_1 (.ref l)
  refine wpAny_call (codeAny_of_tree ?_)
  show wpAny _ _ (callAny (.type "set") _) _ _ _
  refine wpAny_pure ⟨Code.quiet_builtin _ (by decide +kernel), codeAny_builtin F.entry_type_call ?_⟩
  rw [Around.under_plain (weight_type_call_type "set" [.ref l] []) rfl]
  repeat (any_goals (first | assumption | wp_step))
  refine codeAny_mono (code_set_led1 (.ref l) (E := E) (Q₁ := fun o t1 => o = .ref t.heap.objs.size ∧ t1 = { t with heap := t.heap.push (newSet w) }) ⟨rfl, rfl⟩) fun r1 t1 hr => ?_
  match r1, hr with
  | .error _, hr => exact hr
  | .ok (.ret o), hr =>
    obtain ⟨rfl, rfl⟩ := hr
    have hT : Shared.TypeIs { t with heap := t.heap.push (newSet w) } (.ref t.heap.objs.size) "set" := ⟨_, Heap.get?_push_size _ rfl, rfl⟩
    have m7 := F.called_set.init.lookup
    have m8 := F.called_set.init.bind (.ref t.heap.objs.size)
    repeat (any_goals (first | assumption | wp_step))
    refine codeAny_mono (codeAny_call_builtin (R := wants (fun r t2 => r = .none ∧ ∃ hp tk, t2 = { t with heap := hp, toks := tk } ∧ Mk hp) E) F.called_set.init.plain F.entry_set_init (check_set_init_1 hT ?_)) fun r2 t2 hr2 => ?_
    · exact set_fill hl go fun h2 k2 m => ⟨rfl, h2, k2, rfl, m⟩
    · match r2, hr2 with
      | .error _, hr2 => exact hr2
      | .ok (.ret r), hr2 =>
        obtain ⟨rfl, hp, tk, rfl, m⟩ := hr2
        repeat (any_goals (first | assumption | wp_step))
        exact q hp tk m
end
def unq {α : Type} [DecidableEq α] : List α → List α
  | [] => []
  | x :: xs => if x ∈ unq xs then unq xs else x :: unq xs
theorem mem_unq {α : Type} [DecidableEq α] {x : α} : ∀ {xs : List α}, x ∈ unq xs ↔ x ∈ xs
  | [] => Iff.rfl
  | y :: ys => by
    have ih := mem_unq (x := x) (xs := ys)
    unfold unq
    split
    · rename_i h
      rw [ih, List.mem_cons]
      constructor
      · exact .inr
      · rintro (rfl | h2)
        · exact mem_unq.mp h
        · exact h2
    · rw [List.mem_cons, List.mem_cons, ih]
theorem nd_unq {α : Type} [DecidableEq α] : ∀ xs : List α, (unq xs).Nodup
  | [] => List.nodup_nil
  | x :: xs => by
    unfold unq
    split
    · exact nd_unq xs
    · rename_i h
      exact List.nodup_cons.mpr ⟨h, nd_unq xs⟩
abbrev T3 := Int × Int × Int
def tr3 (t : T3) : D := .tup [.int t.1, .int t.2.1, .int t.2.2]
def lt3 (x y : T3) : Bool := decide (x.1 < y.1 ∨ x.1 = y.1 ∧ (x.2.1 < y.2.1 ∨ x.2.1 = y.2.1 ∧ x.2.2 < y.2.2))
theorem swo_3 : SrtO.Swo lt3 := by
  refine ⟨fun x y h => ?_, fun x y z h1 h2 => ?_⟩
  · unfold lt3 at *
    have a := of_decide_eq_true h
    exact decide_eq_false (by omega)
  · unfold lt3 at *
    have a := of_decide_eq_false h1
    have b := of_decide_eq_false h2
    exact decide_eq_false (by omega)
theorem eq_3 (x y : T3) (h : SrtO.eqv lt3 x y = true) : y = x := by
  obtain ⟨h1, h2⟩ := SrtO.eqv_iff.mp h
  unfold lt3 at h1 h2
  have a := of_decide_eq_false h1
  have b := of_decide_eq_false h2
  obtain ⟨x1, x2, x3⟩ := x
  obtain ⟨y1, y2, y3⟩ := y
  dsimp only at a b
  simp only [Prod.mk.injEq]
  omega
def t3s : List D → Option (List T3)
  | [] => some []
  | .tup [.int i, .int j, .int k] :: r => match t3s r with
    | some ps => some ((i, j, k) :: ps)
    | none => none
  | _ => none
theorem t3s_ok : ∀ {xs : List D} {ps : List T3}, t3s xs = some ps → xs = ps.map tr3
  | [], ps, h => by cases h; rfl
  | x :: xs, ps, h => by
    unfold t3s at h
    split at h
    · rename_i e; cases e
    · rename_i i j k r e
      cases e
      split at h
      · rename_i qs hq
        cases h
        rw [t3s_ok hq]
        rfl
      · cases h
    · cases h
def smallT (t : T3) : Bool := decide (0 ≤ t.1 ∧ t.1 < 64 ∧ 0 ≤ t.2.1 ∧ t.2.1 < 64 ∧ 0 ≤ t.2.2 ∧ t.2.2 < 64)
/-- sorted(set(xs)): ints, or triples of small ints -/
def gSortSet : GL := fun ds M => match ds with
  | [.ref n] => match hSeq M (.ref n) with
    | some xs => match intsOf xs with
      | some is => if is.length < 63 then some (.ref M.length, M ++ [.lst ((srtB ltI (unq is)).map D.int)]) else none
      | none => match t3s xs with
        | some ts => if (ts.all smallT && decide ((unq ts).length < 63)) = true then some (.ref M.length, M ++ [.lst ((srtB lt3 (unq ts)).map tr3)]) else none
        | none => none
    | none => none
  | _ => none
section
variable {X : Cx}
def rSetU (K : PySem.W.Frag) (P : Program) (w : World) : List V → Hp → VK → Prop := fun xs H Q => ∃ (l : Addr) (ks : AL) (U : List (List Int)), xs = [V.ref l] ∧ SqL K H l (ks.map fun p => V.ref p.1) ∧ (∀ p ∈ ks, SqT K H p.1 (p.2.map V.int)) ∧ U.length < 63 ∧ (∀ p ∈ ks, p.2 ∈ U) ∧
  ∀ a L, H a = none → (∀ p ∈ L, p ∈ ks) → (∀ p ∈ ks, p.2 ∈ L.map (·.2)) → Q (.ref a) (upd H a (SetTO P w a L))
theorem cr_setU (hc : X.calm = true) (hu : X.A.units + 64 < cLine) : CallR X (.type "set") (rSetU X.K X.prog X.w) := by
  intro pins s σ H xs us Q I r h
  obtain ⟨l, ks, U, rfl, hl, hk, hU, hin, q⟩ := h
  rw [Vals.ref1 r]
  obtain ⟨its, rv, pl, hz⟩ := I.list hl
  have isT : ∀ p ∈ ks, IsT X.prog X.w s.heap p.2 p.1 := fun p hp => I.isT (hk p hp)
  have et : its.toArray.toList = ks.map fun p => Value.ref p.1 := by simpa using refs_of_vals rv
  have hsz : its.toArray.size = ks.length := by rw [← Array.length_toList, et, List.length_map]
  refine set_call (Mk := fun hp => (∃ L es ep tb, SetTR X.prog X.w hp s.heap.objs.size L es ep tb ∧ Got ks ks.length L) ∧ ∀ b o, s.heap.get? b = some o → hp.get? b = some o) pl.isList (fun R hR => ?_) fun hp tk m => ?_
  · refine set_walk rfl (by simp [I.ok.hd hc]) pl.isList fun G it Pv St eit eG W0 hv hne st0 hget => ?_
    rw [hsz] at W0
    refine fill_go W0 hne hU hin (fun i v hP => ?_) isT (hi_none (Nat.le_refl _)) (fun b hb => hi_none ?_) (show X.A.units + 3 < cLine by omega) ks.length 0 _ (Nat.zero_add _) st0 (fun b o z => Heap.get?_push_of_some _ (Heap.get?_push_of_some _ z)) ⟨[], #[], 0, _, setTR_fresh hget, Got.zero ks⟩ fun t' f => ?_
    · have h1 : its.toArray.toList[i]? = some v := by rw [Array.getElem?_toList]; exact hv i v hP
      rw [et, List.getElem?_map] at h1
      cases h2 : ks[i]? with
      | none => rw [h2] at h1; cases h1
      | some p => rw [h2] at h1; exact ⟨p, rfl, (Option.some.inj h1).symm⟩
    · rw [List.mem_singleton.mp hb, eit, Heap.size_push]
      exact Nat.le_succ _
    · obtain ⟨h2, g2, d2, k2, o2⟩ := t'
      have e1 : g2 = s.gens := (eG _ _ f.mv.gens).symm
      have e2 : d2 = s.drawn := f.mv.drawn
      have e3 : o2 = s.os := f.mv.os
      subst e1 e2 e3
      exact hR h2 k2 ⟨f.st, f.kp⟩
  · obtain ⟨⟨L, es, ep, tb, h1, g⟩, h2⟩ := m
    exact ⟨.ref s.heap.objs.size, upd H s.heap.objs.size (SetTO X.prog X.w s.heap.objs.size L), I.laid (t' := tk) h2 (Nat.le_refl _) (setTO_new h1.t0), rfl, q _ L (I.hok.fresh (Nat.le_refl _)) (fun p hp => List.mem_of_mem_take (g.sub p hp)) fun p hp => g.all p (by rw [List.take_length]; exact hp)⟩
def rSetI (K : PySem.W.Frag) (w : World) : List V → Hp → VK → Prop := fun xs H Q => ∃ (l : Addr) (ns : List Int), xs = [V.ref l] ∧ SqL K H l (ns.map V.int) ∧ ns.length < 63 ∧ ∀ a c, H a = none → c ≤ ns.length → Q (.ref a) (upd H a (SetO w a (fun j => decide (j ∈ ns)) c))
theorem cr_setI (hc : X.calm = true) : CallR X (.type "set") (rSetI X.K X.w) := by
  intro pins s σ H xs us Q I r h
  obtain ⟨l, ns, rfl, hl, hn, q⟩ := h
  rw [Vals.ref1 r]
  obtain ⟨its, rv, pl, hz⟩ := I.list hl
  have hi : IntsAre its.toArray.toList ns := by simpa using ints_of_vals rv
  have hsz : its.toArray.size = ns.length := by rw [← Array.length_toList]; exact hi.length
  refine set_call (Mk := fun hp => (∃ c, c ≤ ns.length ∧ SetR X.w hp s.heap.objs.size (fun j => decide (j ∈ ns)) c) ∧ ∀ b o, s.heap.get? b = some o → hp.get? b = some o) pl.isList (fun R hR => ?_) fun hp tk m => ?_
  · refine set_walk rfl (by simp [I.ok.hd hc]) pl.isList fun G it Pv St eit eG W0 hv hne st0 hget => ?_
    rw [hsz] at W0
    refine set_update_ints W0 s.heap.objs.size hne ns rfl (by unfold scanBound; omega) (fun i v hP => ?_) ns.length 0 _ (by omega) (Nat.zero_le _) st0 ⟨0, Nat.le_refl _, setR_new_at hget⟩ fun t' c f hcn S' => ?_
    · have h1 : its.toArray.toList[i]? = some v := by rw [Array.getElem?_toList]; exact hv i v hP
      have hlt : i < ns.length := by have := (List.getElem?_eq_some_iff.mp h1).1; rw [hi.length] at this; exact this
      obtain ⟨t, ht⟩ := hi.get i _ (List.getElem?_eq_getElem hlt)
      rw [h1] at ht
      exact ⟨_, t, List.getElem?_eq_getElem hlt, Option.some.inj ht⟩
    · obtain ⟨h2, g2, d2, k2, o2⟩ := t'
      have e1 : g2 = s.gens := (eG _ _ f.gens).symm
      have e2 : d2 = s.drawn := f.drawn
      have e3 : o2 = s.os := f.os
      subst e1 e2 e3
      refine hR h2 k2 ⟨⟨c, hcn, S'⟩, fun b o z => f.heap b o (fun hb => ?_) (Heap.get?_push_of_some _ (Heap.get?_push_of_some _ z))⟩
      have hlt := Heap.lt_size z
      rcases List.mem_cons.mp hb with hb | hb
      · exact Nat.ne_of_lt hlt hb
      · rw [List.mem_singleton.mp hb, eit, Heap.size_push] at hlt
        exact Nat.lt_irrefl _ (Nat.lt_trans (Nat.lt_succ_self _) hlt)
  · obtain ⟨⟨c, hcn, h1⟩, h2⟩ := m
    exact ⟨.ref s.heap.objs.size, upd H s.heap.objs.size (SetO X.w s.heap.objs.size (fun j => decide (j ∈ ns)) c), I.laid (t' := tk) h2 (Nat.le_refl _) (setO_new h1), rfl, q _ c (I.hok.fresh (Nat.le_refl _)) hcn⟩
end
def t3L (t : T3) : List Int := [t.1, t.2.1, t.2.2]
theorem t3L_inj {a b : T3} (h : t3L a = t3L b) : a = b := by
  obtain ⟨a1, a2, a3⟩ := a
  obtain ⟨b1, b2, b3⟩ := b
  simp only [t3L, List.cons.injEq, and_true] at h
  simp only [Prod.mk.injEq]
  exact h
theorem rv_t3 {K : PySem.W.Frag} {H : Hp} {μ : List Addr} {t : T3} {v : V} (r : RV K H μ (tr3 t) v) : ∃ a, v = .ref a ∧ SqT K H a ((t3L t).map V.int) := by
  cases r with
  | tup g rs =>
    cases rs with
    | cons r1 rs => cases rs with
      | cons r2 rs => cases rs with
        | cons r3 rs => cases rs; cases r1; cases r2; cases r3; exact ⟨_, rfl, g⟩
theorem rv_of_t3 {K : PySem.W.Frag} {H : Hp} {μ : List Addr} {t : T3} {a : Addr} (g : SqT K H a ((t3L t).map V.int)) : RV K H μ (tr3 t) (.ref a) := .tup g (.cons (.int _) (.cons (.int _) (.cons (.int _) .nil)))
theorem rvs_t3 {K : PySem.W.Frag} {H : Hp} {μ : List Addr} : ∀ {ts : List T3} {vs : List V}, RVs K H μ (ts.map tr3) vs → ∃ ks : AL, vs = ks.map (fun p => V.ref p.1) ∧ ks.map (·.2) = ts.map t3L ∧ ∀ p ∈ ks, SqT K H p.1 (p.2.map V.int)
  | [], _, .nil => ⟨[], rfl, rfl, fun p h => by cases h⟩
  | t :: ts, _, .cons r rs => by
    obtain ⟨a, rfl, g⟩ := rv_t3 r
    obtain ⟨ks, rfl, h2, h3⟩ := rvs_t3 rs
    exact ⟨(a, t3L t) :: ks, rfl, by rw [List.map_cons, h2]; rfl, fun p hp => by
      rcases List.mem_cons.mp hp with rfl | hp
      · exact g
      · exact h3 p hp⟩
theorem code3 (t : T3) : TS.code 64 (t3L t) = t.1 * 4096 + t.2.1 * 64 + t.2.2 := by
  show t.1 * 64 ^ 2 + (t.2.1 * 64 ^ 1 + (t.2.2 * 64 ^ 0 + 0)) = _
  have e2 : (64 : Int) ^ 2 = 4096 := by decide
  have e1 : (64 : Int) ^ 1 = 64 := by decide
  have e0 : (64 : Int) ^ 0 = 1 := by decide
  rw [e2, e1, e0]
  omega
theorem sorted_t3 {L : List (List Int)} {ts : List T3} (hs : ∀ t ∈ ts, smallT t = true) (nd : L.Nodup) (hm : ∀ k, k ∈ L ↔ k ∈ ts.map t3L) (pw : L.Pairwise fun a b => TS.code 64 a ≤ TS.code 64 b) : L = (srtB lt3 (unq ts)).map t3L := by
  have ex : ∃ us : List T3, L = us.map t3L := by
    clear nd pw
    have : ∀ k ∈ L, ∃ t, k = t3L t := fun k hk => by
      obtain ⟨t, _, e⟩ := List.mem_map.mp ((hm k).mp hk)
      exact ⟨t, e.symm⟩
    clear hm
    induction L with
    | nil => exact ⟨[], rfl⟩
    | cons k L ih =>
      obtain ⟨us, e⟩ := ih fun k hk => this k (List.mem_cons_of_mem _ hk)
      obtain ⟨t, e2⟩ := this k List.mem_cons_self
      exact ⟨t :: us, by rw [e, e2]; rfl⟩
  obtain ⟨us, rfl⟩ := ex
  have hmem : ∀ t, t ∈ us ↔ t ∈ ts := fun t => by
    have h := hm (t3L t)
    constructor
    · intro ht
      obtain ⟨u, hu, e⟩ := List.mem_map.mp (h.mp (List.mem_map.mpr ⟨t, ht, rfl⟩))
      rw [← t3L_inj e]; exact hu
    · intro ht
      obtain ⟨u, hu, e⟩ := List.mem_map.mp (h.mpr (List.mem_map.mpr ⟨t, ht, rfl⟩))
      rw [← t3L_inj e]; exact hu
  have ndu : us.Nodup := by
    refine (List.pairwise_map.mp nd).imp ?_
    intro a b h e
    exact h (by rw [e])
  congr 1
  refine SrtO.stb_uniq swo_3 ?_ (srtB_srtd swo_3 _) (stb_perm eq_3 (((List.perm_ext_iff_of_nodup ndu (nd_unq ts)).mpr fun t => by rw [hmem, mem_unq]).trans (srtB_perm lt3 _).symm))
  refine List.Pairwise.imp_of_mem (fun {a b} ha hb h => ?_) (List.pairwise_map.mp pw)
  have h1 := of_decide_eq_true (hs a ((hmem a).mp ha))
  have h2 := of_decide_eq_true (hs b ((hmem b).mp hb))
  rw [code3, code3] at h
  exact decide_eq_false (by omega)
theorem sorted_ints {L ns : List Int} (pw : L.Pairwise (· < ·)) (hm : ∀ k, k ∈ L ↔ k ∈ ns) : L = srtB ltI (unq ns) := by
  have nd : L.Nodup := pw.imp fun h e => by omega
  refine SrtO.stb_uniq swo_I ?_ (srtB_srtd swo_I _) (stb_perm eq_I (((List.perm_ext_iff_of_nodup nd (nd_unq ns)).mpr fun t => by rw [hm, mem_unq]).trans (srtB_perm ltI _).symm))
  exact pw.imp fun h => decide_eq_false (by omega)
section
variable {X : Cx} {Γ : Gm} {W : WX} {e : Expr} {fe : MX} {p p2 pos pos2 : Pos}
theorem ex_sset (hc : X.calm = true) (hu : X.A.units + 64 < cLine) (he : EX X Γ W e fe) (hm : X.mg "sorted" = none) (hm2 : X.mg "set" = none) (hg : Gl X "sorted" := by rfl) (hg2 : Gl X "set" := by rfl)
    (h1 : starEach [Expr.Call (.Name "set" p2) [e] [] pos2] X.env = (false, eval (.Call (.Name "set" p2) [e] [] pos2) X.env) :: starEach [] X.env := by rfl) (h2 : starEach [e] X.env = (false, eval e X.env) :: starEach [] X.env := by rfl) :
    EX X Γ W (.Call (.Name "sorted" p) [.Call (.Name "set" p2) [e] [] pos2] [] pos) (xB gSortSet (aCons fe aNil)) := by
  have key : ∀ (r1 : List V → Hp → VK → Prop) (r2 : List V → Hp → VK → Prop), CallR X (.type "set") r1 → CallR X (.builtin "sorted") r2 → PE X (.Call (.Name "sorted" p) [.Call (.Name "set" p2) [e] [] pos2] [] pos) fun σ H Q => tX X.prog X.w X.K Γ W fe σ H fun v H1 => r1 [v] H1 fun y H2 => r2 [y] H2 Q :=
    fun r1 r2 c1 c2 => pe_callB c2 hg hm rfl (pa_cons (pe_callTy c1 hg2 hm2 rfl (pa_cons he pa_nil h2) (by decide) (by decide) h2) pa_nil h1) (by decide) (by decide) h1
  have all := key (fun vs H Q => rSetU X.K X.prog X.w vs H Q ∨ rSetI X.K X.w vs H Q) (fun vs H Q => rSortedT X.K X.prog X.w vs H Q ∨ rSortedSet X.w vs H Q) (fun pins s σ H xs us Q I r h => h.elim (cr_setU hc hu pins s σ H xs us Q I r) (cr_setI hc pins s σ H xs us Q I r)) (fun pins s σ H xs us Q I r h => h.elim (cr_sortedT hc pins s σ H xs us Q I r) (cr_sortedSet hc pins s σ H xs us Q I r))
  refine PE.imp all fun σ H Q ⟨ζ, M, μ, rr, h⟩ => ⟨ζ, M, μ, rr, ?_⟩
  unfold xB aCons aNil at h
  refine Pst.then (k := fun d M1 => R.of (gSortSet [d] M1)) (by
    cases hf : fe ζ M with
    | ok d M1 => rw [hf] at h; exact h
    | ex c fs M1 => rw [hf] at h; exact h
    | no => rw [hf] at h; exact h) fun v H1 d M1 μ1 nx rh rv h1 => ?_
  replace h1 := h1.of
  unfold gSortSet at h1
  split at h1
  · rename_i n e1
    cases e1
    split at h1
    · rename_i xs hx
      obtain ⟨l, vs, rfl, hs, r⟩ := hRef_ok rh hx rv
      split at h1
      · rename_i is hi
        split at h1
        · rename_i hl
          have ev := intsOf_ok hi r
          subst ev
          refine .inr ⟨l, is, rfl, hs, hl, fun a c ha hcn => .inr ⟨a, _, c, rfl, upd_same, by omega, fun ns q pw hk hlen hq => ?_⟩⟩
          have en := sorted_ints (ns := is) pw fun k => by rw [hk]; simp
          subst en
          have nx1 := Nx.fresh0 (μ := μ1) (u := SetO X.w a (fun j => decide (j ∈ is)) c) ha
          have rh2 := rh.fresh (u := SetO X.w a (fun j => decide (j ∈ is)) c) ha
          exact h1 _ _ _ (nx1.trans (Nx.fresh hq [q])) (rh2.alloc hq ⟨_, upd_same, RVs.ints _⟩) (.ref rh2.last)
        · exact h1.elim
      · split at h1
        · rename_i ts ht
          split at h1
          · rename_i hsm
            rw [Bool.and_eq_true, List.all_eq_true, decide_eq_true_eq] at hsm
            have ex := t3s_ok ht
            subst ex
            obtain ⟨ks, rfl, hk2, hk3⟩ := rvs_t3 r
            have hin : ∀ p ∈ ks, p.2 ∈ (unq ts).map t3L := fun p hp => by
              have : p.2 ∈ ks.map (·.2) := List.mem_map.mpr ⟨p, hp, rfl⟩
              rw [hk2] at this
              obtain ⟨t, h1, h2⟩ := List.mem_map.mp this
              exact List.mem_map.mpr ⟨t, mem_unq.mpr h1, h2⟩
            refine .inl ⟨l, ks, (unq ts).map t3L, rfl, hs, hk3, by rw [List.length_map]; exact hsm.2, hin, fun a L ha hL1 hL2 => .inl ?_⟩
            have nx1 := Nx.fresh0 (μ := μ1) (u := SetTO X.prog X.w a L) ha
            refine ⟨a, L, 3, 64, rfl, upd_same, fun p hp => nx1.sqT (hk3 p (hL1 p hp)), by decide, fun p hp => ?_, fun L' q pm nd hlt pw hq => ?_⟩
            · obtain ⟨t, h1, h2⟩ := List.mem_map.mp (hin p (hL1 p hp))
              have hst := of_decide_eq_true (hsm.1 t (mem_unq.mp h1))
              rw [← h2]
              refine ⟨rfl, ?_⟩
              intro i hi
              simp only [t3L, List.mem_cons, List.not_mem_nil, or_false] at hi
              rcases hi with rfl | rfl | rfl <;> omega
            · have hmem : ∀ k, k ∈ L'.map (·.2) ↔ k ∈ ts.map t3L := fun k => by
                rw [(pm.map (·.2)).mem_iff, ← hk2]
                constructor
                · intro hk
                  obtain ⟨p, hp, rfl⟩ := List.mem_map.mp hk
                  exact List.mem_map.mpr ⟨p, hL1 p hp, rfl⟩
                · intro hk
                  obtain ⟨p, hp, rfl⟩ := List.mem_map.mp hk
                  exact hL2 p hp
              have eL := sorted_t3 hsm.1 nd hmem (List.pairwise_map.mpr pw)
              have rl : RVs X.K (upd H1 a (SetTO X.prog X.w a L)) μ1 ((srtB lt3 (unq ts)).map tr3) (L'.map fun q => V.ref q.1) := by
                have go : ∀ {us : List T3} {L' : AL}, L'.map (·.2) = us.map t3L → (∀ p ∈ L', p ∈ ks) → RVs X.K (upd H1 a (SetTO X.prog X.w a L)) μ1 (us.map tr3) (L'.map fun q => V.ref q.1) := by
                  intro us
                  induction us with
                  | nil =>
                    intro L' e _
                    cases L' with
                    | nil => exact .nil
                    | cons p L' => simp at e
                  | cons u us ih =>
                    intro L' e hp
                    cases L' with
                    | nil => simp at e
                    | cons p L' =>
                      rw [List.map_cons, List.map_cons, List.cons.injEq] at e
                      refine .cons (rv_of_t3 ?_) (ih e.2 fun p hp' => hp p (List.mem_cons_of_mem _ hp'))
                      rw [← e.1]
                      exact nx1.sqT (hk3 p (hp p List.mem_cons_self))
                exact go eL fun p hp => hL1 p (pm.mem_iff.mp hp)
              have rh2 := rh.fresh (u := SetTO X.prog X.w a L) ha
              exact h1 _ _ _ (nx1.trans (Nx.fresh hq [q])) (rh2.alloc hq ⟨_, upd_same, rl.mono (Nx.fresh hq [q])⟩) (.ref rh2.last)
          · exact h1.elim
        · exact h1.elim
    · exact h1.elim
  · exact h1.elim
end
end Mi
end
section
set_option maxRecDepth 100000
set_option maxHeartbeats 4000000
set_option autoImplicit false
namespace Mi
open PySem PySem.Spec PyProof.Rows L2

section
variable {X : Cx} {Γ : Gm} {W : WX}
variable {elt tg iter tg1 iter1 : Expr} {ifs ifs1 : List Expr} {scope : Scope} {own : List (Str × Nat)} {pos : Pos} {s s1 : MY} {p p1 : Pt} {t t1 : MT} {f : MX} {vs1 : List Nat}
/-- an item and its test, told by what the block's end wants -/
theorem lcB_of {n : Nat} {D' : Addr} {σ σ0 : L2.St} {ζ : Sl} {M : Hs} {μ : List Addr} {H : Hp} {N : Hp → Prop} {C : R Unit → R D} {Q : VK} (rr : RR X.prog X.w X.K Γ μ H ζ M σ) (hn : μ[n]? = some D')
    (hC : ∀ r, C r = match r with | .ok _ M' => C (.ok () M') | _ => .no) (hN : ∀ M' μ' H', Nx μ H μ' H' → RH X.prog X.w X.K Γ μ' M' H' → Pst X.prog X.w X.K Γ (relV X.K) W σ0 μ' H' (C (.ok () M')) Q → N H')
    (h : Pst X.prog X.w X.K Γ (relV X.K) W σ0 μ H (C (lcB t f n ζ M)) Q) :
    tT X.prog X.w X.K Γ W0 t σ H fun b H6 => if b = true then tX X.prog X.w X.K Γ W0 f σ H6 fun y H7 => ∃ acc, H7 D' = some (.lst acc) ∧ acc.length < sizeLine ∧ N (upd H7 D' (.lst (acc ++ [y]))) else N H6 := by
  refine ⟨ζ, M, μ, rr, ?_⟩
  unfold lcB at h
  cases ht : t ζ M with
  | ex c fs M4 => rw [ht, hC] at h; exact h.elim
  | no => rw [ht, hC] at h; exact h.elim
  | ok b M4 =>
    rw [ht] at h
    intro b' H4 μ4 nx4 rh4 rb
    have rb : b = b' := rb
    subst rb
    have h4 := Pst.mono h nx4
    cases b with
    | false =>
      rw [if_neg Bool.false_ne_true]
      exact hN M4 μ4 H4 nx4 rh4 h4
    | true =>
      rw [if_pos rfl]
      refine ⟨ζ, M4, μ4, ⟨rr.sl.mono nx4, rh4⟩, ?_⟩
      simp only at h4
      cases hf : f ζ M4 with
      | ex c fs M5 => rw [hf, hC] at h4; exact h4.elim
      | no => rw [hf, hC] at h4; exact h4.elim
      | ok v M5 =>
        rw [hf] at h4
        intro z H5 μ5 nx5 rh5 rz
        have h5 := Pst.mono h4 nx5
        simp only at h5
        cases hput : lput n v M5 with
        | ex c fs M6 => rw [hput, hC] at h5; exact h5.elim
        | no => rw [hput, hC] at h5; exact h5.elim
        | ok u M6 =>
          rw [hput] at h5
          have hn5 := nx5.pre _ _ (nx4.pre _ _ hn)
          obtain ⟨acc, ha, hz, rh6, nx6⟩ := lput_ok rh5 hn5 rz hput
          exact ⟨acc, ha, hz, hN M6 μ5 _ ((nx4.trans nx5).trans nx6) rh6 (Pst.mono h5 nx6)⟩
theorem tLc2_of {vs : List Nat} {σ : L2.St} {H : Hp} {Q : VK} (hp : ∀ i ∈ p.slots, i ∈ vs) (hp1 : ∀ i ∈ p1.slots, i ∈ vs1) (hv : ∀ i ∈ vs1, i ∈ vs) (h : tX X.prog X.w X.K Γ W (xLc2 s vs p t s1 p1 vs1 t1 f) σ H Q) :
    tLc2 (iY X.prog X.w X.K Γ W s) (gP X.prog X.w X.K Γ p) (tT X.prog X.w X.K Γ W0 t) (iY X.prog X.w X.K Γ W0 s1) (gP X.prog X.w X.K Γ p1) (tT X.prog X.w X.K Γ W0 t1) (tX X.prog X.w X.K Γ W0 f) vs vs1 σ H Q := by
  obtain ⟨ζ, M, μ, rr, h⟩ := h
  refine ⟨ζ, M, μ, rr, Pst.then h fun J H1 yd M1 μ1 nx rh rv h1 => fun D' hD => ?_⟩
  have nx0 : Nx μ1 H1 (μ1 ++ [D']) (upd H1 D' (.lst [])) := Nx.fresh hD [D']
  have rh0 : RH X.prog X.w X.K Γ (μ1 ++ [D']) (M1 ++ [.lst []]) (upd H1 D' (.lst [])) := rh.alloc hD ⟨[], upd_same, .nil⟩
  refine ⟨fun i m H => ∃ M μ, Nx μ1 H1 μ H ∧ RH X.prog X.w X.K Γ μ M H ∧ μ[M1.length]? = some D' ∧
    Pst X.prog X.w X.K Γ (relV X.K) W σ μ H ((lcN yd.y p (lcB2 t s1 p1 vs1 t1 f M1.length) (wipeD ζ vs) m i M).bind fun _ M2 => .ok (.ref M1.length) M2) Q,
    ⟨yd.fuel, _, _, nx0, rh0, rh.last, Pst.mono h1 nx0⟩, ?_⟩
  rintro i m H2 ⟨M2, μ2, nx2, rh2, hn, h2⟩
  cases m with
  | zero => exact h2.elim
  | succ m =>
    obtain ⟨st, go⟩ := rv i H2 μ2 M2 nx2 rh2
    simp only [lcN] at h2
    split at h2
    · exact h2.elim
    · rename_i hy
      exact .inl ⟨st hy, h2 _ _ _ (Nx.refl _ _) rh2 (.ref hn)⟩
    · rename_i d hy
      obtain ⟨g1, g2⟩ := go d hy
      refine .inr ⟨g1, fun H' => ∃ M μ, Nx μ1 H1 μ H' ∧ RH X.prog X.w X.K Γ μ M H' ∧ μ[M1.length]? = some D' ∧
        Pst X.prog X.w X.K Γ (relV X.K) W σ μ H' ((lcN yd.y p (lcB2 t s1 p1 vs1 t1 f M1.length) (wipeD ζ vs) m (i + 1) M).bind fun _ M2 => .ok (.ref M1.length) M2) Q, fun H' q => ⟨m, Nat.lt_succ_self _, q⟩, fun x H3 hx => ?_⟩
      obtain ⟨μ3, nx3, rh3, rv3⟩ := g2 x H3 hx
      refine ⟨d, M2, μ3, rh3, rv3, ?_⟩
      split at h2
      · exact h2.elim
      · rename_i l hl
        rw [hl]
        intro l' br
        have hs : ∀ q ∈ l', q.1 ∈ vs := br_slots br fun q hq => hp _ (bindP_slots p hl q hq)
        refine ⟨(wipe_setAll hs).trans (wipe_wipe fun _ h => h), ?_⟩
        have sl3 : RSl X.K H3 μ3 (setAll (wipeD ζ vs) l) (setAll (wipe σ vs) l') := RSl.setAll br (((rr.sl.mono nx).mono (nx2.trans nx3)).wiped vs)
        have n3 := nx2.trans nx3
        have hn3 := nx3.pre _ _ hn
        have h3 := Pst.mono h2 nx3
        generalize setAll (wipeD ζ vs) l = ζ2 at sl3 h3 ⊢
        generalize setAll (wipe σ vs) l' = σ2 at sl3 ⊢
        refine ⟨ζ2, M2, μ3, ⟨sl3, rh3⟩, ?_⟩
        unfold lcB2 at h3
        cases ht : t ζ2 M2 with
        | ex c fs M4 => rw [ht] at h3; exact h3.elim
        | no => rw [ht] at h3; exact h3.elim
        | ok b M4 =>
          rw [ht] at h3
          intro b' H4 μ4 nx4 rh4 rb
          have rb : b = b' := rb
          subst rb
          have h4 := Pst.mono h3 nx4
          cases b with
          | false =>
            rw [if_neg Bool.false_ne_true]
            exact ⟨M4, μ4, n3.trans nx4, rh4, nx4.pre _ _ hn3, h4⟩
          | true =>
            rw [if_pos rfl]
            refine ⟨ζ2, M4, μ4, ⟨sl3.mono nx4, rh4⟩, ?_⟩
            simp only at h4
            cases hsrc : s1 ζ2 M4 with
            | ex c fs M5 => rw [hsrc] at h4; exact h4.elim
            | no => rw [hsrc] at h4; exact h4.elim
            | ok yd1 M5 =>
              rw [hsrc] at h4
              intro J1 H5 μ5 nx5 rh5 rv5
              have h5 := Pst.mono h4 nx5
              simp only at h5
              have n5 := (n3.trans nx4).trans nx5
              have hn5 := nx5.pre _ _ (nx4.pre _ _ hn3)
              refine ⟨fun j k H => ∃ M μ, Nx μ5 H5 μ H ∧ RH X.prog X.w X.K Γ μ M H ∧ μ[M1.length]? = some D' ∧
                Pst X.prog X.w X.K Γ (relV X.K) W σ μ H ((match lcN yd1.y p1 (lcB t1 f M1.length) (wipeD ζ2 vs1) k j M with
                  | .ok _ M' => lcN yd.y p (lcB2 t s1 p1 vs1 t1 f M1.length) (wipeD ζ vs) m (i + 1) M'
                  | _ => .no).bind fun _ M2 => .ok (.ref M1.length) M2) Q, ⟨yd1.fuel, M5, μ5, Nx.refl _ _, rh5, hn5, h5⟩, ?_⟩
              rintro j k H6 ⟨M6, μ6, nx6, rh6, hn6, h6⟩
              cases k with
              | zero => exact h6.elim
              | succ k =>
                obtain ⟨st1, go1⟩ := rv5 j H6 μ6 M6 nx6 rh6
                simp only [lcN] at h6
                cases hy1 : yd1.y j M6 with
                | none => rw [hy1] at h6; exact h6.elim
                | some od =>
                  cases od with
                  | none =>
                    rw [hy1] at h6
                    exact .inl ⟨st1 hy1, M6, μ6, n5.trans nx6, rh6, hn6, h6⟩
                  | some d1 =>
                    rw [hy1] at h6
                    simp only at h6
                    obtain ⟨g3, g4⟩ := go1 d1 hy1
                    refine .inr ⟨g3, fun H' => ∃ M μ, Nx μ5 H5 μ H' ∧ RH X.prog X.w X.K Γ μ M H' ∧ μ[M1.length]? = some D' ∧
                      Pst X.prog X.w X.K Γ (relV X.K) W σ μ H' ((match lcN yd1.y p1 (lcB t1 f M1.length) (wipeD ζ2 vs1) k (j + 1) M with
                        | .ok _ M' => lcN yd.y p (lcB2 t s1 p1 vs1 t1 f M1.length) (wipeD ζ vs) m (i + 1) M'
                        | _ => .no).bind fun _ M2 => .ok (.ref M1.length) M2) Q, fun H' q => ⟨k, Nat.lt_succ_self _, q⟩, fun x1 H7 hx1 => ?_⟩
                    obtain ⟨μ7, nx7, rh7, rv7⟩ := g4 x1 H7 hx1
                    refine ⟨d1, M6, μ7, rh7, rv7, ?_⟩
                    cases hl1 : bindP p1 d1 with
                    | none => rw [hl1] at h6; exact h6.elim
                    | some l1 =>
                      rw [hl1] at h6
                      simp only at h6
                      intro l1' br1
                      have hs1 : ∀ q ∈ l1', q.1 ∈ vs1 := br_slots br1 fun q hq => hp1 _ (bindP_slots p1 hl1 q hq)
                      refine ⟨(wipe_setAll hs1).trans (wipe_wipe fun _ h => h), ?_⟩
                      have sl7 : RSl X.K H7 μ7 (setAll (wipeD ζ2 vs1) l1) (setAll (wipe σ2 vs1) l1') := RSl.setAll br1 ((((sl3.mono nx4).mono nx5).mono (nx6.trans nx7)).wiped vs1)
                      have hn7 := nx7.pre _ _ hn6
                      refine lcB_of (W := W) (σ0 := σ) (C := fun r => (match (match r with
                          | .ok _ M' => lcN yd1.y p1 (lcB t1 f M1.length) (wipeD ζ2 vs1) k (j + 1) M'
                          | _ => .no) with
                        | .ok _ M' => lcN yd.y p (lcB2 t s1 p1 vs1 t1 f M1.length) (wipeD ζ vs) m (i + 1) M'
                        | _ => .no).bind fun _ M2 => .ok (.ref M1.length) M2) (Q := Q) ⟨sl7, rh7⟩ hn7 (fun r => by cases r <;> rfl) (fun M8 μ8 H8 nx8 rh8 h8 => ?_) ?_
                      · exact ⟨M8, μ8, (nx6.trans nx7).trans nx8, rh8, nx8.pre _ _ hn7, h8⟩
                      · exact Pst.mono h6 nx7
theorem ex_lc2 (hc : X.calm = true) (hN : X.N.Nodup) (hi : EI X Γ W tg iter s) (ok : BlkOk X.N X.env.scope scope own) (hv : ∀ i ∈ vs1, i ∈ own.map (·.2)) (hp : ∀ i ∈ p.slots, i ∈ own.map (·.2)) (hp1 : ∀ i ∈ p1.slots, i ∈ vs1)
    (hg : ∀ (s : Shared) (H : Hp) (C : Addr) (cl : List (Str × Addr)) (fp : List Addr), EG (X.blk s H scope (compEnvC scope cl C X.env) fp) Γ tg p) (ht : ∀ (s : Shared) (H : Hp) (C : Addr) (cl : List (Str × Addr)) (fp : List Addr), ETs (X.blk s H scope (compEnvC scope cl C X.env) fp) Γ W0 ifs t)
    (hi1 : ∀ (s : Shared) (H : Hp) (C : Addr) (cl : List (Str × Addr)) (fp : List Addr), EI (X.blk s H scope (compEnvC scope cl C X.env) fp) Γ W0 tg1 iter1 s1)
    (hg1 : ∀ (s : Shared) (H : Hp) (C : Addr) (cl : List (Str × Addr)) (fp : List Addr), EG (X.blk s H scope (compEnvC scope cl C X.env) fp) Γ tg1 p1) (ht1 : ∀ (s : Shared) (H : Hp) (C : Addr) (cl : List (Str × Addr)) (fp : List Addr), ETs (X.blk s H scope (compEnvC scope cl C X.env) fp) Γ W0 ifs1 t1)
    (he : ∀ (s : Shared) (H : Hp) (C : Addr) (cl : List (Str × Addr)) (fp : List Addr), EX (X.blk s H scope (compEnvC scope cl C X.env) fp) Γ W0 elt f) (hs : ∀ x, foldedSetIterable iter X.env x = pure x := by intro _; rfl) (hs1 : ∀ env x, foldedSetIterable iter1 env x = pure x := by intro _ _; rfl) :
    EX X Γ W (.ListComp elt [⟨tg, iter, ifs, 0⟩, ⟨tg1, iter1, ifs1, 0⟩] scope pos) (xLc2 s (own.map (·.2)) p t s1 p1 vs1 t1 f) :=
  PE.imp (pe_lc2 hc hN hi ok hv hg ht hi1 hg1 ht1 he hs hs1) fun σ H Q h => tLc2_of hp hp1 hv h
/-- name = [..], the name a local on one line -/
theorem es_setLc2 (i : Nat) {y : Str} {py spos : Pos} (hc : X.calm = true) (hN : X.N.Nodup) (hi : EI X Γ W tg iter s) (ok : BlkOk X.N X.env.scope scope own) (hv : ∀ i ∈ vs1, i ∈ own.map (·.2)) (hp : ∀ i ∈ p.slots, i ∈ own.map (·.2)) (hp1 : ∀ i ∈ p1.slots, i ∈ vs1)
    (hg : ∀ (s : Shared) (H : Hp) (C : Addr) (cl : List (Str × Addr)) (fp : List Addr), EG (X.blk s H scope (compEnvC scope cl C X.env) fp) Γ tg p) (ht : ∀ (s : Shared) (H : Hp) (C : Addr) (cl : List (Str × Addr)) (fp : List Addr), ETs (X.blk s H scope (compEnvC scope cl C X.env) fp) Γ W0 ifs t)
    (hi1 : ∀ (s : Shared) (H : Hp) (C : Addr) (cl : List (Str × Addr)) (fp : List Addr), EI (X.blk s H scope (compEnvC scope cl C X.env) fp) Γ W0 tg1 iter1 s1)
    (hg1 : ∀ (s : Shared) (H : Hp) (C : Addr) (cl : List (Str × Addr)) (fp : List Addr), EG (X.blk s H scope (compEnvC scope cl C X.env) fp) Γ tg1 p1) (ht1 : ∀ (s : Shared) (H : Hp) (C : Addr) (cl : List (Str × Addr)) (fp : List Addr), ETs (X.blk s H scope (compEnvC scope cl C X.env) fp) Γ W0 ifs1 t1)
    (he : ∀ (s : Shared) (H : Hp) (C : Addr) (cl : List (Str × Addr)) (fp : List Addr), EX (X.blk s H scope (compEnvC scope cl C X.env) fp) Γ W0 elt f)
    (hsw : swapsWith (.ListComp elt [⟨tg, iter, ifs, 0⟩, ⟨tg1, iter1, ifs1, 0⟩] scope pos) (some (.Name y py)) spos.line X.env = pure true) (hy : X.N[i]? = some y := by rfl) (hyl : X.env.scope.names.lookup y = some .local := by rfl)
    (hs : ∀ x, foldedSetIterable iter X.env x = pure x := by intro _; rfl) (hs1 : ∀ env x, foldedSetIterable iter1 env x = pure x := by intro _ _; rfl) : ES X Γ W (.Assign [.Name y py] (.ListComp elt [⟨tg, iter, ifs, 0⟩, ⟨tg1, iter1, ifs1, 0⟩] scope pos) spos) (sSet i (xLc2 s (own.map (·.2)) p t s1 p1 vs1 t1 f)) :=
  PS.imp (ps_setLc2 hc hN hy hyl hsw hi ok hv hg ht hi1 hg1 ht1 he hs hs1) fun E σ H ⟨ζ, M, μ, rr, h⟩ => tLc2_of hp hp1 hv ⟨ζ, M, μ, rr, PstS.then h rr.sl fun v H1 d M1 μ1 nx rh rv h1 => h1 _ _ _ (Nx.refl _ _) rh ((rr.sl.mono nx).set rv i)⟩
end

def rgD (a b : Int) : List D := (List.range (b - a).toNat).map fun i => D.int (a + (i : Nat))
theorem rvs_rg {K : PySem.W.Frag} {H : Hp} {μ : List Addr} (a b : Int) : RVs K H μ (rgD a b) (rgV a b) := RVs.map _ _ (fun i => .int _) _
def okRgV (b : Int) : Bool := match b with
  | .ofNat m => Nat.ble m 16777216
  | _ => false
theorem okRgV_ok {b : Int} (h : okRgV b = true) : 0 ≤ b ∧ b ≤ 16777216 := by
  cases b with
  | ofNat m =>
    have := Nat.le_of_ble_eq_true (show Nat.ble m 16777216 = true from h)
    rw [show Int.ofNat m = (m : Int) from rfl]
    omega
  | negSucc m => cases h
theorem okRgV_mk {b : Int} (h0 : 0 ≤ b) (h1 : b ≤ 16777216) : okRgV b = true := by
  cases b with
  | ofNat m =>
    rw [show Int.ofNat m = (m : Int) from rfl] at h0 h1
    exact Nat.ble_eq_true_of_le (show m ≤ 16777216 by omega)
  | negSucc m => rw [Int.negSucc_eq] at h0; omega
/-- list(range(..)) of one number -/
def gListRg : GL := fun ds M => match ds with
  | [.int b] => if okRgV b = true then some (.ref M.length, M ++ [.lst (rgD 0 b)]) else none
  | _ => none
def gTupRg : GL := fun ds M => match ds with
  | [.int b] => if okRgV b = true then some (.tup (rgD 0 b), M) else none
  | _ => none
def gRev : GL := fun ds M => match ds with
  | [.ref n] => match hSeq M (.ref n) with
    | some xs => some (.ref M.length, M ++ [.lst xs.reverse])
    | none => none
  | _ => none
section
variable {X : Cx} {Γ : Gm} {W : WX} {e : Expr} {fe : MX} {p p2 pos pos2 p1 p3 : Pos}
theorem b_one {g : GL} {σ : L2.St} {H : Hp} {Q : VK} {P : D → Hs → List Addr → Hp → V → Prop} (h : tX X.prog X.w X.K Γ W (xB g (aCons fe aNil)) σ H Q)
    (k : ∀ d v M1 μ1 H1, RH X.prog X.w X.K Γ μ1 M1 H1 → RV X.K H1 μ1 d v → Pk X.prog X.w X.K Γ (relV X.K) μ1 H1 (g [d] M1) Q → P d M1 μ1 H1 v) : tX X.prog X.w X.K Γ W fe σ H fun v H1 => ∃ d M1 μ1, P d M1 μ1 H1 v := by
  obtain ⟨ζ, M, μ, rr, h⟩ := h
  refine ⟨ζ, M, μ, rr, ?_⟩
  unfold xB aCons aNil at h
  refine Pst.then (k := fun d M1 => R.of (g [d] M1)) (by
    cases hf : fe ζ M with
    | ok d M1 => rw [hf] at h; exact h
    | ex c fs M1 => rw [hf] at h; exact h
    | no => rw [hf] at h; exact h) fun v H1 d M1 μ1 nx rh rv h1 => ⟨d, M1, μ1, k d v M1 μ1 H1 rh rv h1.of⟩
theorem ex_listRg (hc : X.calm = true) (he : EX X Γ W e fe) (hm : X.mg "list" = none) (hm2 : X.mg "range" = none) (hg : Gl X "list" := by rfl) (hg2 : Gl X "range" := by rfl) (h1 : starEach [e] X.env = (false, eval e X.env) :: starEach [] X.env := by rfl) :
    EX X Γ W (.Call (.Name "list" p) [.Call (.Name "range" p2) [e] [] pos2] [] pos) (xB gListRg (aCons fe aNil)) :=
  PE.imp (pe_listRg hc hg hm (prg_1 hg2 hm2 he (na := h1))) fun σ H Q h => by
    obtain ⟨ζ, M, μ, rr, h⟩ := b_one (P := fun d M1 μ1 H1 v => ∃ n, v = .int n ∧ RgOk 0 n ∧ ∀ q, H1 q = none → Q (.ref q) (upd H1 q (.lst (rgV 0 n)))) h fun d v M1 μ1 H1 rh rv h1 => by
      unfold gListRg at h1
      split at h1
      · rename_i b e1
        cases e1
        cases rv
        split at h1
        · rename_i hb
          have hb := okRgV_ok hb
          exact ⟨b, rfl, RgOk.of_le (Int.le_refl _) hb.2 (by omega) hb.1, fun q hq => Pk.new rh h1 hq ⟨_, upd_same, rvs_rg 0 b⟩⟩
        · exact h1.elim
      · exact h1.elim
    refine ⟨ζ, M, μ, rr, Pst.imp h fun v H1 ⟨d, M1, μ1, n, e, r, q⟩ => ⟨n, e, r, q⟩⟩
theorem ex_tupRg (hc : X.calm = true) (he : EX X Γ W e fe) (hm : X.mg "tuple" = none) (hm2 : X.mg "range" = none) (hg : Gl X "tuple" := by rfl) (hg2 : Gl X "range" := by rfl) (h1 : starEach [e] X.env = (false, eval e X.env) :: starEach [] X.env := by rfl) :
    EX X Γ W (.Call (.Name "tuple" p) [.Call (.Name "range" p2) [e] [] pos2] [] pos) (xB gTupRg (aCons fe aNil)) :=
  PE.imp (pe_tupRg hc hg hm (prg_1 hg2 hm2 he (na := h1))) fun σ H Q h => by
    obtain ⟨ζ, M, μ, rr, h⟩ := b_one (P := fun d M1 μ1 H1 v => ∃ n, v = .int n ∧ RgOk 0 n ∧ ∀ q, H1 q = none → Q (.ref q) (upd H1 q (.tup (rgV 0 n)))) h fun d v M1 μ1 H1 rh rv h1 => by
      unfold gTupRg at h1
      split at h1
      · rename_i b e1
        cases e1
        cases rv
        split at h1
        · rename_i hb
          have hb := okRgV_ok hb
          exact ⟨b, rfl, RgOk.of_le (Int.le_refl _) hb.2 (by omega) hb.1, fun q hq => Pk.tup rh h1 hq (rvs_rg 0 b)⟩
        · exact h1.elim
      · exact h1.elim
    refine ⟨ζ, M, μ, rr, Pst.imp h fun v H1 ⟨d, M1, μ1, n, e, r, q⟩ => ⟨n, e, r, q⟩⟩
theorem ex_rev {k : Nat} (he : EX X Γ W e fe) : EX X Γ W (.Subscript e (.Slice none none (some (.UnaryOp .USub (.Constant (.int 1) k p1) p2)) p3) pos) (xB gRev (aCons fe aNil)) :=
  PE.imp (pe_revL he) fun σ H Q h => by
    obtain ⟨ζ, M, μ, rr, h⟩ := b_one (P := fun d M1 μ1 H1 v => ∃ a xs, v = .ref a ∧ SqL X.K H1 a xs ∧ ∀ p, H1 p = none → Q (.ref p) (upd H1 p (.lst xs.reverse))) h fun d v M1 μ1 H1 rh rv h1 => by
      unfold gRev at h1
      split at h1
      · rename_i n e1
        cases e1
        split at h1
        · rename_i xs hx
          obtain ⟨l, vs, rfl, hs, r⟩ := hRef_ok rh hx rv
          exact ⟨l, vs, rfl, hs, fun p hp => Pk.new rh h1 hp ⟨_, upd_same, (r.mono (Nx.fresh hp _)).reverse⟩⟩
        · exact h1.elim
      · exact h1.elim
    refine ⟨ζ, M, μ, rr, Pst.imp h fun v H1 ⟨d, M1, μ1, a, xs, e, r, q⟩ => ⟨a, xs, e, r, q⟩⟩
end
end Mi
end
section
set_option maxRecDepth 100000
set_option maxHeartbeats 4000000
set_option autoImplicit false
namespace Mi
open PySem PySem.Spec PyProof.Rows L2

section
variable {X : Cx} {Γ : Gm} {W : WX}
/-- what a store into the new dict asks -/
def PutK (P : Program) (w : World) (K : PySem.W.Frag) (Γ : Gm) (a : Addr) (y z : V) (H : Hp) (N : Hp → Prop) : Prop := ∃ d e M μ n, RH P w K Γ μ M H ∧ RV K H μ d y ∧ RV K H μ e z ∧ μ[n]? = some a ∧ ∃ kvs q, hDct M n = some kvs ∧ keyOf d = some q ∧ kvs.length < sizeLine ∧
  ∀ H' μ', Nx μ H μ' H' → RH P w K Γ μ' (M.set n (.dct (dPut kvs q d e))) H' → N H'
theorem putK_ok {pins : List (Addr × Obj)} {σ : L2.St} {H : Hp} {s : Shared} {E : Value → Shared → Prop} {a : Addr} {y z : V} {u r : Value} {Q : Unit → Shared → Prop} {N : Hp → Prop} (hr : Room 1 X.A) (I : Inv X pins σ H s) (ry : RelV y u) (rz : RelV z r) (h : PutK X.prog X.w X.K Γ a y z H N)
    (q : ∀ s' H', Inv X pins σ H' s' → N H' → Q () s') : wpAny (model X.prog X.w) X.A (dictSet a u r) Q E s := by
  have hu := hr.un
  obtain ⟨d, e, M, μ, n, rh, rd, re, ea, kvs, k, hk, hq, hl, fin⟩ := h
  obtain ⟨es, g, rp⟩ := ndct rh hk ea
  obtain ⟨xs, p, hd, hs, hz⟩ := dict_at I rp (.inl g)
  obtain ⟨c, rfl, rfl, hi⟩ := key_is I hq rd ry
  obtain ⟨k1, k2, k3⟩ := keyOf_ok hq
  have hlen : xs.length < sizeLine := by have l1 := Paired.length rp; have l2 := Paired.length p; omega
  obtain ⟨es', r', p'⟩ := puts_of k1 k2 rd re rz rp p
  have hm : Mut (H a) := by rw [g]; trivial
  refine wpAny_dictSet_heap (by show X.A.units + 8 < cLine; omega) hi hd (fun h' hd' sb => ?_) hz
  have new : ObjOk X.prog X.w (upd H a (dHO X.prog X.w a es')) h' a (dHO X.prog X.w a es') := by
    obtain ⟨o', ds', ep', ho', hx', hdt', he', _, hn'⟩ := hd'
    refine ⟨⟨_, p', o', ds', ep', ho', hx', hdt', he', hn', hs, ?_⟩, ⟨_, ho'⟩, dExt⟩
    unfold storedH
    split <;> (simp; omega)
  have hex : ∃ u, h'.get? a = some u := by obtain ⟨o', _, _, ho', _⟩ := hd'; exact ⟨o', ho'⟩
  exact q _ _ (I.write (x := a) (e := a) (o := dHO X.prog X.w a es') (t' := s.toks + (nestedKind X.prog X.w).draws k) hm (.inl rfl) (fun c ob hc hb => (sb.2 c hc).trans hb) hex new) (fin _ _ (Nx.write hm) (rh.write ea hm ⟨es', upd_same, Paired.imp r' fun _ _ => REn.mono (Nx.write hm)⟩))
variable {kx vx tg iter : Expr} {ifs : List Expr} {scope : Scope} {own : List (Str × Nat)} {pos : Pos}
/-- {k: v for target in iter if ..}: a the new dict -/
def tDk (P : Program) (w : World) (K : PySem.W.Frag) (Γ : Gm) (wi : TI) (g : TG) (tt : TT) (tk tv : TE) (vs : List Nat) : TE := fun σ H Q => wi σ H fun J H1 => ∀ a, H1 a = none → ∃ Z : Nat → Nat → Hp → Prop, (∃ m, Z 0 m (upd H1 a (dHO P w a []))) ∧ ∀ i m H, Z i m H →
  (J.stop i H ∧ Q (.ref a) H) ∨ (J.go i H ∧ ∃ N : Hp → Prop, (∀ H', N H' → ∃ m', m' < m ∧ Z (i + 1) m' H') ∧ ∀ x H', J.yld i H x H' → g x (wipe σ vs) H' fun σ2 H2 => wipe σ2 vs = wipe σ vs ∧ tt σ2 H2 fun b H3 =>
    if b = true then tk σ2 H3 fun y H4 => tv σ2 H4 fun z H5 => PutK P w K Γ a y z H5 N else N H3)
abbrev BlkEX (X : Cx) (scope : Scope) (e : Expr) (t : TE) : Prop := ∀ (s : Shared) (H : Hp) (C : Addr) (cl : List (Str × Addr)) (fp : List Addr), PE (X.blk s H scope (compEnvC scope cl C X.env) fp) e t
theorem dk_core {wi : TI} {g : TG} {tt : TT} {tk tv : TE} {pins : List (Addr × Obj)} {s : Shared} {σ : L2.St} {H : Hp} {Q : VK} {pos' : Pos} {use : Option (Value → Sem Unit)} {Qf : Value → Shared → Prop} (hr : Room 1 X.A) (hc : X.calm = true) (hN : X.N.Nodup) (I : Inv X pins σ H s) (hi : PI X tg iter wi) (ok : BlkOk X.N X.env.scope scope own)
    (hg : ∀ (s : Shared) (H : Hp) (C : Addr) (cl : List (Str × Addr)) (fp : List Addr), PG (X.blk s H scope (compEnvC scope cl C X.env) fp) tg g) (ht : ∀ (s : Shared) (H : Hp) (C : Addr) (cl : List (Str × Addr)) (fp : List Addr), PTs (X.blk s H scope (compEnvC scope cl C X.env) fp) ifs tt)
    (hk : BlkEX X scope kx tk) (hv : BlkEX X scope vx tv) (hs : ∀ x, foldedSetIterable iter X.env x = pure x) (h : tDk X.prog X.w X.K Γ wi g tt tk tv (own.map (·.2)) σ H Q)
    (hRR : ∀ a C s' m H', Inv X pins σ H' s' → Q (.ref a) H' → s'.heap.Ns C m → FpOk X pins H' C → compPost (model X.prog X.w) X.A X.xe use Qf (.ref a) C (.ok .next) s') :
    wpAny (model X.prog X.w) X.A (comprehension (.DictComp kx vx [⟨tg, iter, ifs, 0⟩] scope pos) scope X.env pos' newDict false (eval iter X.env) use) Qf X.xe s := by
  have cells : ∀ y ∈ scope.names, y.2 = .free → ∃ c, X.env.cells.lookup y.1 = some c := fun y hy e => (ok.free y hy e).elim (fun k => I.ok.has _ (.inl k)) fun k => I.ok.has _ (.inr k)
  refine wpAny_comprehension_free (use := use) rfl hs (closure_ok cells) ok.kind (fun y hy e => by rw [ok.uniq y hy, e]) (thn (hi.run pins s σ H _ I h) fun xv s1 hx => thn hx fun itv s2 h2 => ?_)
  obtain ⟨it, fp, tn, J, H2, rfl, I2, T, st2, f2, q⟩ := h2
  refine wpAny_newObj_type (newEnv_comp ?_)
  obtain ⟨a, ea⟩ : ∃ a, a = s2.heap.objs.size := ⟨_, rfl⟩
  rw [← ea]
  obtain ⟨Z, ⟨m0, z0⟩, turn⟩ := q a (I2.hok.fresh (Nat.le_of_eq ea.symm))
  obtain ⟨s3, es3⟩ : ∃ s3 : Shared, s3 = { s2 with heap := s2.heap.push { cls := .type "dict", data := .dict #[] } } := ⟨_, rfl⟩
  obtain ⟨H3, eH3⟩ : ∃ H3 : Hp, H3 = upd H2 a (dHO X.prog X.w a []) := ⟨_, rfl⟩
  have hget : s3.heap.get? a = some { cls := .type "dict", data := .dict #[] } := by rw [es3, ea]; exact Heap.get?_push_size _ rfl
  have I3 : Inv X pins σ H3 s3 := by
    rw [eH3, es3]
    refine I2.laid (t' := s2.toks) (fun b o e => Heap.get?_push_of_some _ e) (Nat.le_of_eq ea.symm) ⟨⟨[], .nil, _, #[], 0, by rw [es3] at hget; exact hget, ⟨rfl, rfl, rfl⟩, rfl, rfl, List.nodup_nil, ?_, Nat.zero_le _⟩, ⟨_, by rw [es3] at hget; exact hget⟩, dExt⟩
    exact beq_eq_false_iff_ne.mpr (Ne.symm (by rw [ea]; exact Nat.ne_of_lt I2.big))
  have h3 : s3.heap.objs.size = s2.heap.objs.size + 1 := by rw [es3]; exact Heap.size_push ..
  have old : ∀ b ∈ fp, b < s2.heap.objs.size := fun b hb => let ⟨o, e, _⟩ := T.obj _ _ st2 b hb; Heap.lt_size e
  have f3 : ∀ b ∈ fp, FpOk X pins H3 b ∧ b < s3.heap.objs.size := fun b hb => by
    have hlt := old b hb
    refine ⟨⟨?_, (f2 b hb).2⟩, by rw [h3]; exact Nat.lt_succ_of_lt hlt⟩
    rw [eH3, upd_ne (by rw [ea]; exact Nat.ne_of_lt hlt)]
    exact (f2 b hb).1
  have up3 : ∀ b o, s2.heap.get? b = some o → s3.heap.get? b = some o := fun b o e => by rw [es3]; exact Heap.get?_push_of_some _ e
  have st3 : tn 0 s3.heap := T.keep _ _ _ st2 fun b _ o e => up3 b o e
  have I4 := block_start I3 ok hN f3
  have go : codeAny (model X.prog X.w) X.A (.compStart (.DictComp kx vx [⟨tg, iter, ifs, 0⟩] scope pos) 0 (.ref it) (.ref a) (compEnvC scope (cellsFrom (s3.heap.objs.size + 1) scope.names (cloFrom X.env.cells scope.names [])) s3.heap.objs.size X.env))
      (compPost (model X.prog X.w) X.A X.xe use Qf (.ref a) s3.heap.objs.size) { s3 with heap := pushCells (s3.heap.push { cls := .type "dict", data := .dict #[] }) scope.names } := by
    have pg := hg s3 H3 s3.heap.objs.size (cellsFrom (s3.heap.objs.size + 1) scope.names (cloFrom X.env.cells scope.names [])) fp
    have pt := ht s3 H3 s3.heap.objs.size (cellsFrom (s3.heap.objs.size + 1) scope.names (cloFrom X.env.cells scope.names [])) fp
    have pk := hk s3 H3 s3.heap.objs.size (cellsFrom (s3.heap.objs.size + 1) scope.names (cloFrom X.env.cells scope.names [])) fp
    have pv := hv s3 H3 s3.heap.objs.size (cellsFrom (s3.heap.objs.size + 1) scope.names (cloFrom X.env.cells scope.names [])) fp
    have free0 : ∀ b ∈ fp, H3 b = none := fun b hb => (f3 b hb).1.1
    generalize ece : compEnvC scope (cellsFrom (s3.heap.objs.size + 1) scope.names (cloFrom X.env.cells scope.names [])) s3.heap.objs.size X.env = ce at I4 pg pt pk pv ⊢
    have loc : ce.locals = s3.heap.objs.size := by rw [← ece]; rfl
    generalize es4 : ({ s3 with heap := pushCells (s3.heap.push { cls := .type "dict", data := .dict #[] }) scope.names } : Shared) = s4 at I4 ⊢
    have st4 : tn 0 s4.heap := T.keep _ _ _ st3 fun b _ o e => by rw [← es4]; exact pushCells_keeps _ _ _ _ (Heap.get?_push_of_some _ e)
    have hz0 : Z 0 m0 H3 := by rw [eH3]; exact z0
    have fpk : ∀ {σ' : L2.St} {H' : Hp} {s' : Shared}, Inv (X.blk s3 H3 scope ce fp) [] σ' H' s' → (∀ b ∈ fp, H' b = none) → ∀ b ∈ fp, FpOk (X.blk s3 H3 scope ce fp) [] H' b := fun {σ' H' s'} J' n b hb =>
      ⟨n b hb, (J'.ok.exf b hb).1, J'.ok.exfs b hb, .inl hb, fun x c e => (J'.ok.exf b hb).2 x c e, fun p hp => absurd (show p ∈ ([] : List (Addr × Obj)) ++ [] from hp) (by simp)⟩
    have loop : codeAny (model X.prog X.w) X.A (.compLoop (.DictComp kx vx [⟨tg, iter, ifs, 0⟩] scope pos) 0 (.ref it) (.ref a) ce) (compPost (model X.prog X.w) X.A X.xe use Qf (.ref a) s3.heap.objs.size) s4 := by
      refine compLoop_anyD (fun n s' => ∃ i H', Inv (X.blk s3 H3 scope ce fp) [] (wipe σ (own.map (·.2))) H' s' ∧ tn i s'.heap ∧ (∀ b ∈ fp, H' b = none) ∧ Z i n H') ?_ m0 ⟨0, H3, I4, st4, free0, hz0⟩
      rintro n s5 ⟨i, H5, I5, st5, n5, z5⟩
      rcases turn i n H5 z5 with ⟨stop, qq⟩ | ⟨goes, N, hN', step⟩
      · refine thnF (T.done (X.blk s3 H3 scope ce fp) rfl rfl rfl hc i [] s5 _ H5 (fun _ _ => False) I5 (fpk I5 n5) st5 stop) fun r s6 ⟨er, I6⟩ => ?_
        subst er
        have I7 : Inv X pins σ H5 s6 := I3.call' (ch := fp) I6.os I6.base I6.hok I6.bare fun b hb => let z := (f3 b hb).1; ⟨z.2.2.2.1, z.2.1, z.2.2.2.2.1, z.2.2.2.2.2⟩
        have nC : H5 s3.heap.objs.size = none := by rw [← loc]; exact I6.free
        obtain ⟨m, hns, _⟩ := I6.loc
        have hns : s6.heap.Ns ce.locals m := hns
        rw [loc] at hns
        exact hRR a s3.heap.objs.size s6 m H5 I7 qq hns (I3.fpOk (Nat.le_refl _) nC)
      · refine thnF (T.item (X.blk s3 H3 scope ce fp) rfl rfl rfl hc i [] s5 _ H5 (fun _ _ => False) I5 (fpk I5 n5) st5 goes) fun r s6 ⟨u, er, h6⟩ => ?_
        subst er
        refine thnF h6 fun _ s7 ⟨x, H7, I7, r7, y7, st7, n7⟩ => ?_
        refine thnF (pg.run _ s7 _ H7 x u _ (I7.pinned (fpk I7 n7) (T.obj _ _ st7)) r7 (step x H7 y7)) fun _ s8 ⟨σ8, H8, I8, w8, q8⟩ => ?_
        refine thnF (pt.run _ s8 σ8 H8 _ I8 q8) fun b s9 ⟨H9, I9, q9⟩ => ?_
        have turnEnd : ∀ {s' : Shared} {H' : Hp}, Inv (X.blk s3 H3 scope ce fp) ([] ++ pinsAt fp s7.heap) σ8 H' s' → N H' → ∃ m, m < n ∧ ∃ i H', Inv (X.blk s3 H3 scope ce fp) [] (wipe σ (own.map (·.2))) H' s' ∧ tn i s'.heap ∧ (∀ b ∈ fp, H' b = none) ∧ Z i m H' := fun {s' H'} I' hn => by
          obtain ⟨m', hm, z'⟩ := hN' H' hn
          have pins' : ∀ b ∈ fp, ∀ o, s7.heap.get? b = some o → s'.heap.get? b = some o ∧ H' b = none := fun b hb o e => let z := I'.pin (b, o) (List.mem_append_right _ (List.mem_append_right _ (mem_pinsAt hb e))); ⟨z.1, z.2.1⟩
          refine ⟨m', hm, i + 1, H', (I'.unpinned (pins := [])).weak (by rw [← w8, wipe_length]) (fun j v e => ?_), T.keep _ _ _ st7 fun b hb o e => (pins' b hb o e).1, fun b hb => ?_, z'⟩
          · rw [← w8] at e; exact (wipe_some e).1
          · obtain ⟨o, e, _⟩ := T.obj _ _ st7 b hb; exact (pins' b hb o e).2
        cases b with
        | false =>
          simp only [Bool.false_eq_true, if_false] at q9 ⊢
          exact turnEnd I9 q9
        | true =>
          simp only [if_true] at q9 ⊢
          refine thnF (pk.run _ s9 σ8 H9 _ I9 q9) fun z s10 ⟨yk, H10, I10, r10, q10⟩ => ?_
          refine thnF (pv.run _ s10 σ8 H10 _ I10 q10) fun z2 s11 ⟨yv, H11, I11, r11, hput⟩ => ?_
          exact putK_ok (X := X.blk s3 H3 scope ce fp) (Γ := Γ) hr I11 r10 r11 hput fun s12 H12 I12 hn => turnEnd I12 hn
    exact codeAny_compStart_dict loop (T.self X.A 0 _ _ _ st4 loop)
  subst es3
  exact go
theorem ex_dk0 {wi : TI} {g : TG} {tt : TT} {tk tv : TE} (hr : Room 1 X.A) (hc : X.calm = true) (hN : X.N.Nodup) (hi : PI X tg iter wi) (ok : BlkOk X.N X.env.scope scope own)
    (hg : ∀ (s : Shared) (H : Hp) (C : Addr) (cl : List (Str × Addr)) (fp : List Addr), PG (X.blk s H scope (compEnvC scope cl C X.env) fp) tg g) (ht : ∀ (s : Shared) (H : Hp) (C : Addr) (cl : List (Str × Addr)) (fp : List Addr), PTs (X.blk s H scope (compEnvC scope cl C X.env) fp) ifs tt)
    (hk : BlkEX X scope kx tk) (hv : BlkEX X scope vx tv) (hs : ∀ x, foldedSetIterable iter X.env x = pure x := by intro _; rfl) : PE X (.DictComp kx vx [⟨tg, iter, ifs, 0⟩] scope pos) (tDk X.prog X.w X.K Γ wi g tt tk tv (own.map (·.2))) := by
  refine ⟨fun pins s σ H Q I h => ?_⟩
  rw [arm_eval_DictComp]
  refine dk_core hr hc hN I hi ok hg ht hk hv hs h fun a C s' m H' I' q hn f => ⟨m, hn, fun h'' sb => ?_⟩
  obtain ⟨f0, f1, f2, f3, f4, f5⟩ := f
  exact ⟨.ref a, H', I'.turned (t' := s'.toks) (fun b o hb e => (sb.2 b hb).trans e) f0 f1 f3 f4 f5, rfl, q⟩
/-- name = {..}, the name a local on one line -/
theorem ps_dk {i : Nat} {y : Str} {py spos : Pos} {wi : TI} {g : TG} {tt : TT} {tk tv : TE} (hr : Room 1 X.A) (hc : X.calm = true) (hN : X.N.Nodup) (hy : X.N[i]? = some y) (hyl : X.env.scope.names.lookup y = some .local) (hsw : swapsWith (.DictComp kx vx [⟨tg, iter, ifs, 0⟩] scope pos) (some (.Name y py)) spos.line X.env = pure true)
    (hi : PI X tg iter wi) (ok : BlkOk X.N X.env.scope scope own)
    (hg : ∀ (s : Shared) (H : Hp) (C : Addr) (cl : List (Str × Addr)) (fp : List Addr), PG (X.blk s H scope (compEnvC scope cl C X.env) fp) tg g) (ht : ∀ (s : Shared) (H : Hp) (C : Addr) (cl : List (Str × Addr)) (fp : List Addr), PTs (X.blk s H scope (compEnvC scope cl C X.env) fp) ifs tt)
    (hk : BlkEX X scope kx tk) (hv : BlkEX X scope vx tv) (hs : ∀ x, foldedSetIterable iter X.env x = pure x) : PS X (.Assign [.Name y py] (.DictComp kx vx [⟨tg, iter, ifs, 0⟩] scope pos) spos) (tAsg (tDk X.prog X.w X.K Γ wi g tt tk tv (own.map (·.2))) (gName i)) := by
  refine ⟨fun pins s σ H D I h => ?_⟩
  rw [exec_Assign_Name_used _ _ _ _ hsw]
  refine wpAny_bind (wpAny_standAt (wpAny_bind ?_))
  show wpAny _ X.A (do let _ ← comprehension (.DictComp kx vx [⟨tg, iter, ifs, 0⟩] scope pos) scope X.env (firstIterPos [⟨tg, iter, ifs, 0⟩] pos) newDict false (eval iter X.env) (some (assign (.Name y py) X.env))) _ _ s
  refine wpAny_bind (thn (dk_core (Qf := fun _ s' => SP X pins D .next s') (Q := fun x H1 => gName i x σ H1 D.nx) hr hc hN I hi ok hg ht hk hv hs h fun a C s' m H' I' q hn f => ?_) fun _ s' hq => wpAny_pure (wpAny_pure hq))
  show wpAny _ _ (assign (.Name y py) X.env (.ref a)) _ _ _
  refine wpAny_assign_Name (store_ok2 (v := V.ref a) I' hN hy (.inl hyl) rfl (fun s2 I2 ⟨b, sb, hb⟩ => ?_) (.inr hyl))
  obtain ⟨f0, f1, f2, f3, f4, f5⟩ := f
  have ne : C ≠ b := hb.elim (fun z => by rw [z]; exact f1) fun z e => f4 y b z e.symm
  exact ⟨m, hn.sameBut sb ne, fun h3 sb3 => ⟨_, H', I2.turned (t' := s2.toks) (fun b o hb e => (sb3.2 b hb).trans e) f0 f1 f3 f4 f5, q⟩⟩
theorem sw_dict {gs : List Comprehension} {py : Pos} {y : Str} {l : Nat} {env : Env} (hk : env.scope.kind = .function) (hy : env.scope.names.lookup y = some .local) (hl : (py.line == pos.line) = true)
    (ha : (scope.names.any fun (n, k) => n == y && (k == .local || k == .cell)) = false) : swapsWith (.DictComp kx vx gs scope pos) (some (.Name y py)) l env = pure true := by
  have k1 : env.kindOf y = some .local := hy
  have k2 : env.blockKind = .function := by unfold Env.blockKind; rw [hk]; rfl
  unfold swapsWith
  simp only [k1, k2, ha, Expr.pos, hl]
  rfl
end
def dput (n : Nat) (k v : D) (M : Hs) : R Unit := match hDct M n with
  | some kvs => match keyOf k with
    | some q => if kvs.length < sizeLine then .ok () (M.set n (.dct (dPut kvs q k v))) else .no
    | none => .no
  | none => .no
def dcB (t : MT) (fk fv : MX) (n : Nat) : Sl → Hs → R Unit := fun ζ M => match t ζ M with
  | .ok false M1 => .ok () M1
  | .ok true M1 => match fk ζ M1 with
    | .ok k M2 => match fv ζ M2 with
      | .ok v M3 => dput n k v M3
      | _ => .no
    | _ => .no
  | _ => .no
def xDc (s : MY) (vs : List Nat) (p : Pt) (t : MT) (fk fv : MX) : MX := fun ζ M => (s ζ M).bind fun yd M1 => (lcN yd.y p (dcB t fk fv M1.length) (wipeD ζ vs) yd.fuel 0 (M1 ++ [.dct []])).bind fun _ M2 => .ok (.ref M1.length) M2
section
variable {X : Cx} {Γ : Gm} {W : WX} {kx vx tg iter : Expr} {ifs : List Expr} {scope : Scope} {own : List (Str × Nat)} {pos : Pos} {s : MY} {p : Pt} {t : MT} {fk fv : MX}
theorem tDk_of {vs : List Nat} {σ : L2.St} {H : Hp} {Q : VK} (hp : ∀ i ∈ p.slots, i ∈ vs) (h : tX X.prog X.w X.K Γ W (xDc s vs p t fk fv) σ H Q) :
    tDk X.prog X.w X.K Γ (iY X.prog X.w X.K Γ W s) (gP X.prog X.w X.K Γ p) (tT X.prog X.w X.K Γ W0 t) (tX X.prog X.w X.K Γ W0 fk) (tX X.prog X.w X.K Γ W0 fv) vs σ H Q := by
  obtain ⟨ζ, M, μ, rr, h⟩ := h
  refine ⟨ζ, M, μ, rr, Pst.then h fun J H1 yd M1 μ1 nx rh rv h1 => fun D' hD => ?_⟩
  have nx0 : Nx μ1 H1 (μ1 ++ [D']) (upd H1 D' (dHO X.prog X.w D' [])) := Nx.fresh hD [D']
  have rh0 : RH X.prog X.w X.K Γ (μ1 ++ [D']) (M1 ++ [.dct []]) (upd H1 D' (dHO X.prog X.w D' [])) := rh.alloc hD ⟨[], upd_same, .nil⟩
  refine ⟨fun i m H => ∃ M μ, Nx μ1 H1 μ H ∧ RH X.prog X.w X.K Γ μ M H ∧ μ[M1.length]? = some D' ∧
    Pst X.prog X.w X.K Γ (relV X.K) W σ μ H ((lcN yd.y p (dcB t fk fv M1.length) (wipeD ζ vs) m i M).bind fun _ M2 => .ok (.ref M1.length) M2) Q,
    ⟨yd.fuel, _, _, nx0, rh0, rh.last, Pst.mono h1 nx0⟩, ?_⟩
  rintro i m H2 ⟨M2, μ2, nx2, rh2, hn, h2⟩
  cases m with
  | zero => exact h2.elim
  | succ m =>
    obtain ⟨st, go⟩ := rv i H2 μ2 M2 nx2 rh2
    simp only [lcN] at h2
    split at h2
    · exact h2.elim
    · rename_i hy
      exact .inl ⟨st hy, h2 _ _ _ (Nx.refl _ _) rh2 (.ref hn)⟩
    · rename_i d hy
      obtain ⟨g1, g2⟩ := go d hy
      refine .inr ⟨g1, fun H' => ∃ M μ, Nx μ1 H1 μ H' ∧ RH X.prog X.w X.K Γ μ M H' ∧ μ[M1.length]? = some D' ∧
        Pst X.prog X.w X.K Γ (relV X.K) W σ μ H' ((lcN yd.y p (dcB t fk fv M1.length) (wipeD ζ vs) m (i + 1) M).bind fun _ M2 => .ok (.ref M1.length) M2) Q, fun H' q => ⟨m, Nat.lt_succ_self _, q⟩, fun x H3 hx => ?_⟩
      obtain ⟨μ3, nx3, rh3, rv3⟩ := g2 x H3 hx
      refine ⟨d, M2, μ3, rh3, rv3, ?_⟩
      split at h2
      · exact h2.elim
      · rename_i l hl
        rw [hl]
        intro l' br
        have hs : ∀ q ∈ l', q.1 ∈ vs := br_slots br fun q hq => hp _ (bindP_slots p hl q hq)
        refine ⟨(wipe_setAll hs).trans (wipe_wipe fun _ h => h), ?_⟩
        have sl3 : RSl X.K H3 μ3 (setAll (wipeD ζ vs) l) (setAll (wipe σ vs) l') := RSl.setAll br (((rr.sl.mono nx).mono (nx2.trans nx3)).wiped vs)
        have n3 := nx2.trans nx3
        have hn3 := nx3.pre _ _ hn
        have h3 := Pst.mono h2 nx3
        generalize setAll (wipeD ζ vs) l = ζ2 at sl3 h3 ⊢
        refine ⟨ζ2, M2, μ3, ⟨sl3, rh3⟩, ?_⟩
        unfold dcB at h3
        cases ht : t ζ2 M2 with
        | ex c fs M4 => rw [ht] at h3; exact h3.elim
        | no => rw [ht] at h3; exact h3.elim
        | ok b M4 =>
          rw [ht] at h3
          intro b' H4 μ4 nx4 rh4 rb
          have rb : b = b' := rb
          subst rb
          have h4 := Pst.mono h3 nx4
          cases b with
          | false =>
            rw [if_neg Bool.false_ne_true]
            exact ⟨M4, μ4, n3.trans nx4, rh4, nx4.pre _ _ hn3, h4⟩
          | true =>
            rw [if_pos rfl]
            refine ⟨ζ2, M4, μ4, ⟨sl3.mono nx4, rh4⟩, ?_⟩
            simp only at h4
            cases hk : fk ζ2 M4 with
            | ex c fs M5 => rw [hk] at h4; exact h4.elim
            | no => rw [hk] at h4; exact h4.elim
            | ok k M5 =>
              rw [hk] at h4
              intro y H5 μ5 nx5 rh5 ry
              have h5 := Pst.mono h4 nx5
              simp only at h5
              refine ⟨ζ2, M5, μ5, ⟨(sl3.mono nx4).mono nx5, rh5⟩, ?_⟩
              cases hv : fv ζ2 M5 with
              | ex c fs M6 => rw [hv] at h5; exact h5.elim
              | no => rw [hv] at h5; exact h5.elim
              | ok v M6 =>
                rw [hv] at h5
                intro z H6 μ6 nx6 rh6 rz
                have h6 := Pst.mono h5 nx6
                simp only at h6
                have hn6 := nx6.pre _ _ (nx5.pre _ _ (nx4.pre _ _ hn3))
                unfold dput at h6
                split at h6
                · rename_i u M7 e7
                  split at e7
                  · rename_i kvs hkv
                    split at e7
                    · rename_i q hq
                      split at e7
                      · rename_i hl7
                        cases e7
                        exact ⟨k, v, M6, μ6, M1.length, rh6, RV.mono nx6 ry, rz, hn6, kvs, q, hkv, hq, hl7, fun H7 μ7 nx7 rh7 => ⟨_, μ7, (((n3.trans nx4).trans nx5).trans nx6).trans nx7, rh7, nx7.pre _ _ hn6, Pst.mono h6 nx7⟩⟩
                      · cases e7
                    · cases e7
                  · cases e7
                · exact h6.elim
theorem ex_dc (hr : Room 1 X.A) (hc : X.calm = true) (hN : X.N.Nodup) (hi : EI X Γ W tg iter s) (ok : BlkOk X.N X.env.scope scope own) (hp : ∀ i ∈ p.slots, i ∈ own.map (·.2))
    (hg : ∀ (s : Shared) (H : Hp) (C : Addr) (cl : List (Str × Addr)) (fp : List Addr), EG (X.blk s H scope (compEnvC scope cl C X.env) fp) Γ tg p) (ht : ∀ (s : Shared) (H : Hp) (C : Addr) (cl : List (Str × Addr)) (fp : List Addr), ETs (X.blk s H scope (compEnvC scope cl C X.env) fp) Γ W0 ifs t)
    (hk : ∀ (s : Shared) (H : Hp) (C : Addr) (cl : List (Str × Addr)) (fp : List Addr), EX (X.blk s H scope (compEnvC scope cl C X.env) fp) Γ W0 kx fk) (hv : ∀ (s : Shared) (H : Hp) (C : Addr) (cl : List (Str × Addr)) (fp : List Addr), EX (X.blk s H scope (compEnvC scope cl C X.env) fp) Γ W0 vx fv)
    (hs : ∀ x, foldedSetIterable iter X.env x = pure x := by intro _; rfl) : EX X Γ W (.DictComp kx vx [⟨tg, iter, ifs, 0⟩] scope pos) (xDc s (own.map (·.2)) p t fk fv) :=
  PE.imp (ex_dk0 (Γ := Γ) hr hc hN hi ok hg ht hk hv hs) fun σ H Q h => tDk_of hp h
theorem es_setDc (i : Nat) {y : Str} {py spos : Pos} (hr : Room 1 X.A) (hc : X.calm = true) (hN : X.N.Nodup) (hi : EI X Γ W tg iter s) (ok : BlkOk X.N X.env.scope scope own) (hp : ∀ i ∈ p.slots, i ∈ own.map (·.2))
    (hg : ∀ (s : Shared) (H : Hp) (C : Addr) (cl : List (Str × Addr)) (fp : List Addr), EG (X.blk s H scope (compEnvC scope cl C X.env) fp) Γ tg p) (ht : ∀ (s : Shared) (H : Hp) (C : Addr) (cl : List (Str × Addr)) (fp : List Addr), ETs (X.blk s H scope (compEnvC scope cl C X.env) fp) Γ W0 ifs t)
    (hk : ∀ (s : Shared) (H : Hp) (C : Addr) (cl : List (Str × Addr)) (fp : List Addr), EX (X.blk s H scope (compEnvC scope cl C X.env) fp) Γ W0 kx fk) (hv : ∀ (s : Shared) (H : Hp) (C : Addr) (cl : List (Str × Addr)) (fp : List Addr), EX (X.blk s H scope (compEnvC scope cl C X.env) fp) Γ W0 vx fv)
    (hsw : swapsWith (.DictComp kx vx [⟨tg, iter, ifs, 0⟩] scope pos) (some (.Name y py)) spos.line X.env = pure true) (hy : X.N[i]? = some y := by rfl) (hyl : X.env.scope.names.lookup y = some .local := by rfl)
    (hs : ∀ x, foldedSetIterable iter X.env x = pure x := by intro _; rfl) : ES X Γ W (.Assign [.Name y py] (.DictComp kx vx [⟨tg, iter, ifs, 0⟩] scope pos) spos) (sSet i (xDc s (own.map (·.2)) p t fk fv)) :=
  PS.imp (ps_dk (Γ := Γ) hr hc hN hy hyl hsw hi ok hg ht hk hv hs) fun E σ H ⟨ζ, M, μ, rr, h⟩ => tDk_of hp ⟨ζ, M, μ, rr, PstS.then h rr.sl fun v H1 d M1 μ1 nx rh rv h1 => h1 _ _ _ (Nx.refl _ _) rh ((rr.sl.mono nx).set rv i)⟩
end
end Mi
end
section
set_option maxRecDepth 100000
set_option maxHeartbeats 4000000
set_option autoImplicit false
namespace Mi
open PySem PySem.Spec PyProof.Rows L2

mutual
def pdT : D → Option PyData
  | .non => some .none
  | .bl b => some (.bool b)
  | .int i => some (.int i)
  | .str x => some (.str x)
  | .tup xs => (pdTs xs).map .tuple
  | .ref _ => none
  | .klst _ => none
  | .exc .. => none
def pdTs : List D → Option (List PyData)
  | [] => some []
  | x :: xs => match pdT x, pdTs xs with
    | some k, some ks => some (k :: ks)
    | _, _ => none
end
section
variable {X : Cx} {Γ : Gm} {pins : List (Addr × Obj)} {σ : L2.St} {H : Hp} {s : Shared} {μ : List Addr} {M : Hs}
mutual
theorem pd_reads (I : Inv X pins σ H s) : ∀ {d : D} {v : V} {u : Value} {p : PyData}, RV X.K H μ d v → RelV v u → pdT d = some p → Reads s.heap u p []
  | _, _, _, _, .non, r, h => by cases r; simp only [pdT] at h; cases h; exact .none
  | _, _, _, _, .bl b, r, h => by cases r; simp only [pdT] at h; cases h; exact .bool b
  | _, _, _, _, .int i, r, h => by obtain ⟨t, rfl⟩ := r; simp only [pdT] at h; cases h; exact .int i t
  | _, _, _, _, .str x, r, h => by obtain ⟨t, rfl⟩ := r; simp only [pdT] at h; cases h; exact .str x t
  | _, _, _, _, .tup g rs, r, h => by
    cases r
    simp only [pdT] at h
    obtain ⟨its, rv, ⟨o, ho, hc, n, hd⟩, _⟩ := I.tuple g
    cases e : pdTs _ with
    | none => rw [e] at h; cases h
    | some ks =>
      rw [e] at h
      cases h
      exact .tuple ho hc hd (pds_reads I rs (by simpa using rv) e)
  | _, _, _, _, .ref _, _, h => by simp [pdT] at h
  | _, _, _, _, .kls _ _, _, h => by simp [pdT] at h
  | _, _, _, _, .excN, _, h => by simp [pdT] at h
  | _, _, _, _, .excD _ _ _, _, h => by simp [pdT] at h
theorem pds_reads (I : Inv X pins σ H s) : ∀ {ds : List D} {vs : List V} {us : List Value} {ps : List PyData}, RVs X.K H μ ds vs → Vals vs us → pdTs ds = some ps → ReadsAll s.heap us ps []
  | _, _, _, _, .nil, r, h => by cases r; simp only [pdTs] at h; cases h; exact .nil
  | _, _, _, _, .cons a b, r, h => by
    cases r with
    | cons r1 r2 =>
      simp only [pdTs] at h
      split at h
      · rename_i k ks h1 h2
        cases h
        exact .cons (as := []) (bs := []) (pd_reads I a r1 h1) (pds_reads I b r2 h2)
      · cases h
end
/-- the order of data -/
def ltP (p q : PyData) : Bool := PyProof.Rows.lexLt PyProof.Rows.itemOrd (PySem.W.keyToks p) (PySem.W.keyToks q)
/-- things that are sorted by what they read as -/
structure SrtK (κ : Type) (f : κ → D) (enc : κ → PyData) : Prop where
  pd : ∀ k, pdT (f k) = some (enc k)
  inj : ∀ k l, PySem.W.keyToks (enc k) = PySem.W.keyToks (enc l) → k = l
  al : ∀ k l, PySem.W.alike (enc k) (enc l) = true
  tp : ∀ k, ∃ x r, enc k = .tuple (x :: r)
  dp : ∀ k, (enc k).depth ≤ 8
variable {κ : Type} {f : κ → D} {enc : κ → PyData}
def ltK (enc : κ → PyData) (k l : κ) : Bool := ltP (enc k) (enc l)
theorem SrtK.swo (S : SrtK κ f enc) : SrtO.Swo (ltK enc) := by
  refine ⟨fun x y h => ?_, fun x y z h1 h2 => ?_⟩
  · cases e : ltK enc y x with
    | false => rfl
    | true =>
      have a := (PyProof.Rows.listOrd PyProof.Rows.itemOrd).trans _ _ _ h e
      have b := (PyProof.Rows.listOrd PyProof.Rows.itemOrd).irrefl (PySem.W.keyToks (enc x))
      exact absurd (a.symm.trans b) (by decide)
  · cases e : ltK enc z x with
    | false => rfl
    | true =>
      rcases (PyProof.Rows.listOrd PyProof.Rows.itemOrd).negTrans _ (PySem.W.keyToks (enc y)) _ e with a | a
      · exact absurd (a.symm.trans h2) (by decide)
      · exact absurd (a.symm.trans h1) (by decide)
theorem SrtK.eq (S : SrtK κ f enc) (x y : κ) (h : SrtO.eqv (ltK enc) x y = true) : y = x := by
  obtain ⟨h1, h2⟩ := SrtO.eqv_iff.mp h
  exact (S.inj _ _ ((PyProof.Rows.listOrd PyProof.Rows.itemOrd).total _ _ h1 h2)).symm
theorem SrtK.sorted [Inhabited κ] (S : SrtK κ f enc) {E : Value → Shared → Prop} {Q : VK} (hr : Room 1 X.A) (hc : X.calm = true) (I : Inv X pins σ H s) (rh : RH X.prog X.w X.K Γ μ M H) {n : Nat} {a : Addr} {ks : List κ}
    (h : itemsA M (.ref n) = some (ks.map f)) (ea : μ[n]? = some a) (hq : ∀ p, H p = none → ∀ vs, RVs X.K H μ ((srtB (ltK enc) ks).map f) vs → Q (.ref p) (upd H p (.lst vs))) : wpAny (model X.prog X.w) X.A (call (.builtin "sorted") [.ref a]) (EP X pins σ Q) E s := by
  have hu := hr.un
  refine sorted_go S.swo S.eq f hc I rh (fun hq => collect_A (A := X.A.in1) (I.ok.hd hc) I rh h ea hq) (fun h' tk us I1 sh => ?_) hq
  have each : PySem.W.EachIs (fun u (k : κ) => Reads h' u (enc k) []) us ks := by
    obtain ⟨vs, r, t⟩ := sh
    clear h ea rh hq
    induction ks generalizing us vs with
    | nil => cases r; cases t; exact .nil
    | cons k ks ih =>
      cases r with
      | cons r1 r2 => cases t with
        | cons t1 t2 => exact .cons (pd_reads (s := { s with heap := h', toks := tk }) I1 r1 t1 (S.pd k)) (ih _ _ r2 t2)
  have one : ∀ {u : Value} {k l : κ}, Reads h' u (enc k) [] → Reads h' u (enc l) [] → k = l := fun r1 r2 => S.inj _ _ (by rw [(r1.unique _ _ r2).1])
  obtain ⟨g, hg, hgr⟩ : ∃ g : Value → κ, us.map g = ks ∧ ∀ u ∈ us, Reads h' u (enc (g u)) [] := by
    classical
    refine ⟨fun u => if x : ∃ k : κ, Reads h' u (enc k) [] then x.choose else default, ?_, ?_⟩
    · clear h ea rh hq sh
      induction each with
      | nil => rfl
      | @cons u k us ks h1 t ih =>
        have x : ∃ k : κ, Reads h' u (enc k) [] := ⟨k, h1⟩
        rw [List.map_cons, ih, dif_pos x, one x.choose_spec h1]
    · intro u hu
      obtain ⟨k, _, h1⟩ := each.left u hu
      have x : ∃ k : κ, Reads h' u (enc k) [] := ⟨k, h1⟩
      dsimp only
      rw [dif_pos x]
      exact x.choose_spec
  refine ⟨g, hg, fun h2 h₁ l hl kp => ?_⟩
  intro h'' hk
  have up : ∀ b o, h'.get? b = some o → h''.get? b = some o := fun b o e => hk b o (kp b o e).1 (kp b o e).2
  have e2 : PySem.W.EachIs (fun v d => ∃ as, Reads h'' v d as) us (us.map fun u => enc (g u)) := by
    clear hg h2 hl hk each sh
    induction us with
    | nil => exact .nil
    | cons u us ih => exact .cons ⟨[], PyProof.Rows.Reads.keeps up (hgr u List.mem_cons_self)⟩ (ih fun w hw => hgr w (List.mem_cons_of_mem _ hw))
  have al : PySem.W.AllAlike (us.map fun u => enc (g u)) := PySem.W.AllAlike.of (enc := fun u => enc (g u)) fun _ _ => S.al _ _
  have T := PySem.W.SortsAt.data (prog := X.prog) (w := X.w) (A := X.A.in1.in1) (s := { s with heap := h'', toks := tk }) e2 al (PySem.W.Sortable.tuples (enc := fun u => enc (g u)) fun _ => S.tp _) (fun d hd => by
    obtain ⟨u, _, rfl⟩ := List.mem_map.mp hd
    have := S.dp (g u)
    show X.A.units + 2 + _ < cLine
    omega)
  obtain ⟨kd, hlt, hkind⟩ := T.kind
  refine ⟨kd, fun Q E hq => hkind h2 E hq, ?_⟩
  intro p q hp hq
  have key : ∀ v ∈ us, (PySem.W.dataKind h'' (us.map fun u => enc (g u))).keyOf v = some (PySem.W.keyToks (enc (g v))) := fun v hv => PySem.W.dataKind_some al (List.mem_map.mpr ⟨v, hv, rfl⟩) (PyProof.Rows.Reads.keeps up (hgr v hv))
  exact hlt _ _ _ _ _ (key _ hp) (key _ hq) ⟨rfl, rfl⟩
end
abbrev P6 := T3 × T3
def p6D (p : P6) : D := .tup [tr3 p.1, tr3 p.2]
def t3P (t : T3) : PyData := .tuple [.int t.1, .int t.2.1, .int t.2.2]
def p6P (p : P6) : PyData := .tuple [t3P p.1, t3P p.2]
theorem srt_p6 : SrtK P6 p6D p6P where
  pd := fun ⟨a, b⟩ => by simp [p6D, tr3, pdT, pdTs, p6P, t3P]
  inj := fun ⟨⟨a1, a2, a3⟩, ⟨b1, b2, b3⟩⟩ ⟨⟨c1, c2, c3⟩, ⟨d1, d2, d3⟩⟩ h => by
    simp [p6P, t3P, PySem.W.keyToks, PySem.W.keyToksAll] at h
    simp [h]
  al := fun ⟨a, b⟩ ⟨c, d⟩ => by simp [p6P, t3P, PySem.W.alike, PySem.W.alikeAll]
  tp := fun p => ⟨_, _, rfl⟩
  dp := fun p => by simp [p6P, t3P, PyData.depth, PyData.depthAll]
abbrev lt6 : P6 → P6 → Bool := ltK p6P
def t3of : D → Option T3
  | .tup [.int i, .int j, .int k] => some (i, j, k)
  | _ => none
theorem t3of_ok {d : D} {t : T3} (h : t3of d = some t) : d = tr3 t := by
  unfold t3of at h
  split at h
  · cases h; rfl
  · cases h
def p6s : List D → Option (List P6)
  | [] => some []
  | .tup [a, b] :: r => match t3of a, t3of b, p6s r with
    | some x, some y, some ps => some ((x, y) :: ps)
    | _, _, _ => none
  | _ => none
theorem p6s_ok : ∀ {xs : List D} {ps : List P6}, p6s xs = some ps → xs = ps.map p6D
  | [], ps, h => by cases h; rfl
  | x :: xs, ps, h => by
    unfold p6s at h
    split at h
    · rename_i e; cases e
    · rename_i a b r e
      cases e
      split at h
      · rename_i x y qs h1 h2 h3
        cases h
        rw [p6s_ok h3, t3of_ok h1, t3of_ok h2]
        rfl
      · cases h
    · cases h
/-- sorted of ints, pairs of ints, pairs of triples -/
def gSortedA : GL := fun ds M => match gSorted ds M with
  | some r => some r
  | none => match ds with
    | [.ref n] => match itemsA M (.ref n) with
      | some xs => match p6s xs with
        | some ps => some (.ref M.length, M ++ [.lst ((srtB lt6 ps).map p6D)])
        | none => none
      | none => none
    | _ => none
section
variable {X : Cx} {Γ : Gm}
theorem b_sortedA (hr : Room 1 X.A) (hc : X.calm = true) : CB X Γ (.builtin "sorted") gSortedA := by
  intro pins s σ H xs us Q I r ⟨ds, M, μ, rh, rv, hq⟩
  unfold gSortedA at hq
  split at hq
  · rename_i e
    exact b_sorted hc pins s σ H xs us Q I r ⟨ds, M, μ, rh, rv, by rw [e]; exact hq⟩
  · split at hq
    · obtain ⟨v, rfl, r1⟩ := one_rel rv
      obtain ⟨a, rfl, ea⟩ := ref_rel r1
      obtain ⟨u, rfl, ru⟩ := Vals.one r
      cases ru
      split at hq
      · rename_i ys hx
        split at hq
        · rename_i ps hp
          have e := p6s_ok hp
          subst e
          exact srt_p6.sorted hr hc I rh hx ea fun p hp vs rv => Pk.new rh hq hp ⟨_, upd_same, rv.mono (Nx.fresh hp _)⟩
        · exact hq.elim
      · exact hq.elim
    · exact hq.elim
end
end Mi
end
section
set_option maxRecDepth 100000
set_option maxHeartbeats 2000000
set_option autoImplicit false
namespace Mi
open PySem PySem.Spec PyProof.Rows L2

/-- the def at m of the class c does what F does -/
structure MetD (P : Program) (w : World) (K : PySem.W.Frag) (mg : Str → Option Value) (base : Heap) (Γ : Gm) (k c : Nat) (m : Str) (n : Nat) (F : MF) : Prop where
  i : ∃ f fd ps, Meth K (Γ.cA c) m f ∧ FnOk P w K mg base (L2.CX P w) k f fd ps (spF P w K Γ n F) ∧ Binds K fd ps []
theorem MetD.mono {P : Program} {w : World} {K : PySem.W.Frag} {mg : Str → Option Value} {base : Heap} {Γ : Gm} {j k c : Nat} {m : Str} {n : Nat} {F : MF} (T : MetD P w K mg base Γ j c m n F) (h : j ≤ k) : MetD P w K mg base Γ k c m n F :=
  let ⟨f, fd, ps, a, b, d⟩ := T.i; ⟨⟨f, fd, ps, a, b.mono h, d⟩⟩
/-- the getter of a property -/
structure GetD (P : Program) (w : World) (K : PySem.W.Frag) (mg : Str → Option Value) (base : Heap) (Γ : Gm) (k c : Nat) (m : Str) (F : MF) : Prop where
  i : ∃ p f fd ps, PropOf K (Γ.cA c) m p f ∧ FnOk P w K mg base (L2.CX P w) k f fd ps (spF P w K Γ 1 F) ∧ Binds K fd ps []
def xMet (c n : Nat) (F : MF) (fo : MX) (ga : MA) : MX := fun ζ M => (fo ζ M).bind fun x M1 => match slAt c x M1 with
  | some _ => (ga ζ M1).bind fun ds M2 => if ds.length + 1 = n then F (x :: ds) M2 else .no
  | none => .no
def okR {α : Type} : R α → Option (α × Hs)
  | .ok a M => some (a, M)
  | _ => none
def xPrp (c : Nat) (F : MF) (fo : MX) : MX := fun ζ M => (fo ζ M).bind fun x M1 => match slAt c x M1 with
  | some _ => R.of (okR (F [x] M1))
  | none => .no
/-- no exception -/
abbrev E0 : XK := fun _ _ _ => False
theorem cx_none {P : Program} {w : World} {o : List Env} (H : Hp) (s : Shared) (e : Value) (s' : Shared) : L2.CX P w o H s E0 e s' → False := fun ⟨_, _, _, _, _, _, _, _, _, _, _, _, z⟩ => z
theorem spF_ok {P : Program} {w : World} {K : PySem.W.Frag} {Γ : Gm} {n : Nat} {F : MF} {ds : List D} {vs : List V} {M : Hs} {μ : List Addr} {H : Hp} {Q : VK} (rh : RH P w K Γ μ M H) (r : RVs K H μ ds vs) (hl : ds.length = n) (h : Pk P w K Γ (relV K) μ H (okR (F ds M)) Q) : spF P w K Γ n F vs H Q E0 := by
  refine ⟨ds, M, μ, rh, r, hl, ?_⟩
  cases e : F ds M with
  | ok d M' => rw [e] at h; exact h
  | ex c fs M' => rw [e] at h; exact h.elim
  | no => rw [e] at h; exact h.elim
theorem slAt_slt {P : Program} {w : World} {K : PySem.W.Frag} {Γ : Gm} {μ : List Addr} {M : Hs} {H : Hp} {c : Nat} {x : D} {v : V} {q : Nat × List (Option D)} (rh : RH P w K Γ μ M H) (r : RV K H μ x v) (h : slAt c x M = some q) : ∃ a dx vs, v = .ref a ∧ SlX.Slt H a (Γ.cA c) dx vs := by
  obtain ⟨n, fs⟩ := q
  obtain ⟨rfl, hm⟩ := slAt_ok h
  obtain ⟨a, rfl, ea⟩ := ref_rel r
  obtain ⟨dx, vs, h2, _⟩ := rh.at_ _ _ _ hm ea
  exact ⟨a, dx, vs, rfl, h2⟩
section
variable {X : Cx} {Γ : Gm} {W : WX} {e o : Expr} {es : List Expr} {fo fe : MX} {ga : MA} {f m : Str} {c k n : Nat} {pos apos : Pos} {F : MF}
theorem ex_met {pl : Sem Bool} (S : SlX.SCls X.K (Γ.cA c)) (T : MetD X.prog X.w X.K X.mg X.base Γ k c m n F) (hr : Room k X.A) (tk : Takes X W) (ho : EX X Γ W o fo) (ha : EA X Γ W (e :: es) ga)
    (hst : starEach (e :: es) X.env = (false, eval e X.env) :: starEach es X.env := by rfl) (hpl : (backTo pos (starEach es X.env)).any (·.1) = false := by rfl)
    (ht : eval (.Call (.Attribute o m apos) (e :: es) [] pos) X.env = (do
      let ov ← eval o X.env
      standAt apos.atName
      let (f, first) ← holding [ov] (getMethod ov m pl)
      callWith pos f first (backTo pos (starEach (e :: es) X.env)) (backToKw pos (keywordEach [] X.env))) := by rfl) : EX X Γ W (.Call (.Attribute o m apos) (e :: es) [] pos) (xMet c n F fo ga) := by
  obtain ⟨f, fd, ps, hm, F1, hb⟩ := T.i
  refine ⟨fun pins s σ H Q I ⟨ζ, M, μ, rr, h⟩ => ?_⟩
  have h' : tX X.prog X.w X.K Γ W fo σ H fun x H1 => ∃ a dx vs, x = .ref a ∧ SlX.Slt H1 a (Γ.cA c) dx vs ∧ tA X.prog X.w X.K Γ W ga σ H1 fun us H2 => spF X.prog X.w X.K Γ n F (x :: us) H2 Q (WE W σ) :=
    ⟨ζ, M, μ, rr, Pst.then h fun v H1 d M1 μ1 nx rh rv h1 => by
      cases hs : slAt c d M1 with
      | none => rw [hs] at h1; exact h1.elim
      | some q =>
        rw [hs] at h1
        obtain ⟨a, dx, vs, rfl, h2⟩ := slAt_slt rh rv hs
        exact ⟨a, dx, vs, rfl, h2, ζ, M1, μ1, ⟨rr.sl.mono nx, rh⟩, Pst.then h1 fun us H2 ds M2 μ2 nx2 rh2 rvs h3 => spF_of (W := W) rh2 (.cons (RV.mono nx2 rv) rvs) (by simpa using h3)⟩⟩
  refine PySem.W.methodCall_KW (pl := pl) (thn (ho.run pins s σ H _ I h') fun u s1 ⟨x, H1, I1, rx, a, dx, vs, ex, hs, q⟩ => ?_) ht
  subst ex
  obtain rfl : u = Value.ref a := rx
  refine SlX.getmethsl_ok I1 hs S hm (PySem.W.callWith_K (first := [.ref a]) (h₀ := X.base) I.ok.mod.kin hm.kp (thn (ha.run pos pins s1 σ H1 _ I1 q) fun us s2 ⟨ws, H2, I2, r, q2⟩ => ⟨I2.kIn, ?_⟩) hst hpl)
  exact run_fnS (us := .ref a :: us) (vs := .ref a :: ws) F1 hr hb (passAt tk σ) I2 (.cons rfl r) q2
theorem ex_prp (S : SlX.SCls X.K (Γ.cA c)) (T : GetD X.prog X.w X.K X.mg X.base Γ k c f F) (hr : Room (k + 1) X.A) (he : EX X Γ W e fe) (hb : attributeBase e f X.env (eval e X.env) = eval e X.env := by rfl) : EX X Γ W (.Attribute e f pos) (xPrp c F fe) := by
  obtain ⟨p, g, fd, ps, hp, F1, hbi⟩ := T.i
  refine PE.imp (SlX.pe_propSl he S hp.at_ hp.get hp.tak hp.rec_ (FnOk.raw F1 hbi .nil) hr cx_none hb) fun σ H Q ⟨ζ, M, μ, rr, h⟩ => ⟨ζ, M, μ, rr, Pst.then h fun v H1 d M1 μ1 nx rh rv h1 => ?_⟩
  cases hs : slAt c d M1 with
  | none => rw [hs] at h1; exact h1.elim
  | some q =>
    rw [hs] at h1
    obtain ⟨a, dx, vs, rfl, h2⟩ := slAt_slt rh rv hs
    refine ⟨a, dx, vs, rfl, h2, ?_⟩
    exact spF_ok rh (.cons rv .nil) rfl h1.of
def isLs (y : D) (M : Hs) : Bool := match y with
  | .ref n => (hLst M n).isSome
  | _ => false
def gEqC (c : Nat) (F : MF) (x y : D) (M : Hs) : Option (D × Hs) := match slAt c x M with
  | some _ => if ((slAt c y M).isSome || isLs y M) = true then okR (F [x, y] M) else none
  | none => none
theorem m_eqC (S : SlX.SCls X.K (Γ.cA c)) (T : MetD X.prog X.w X.K X.mg X.base Γ k c "__eq__" 2 F) (hn : PySem.W.notFirst X.K (Γ.cA c) (.type "list") = true) (hr : Room k X.A) : Op2 X Γ (compareOp .Eq) (gEqC c F) := by
  obtain ⟨f, fd, ps, hm, F1, hb⟩ := T.i
  have hx : Passes (L2.CX X.prog X.w) X E0 := fun _ _ _ _ _ _ _ z => (cx_none _ _ _ _ z).elim
  intro pins s σ H x y v u Q I rx ry ⟨d, e, M, μ, rh, rd, re, hq⟩
  unfold gEqC at hq
  cases hs : slAt c d M with
  | none => rw [hs] at hq; exact hq.elim
  | some q =>
    rw [hs] at hq
    obtain ⟨a, dx, vs, rfl, h2⟩ := slAt_slt rh rd hs
    dsimp only at hq
    split at hq
    · rename_i hy
      have sp := spF_ok (n := 2) rh (.cons rd (.cons re .nil)) rfl hq
      cases hs2 : slAt c e M with
      | some q2 =>
        obtain ⟨b, dy, ws, rfl, h3⟩ := slAt_slt rh re hs2
        refine SlX.op_own (op := .Eq) (fun _ _ => rfl) hm.at_ hm.fn (FnOk.raw F1 hb .nil) hr hx pins s σ H _ _ v u Q I rx ry ⟨a, dx, vs, b, Γ.cA c, dy, ws, rfl, rfl, h2, h3, ?_, ?_⟩
        · unfold PySem.W.notFirst
          simp
        · exact sp
      | none =>
        rw [hs2] at hy
        unfold isLs at hy
        cases e with
        | ref n =>
          obtain ⟨b, rfl, eb⟩ := ref_rel re
          simp only [Option.isSome_none, Bool.false_or] at hy
          obtain ⟨xs, hl⟩ := Option.isSome_iff_exists.mp hy
          obtain ⟨ws, g, _⟩ := nlst rh (hLst_ok rh hl) eb
          cases (show v = Value.ref a from rx)
          cases (show u = Value.ref b from ry)
          obtain ⟨sl, od, _, J, _⟩ := SlX.slt_inst I h2
          obtain ⟨m0, hF⟩ := I.fr
          obtain ⟨_, its, nn, _, h5⟩ := (show ObjOk X.prog X.w H s.heap b (.lst ws) from I.hok b _ g)
          have LT : PySem.W.Looks (model X.prog X.w) s.heap (typeOf (.ref b)) (.type "list") := (PySem.W.kitx_list (K := X.K)).ty _ _ I.kIn ⟨_, h5, rfl⟩
          show wpAny (model X.prog X.w) X.A (richCompare .Eq (.ref a) (.ref b)) _ _ s
          refine PySem.W.cmp_K (op := .Eq) (tb := .type "list") hr.units0 hF I.ok.mod.kin J LT hn hm.at_ hm.fn ?_
          refine wpAny_mono (wpAny_call (run_fnR (us := [.ref a, .ref b]) (vs := [.ref a, .ref b]) (FnOk.raw F1 hb .nil) hr hx I (.cons rfl (.cons rfl .nil)) sp)) (fun w' s' z => ?_) fun _ _ x => x
          obtain ⟨z', H', I', rz, qz⟩ := z
          exact SlX.cmpback rz ⟨z', H', I', rz, qz⟩
        | _ => cases hy
    · exact hq.elim
def xIsC (c : Nat) (f : MX) : MX := fun ζ M => (f ζ M).bind fun x M1 => if (slAt c x M1).isSome = true then .ok (.bl true) M1 else if isLs x M1 = true then .ok (.bl false) M1 else .no
theorem ex_isC {x : Str} {p p2 : Pos} (S : SlX.SCls X.K (Γ.cA c)) (Si : SlX.SIsi X.K (Γ.cA c)) (h1 : PySem.W.kitOne X.K (.ref (Γ.cA c)) (.ref (Γ.cA c)) = some true) (h2 : PySem.W.kitOne X.K (.type "list") (.ref (Γ.cA c)) = some false) (he : EX X Γ W e fe)
    (hC : PE X (.Name x p2) (tC (.ref (Γ.cA c)))) (hm : X.mg "isinstance" = none) (hg : Gl X "isinstance" := by rfl)
    (he1 : starEach [e, .Name x p2] X.env = (false, eval e X.env) :: starEach [.Name x p2] X.env := by rfl) : EX X Γ W (.Call (.Name "isinstance" p) [e, .Name x p2] [] pos) (xIsC c fe) := by
  have cr : CallR X (.builtin "isinstance") (fun xs H Q => SlX.rIsiSl X.K (.ref (Γ.cA c)) xs H Q ∨ rIsi X.K xs H Q) := fun pins s σ H xs us Q I r h => by
    rcases h with h | h
    · exact SlX.call_isiSl (.ref (Γ.cA c)) pins s σ H xs us Q I r h
    · exact call_isi pins s σ H xs us Q I r h
  refine PE.imp (pe_callB cr hg hm boot_isinstance (pa_cons he (pa_cons hC pa_nil) he1) (by decide) (by decide) he1) fun σ H Q ⟨ζ, M, μ, rr, h⟩ => ⟨ζ, M, μ, rr, Pst.then h fun v H1 d M1 μ1 nx rh rv h3 => ?_⟩
  split at h3
  · rename_i hs
    obtain ⟨q, hs⟩ := Option.isSome_iff_exists.mp hs
    obtain ⟨a, dx, vs, rfl, h4⟩ := slAt_slt rh rv hs
    exact .inl ⟨a, Γ.cA c, dx, vs, .ref (Γ.cA c), true, rfl, rfl, fun w h => h, h4, S, Si, h1, h3 _ _ _ (Nx.refl _ _) rh (.bl _)⟩
  · split at h3
    · rename_i hl
      unfold isLs at hl
      cases d with
      | ref n =>
        obtain ⟨b, rfl, eb⟩ := ref_rel rv
        obtain ⟨xs, hl⟩ := Option.isSome_iff_exists.mp hl
        obtain ⟨ws, g, _⟩ := nlst rh (hLst_ok rh hl) eb
        exact .inr ⟨.ref b, .ref (Γ.cA c), .type "list", .ref (Γ.cA c), false, rfl, .own _, .base (.lst g), h2, h3 _ _ _ (Nx.refl _ _) rh (.bl _)⟩
      | _ => cases hl
    · exact h3.elim
def fldOf (nm : Nat → List Str) (c : Nat) (f : Str) (fs : List D) : Option D := ((nm c).zip fs).lookup f
theorem lookup_zip {K : PySem.W.Frag} {H : Hp} {μ : List Addr} {f : Str} {d : D} : ∀ {ns : List Str} {fs : List D} {vs : List V}, RVs K H μ fs vs → (ns.zip fs).lookup f = some d → ∃ v, (ns.zip vs).lookup f = some v ∧ RV K H μ d v
  | [], _, _, _, h => by simp at h
  | n :: ns, _, _, .nil, h => by simp at h
  | n :: ns, _, _, .cons r t, h => by
    rw [List.zip_cons_cons, List.lookup_cons] at h ⊢
    cases hb : f == n with
    | true => rw [hb] at h; cases h; exact ⟨_, rfl, r⟩
    | false => rw [hb] at h; exact lookup_zip t h
def xXf2 (nm : Nat → List Str) (a : Addr) (d : Option Addr) (c : Nat) (ok : Nat → Bool) (f : Str) (fe : MX) : MX := fun ζ M => if ok c = true then (fe ζ M).bind fun y M1 => match y with
  | .exc a' d' c' ns fs => if a' = a ∧ c' = c ∧ d' = d ∧ ns = nm c ∧ d.isSome = true then match fldOf nm c f fs with
    | some z => .ok z M1
    | none => .no else .no
  | _ => .no else .no
theorem ex_xf2 {a : Addr} {oe : Obj} {d : Option Addr} {pn : List (Addr × Obj)} {ok : Nat → Bool} (hz : Zc (.ref (Γ.cA c)) d oe) (hf : ∃ vs, oe.data = .fields vs) (T : ok c = true → XfC X.K (Γ.cA c) ∧ PySem.W.findIn X.K (.ref (Γ.cA c)) f = some none)
    (he : EX (X.suite a ((a, oe) :: pn)) Γ W e fe) (hb : attributeBase e f X.env (eval e X.env) = eval e X.env := by rfl) : EX (X.suite a ((a, oe) :: pn)) Γ W (.Attribute e f pos) (xXf2 Γ.cN a d c ok f fe) := by
  by_cases hok : ok c = true
  · obtain ⟨T1, T2⟩ := T hok
    refine PE.imp (pe_xf (cls := .ref (Γ.cA c)) T1 T2 hz hf he hb) fun σ H Q ⟨ζ, M, μ, rr, h⟩ => ⟨ζ, M, μ, rr, ?_⟩
    unfold xXf2 at h
    rw [if_pos hok] at h
    refine Pst.then h fun v H1 y M1 μ1 nx rh rv h1 => ?_
    split at h1
    · rename_i a' d' c' ns fs
      split at h1
      · rename_i hh
        obtain ⟨rfl, rfl, rfl, rfl, hd⟩ := hh
        split at h1
        · rename_i z hz'
          obtain ⟨dd, rfl⟩ := Option.isSome_iff_exists.mp hd
          obtain ⟨rfl, hx⟩ := exc_dict rv
          obtain ⟨vs, g1, g2, g3⟩ := hx dd rfl
          obtain ⟨u, g4, g5⟩ := lookup_zip g3 hz'
          exact ⟨rfl, rfl, dd, _, u, rfl, g1, g4, h1 _ _ _ (Nx.refl _ _) rh g5⟩
        · exact h1.elim
      · exact h1.elim
    · exact h1.elim
  · refine ⟨fun pins s σ H Q I ⟨ζ, M, μ, rr, h⟩ => ?_⟩
    unfold xXf2 at h
    rw [if_neg hok] at h
    exact h.elim
def gMulA (x y : D) (M : Hs) : Option (D × Hs) := match x, y with
  | .int i, .int j => gMul (.int i) (.int j) M
  | .tup xs, .int k => if xs ≠ [] ∧ 2 ≤ k ∧ k ≤ 1000 ∧ xs.length ≤ 1000 then some (.tup (List.replicate k.toNat xs).flatten, M) else none
  | .ref n, .int k => match hLst M n with
    | some xs => if -(2 ^ 63) ≤ k ∧ k < 2 ^ 63 ∧ xs.length * k.toNat ≤ sizeLine then some (.ref M.length, M ++ [.lst (List.replicate k.toNat xs).flatten]) else none
    | none => none
  | _, _ => none
theorem RVs.rep {K : PySem.W.Frag} {H : Hp} {μ : List Addr} {ds : List D} {vs : List V} (r : RVs K H μ ds vs) : ∀ m : Nat, RVs K H μ (List.replicate m ds).flatten (List.replicate m vs).flatten
  | 0 => .nil
  | m + 1 => by
    rw [List.replicate_succ, List.replicate_succ, List.flatten_cons, List.flatten_cons]
    exact r.append (RVs.rep r m)
theorem m_mulA : Op2 X Γ (binaryOp .Mult) gMulA := by
  intro pins s σ H x y v u Q I rx ry ⟨d, e, M, μ, rh, rd, re, hq⟩
  unfold gMulA at hq
  split at hq
  · exact m_mul pins s σ H x y v u Q I rx ry ⟨_, _, M, μ, rh, rd, re, hq⟩
  · cases rd with
    | tup h1 r1 =>
      cases re
      split at hq
      · rename_i hc
        refine op_repT pins s σ H _ _ v u Q I rx ry ⟨_, _, _, rfl, rfl, h1, fun z => ?_, hc.2.1, hc.2.2.1, by rw [← r1.length]; exact hc.2.2.2, fun p hp => Pk.tup rh hq hp (r1.rep _)⟩
        subst z
        cases r1
        exact hc.1 rfl
      · exact hq.elim
  · obtain ⟨a, rfl, ea⟩ := ref_rel rd
    cases re
    split at hq
    · rename_i xs hl
      obtain ⟨vs, g, r⟩ := nlst rh (hLst_ok rh hl) ea
      split at hq
      · rename_i hc
        exact op_rep pins s σ H _ _ v u Q I rx ry ⟨a, _, vs, rfl, rfl, g, hc.1, hc.2.1, by rw [← r.length]; exact hc.2.2, fun p hp => Pk.new rh hq hp ⟨_, upd_same, (r.rep _).mono (Nx.fresh hp _)⟩⟩
      · exact hq.elim
    · exact hq.elim
  · exact hq.elim
end
end Mi
end
section
set_option maxRecDepth 100000
set_option maxHeartbeats 2000000
set_option autoImplicit false
namespace Mi
open PySem PySem.Spec PyProof.Rows L2

def inAt (c : Nat) (x : D) (M : Hs) : Option (Nat × List D) := match x with
  | .ref n => match M[n]? with
    | some (.ins c' fs) => if c' = c then some (n, fs) else none
    | _ => none
  | _ => none
theorem inAt_ok {c n : Nat} {x : D} {M : Hs} {fs : List D} (h : inAt c x M = some (n, fs)) : x = .ref n ∧ M[n]? = some (.ins c fs) := by
  unfold inAt at h
  split at h
  · split at h
    · split at h
      · rename_i e hc
        cases h
        subst hc
        exact ⟨rfl, e⟩
      · cases h
    · cases h
  · cases h
def putI (i : Nat) (d : D) (fs : List D) : Option (List D) := if i < fs.length then some (fs.set i d) else if i = fs.length then some (fs ++ [d]) else none
def xFldI (c i : Nat) (f : MX) : MX := fun ζ M => (f ζ M).bind fun x M1 => match inAt c x M1 with
  | some (_, fs) => match fs[i]? with
    | some d => .ok d M1
    | none => .no
  | none => .no
def sFldI (c i : Nat) (fo fv : MX) : MS := fun ζ M => RS.of ζ (fv ζ M) fun y M1 => RS.of ζ (fo ζ M1) fun x M2 => match inAt c x M2 with
  | some (n, fs) => match putI i y fs with
    | some fs' => .nx ζ (M2.set n (.ins c fs'))
    | none => .no
  | none => .no
/-- the field's name stands at i among the class's names -/
structure InF (K : PySem.W.Frag) (Γ : Gm) (c : Nat) (f : Str) (i : Nat) : Prop where
  cl : Cls K (Γ.cA c)
  n : NoAttr K (Γ.cA c) f
  ix : (Γ.cN c)[i]? = some f
  nd : (Γ.cN c).Nodup
  l : (Γ.cN c).length < 900
section
variable {P : Program} {w : World} {K : PySem.W.Frag} {Γ : Gm} {μ : List Addr} {H : Hp} {M : Hs}
theorem zip_lookup {β : Type} {f : Str} {v : β} : ∀ {ns : List Str} {vs : List β} {i : Nat}, ns.Nodup → ns[i]? = some f → vs[i]? = some v → (ns.zip vs).lookup f = some v
  | [], _, _, _, h, _ => by simp at h
  | n :: ns, [], i, _, _, h => by simp at h
  | n :: ns, u :: vs, 0, nd, h, g => by
    simp at h g
    subst h g
    simp [List.lookup_cons]
  | n :: ns, u :: vs, i + 1, nd, h, g => by
    have hne : (f == n) = false := by
      refine beq_eq_false_iff_ne.mpr fun e => ?_
      subst e
      rw [List.nodup_cons] at nd
      exact nd.1 (List.mem_of_getElem? (by simpa using h))
    rw [List.zip_cons_cons, List.lookup_cons, hne]
    exact zip_lookup (List.nodup_cons.mp nd).2 (by simpa using h) (by simpa using g)
theorem zip_none {β : Type} {f : Str} : ∀ {ns : List Str} {vs : List β}, f ∉ ns → (ns.zip vs).lookup f = none
  | [], _, _ => rfl
  | _ :: _, [], _ => by simp
  | n :: ns, u :: vs, h => by
    have hne : (f == n) = false := beq_eq_false_iff_ne.mpr fun e => h (by rw [e]; exact List.mem_cons_self)
    rw [List.zip_cons_cons, List.lookup_cons, hne]
    exact zip_none fun z => h (List.mem_cons_of_mem _ z)
theorem putF_zip {f : Str} {v : V} : ∀ {ns : List Str} {vs : List V} {i : Nat}, ns.Nodup → ns[i]? = some f → (i < vs.length → putF f v (ns.zip vs) = ns.zip (vs.set i v)) ∧ (i = vs.length → putF f v (ns.zip vs) = ns.zip (vs ++ [v]))
  | [], _, _, _, h => by simp at h
  | n :: ns, [], i, nd, h => ⟨fun z => by simp at z, fun z => by
      subst z
      simp at h
      subst h
      simp [putF]⟩
  | n :: ns, u :: vs, 0, nd, h => ⟨fun _ => by
      simp at h
      subst h
      simp [putF], fun z => by simp at z⟩
  | n :: ns, u :: vs, i + 1, nd, h => by
    have hne : n ≠ f := fun e => by
      subst e
      rw [List.nodup_cons] at nd
      exact nd.1 (List.mem_of_getElem? (by simpa using h))
    obtain ⟨h1, h2⟩ := putF_zip (v := v) (vs := vs) (List.nodup_cons.mp nd).2 (by simpa using h)
    refine ⟨fun z => ?_, fun z => ?_⟩
    · rw [List.zip_cons_cons, putF, if_neg hne, List.set_cons_succ, List.zip_cons_cons, h1 (by simpa using z)]
    · rw [List.zip_cons_cons, putF, if_neg hne, List.cons_append, List.zip_cons_cons, h2 (by simpa using z)]
theorem inAt_at {c : Nat} {x : D} {v : V} {n : Nat} {fs : List D} (rh : RH P w K Γ μ M H) (r : RV K H μ x v) (h : inAt c x M = some (n, fs)) : ∃ a dx vs, v = .ref a ∧ μ[n]? = some a ∧ M[n]? = some (.ins c fs) ∧ RVs K H μ fs vs ∧ H a = some (.ins (Γ.cA c) dx ((Γ.cN c).zip vs)) ∧ vs.length ≤ (Γ.cN c).length := by
  obtain ⟨rfl, hm⟩ := inAt_ok h
  obtain ⟨a, rfl, ea⟩ := ref_rel r
  obtain ⟨dx, vs, h1, h2, h3⟩ := rh.at_ _ _ _ hm ea
  exact ⟨a, dx, vs, rfl, ea, hm, h1, h2, h3⟩
end
def xMetI (c n : Nat) (F : MF) (fo : MX) (ga : MA) : MX := fun ζ M => (fo ζ M).bind fun x M1 => match inAt c x M1 with
  | some _ => (ga ζ M1).bind fun ds M2 => if ds.length + 1 = n then F (x :: ds) M2 else .no
  | none => .no
def xPrpI (c : Nat) (F : MF) (fo : MX) : MX := fun ζ M => (fo ζ M).bind fun x M1 => match inAt c x M1 with
  | some _ => R.of (okR (F [x] M1))
  | none => .no
/-- len of an instance with its own one, or of what the built-in takes -/
def xLenI (c : Nat) (F : MF) (fo : MX) : MX := fun ζ M => (fo ζ M).bind fun x M1 => match inAt c x M1 with
  | some _ => match okR (F [x] M1) with
    | some (.int i, M2) => if 0 ≤ i ∧ i < 16777216 then .ok (.int i) M2 else .no
    | _ => .no
  | none => .no
section
variable {X : Cx} {Γ : Gm} {W : WX} {e o v : Expr} {es : List Expr} {fo fe fv : MX} {ga : MA} {f m x : Str} {c k n i : Nat} {pos pos' apos p : Pos} {F : MF}
theorem ex_fldI (T : InF X.K Γ c f i) (he : EX X Γ W e fe) (hb : attributeBase e f X.env (eval e X.env) = eval e X.env := by rfl) : EX X Γ W (.Attribute e f pos) (xFldI c i fe) :=
  PE.imp (pe_fld he hb) fun σ H Q ⟨ζ, M, μ, rr, h⟩ => ⟨ζ, M, μ, rr, Pst.then h fun v H1 d M1 μ1 nx rh rv h1 => by
    cases hs : inAt c d M1 with
    | none => rw [hs] at h1; exact h1.elim
    | some q =>
      obtain ⟨n, fs⟩ := q
      rw [hs] at h1
      obtain ⟨a, dx, vs, rfl, ea, hm, h2, h3, h4⟩ := inAt_at rh rv hs
      dsimp only at h1
      split at h1
      · rename_i z hz
        obtain ⟨u, g1, g2⟩ := h2.get hz
        exact ⟨a, _, dx, _, u, rfl, h3, T.cl, T.n, zip_lookup T.nd T.ix g1, h1 _ _ _ (Nx.refl _ _) rh g2⟩
      · exact h1.elim⟩
theorem es_fldI (T : InF X.K Γ c f i) (ho : EX X Γ W o fo) (hv : EX X Γ W v fv) (hs : swapsWith v (some (.Attribute o f pos')) pos.line X.env = pure false := by rfl) : ES X Γ W (.Assign [.Attribute o f pos'] v pos) (sFldI c i fo fv) :=
  PS.imp (ps_fld ho hv hs) fun E σ H ⟨ζ, M, μ, rr, h⟩ => ⟨ζ, M, μ, rr, PstS.then h rr.sl fun y H1 d M1 μ1 nx rh rv h1 => ⟨ζ, M1, μ1, ⟨rr.sl.mono nx, rh⟩, PstS.then h1 (rr.sl.mono nx) fun u H2 z M2 μ2 nx2 rh2 ru h2 => by
    cases hq : inAt c z M2 with
    | none => rw [hq] at h2; exact h2.elim
    | some q =>
      obtain ⟨n, fs⟩ := q
      rw [hq] at h2
      obtain ⟨a, dx, vs, rfl, ea, hm, g2, g3, g4⟩ := inAt_at rh2 ru hq
      dsimp only at h2
      have hix := (List.getElem?_eq_some_iff.mp T.ix).1
      have mu : Mut (H2 a) := by rw [g3]; exact True.intro
      have rv2 := RV.mono nx2 rv
      split at h2
      · rename_i fs' hf
        refine ⟨a, _, dx, _, rfl, g3, T.cl, T.n, ?_, ?_⟩
        · rw [List.length_zip]; have := T.l; omega
        · unfold putI at hf
          obtain ⟨z1, z2⟩ := putF_zip (v := y) (vs := vs) T.nd T.ix
          split at hf
          · rename_i hlt
            cases hf
            rw [z1 (by rw [← g2.length]; exact hlt)]
            refine h2 _ _ _ (Nx.write mu) (rh2.write ea mu ⟨dx, _, (RVs.set rv2 i g2).mono (Nx.write mu), upd_same, by rw [List.length_set]; exact g4⟩) (((rr.sl.mono nx).mono nx2).mono (Nx.write mu))
          · split at hf
            · rename_i hnl heq
              cases hf
              have hl : vs.length = i := by rw [← g2.length]; exact heq.symm
              rw [z2 hl.symm]
              refine h2 _ _ _ (Nx.write mu) (rh2.write ea mu ⟨dx, _, (g2.append (.cons rv2 .nil)).mono (Nx.write mu), upd_same, by rw [List.length_append, hl]; exact hix⟩) (((rr.sl.mono nx).mono nx2).mono (Nx.write mu))
            · cases hf
      · exact h2.elim⟩⟩
theorem ex_metI {pl : Sem Bool} (S : Cls X.K (Γ.cA c)) (hnf : ((Γ.cN c).contains m) = false) (T : MetD X.prog X.w X.K X.mg X.base Γ k c m n F) (hr : Room k X.A) (tk : Takes X W) (ho : EX X Γ W o fo) (ha : EA X Γ W (e :: es) ga)
    (hst : starEach (e :: es) X.env = (false, eval e X.env) :: starEach es X.env := by rfl) (hpl : (backTo pos (starEach es X.env)).any (·.1) = false := by rfl)
    (ht : eval (.Call (.Attribute o m apos) (e :: es) [] pos) X.env = (do
      let ov ← eval o X.env
      standAt apos.atName
      let (f, first) ← holding [ov] (getMethod ov m pl)
      callWith pos f first (backTo pos (starEach (e :: es) X.env)) (backToKw pos (keywordEach [] X.env))) := by rfl) : EX X Γ W (.Call (.Attribute o m apos) (e :: es) [] pos) (xMetI c n F fo ga) := by
  obtain ⟨f, fd, ps, hm, F1, hb⟩ := T.i
  have hmn : m ∉ Γ.cN c := fun z => by
    have : (Γ.cN c).contains m = true := List.contains_iff_mem.mpr z
    rw [hnf] at this
    cases this
  refine ⟨fun pins s σ H Q I ⟨ζ, M, μ, rr, h⟩ => ?_⟩
  have h' : tX X.prog X.w X.K Γ W fo σ H fun x H1 => ∃ a dx fs, x = .ref a ∧ H1 a = some (.ins (Γ.cA c) dx fs) ∧ fs.lookup m = none ∧ tA X.prog X.w X.K Γ W ga σ H1 fun us H2 => spF X.prog X.w X.K Γ n F (x :: us) H2 Q (WE W σ) :=
    ⟨ζ, M, μ, rr, Pst.then h fun v H1 d M1 μ1 nx rh rv h1 => by
      cases hs : inAt c d M1 with
      | none => rw [hs] at h1; exact h1.elim
      | some q =>
        rw [hs] at h1
        obtain ⟨a, dx, vs, rfl, ea, hmm, h2, h3, h4⟩ := inAt_at (fs := q.2) (n := q.1) rh rv hs
        exact ⟨a, dx, _, rfl, h3, zip_none hmn, ζ, M1, μ1, ⟨rr.sl.mono nx, rh⟩, Pst.then h1 fun us H2 ds M2 μ2 nx2 rh2 rvs h5 => spF_of (W := W) rh2 (.cons (RV.mono nx2 rv) rvs) (by simpa using h5)⟩⟩
  refine PySem.W.methodCall_KW (pl := pl) (thn (ho.run pins s σ H _ I h') fun u s1 ⟨x, H1, I1, rx, a, dx, fs, ex, hs, hl, q⟩ => ?_) ht
  subst ex
  obtain rfl : u = Value.ref a := rx
  refine getmeth_ok I1 hs S hm hl (PySem.W.callWith_K (first := [.ref a]) (h₀ := X.base) I.ok.mod.kin hm.kp (thn (ha.run pos pins s1 σ H1 _ I1 q) fun us s2 ⟨ws, H2, I2, r, q2⟩ => ⟨I2.kIn, ?_⟩) hst hpl)
  exact run_fnS (us := .ref a :: us) (vs := .ref a :: ws) F1 hr hb (passAt tk σ) I2 (.cons rfl r) q2
theorem ex_metI0 {pl : Sem Bool} (S : Cls X.K (Γ.cA c)) (hnf : ((Γ.cN c).contains m) = false) (T : MetD X.prog X.w X.K X.mg X.base Γ k c m n F) (hr : Room k X.A) (tk : Takes X W) (ho : EX X Γ W o fo)
    (ht : eval (.Call (.Attribute o m apos) [] [] pos) X.env = (do
      let ov ← eval o X.env
      standAt apos.atName
      let (f, first) ← holding [ov] (getMethod ov m pl)
      callWith pos f first (backTo pos (starEach [] X.env)) (backToKw pos (keywordEach [] X.env))) := by rfl) : EX X Γ W (.Call (.Attribute o m apos) [] [] pos) (xMetI c n F fo aNil) := by
  obtain ⟨f, fd, ps, hm, F1, hb⟩ := T.i
  have hmn : m ∉ Γ.cN c := fun z => by
    have : (Γ.cN c).contains m = true := List.contains_iff_mem.mpr z
    rw [hnf] at this
    cases this
  refine ⟨fun pins s σ H Q I ⟨ζ, M, μ, rr, h⟩ => ?_⟩
  have h' : tX X.prog X.w X.K Γ W fo σ H fun x H1 => ∃ a dx fs, x = .ref a ∧ H1 a = some (.ins (Γ.cA c) dx fs) ∧ fs.lookup m = none ∧ spF X.prog X.w X.K Γ n F [x] H1 Q (WE W σ) :=
    ⟨ζ, M, μ, rr, Pst.then h fun v H1 d M1 μ1 nx rh rv h1 => by
      cases hs : inAt c d M1 with
      | none => rw [hs] at h1; exact h1.elim
      | some q =>
        rw [hs] at h1
        obtain ⟨a, dx, vs, rfl, ea, hmm, h2, h3, h4⟩ := inAt_at (fs := q.2) (n := q.1) rh rv hs
        exact ⟨a, dx, _, rfl, h3, zip_none hmn, spF_of (W := W) rh (.cons rv .nil) h1⟩⟩
  refine PySem.W.methodCall_KW (pl := pl) (thn (ho.run pins s σ H _ I h') fun u s1 ⟨x, H1, I1, rx, a, dx, fs, ex, hs, hl, q⟩ => ?_) ht
  subst ex
  obtain rfl : u = Value.ref a := rx
  refine getmeth_ok I1 hs S hm hl (PySem.W.callWith_K0 (first := [.ref a]) I1.kIn hm.kp ?_)
  exact run_fnS (us := [.ref a]) (vs := [.ref a]) F1 hr hb (passAt tk σ) I1 (.cons rfl .nil) q
theorem ex_prpI (S : Cls X.K (Γ.cA c)) (T : GetD X.prog X.w X.K X.mg X.base Γ k c f F) (hr : Room (k + 1) X.A) (he : EX X Γ W e fe) (hb : attributeBase e f X.env (eval e X.env) = eval e X.env := by rfl) : EX X Γ W (.Attribute e f pos) (xPrpI c F fe) := by
  obtain ⟨p, g, fd, ps, hp, F1, hbi⟩ := T.i
  refine PE.imp (pe_prop (dvs := []) (ds := []) (E := E0) he S hp F1 hr hbi .nil (fun _ _ _ _ _ _ _ z => (cx_none _ _ _ _ z).elim) hb) fun σ H Q ⟨ζ, M, μ, rr, h⟩ => ⟨ζ, M, μ, rr, Pst.then h fun v H1 d M1 μ1 nx rh rv h1 => ?_⟩
  cases hs : inAt c d M1 with
  | none => rw [hs] at h1; exact h1.elim
  | some q =>
    rw [hs] at h1
    obtain ⟨a, dx, vs, rfl, ea, hmm, h2, h3, h4⟩ := inAt_at (fs := q.2) (n := q.1) rh rv hs
    exact ⟨a, dx, _, rfl, h3, spF_ok rh (.cons rv .nil) rfl h1.of⟩
/-- len(x), x an instance with its own one -/
theorem ex_lenI (S : Cls X.K (Γ.cA c)) (T : MetD X.prog X.w X.K X.mg X.base Γ k c "__len__" 1 F) (hr : Room (k + 1) X.A) (hm : X.mg "len" = none) (he : EX X Γ W e fe) (hg : Gl X "len" := by rfl)
    (he1 : starEach [e] X.env = (false, eval e X.env) :: starEach [] X.env := by rfl) (hpl : (backTo pos (starEach [] X.env)).any (·.1) = false := by rfl) : EX X Γ W (.Call (.Name "len" p) [e] [] pos) (xLenI c F fe) := by
  obtain ⟨g, fd, ps, hmt, F1, hb⟩ := T.i
  have cr : CallR X (.builtin "len") (fun xs H Q => ∃ a dx fs, xs = [V.ref a] ∧ H a = some (.ins (Γ.cA c) dx fs) ∧ spF X.prog X.w X.K Γ 1 F [.ref a] H (fun z H' => ∃ i : Int, z = .int i ∧ (0 ≤ i ∧ i < 16777216) ∧ Q z H') E0) := by
    intro pins s σ H xs us Q I r ⟨a, dx, fs, ex, ha, q⟩
    subst ex
    cases r with
    | cons ru rr =>
      cases rr
      rename_i u
      obtain rfl : u = Value.ref a := ru
      obtain ⟨mA, O, _⟩ := ins_get I.hok ha
      obtain ⟨od, J, _⟩ := O.look
      obtain ⟨m0, hF⟩ := I.fr
      refine PySem.W.len_K hF I.ok.mod.kin J hmt.at_ hmt.fn ?_
      refine wpAny_call (codeAny_mono (FnOk.raw F1 hb .nil X.A.in1 X.stack s H [.ref a] [.ref a] _ E0 hr.in1 I.env0.in1 (.cons rfl .nil) q) fun r s' hq => ?_)
      cases r with
      | error er => exact (cx_none _ _ _ _ hq).elim
      | ok fl =>
        cases fl with
        | ret u' =>
          obtain ⟨z, H', I', rz, j, ez, hj, qz⟩ := I.after hq
          subst ez
          obtain ⟨t, et⟩ := (show ∃ t, u' = Value.int j t from rz)
          subst et
          exact ⟨⟨hj.1, by omega⟩, .int j, H', I'.tok _, ⟨_, rfl⟩, qz⟩
        | next => exact False.elim hq
        | brk => exact False.elim hq
        | cont => exact False.elim hq
  refine PE.imp (pe_callB cr hg hm (show bootBuiltins "len" = some (.builtin "len") from by first | rfl | exact boot_len) (pa_cons he pa_nil he1) (by decide) (by decide) he1 hpl) fun σ H Q ⟨ζ, M, μ, rr, h⟩ => ⟨ζ, M, μ, rr, Pst.then h fun v H1 d M1 μ1 nx rh rv h1 => ?_⟩
  cases hs : inAt c d M1 with
  | none => rw [hs] at h1; exact h1.elim
  | some q =>
    rw [hs] at h1
    obtain ⟨a, dx, vs, rfl, ea, hmm, h2, h3, h4⟩ := inAt_at (fs := q.2) (n := q.1) rh rv hs
    refine ⟨a, dx, _, rfl, h3, ?_⟩
    dsimp only at h1
    split at h1
    · rename_i j M2 hj
      split at h1
      · rename_i hji
        refine spF_ok rh (.cons rv .nil) rfl ?_
        rw [hj]
        intro z H' μ' nx' rh' rz
        cases rz
        exact ⟨j, rfl, hji, Pst.mono h1 nx' _ _ _ (Nx.refl _ _) rh' (.int _)⟩
      · exact h1.elim
    · exact h1.elim
theorem made_ins {P : Program} {w : World} {K : PySem.W.Frag} {Γ : Gm} {μ : List Addr} {M : Hs} {H : Hp} {x dx : Addr} (rh : RH P w K Γ μ M H) (h1 : H x = none) (h2 : H dx = none) (h3 : dx ≠ x) :
    Nx μ H (μ ++ [x]) (upd (upd H dx (.own x)) x (.ins (Γ.cA c) dx [])) ∧ RH P w K Γ (μ ++ [x]) (M ++ [.ins c []]) (upd (upd H dx (.own x)) x (.ins (Γ.cA c) dx [])) := by
  have h4 : upd H dx (.own x) x = none := by rw [upd_ne (Ne.symm h3)]; exact h1
  refine ⟨(Nx.fresh0 h2).trans (Nx.fresh h4 [x]), (rh.fresh h2).alloc h4 ⟨dx, [], .nil, ?_, Nat.zero_le _⟩⟩
  rw [upd_same, List.zip_nil_right]
theorem ex_makeI (T : Mkd X.prog X.w X.K X.mg X.base Γ k c x n F) (hr : Room (k + 1) X.A) (tk : Takes X W) (ha : EA X Γ W (e :: es) ga) (hg : Gl X x := by rfl) (hdb : (x == ("__debug__" : Str)) = false := by decide)
    (he : starEach (e :: es) X.env = (false, eval e X.env) :: starEach es X.env := by rfl) (hpl : (backTo pos (starEach es X.env)).any (·.1) = false := by rfl) : EX X Γ W (.Call (.Name x p) (e :: es) [] pos) (xMake (.ins c []) n F ga) := by
  obtain ⟨f, fd, ps, Mc, F1, hb⟩ := T.i
  refine ⟨fun pins s σ H Q I ⟨ζ, M, μ, rr, h⟩ => ?_⟩
  refine wpAny_Call_Name_kw (ld_glob I hg T.g ?_ hdb)
  have h' : tA X.prog X.w X.K Γ W ga σ H fun vs H1 => ∀ x dx, H1 x = none → H1 dx = none → dx ≠ x → spF X.prog X.w X.K Γ n F (.ref x :: vs) (upd (upd H1 dx (.own x)) x (.ins (Γ.cA c) dx [])) (fun v H2 => v = .non ∧ Q (.ref x) H2) (WE W σ) :=
    ⟨ζ, M, μ, rr, Pst.then h fun vs H1 ds M1 μ1 nx rh rv h1 => fun x dx h2 h3 h4 => by
      replace rv : RVs X.K H1 μ1 ds vs := rv
      obtain ⟨nx2, rh2⟩ := made_ins (c := c) rh h2 h3 h4
      have hx : (μ1 ++ [x])[M1.length]? = some x := rh.last
      split at h1
      · rename_i hl
        refine ⟨_, _, _, rh2, .cons (.ref hx) (rv.mono nx2), hl, ?_⟩
        have h5 := Pst.mono h1 nx2
        cases hF : F (.ref M1.length :: ds) (M1 ++ [.ins c []]) with
        | ok d M' =>
          rw [hF] at h5
          intro v H' μ' nx3 rh3 rv3
          have h6 := Pst.mono h5 nx3
          cases d with
          | non => cases rv3; exact ⟨rfl, h6 _ _ _ (Nx.refl _ _) rh3 (.ref (nx3.pre _ _ hx))⟩
          | _ => exact h6.elim
        | ex c' fs M' => rw [hF] at h5; exact h5
        | no => rw [hF] at h5; exact h5
      · exact h1.elim⟩
  refine PySem.W.callWith_K (h₀ := X.base) I.ok.mod.kin Mc.kp (thn (ha.run pos pins s σ H _ I h') fun us s1 ⟨vs, H1, I1, r, q⟩ => ⟨I1.kIn, ?_⟩) he hpl
  exact run_makeAt Mc F1 hr hb (passAt tk σ) I1 r q
end
end Mi
end
section
set_option maxRecDepth 100000
set_option maxHeartbeats 2000000
set_option autoImplicit false
namespace Mi
open PySem PySem.Spec PyProof.Rows L2

section
variable {X : Cx} {Γ : Gm} {W : WX} {e : Expr} {es : List Expr} {fe : MX} {p : Pt} {ps : List Pt} {pos : Pos} {k : Nat}
def gLst (K : PySem.W.Frag) (n : Nat) (t : TGs) : TG := fun v σ H Q => ∃ a xs, v = .ref a ∧ SqL K H a xs ∧ xs.length = n ∧ t xs σ H Q
theorem pg_lst {t : TGs} {n : Nat} (hc : X.calm = true) (h : PGs X es t)
    (hn : (assignEach es X.env).length = n := by rfl) (hst : (assignEach es X.env).findIdx? (·.1) = none := by rfl) : PG X (.Tuple es k pos) (gLst X.K n t) := by
  refine ⟨fun pins s σ H v u Q I r hw => ?_⟩
  obtain ⟨a, xs, e1, hq, hl, hw⟩ := hw
  subst e1
  cases r
  obtain ⟨its, rv, ht, hz⟩ := I.list hq
  have hl2 : its.toArray.size = n := by simp [← hl, rv.length]
  rw [assign_Tuple]
  refine wpAny_bind (wpAny_standAt ?_)
  unfold unpack
  rw [hn, hst]
  refine wpAny_bind (wpAny_holding ?_)
  rw [← hl2]
  refine PySem.W.kun_itemsOf (I.ok.hd hc) ht.isList fun h' hx => ?_
  have I1 : Inv X pins σ H { s with heap := h' } := I.kept (t' := s.toks) fun b o e => hx b o (Nat.ne_of_lt (Heap.lt_size e)) e
  exact h.run pins _ σ H xs _ Q I1 (by simpa using rv) hw
def gPL (P : Program) (w : World) (K : PySem.W.Frag) (Γ : Gm) (ps : List Pt) : TG := fun v σ H Q => ∃ n M μ, RH P w K Γ μ M H ∧ RV K H μ (.ref n) v ∧ match hSeq M (.ref n) with
  | some xs => (match bindPs ps xs with
    | some l => ∀ l', BR K H μ l l' → Q (setAll σ l') H
    | none => False)
  | none => False
theorem eg_lst (hc : X.calm = true) (h : EGs X Γ es ps) (hn : (assignEach es X.env).length = ps.length := by rfl) (hst : (assignEach es X.env).findIdx? (·.1) = none := by rfl) : PG X (.Tuple es k pos) (gPL X.prog X.w X.K Γ ps) :=
  PG.imp (pg_lst hc h hn hst) fun v σ H Q ⟨n, M, μ, rh, r, h⟩ => by
    obtain ⟨a, rfl, ea⟩ := ref_rel r
    cases hs : hSeq M (.ref n) with
    | none => rw [hs] at h; exact h.elim
    | some xs =>
      rw [hs] at h
      obtain ⟨b, vs, e, hs2, rr⟩ := hRef_ok rh hs (.ref ea)
      cases e
      refine ⟨_, vs, rfl, hs2, ?_, xs, M, μ, rh, rr, h⟩
      dsimp only at h
      cases hb : bindPs ps xs with
      | none => rw [hb] at h; exact h.elim
      | some l =>
        rw [← rr.length]
        exact eg_tup.bindPs_len hb
/-- a, b = .., a list -/
def sAsgL (f : MX) (ps : List Pt) : MS := fun ζ M => RS.of ζ (f ζ M) fun d M1 => match d with
  | .ref n => (match hSeq M1 (.ref n) with
    | some xs => (match bindPs ps xs with
      | some l => .nx (setAll ζ l) M1
      | none => .no)
    | none => .no)
  | _ => .no
theorem es_asgL {tg : Expr} (he : EX X Γ W e fe) (hg : PG X tg (gPL X.prog X.w X.K Γ ps)) (hs : swapsWithSole [tg] e pos.line X.env = pure false := by rfl) (hw : swappedStores [tg] e X.env = pure none := by rfl)
    (h1 : (assignEach [tg] X.env).map (·.2) = [assign tg X.env] := by rfl) : ES X Γ W (.Assign [tg] e pos) (sAsgL fe ps) :=
  PS.imp (ps_asg he hg hs hw h1) fun E σ H ⟨ζ, M, μ, rr, h⟩ => ⟨ζ, M, μ, rr, PstS.then h rr.sl fun v H1 d M1 μ1 nx rh rv h1 => by
    cases d with
    | ref n =>
      dsimp only at h1
      refine ⟨n, M1, μ1, rh, rv, ?_⟩
      cases hq : hSeq M1 (.ref n) with
      | none => rw [hq] at h1; exact h1.elim
      | some xs =>
        rw [hq] at h1
        dsimp only at h1
        cases hb : bindPs ps xs with
        | none => rw [hb] at h1; exact h1.elim
        | some l =>
          rw [hb] at h1
          dsimp only
          rw [hb]
          exact fun l' br => h1 _ _ _ (Nx.refl _ _) rh (RSl.setAll br (rr.sl.mono nx))
    | _ => exact h1.elim⟩
end
end Mi
end
section
set_option maxRecDepth 100000
set_option maxHeartbeats 4000000
set_option autoImplicit false
namespace Mi
open PySem PySem.Spec PyProof.Rows L2

section
variable {X : Cx} {st : Stmt} {t : TS}
theorem ps_ghost (h : PS X st t) : PS X st (fun E σ H => t { E with nx := fun σ' H' => ∃ d u, H' d = some u ∧ Mut (some u) ∧ ∀ od, E.nx σ' (upd H' d (.frz od u)) } σ H) := by
  refine ⟨fun pins s σ H E I hw => ?_⟩
  refine thn (h.run pins s σ H _ I hw) fun f s1 q => ?_
  cases f with
  | next =>
    obtain ⟨σ', H', J, d, u, hd, mu, q⟩ := q
    obtain ⟨od, J1⟩ := J.lock hd mu
    exact ⟨σ', _, J1, q od⟩
  | brk => exact q
  | cont => exact q
  | ret v => exact q
end
def sFrz (i : Nat) (f : MS) : MS := fun ζ M => match f ζ M with
  | .nx ζ' M' => match ζ'[i]? with
    | some (some (.ref n)) => match hDct M' n with
      | some kvs => .nx ζ' (M'.set n (.fdc kvs))
      | none => .no
    | _ => .no
  | r => r
section
variable {X : Cx} {Γ : Gm} {W : WX} {st : Stmt} {f : MS}
theorem es_frz (i : Nat) (h : ES X Γ W st f) : ES X Γ W st (sFrz i f) :=
  PS.imp (ps_ghost h) fun E σ H ⟨ζ, M, μ, rr, h⟩ => ⟨ζ, M, μ, rr, by
    unfold sFrz at h
    cases hf : f ζ M with
    | nx ζ1 M1 =>
      rw [hf] at h
      intro σ' H' μ' nx rh sl
      dsimp only at h
      split at h
      · rename_i n hz
        split at h
        · rename_i kvs hk
          obtain ⟨v, hv, rv⟩ := sl.at_ i _ hz
          cases rv with
          | ref ea =>
            rename_i a
            obtain ⟨es, g, rp⟩ := ndct rh hk ea
            have hm : Mut (H' a) := by rw [g]; trivial
            exact ⟨a, dHO X.prog X.w a es, g, trivial, fun od => h σ' (upd H' a (.frz od (dHO X.prog X.w a es))) μ' (nx.trans (Nx.write hm)) (rh.write ea hm ⟨es, ⟨od, upd_same⟩, Paired.imp rp fun _ _ => REn.mono (Nx.write hm)⟩) (sl.mono (Nx.write hm))⟩
        · exact h.elim
      · exact h.elim
    | rt d M1 => rw [hf] at h; exact h
    | bk ζ1 M1 => rw [hf] at h; exact h
    | ct ζ1 M1 => rw [hf] at h; exact h
    | ex c fs ζ1 M1 => rw [hf] at h; exact h
    | no => rw [hf] at h; exact h⟩
end

theorem mi_meets_items {prog : Program} {w : World} (d : Addr) (hd : (d == sysModules) = false) :
    MeetsIn prog w (Builtin.«dict.items» ⟨[.ref d], []⟩) (fun _ R s => s.TypeIs (.ref d) "dict" ∧ R (.ok (.ret (.ref s.heap.objs.size))) { s with heap := s.heap.push (DSub.viewOb "dict_items" d) }) :=
  .of_wp fun A R s hh => by
    obtain ⟨hT, h⟩ := hh
    unfold Builtin.«dict.items»
    refine wpAny_bind ?_
    unfold Builtin.Dict.noArgs
    refine wpAny_bind (wpAny_notOrdered_dict hT ?_)
    show wpAny _ _ (pure d) _ _ s
    refine wpAny_pure ?_
    show wpAny _ _ (Builtin.Dict.showsAll d >>= _) _ _ s
    unfold Builtin.Dict.showsAll
    rw [if_neg (by rw [hd]; decide)]
    exact wpAny_bind (wpAny_pure (wpAny_bind (wpAny_newObj_type (wpAny_pure ⟨_, rfl, h⟩))))
/-- what the frozen dict's object is -/
structure FzAt (P : Program) (w : World) (h : Heap) (a : Addr) (o : Obj) (es : List (NestedKey × Addr × V)) (ds : Array DictEntry) (ep : Nat) (xs : List (NestedKey × Addr × Value)) : Prop where
  get : h.get? a = some o
  ex : o.ExactDict
  dat : o.data = .dict ds ep
  ent : ds.toList = xs.map (entryOfKey (nestedKind P w))
  par : Paired (fun (p : NestedKey × Addr × V) (q : NestedKey × Addr × Value) => p.1 = q.1 ∧ p.2.1 = q.2.1 ∧ RelV p.2.2 q.2.2) es xs
  sm : (a == sysModules) = false
  size : ds.size = es.length
theorem fz_at {X : Cx} {pins : List (Addr × Obj)} {σ : L2.St} {H : Hp} {s : Shared} {a : Addr} {o : Obj} {es : List (NestedKey × Addr × V)} (I : Inv X pins σ H s) (h : H a = some (.frz o (dHO X.prog X.w a es))) : ∃ ds ep xs, FzAt X.prog X.w s.heap a o es ds ep xs := by
  obtain ⟨e, ⟨xs, p, o', ds, ep, ho, hx, hd, he, hn, hs, hl⟩, _⟩ := (show ObjOk X.prog X.w H s.heap a (.frz o (dHO X.prog X.w a es)) from I.hok a _ h)
  have eo : o' = o := Option.some.inj (ho.symm.trans e)
  subst eo
  refine ⟨ds, ep, xs, e, hx, hd, he, p, hs, ?_⟩
  have e1 : ds.size = xs.length := by
    have := congrArg List.length he
    simpa using this
  rw [e1, Paired.length p]
theorem FzAt.entry {P : Program} {w : World} {h : Heap} {a : Addr} {o : Obj} {es : List (NestedKey × Addr × V)} {ds : Array DictEntry} {ep : Nat} {xs : List (NestedKey × Addr × Value)} (z : FzAt P w h a o es ds ep xs) {i : Nat} {x : NestedKey × Addr × V} (hx : es[i]? = some x) : ∃ e, ds[i]? = some e ∧ e.key = .ref x.2.1 ∧ RelV x.2.2 e.val := by
  obtain ⟨y, hy, e1, e2, e3⟩ := paired_get z.par hx
  have q : ds[i]? = (xs[i]?).map (entryOfKey (nestedKind P w)) := entry_at z.ent i
  rw [hy] at q
  exact ⟨_, q, by rw [e2]; rfl, e3⟩
/-- the pairs of the frozen dict at a, each a new tuple -/
def ItF (P : Program) (w : World) (a : Addr) (o : Obj) (es : List (NestedKey × Addr × V)) : It :=
  ⟨fun i H => H a = some (.frz o (dHO P w a es)) ∧ i < es.length, fun i H x H' => ∃ T e, es[i]? = some e ∧ x = .ref T ∧ H T = none ∧ H' = upd H T (.tup [.ref e.2.1, e.2.2]), fun i H => H a = some (.frz o (dHO P w a es)) ∧ es.length ≤ i⟩
theorem turn_itemsF {P : Program} {w : World} {K : PySem.W.Frag} {a : Addr} {o : Obj} {es : List (NestedKey × Addr × V)} {ds : Array DictEntry} {ep : Nat} {elts : List Expr} {kk : Nat} {tpos : Pos} (it : Addr) (hod : o.data = .dict ds ep) :
    Turn P w K (.Tuple elts kk tpos) (ItF P w a o es) [it] it (fun i h => ∃ k v, h.get? it = some (DVw.itmOb a .none i es.length ep k v)) where
  mem := by simp
  obj := fun i h st b hb => by
    have z : b = it := by simpa using hb
    subst z
    obtain ⟨k, v, q⟩ := st
    exact ⟨_, q, fun v z => nomatch z⟩
  keep := fun i h h' st kp => let ⟨k, v, q⟩ := st; ⟨k, v, kp it (by simp) _ q⟩
  item := by
    intro X hP hw hK hc i pins s σ H E I hf st hg
    subst hP hw hK
    obtain ⟨hd, hi⟩ := hg
    obtain ⟨ds', ep', xs, Z⟩ := fz_at I hd
    obtain ⟨q1, q2⟩ := dict_ep hod Z.dat
    obtain ⟨x, hx⟩ : ∃ x, es[i]? = some x := ⟨es[i], List.getElem?_eq_getElem hi⟩
    obtain ⟨e, he, hkey, ru⟩ := Z.entry hx
    obtain ⟨k, v, hit0⟩ := st
    have hit : s.heap.get? it = some (DVw.itmOb a .none i es.length ep' k v) := by rw [q2]; exact hit0
    have hlt : it < s.heap.objs.size := Heap.lt_size hit
    refine DVw.itm_item hit Z.get Z.dat Z.size he fun h' b1 b2 b3 b4 => ?_
    refine ⟨_, rfl, wpAny_letOwnedTupleGo_items (s := { s with heap := h' }) (d := a) (i := i + 1) (n := es.length) (ep := ep') (ok := e.key) (ov := e.val) b1 fun h2 g2 sb => ?_⟩
    have hT : h2.get? s.heap.objs.size = some { cls := .type "tuple", data := .seq #[e.key, e.val] } := (sb.2 _ (Nat.ne_of_gt hlt)).trans b2
    have new : ObjOk X.prog X.w (upd H s.heap.objs.size (.tup [.ref x.2.1, x.2.2])) h2 s.heap.objs.size (.tup [.ref x.2.1, x.2.2]) :=
      ⟨by show 2 ≤ sizeLine; decide, [e.key, e.val], .cons (show RelV (.ref x.2.1) e.key from hkey) (.cons ru .nil), ⟨_, hT, rfl, _, rfl⟩⟩
    have J : Inv X pins σ (upd H s.heap.objs.size (.tup [.ref x.2.1, x.2.2])) { s with heap := h2 } :=
      I.turnedNew (t' := s.toks) (ch := [it]) (fun b ob hb z => (sb.2 b (by simpa using hb)).trans (b4 b ob (by simpa using hb) z)) hf (Nat.le_refl _) new
    refine ⟨.ref s.heap.objs.size, _, J, rfl, ⟨_, x, hx, rfl, I.hok.fresh (Nat.le_refl _), rfl⟩, ⟨e.key, e.val, by rw [← q2]; exact g2⟩, fun b hb => ?_⟩
    have z : b = it := by simpa using hb
    rw [z, upd_ne (Nat.ne_of_lt hlt)]
    exact (hf it (by simp)).1
  done := by
    intro X hP hw hK hc i pins s σ H E I hf st hg
    subst hP hw hK
    obtain ⟨hd, hi⟩ := hg
    obtain ⟨f0, f1, f2, f3, f4, f5⟩ := hf it (by simp)
    obtain ⟨ds', ep', xs, Z⟩ := fz_at I hd
    obtain ⟨q1, q2⟩ := dict_ep hod Z.dat
    obtain ⟨k, v, hit0⟩ := st
    have hit : s.heap.get? it = some (DVw.itmOb a .none i es.length ep' k v) := by rw [q2]; exact hit0
    exact DVw.itm_end (I.ok.hd hc) hit Z.get Z.dat Z.size (Array.getElem?_eq_none (by rw [Z.size]; exact hi)) fun h' eb => ⟨rfl, I.turned (t' := s.toks) (fun b ob hb e => eb b ob hb e) f0 f1 f3 f4 f5⟩
  self := fun A i s Q E st h => let ⟨_, _, e⟩ := st; PySem.W.kcp_self e h
section
variable {X : Cx} {e : Expr} {td : TE} {apos cpos : Pos} {elts : List Expr} {kk : Nat} {tpos : Pos}
theorem pi_itemsF (he : PE X e td) (hbase : attributeBase e "items" X.env (eval e X.env) = eval e X.env := by rfl) (hline : (apos.endLine == cpos.line) = true := by rfl) :
    PI X (.Tuple elts kk tpos) (.Call (.Attribute e "items" apos) [] [] cpos) (fun σ H R => td σ H fun x H1 => ∃ a o es, x = .ref a ∧ H1 a = some (.frz o (dHO X.prog X.w a es)) ∧ R (ItF X.prog X.w a o es) H1) := by
  refine ⟨fun pins s σ H R I h => ?_⟩
  refine wpAny_Call_method (T := "dict") (id := "dict.items") hbase rfl hline F.plainAttrs_dict F.slot_dict_items F.type_dict_items (thn (he.run pins s σ H _ I h) fun u s1 ⟨x, H1, J, rx, a, o, es, ex, hd, q⟩ => ?_)
  subst ex
  obtain rfl : u = Value.ref a := rx
  obtain ⟨ds, ep, xs, Z⟩ := fz_at J hd
  have hT : s1.TypeIs (.ref a) "dict" := ⟨o, Z.get, Z.ex.1⟩
  refine ⟨hT, fun b hb => ?_, ?_⟩
  · cases hb
    exact ⟨o, Z.get, Z.ex.2.1⟩
  have J2 : Inv X pins σ H1 { s1 with heap := s1.heap.push (DSub.viewOb "dict_items" a) } := J.kept (t' := s1.toks) fun b ob z => Heap.get?_push_of_some _ z
  have fin : wpAny (model X.prog X.w) X.A (pyIter (.ref s1.heap.objs.size)) (PIE X pins σ (.Tuple elts kk tpos) R) X.xe { s1 with heap := s1.heap.push (DSub.viewOb "dict_items" a) } := by
    refine DSub.iter_itms (Heap.get?_push_size _ rfl) (Heap.get?_push_of_some _ Z.get) Z.dat (pi_one (tk := s1.toks) J2 _ (turn_itemsF _ Z.dat) ⟨.none, .none, ?_⟩ q)
    rw [← Z.size]
    exact Heap.get?_push_size _ rfl
  show wpAny _ _ (callWith cpos (.builtin "dict.items") [.ref a] [] []) _ X.xe s1
  exact method_meetsIn F.slot_dict_items F.entry_dict_items rfl (PySem.evalArgs_none ⟨rfl, hT, F.args_dict_items_1 _, _, mi_meets_items a Z.sm, hT, fin⟩)
end
def hFdc (M : Hs) (n : Nat) : Option (List (D × D)) := match M[n]? with
  | some (.fdc kvs) => some kvs
  | _ => none
def yItems (f : MX) : MY := fun ζ M => (f ζ M).bind fun d M1 => match d with
  | .ref n => match hFdc M1 n with
    | some kvs => .ok ⟨fun i _ => some (match kvs[i]? with | some p => some (.tup [p.1, p.2]) | none => none), kvs.length + 1⟩ M1
    | none => .no
  | _ => .no
section
variable {P : Program} {w : World} {K : PySem.W.Frag} {Γ : Gm} {μ0 : List Addr} {H0 : Hp}
theorem hFdc_ok {M : Hs} {n : Nat} {kvs : List (D × D)} (h : hFdc M n = some kvs) : M[n]? = some (.fdc kvs) := by
  unfold hFdc at h
  split at h
  · cases h
    assumption
  · cases h
theorem y_items {a : Addr} {o : Obj} {es : List (NestedKey × Addr × V)} {kvs : List (D × D)} {f : Nat} (g : H0 a = some (.frz o (dHO P w a es))) (r : Paired (REn K H0 μ0) kvs es) : YOk P w K Γ H0 μ0 ⟨fun i _ => some (match kvs[i]? with | some p => some (.tup [p.1, p.2]) | none => none), f⟩ (ItF P w a o es) := by
  intro i H μ M nx rh
  have g' := nx.frz _ _ _ g
  refine ⟨fun h => ?_, fun d h => ?_⟩
  · simp only at h
    split at h
    · cases h
    · rename_i hx
      exact ⟨g', by rw [← Paired.length r]; exact List.getElem?_eq_none_iff.mp hx⟩
  · simp only at h
    split at h
    · rename_i z hz
      cases h
      obtain ⟨x, h1, h2⟩ := paired_get r hz
      refine ⟨⟨g', (List.getElem?_eq_some_iff.mp h1).1⟩, fun v H2 hy => ?_⟩
      obtain ⟨T, y, e1, e2, hT, e3⟩ := hy
      rw [h1] at e1
      cases e1
      subst e2 e3
      have n1 : Nx μ H μ (upd H T (.tup [.ref x.2.1, x.2.2])) := Nx.fresh0 hT
      exact ⟨μ, n1, rh.fresh hT, .tup (SqT.of upd_same) (.cons ((h2.2.2.1.mono nx).mono n1) (.cons ((h2.2.2.2.mono nx).mono n1) .nil))⟩
    · cases h
end
section
variable {X : Cx} {Γ : Gm} {W : WX} {e : Expr} {fe : MX} {apos cpos tpos : Pos} {elts : List Expr} {kk : Nat}
theorem ei_items (he : EX X Γ W e fe) (hbase : attributeBase e "items" X.env (eval e X.env) = eval e X.env := by rfl) (hline : (apos.endLine == cpos.line) = true := by rfl) : EI X Γ W (.Tuple elts kk tpos) (.Call (.Attribute e "items" apos) [] [] cpos) (yItems fe) :=
  PI.imp (pi_itemsF he hbase hline) fun σ H R ⟨ζ, M, μ, rr, h⟩ => ⟨ζ, M, μ, rr, Pst.then h fun v H1 d M1 μ1 nx rh rv h1 => by
    replace rv : RV X.K H1 μ1 d v := rv
    cases rv with
    | ref e1 =>
      simp only at h1
      split at h1
      · rename_i kvs hk
        obtain ⟨a, ha, es, ⟨o, g⟩, r⟩ := rh.addr (hFdc_ok hk)
        rw [e1] at ha
        cases ha
        exact ⟨_, o, es, rfl, g, h1 _ _ _ (Nx.refl _ _) rh (y_items g r)⟩
      · exact h1.elim
    | _ => exact h1.elim⟩
end

def xDict1 (fk fv : MX) : MX := fun ζ M => (fk ζ (M ++ [.dct []])).bind fun k M1 => (fv ζ M1).bind fun v M2 => match keyOf k, hDct M2 M.length with
  | some _, some [] => .ok (.ref M.length) (M2.set M.length (.dct [(k, v)]))
  | _, _ => .no
section
variable {X : Cx} {Γ : Gm} {W : WX} {ke ve : Expr} {fk fv : MX} {pos : Pos}
theorem ex_dict1 (hr : Room 1 X.A) (hk : EX X Γ W ke fk) (hv : EX X Γ W ve fv) : EX X Γ W (.Dict [some ke] [ve] pos) (xDict1 fk fv) := ⟨fun pins s σ H Q I ⟨ζ, M, μ, rr, h⟩ => by
  have hu := hr.un
  have hp := I.hok.fresh (Nat.le_refl s.heap.objs.size)
  have sh : eval (.Dict [some ke] [ve] pos) X.env = (do standAt pos; dictDisplay ([(eval ke X.env, (eval ve X.env >>= fun x => standAt pos >>= fun _ => pure x))].map fun p => (some p.1, p.2))) := rfl
  rw [sh, dictDisplay_pairs _ (by simp) (by show 1 < 17; decide)]
  refine wpAny_bind (wpAny_standAt (wpAny_bind (wpAny_subDictH (knd := nestedKind X.prog X.w) (by show X.A.units + 8 < cLine; omega) (by show 1 ≤ 15; decide) ?_)))
  obtain ⟨a, ea⟩ : ∃ a, a = s.heap.objs.size := ⟨_, rfl⟩
  have ho := Heap.get?_push_size s.heap (o := { cls := .type "dict", data := .dict #[] }) rfl
  have I0 : Inv X pins σ (upd H a (dHO X.prog X.w a [])) { s with heap := s.heap.push { cls := .type "dict", data := .dict #[] } } := by
    rw [ea]
    refine I.laid (t' := s.toks) (fun _ _ q => Heap.get?_push_of_some _ q) (Nat.le_refl _) ⟨⟨[], .nil, _, #[], 0, ho, ⟨rfl, rfl, rfl⟩, rfl, rfl, List.nodup_nil, beq_eq_false_iff_ne.mpr (Ne.symm (Nat.ne_of_lt I.big)), Nat.zero_le _⟩, ⟨_, ho⟩, dExt⟩
  rw [← ea] at hp ⊢
  have n0 : Nx μ H (μ ++ [a]) (upd H a (dHO X.prog X.w a [])) := Nx.fresh hp [a]
  have rh0 : RH X.prog X.w X.K Γ (μ ++ [a]) (M ++ [.dct []]) (upd H a (dHO X.prog X.w a [])) := rr.hp.alloc hp ⟨[], upd_same, .nil⟩
  have g0 : (μ ++ [a])[M.length]? = some a := rr.hp.last
  unfold xDict1 at h
  refine evalPairs_cons (thn (hk.run pins _ σ _ _ I0 ⟨ζ, _, _, ⟨rr.sl.mono n0, rh0⟩, Pst.bind (Pst.mono h n0)⟩) fun u s1 q1 => ?_)
  obtain ⟨y, H1, I1, ry, d, M1, μ1, nx, rh, rv, h1⟩ := q1
  refine wpAny_bind (thn (hv.run pins s1 σ H1 _ I1 ⟨ζ, M1, μ1, ⟨(rr.sl.mono n0).mono nx, rh⟩, Pst.bind h1⟩) fun u2 s2 q2 => wpAny_bind (wpAny_standAt (wpAny_pure (evalPairs_nil ?_))))
  obtain ⟨z, H2, I2, rz, e, M2, μ2, nx2, rh2, re, h2⟩ := q2
  split at h2
  · rename_i k hq hk2
    have e2 : μ2[M.length]? = some a := nx2.pre _ _ (nx.pre _ _ g0)
    obtain ⟨es, g, rp⟩ := ndct rh2 hk2 e2
    cases rp
    obtain ⟨xs, p, hd, hs, hz⟩ := dict_at I2 (kvs := []) (es := []) (μ := μ2) .nil (.inl g)
    cases p
    obtain ⟨c, e3, e4, hi⟩ := key_is I2 hq (RV.mono nx2 rv) ry
    subst e3 e4
    obtain ⟨k1, k2, k3⟩ := keyOf_ok hq
    have hm : Mut (H2 a) := by rw [g]; trivial
    refine ⟨[(k, c, u2)], ⟨rfl, rfl, hi, trivial⟩, hd, fun h' tk hd' sb => wpAny_pure ?_⟩
    have p' : Paired (fun (p : NestedKey × Addr × V) (q : NestedKey × Addr × Value) => p.1 = q.1 ∧ p.2.1 = q.2.1 ∧ RelV p.2.2 q.2.2) [(k, c, z)] [(k, c, u2)] := .cons ⟨rfl, rfl, rz⟩ .nil
    have hex : ∃ u, h'.get? a = some u := by obtain ⟨o', _, _, ho', _⟩ := hd'; exact ⟨o', ho'⟩
    have new : ObjOk X.prog X.w (upd H2 a (dHO X.prog X.w a [(k, c, z)])) h' a (dHO X.prog X.w a [(k, c, z)]) := by
      obtain ⟨o', ds', ep', ho', hx', hdt', he', _, hn'⟩ := hd'
      exact ⟨⟨_, p', o', ds', ep', ho', hx', hdt', he', hn', hs, by show 1 ≤ sizeLine; decide⟩, ⟨_, ho'⟩, dExt⟩
    have J : Inv X pins σ (upd H2 a (dHO X.prog X.w a [(k, c, z)])) { s2 with heap := h', toks := tk } := I2.write (x := a) (e := a) (o := dHO X.prog X.w a [(k, c, z)]) (t' := tk) hm (.inl rfl) (fun c ob hc hb => (sb.2 c hc).trans hb) hex new
    have nw : Nx μ2 H2 μ2 (upd H2 a (dHO X.prog X.w a [(k, c, z)])) := Nx.write hm
    exact ⟨.ref a, _, J, rfl, h2 (.ref a) _ μ2 nw (rh2.write e2 hm ⟨[(k, c, z)], upd_same, .cons ⟨k1, k2, RV.mono nw (RV.mono nx2 rv), RV.mono nw re⟩ .nil⟩) (.ref e2)⟩
  · exact h2.elim⟩
end

theorem mi_same0 {prog : Program} {w : World} {A : Around} {E : Value → Shared → Prop} {s : Shared} {nm : String} {a b : Addr} {oa ob : Obj} {es : Array DictEntry} {ep ep' : Nat} {Q : Bool → Shared → Prop} (ha : (a == sysModules) = false) (hb : (b == sysModules) = false)
    (hoa : s.heap.get? a = some oa) (hda : oa.data = .dict es ep) (hob : s.heap.get? b = some ob) (hdb : ob.data = .dict #[] ep') (h : Q (decide (es.size = 0)) s) : wpAny (model prog w) A (Builtin.Dict.samePairs nm a b) Q E s := by
  unfold Builtin.Dict.samePairs Builtin.Dict.showsAll
  rw [if_neg (by rw [ha]; decide), if_neg (by rw [hb]; decide)]
  refine wpAny_bind (wpAny_pure (wpAny_bind (wpAny_pure (wpAny_bind (wpAny_dictEntries hoa hda ?_)))))
  dsimp only
  refine wpAny_bind (wpAny_dictEntries hob hdb ?_)
  by_cases hz : es.size = 0
  · rw [if_neg (by simp [hz])]
    rw [decide_eq_true hz] at h
    refine wpAny_bind (wpAny_dictEpoch hoa hda (wpAny_bind ?_))
    rw [Std.Legacy.Range.forIn_eq_forIn_range']
    simp only [Std.Legacy.Range.size, Nat.sub_zero, Nat.add_sub_cancel, Nat.div_one, hz, List.range'_zero, List.forIn_nil]
    exact wpAny_pure (wpAny_pure h)
  · rw [if_pos (by simpa using hz)]
    rw [decide_eq_false hz] at h
    exact wpAny_bind (wpAny_rule (wpAny_pure h))
theorem mi_ne0 {prog : Program} {w : World} {A : Around} {E : Value → Shared → Prop} {s : Shared} {a b : Addr} {oa ob : Obj} {es : Array DictEntry} {ep ep' : Nat} {Q : Value → Shared → Prop} (ha : (a == sysModules) = false) (hb : (b == sysModules) = false)
    (hoa : s.heap.get? a = some oa) (xa : oa.ExactDict) (hda : oa.data = .dict es ep) (hob : s.heap.get? b = some ob) (xb : ob.ExactDict) (hdb : ob.data = .dict #[] ep') (hu : A.units < cLine) (h : Q (.bool (!decide (es.size = 0))) s) :
    wpAny (model prog w) A (compareOp .NotEq (.ref a) (.ref b)) Q E s := by
  have ta : s.TypeIs (.ref a) "dict" := ⟨oa, hoa, xa.1⟩
  have tb : s.TypeIs (.ref b) "dict" := ⟨ob, hob, xb.1⟩
  refine wpAny_richCompare_same_room (op := .NotEq) ta tb PySem.F.slot_dict_ne (wpAny_call_entry PySem.F.slot_dict_ne ta PySem.F.entry_dict_ne ?_ (PySem.F.args_dict_ne_2 _ _)) hu
  show wpAny _ _ (Builtin.Dict.dictSlotArgs "__ne__" ⟨[.ref a, .ref b], []⟩ >>= _) _ _ s
  refine wpAny_bind ?_
  unfold Builtin.Dict.dictSlotArgs
  refine wpAny_bind (wpAny_notOrdered_dict ta ?_)
  show wpAny _ _ (pure (Value.ref a, Value.ref b)) _ _ s
  refine wpAny_pure (wpAny_bind (wpAny_isInstance (T := "dict") tb PySem.F.sub_dict_dict ?_))
  simp only [Bool.not_true, Bool.false_eq_true, if_false]
  refine wpAny_bind (wpAny_pure (wpAny_bind (wpAny_pure (wpAny_bind (mi_same0 ha hb hoa hda hob hdb ?_)))))
  refine wpAny_pure ⟨_, rfl, ?_, ?_⟩
  · exact fun z => nomatch z
  · simpa using h
def gNeD (x y : D) (M : Hs) : Option (D × Hs) := match x, y with
  | .ref m, .ref n => match hFdc M m, hDct M n with
    | some kvs, some [] => some (.bl (!decide (kvs.length = 0)), M)
    | _, _ => none
  | _, _ => none
theorem m_neD {X : Cx} {Γ : Gm} (hu : X.A.units + 64 < cLine) : Op2 X Γ (compareOp .NotEq) gNeD := by
  intro pins s σ H x y v u Q I rx ry hq
  obtain ⟨d, e, M, μ, rh, rd, re, hq⟩ := hq
  unfold gNeD at hq
  split at hq
  · rename_i m n
    split at hq
    · rename_i kvs h1 h2
      obtain ⟨a, rfl, ea⟩ := ref_rel rd
      obtain ⟨b, rfl, eb⟩ := ref_rel re
      cases rx
      cases ry
      obtain ⟨a', ha', es, ⟨o, g⟩, r⟩ := rh.addr (hFdc_ok h1)
      rw [ea] at ha'
      cases ha'
      obtain ⟨ds, ep, xs, Z⟩ := fz_at I g
      obtain ⟨es2, g2, r2⟩ := ndct rh h2 eb
      cases r2
      obtain ⟨⟨xs2, p2, o2, ds2, ep2, ho2, hx2, hd2, he2, hn2, hs2, hl2⟩, _⟩ := (show ObjOk X.prog X.w H s.heap b (dHO X.prog X.w b []) from I.hok b _ g2)
      cases p2
      have e0 : ds2 = #[] := by
        have : ds2.toList = [] := he2
        exact Array.toList_eq_nil_iff.mp this
      subst e0
      refine mi_ne0 Z.sm hs2 Z.get Z.ex Z.dat ho2 hx2 hd2 (by omega) ?_
      rw [Z.size, ← Paired.length r]
      exact ⟨.bl _, H, I, rfl, Pk.here rh hq (.bl _)⟩
    · exact hq.elim
  · exact hq.elim
end Mi
end
section
set_option maxRecDepth 100000
set_option maxHeartbeats 4000000
set_option autoImplicit false
namespace Mi
open PySem PySem.Spec PyProof.Rows L2

def numOk (i : Int) : Bool := decide (i.natAbs.log2 < 1920)
def gStr : GL := fun ds M => match ds with
  | [.int i] => if numOk i = true then some (.str (toString i), M) else none
  | _ => none
def gIntS : GL := fun ds M => match ds with
  | [.str a] => match PySem.intText? a with
    | some n => if a.length ≤ 640 then some (.int n, M) else none
    | none => none
  | _ => none
section
variable {X : Cx} {Γ : Gm}
theorem b_str : CB X Γ (.type "str") gStr := by
  intro pins s σ H xs us Q I r ⟨ds, M, μ, rh, rv, hq⟩
  unfold gStr at hq
  split at hq
  · obtain ⟨v, rfl, r1⟩ := one_rel rv
    cases r1
    split at hq
    · rename_i hn
      exact call_str_int pins s σ H _ us Q I r ⟨_, rfl, of_decide_eq_true hn, Pk.here rh hq (.str _)⟩
    · exact hq.elim
  · exact hq.elim
theorem b_intS : CB X Γ (.type "int") gIntS := by
  intro pins s σ H xs us Q I r ⟨ds, M, μ, rh, rv, hq⟩
  unfold gIntS at hq
  split at hq
  · obtain ⟨v, rfl, r1⟩ := one_rel rv
    cases r1
    split at hq
    · rename_i n hn
      split at hq
      · rename_i hl
        exact call_int_str pins s σ H _ us Q I r ⟨_, n, rfl, hn, hl, Pk.here rh hq (.int _)⟩
      · exact hq.elim
    · exact hq.elim
  · exact hq.elim
end

def strsOf : List D → Option (List Str)
  | [] => some []
  | .str x :: r => match strsOf r with
    | some ys => some (x :: ys)
    | none => none
  | _ => none
theorem strsOf_ok {K : PySem.W.Frag} {H : Hp} {μ : List Addr} : ∀ {xs : List D} {ys : List Str} {vs : List V}, strsOf xs = some ys → RVs K H μ xs vs → vs = ys.map V.str
  | [], ys, vs, h, r => by cases h; cases r; rfl
  | d :: xs, ys, vs, h, r => by
    cases d with
    | str x =>
      simp only [strsOf] at h
      split at h
      · rename_i zs e
        cases h
        cases r with
        | cons r1 r2 =>
          cases r1
          rw [strsOf_ok e r2]
          rfl
      · cases h
    | _ => simp [strsOf] at h
theorem strsOf_map : ∀ ys : List Str, strsOf (ys.map D.str) = some ys
  | [] => rfl
  | y :: ys => by simp [strsOf, strsOf_map ys]
def jnOk (a : Str) (ys : List Str) : Bool := decide ((ys.map (·.length)).sum + ys.length * a.length ≤ 16777216)
def xJoin (fo fe : MX) : MX := fun ζ M => (fo ζ M).bind fun x M1 => match x with
  | .str a => (fe ζ M1).bind fun y M2 => match y with
    | .ref n => match hSeq M2 (.ref n) with
      | some xs => match strsOf xs with
        | some ys => if jnOk a ys = true then .ok (.str (Txt.join a ys)) M2 else .no
        | none => .no
      | none => .no
    | _ => .no
  | _ => .no
def xSplit (fo fe : MX) : MX := fun ζ M => (fo ζ M).bind fun x M1 => match x with
  | .str a => (fe ζ M1).bind fun y M2 => match y with
    | .str b => if (b.length == 0) = false ∧ a.length + 2 ≤ sizeLine then .ok (.ref M2.length) (M2 ++ [.lst ((Txt.split a b).map .str)]) else .no
    | _ => .no
  | _ => .no
section
variable {X : Cx} {Γ : Gm} {W : WX} {o e : Expr} {fo fe : MX} {apos pos : Pos}
theorem ex_join (ho : EX X Γ W o fo) (he : EX X Γ W e fe) (hs : starEach [e] X.env = [(false, eval e X.env)] := by rfl) (hbase : attributeBase o "join" X.env (eval o X.env) = eval o X.env := by rfl) (hline : (apos.endLine == pos.line) = true := by rfl) : EX X Γ W (.Call (.Attribute o "join" apos) [e] [] pos) (xJoin fo fe) :=
  PE.imp (pe_join ho he hs hbase hline) fun σ H Q ⟨ζ, M, μ, rr, h⟩ => ⟨ζ, M, μ, rr, Pst.then h fun v H1 d M1 μ1 nx rh rv h1 => by
    cases d with
    | str a =>
      cases rv
      refine ⟨⟨a, rfl⟩, ζ, M1, μ1, ⟨rr.sl.mono nx, rh⟩, Pst.then h1 fun u H2 z M2 μ2 nx2 rh2 ru h2 => ?_⟩
      cases z with
      | ref n =>
        simp only at h2
        split at h2
        · rename_i xs hx
          split at h2
          · rename_i ys hy
            split at h2
            · rename_i hz
              obtain ⟨b, vs, hb, hs2, r⟩ := hRef_ok rh2 hx ru
              subst hb
              have ev := strsOf_ok hy r
              subst ev
              exact ⟨a, b, ys, rfl, rfl, .inl hs2, of_decide_eq_true hz, h2 _ _ _ (Nx.refl _ _) rh2 (.str _)⟩
            · exact h2.elim
          · exact h2.elim
        · exact h2.elim
      | _ => exact h2.elim
    | _ => exact h1.elim⟩
theorem ex_split (ho : EX X Γ W o fo) (he : EX X Γ W e fe) (hs : starEach [e] X.env = [(false, eval e X.env)] := by rfl) (hbase : attributeBase o "split" X.env (eval o X.env) = eval o X.env := by rfl) (hline : (apos.endLine == pos.line) = true := by rfl) : EX X Γ W (.Call (.Attribute o "split" apos) [e] [] pos) (xSplit fo fe) :=
  PE.imp (pe_split ho he hs hbase hline) fun σ H Q ⟨ζ, M, μ, rr, h⟩ => ⟨ζ, M, μ, rr, Pst.then h fun v H1 d M1 μ1 nx rh rv h1 => by
    cases d with
    | str a =>
      cases rv
      refine ⟨⟨a, rfl⟩, ζ, M1, μ1, ⟨rr.sl.mono nx, rh⟩, Pst.then h1 fun u H2 z M2 μ2 nx2 rh2 ru h2 => ?_⟩
      cases z with
      | str b =>
        cases ru
        simp only at h2
        split at h2
        · rename_i hb
          refine ⟨a, b, rfl, rfl, hb.1, hb.2, fun p hp => ?_⟩
          have rs : RVs X.K H2 μ2 ((Txt.split a b).map D.str) ((Txt.split a b).map V.str) := RVs.map _ _ (fun x => .str x) _
          exact h2 _ _ _ (Nx.fresh hp [p]) (rh2.alloc hp ⟨_, upd_same, rs.mono (Nx.fresh hp _)⟩) (.ref rh2.last)
        · exact h2.elim
      | _ => exact h2.elim
    | _ => exact h1.elim⟩
end

def xFmt (f : MX) : MX := fun ζ M => (f ζ M).bind fun x M1 => match x with
  | .str y => if y.length ≤ sizeLine then .ok (.str y) M1 else .no
  | .int i => if numOk i = true then .ok (.str (toString i)) M1 else .no
  | _ => .no
def xJs : List MX → Str → MX
  | [], acc => fun _ M => .ok (.str acc) M
  | f :: fs, acc => fun ζ M => (f ζ M).bind fun x M1 => match x with
    | .str y => if (acc ++ y).length ≤ sizeLine then xJs fs (acc ++ y) ζ M1 else .no
    | _ => .no
inductive FJ (X : Cx) (Γ : Gm) (W : WX) : List Expr → List MX → Prop
  | nil : FJ X Γ W [] []
  | cons {e : Expr} {f : MX} {es : List Expr} {fs : List MX} (h : EX X Γ W e f) (r : FJ X Γ W es fs) : FJ X Γ W (e :: es) (f :: fs)
section
variable {X : Cx} {Γ : Gm} {W : WX} {e v1 v2 : Expr} {es rest : List Expr} {f : MX} {fs : List MX} {pos : Pos}
theorem ex_fmt (h : EX X Γ W e f) : EX X Γ W (.FormattedValue e (-1) none pos) (xFmt f) :=
  PE.imp (pe_fmt h) fun σ H Q ⟨ζ, M, μ, rr, h⟩ => ⟨ζ, M, μ, rr, Pst.then h fun v H1 d M1 μ1 nx rh rv h1 => by
    cases d with
    | str y =>
      cases rv
      simp only at h1
      split at h1
      · rename_i hl
        exact .inl ⟨y, rfl, hl, h1 _ _ _ (Nx.refl _ _) rh (.str _)⟩
      · exact h1.elim
    | int i =>
      cases rv
      simp only at h1
      split at h1
      · rename_i hl
        exact .inr ⟨i, rfl, of_decide_eq_true hl, h1 _ _ _ (Nx.refl _ _) rh (.str _)⟩
      · exact h1.elim
    | _ => exact h1.elim⟩
theorem FJ.pj (h : FJ X Γ W es fs) : PJ X es (fs.map (tX X.prog X.w X.K Γ W)) := by
  induction h with
  | nil => exact .nil
  | cons h _ ih => exact .cons h ih
theorem js_of {ζ : Sl} {σ : L2.St} {Q : VK} : ∀ (fs : List MX) (acc : Str) (M : Hs) (μ : List Addr) (H : Hp), RR X.prog X.w X.K Γ μ H ζ M σ → Pst X.prog X.w X.K Γ (relV X.K) W σ μ H (xJs fs acc ζ M) Q → tJs (fs.map (tX X.prog X.w X.K Γ W)) acc σ H fun out H1 => Q (.str out) H1
  | [], acc, M, μ, H, rr, h => h (.str acc) H μ (Nx.refl _ _) rr.hp (.str _)
  | f :: fs, acc, M, μ, H, rr, h => ⟨ζ, M, μ, rr, Pst.then h fun v H1 d M1 μ1 nx rh rv h1 => by
    cases d with
    | str y =>
      cases rv
      simp only at h1
      split at h1
      · rename_i hl
        exact ⟨y, rfl, hl, js_of fs _ M1 μ1 H1 ⟨rr.sl.mono nx, rh⟩ h1⟩
      · exact h1.elim
    | _ => exact h1.elim⟩
theorem ex_fstr (h : FJ X Γ W (v1 :: v2 :: rest) fs) : EX X Γ W (.JoinedStr (v1 :: v2 :: rest) pos) (xJs fs Str.empty) :=
  PE.imp (pe_joined h.pj) fun σ H Q ⟨ζ, M, μ, rr, h⟩ => js_of fs _ M μ H rr h
end

def gMulS (x y : D) (M : Hs) : Option (D × Hs) := match x, y with
  | .str a, .int n => if n ≤ 1000 ∧ 0 ≤ n ∧ a.length = 1 then some (.str (Txt.mul a n), M) else none
  | _, _ => none
theorem m_mulS {X : Cx} {Γ : Gm} : Op2 X Γ (binaryOp .Mult) gMulS := by
  intro pins s σ H x y v u Q I rx ry ⟨d, e, M, μ, rh, rd, re, hq⟩
  unfold gMulS at hq
  split at hq
  · rename_i a n
    cases rd
    cases re
    obtain ⟨t, rfl⟩ := rx
    obtain ⟨t', rfl⟩ := ry
    split at hq
    · rename_i hc
      obtain ⟨h1, h2, h3⟩ := hc
      refine SB.mul ⟨?_, fun h4 _ => ?_, fun h4 _ => ?_⟩ fun t2 k => ⟨.str _, H, I.tok _, ⟨_, rfl⟩, Pk.here rh hq (.str _)⟩
      · have e1 : decide (n < -(2 ^ 63 : Int)) = false := decide_eq_false (by omega)
        have e2 : decide (n ≥ 2 ^ 63) = false := decide_eq_false (by omega)
        rw [e1, e2]
        rfl
      · rw [h3]
        have : (1000 : Int) ≤ (2 ^ 63 - 1) / n := (Int.le_ediv_iff_mul_le (by omega)).mpr (by omega)
        omega
      · rw [h3, Nat.one_mul]
        have hz : sizeLine = 16777216 := rfl
        show decide (n.toNat > sizeLine) = false
        exact decide_eq_false (by omega)
    · exact hq.elim
  · exact hq.elim

def yZip (f g : MX) : MY := fun ζ M => (f ζ M).bind fun d M1 => (g ζ M1).bind fun e M2 => match d, e with
  | .ref m, .ref n => match hSeq M2 (.ref m), hSeq M2 (.ref n) with
    | some xs, some _ => .ok ⟨fun i M => match hSeq M (.ref m), hSeq M (.ref n) with
      | some xs, some ys => some (match xs[i]?, ys[i]? with | some x, some y => some (.tup [x, y]) | _, _ => none)
      | _, _ => none, xs.length + 1⟩ M2
    | _, _ => .no
  | _, _ => .no
section
variable {P : Program} {w : World} {K : PySem.W.Frag} {Γ : Gm} {μ0 : List Addr} {H0 : Hp}
theorem y_zip {a b : Addr} {m n f : Nat} (ga : μ0[m]? = some a) (gb : μ0[n]? = some b) : YOk P w K Γ H0 μ0 ⟨fun i M => match hSeq M (.ref m), hSeq M (.ref n) with
    | some xs, some ys => some (match xs[i]?, ys[i]? with | some x, some y => some (.tup [x, y]) | _, _ => none)
    | _, _ => none, f⟩ (Itz K a b) := by
  intro i H μ M nx rh
  have e1 := nx.pre _ _ ga
  have e2 := nx.pre _ _ gb
  have key : ∀ (k : Nat) (c : Addr) (ys : List D), μ[k]? = some c → hSeq M (.ref k) = some ys → ∃ vs, SqL K H c vs ∧ RVs K H μ ys vs := fun k c ys hc hy => by
    obtain ⟨b, vs, hb, hs, r⟩ := hRef_ok rh hy (.ref hc)
    cases hb
    exact ⟨vs, hs, r⟩
  refine ⟨fun h => ?_, fun d h => ?_⟩
  · simp only at h
    split at h
    · rename_i xs ys hx hy
      obtain ⟨us, hu, ru⟩ := key _ _ _ e1 hx
      obtain ⟨vs, hv, rv⟩ := key _ _ _ e2 hy
      split at h
      · cases h
      · rename_i hn
        refine ⟨us, vs, hu, hv, ?_⟩
        cases h1 : xs[i]? with
        | none => exact .inl (ru.getN h1)
        | some x =>
          cases h2 : ys[i]? with
          | none => exact .inr (rv.getN h2)
          | some y => exact absurd h2 (hn x y h1)
    · cases h
  · simp only at h
    split at h
    · rename_i xs ys hx hy
      obtain ⟨us, hu, ru⟩ := key _ _ _ e1 hx
      obtain ⟨vs, hv, rv⟩ := key _ _ _ e2 hy
      split at h
      · rename_i x y h1 h2
        cases h
        obtain ⟨u, g1, g2⟩ := ru.get h1
        obtain ⟨v, g3, g4⟩ := rv.get h2
        refine ⟨⟨us, vs, u, v, hu, hv, g1, g3⟩, fun z H2 hy => ?_⟩
        obtain ⟨T, p, q, q1, hT, q2, q3, q4⟩ := hy
        subst q1 q2
        have z1 := q3 us hu
        have z2 := q4 vs hv
        rw [g1] at z1
        rw [g3] at z2
        cases z1
        cases z2
        have n1 : Nx μ H μ (upd H T (.tup [u, v])) := Nx.fresh0 hT
        exact ⟨μ, n1, rh.fresh hT, .tup (SqT.of upd_same) (.cons (g2.mono n1) (.cons (g4.mono n1) .nil))⟩
      · cases h
    · cases h
end
section
variable {X : Cx} {Γ : Gm} {W : WX} {a b : Expr} {fa fb : MX} {p pos tpos : Pos} {elts : List Expr} {kk : Nat}
theorem ei_zip (ha : EX X Γ W a fa) (hb : EX X Γ W b fb) (hm : X.mg "zip" = none) (hg : Gl X "zip" := by rfl) (hs2 : starEach [b] X.env = [(false, eval b X.env)] := by rfl)
    (hs : starEach [a, b] X.env = (false, eval a X.env) :: starEach [b] X.env := by rfl) (hpl : (backTo pos (starEach [b] X.env)).any (·.1) = false := by rfl) : EI X Γ W (.Tuple elts kk tpos) (.Call (.Name "zip" p) [a, b] [] pos) (yZip fa fb) :=
  PI.imp (pi_zip hg hm (pa_cons ha (pa_cons hb pa_nil hs2) hs) hs hpl) fun σ H R ⟨ζ, M, μ, rr, h⟩ => ⟨ζ, M, μ, rr, Pst.then h fun v H1 d M1 μ1 nx rh rv h1 => ⟨ζ, M1, μ1, ⟨rr.sl.mono nx, rh⟩, Pst.then h1 fun u H2 e M2 μ2 nx2 rh2 ru h2 => by
    replace rv : RV X.K H2 μ2 d v := RV.mono nx2 rv
    replace ru : RV X.K H2 μ2 e u := ru
    split at h2
    · cases rv with
      | ref g1 =>
        cases ru with
        | ref g2 =>
          split at h2
          · rename_i xs ys hx hy
            obtain ⟨a1, vs, hb1, hs1, r1⟩ := hRef_ok rh2 hx (.ref g1)
            cases hb1
            obtain ⟨a2, us, hb2, hs2', r2⟩ := hRef_ok rh2 hy (.ref g2)
            cases hb2
            exact ⟨_, _, vs, us, rfl, hs1, hs2', h2 _ _ _ (Nx.refl _ _) rh2 (y_zip g1 g2)⟩
          · exact h2.elim
    · exact h2.elim⟩⟩
end

def sAugI (c i : Nat) (fo : MX) (k : Int) : MS := fun ζ M => RS.of ζ (fo ζ M) fun x M1 => match inAt c x M1 with
  | some (n, fs) => (match fs[i]? with
    | some (.int a) => .nx ζ (M1.set n (.ins c (fs.set i (.int (a + k)))))
    | _ => .no)
  | none => .no
section
variable {X : Cx} {Γ : Gm} {W : WX} {o : Expr} {fo : MX} {f : Str} {c i : Nat} {k : Int} {j : Nat} {pos tpos p : Pos}
theorem es_augI (T : InF X.K Γ c f i) (ho : EX X Γ W o fo) : ES X Γ W (.AugAssign (.Attribute o f tpos) .Add (.Constant (.int k) j p) pos) (sAugI c i fo k) :=
  PS.imp (ps_fldaug ho pe_int in_add) fun E σ H ⟨ζ, M, μ, rr, h⟩ => ⟨ζ, M, μ, rr, PstS.then h rr.sl fun v H1 d M1 μ1 nx rh rv h1 => by
    cases hs : inAt c d M1 with
    | none => rw [hs] at h1; exact h1.elim
    | some q =>
      obtain ⟨n, fs⟩ := q
      rw [hs] at h1
      obtain ⟨a, dx, vs, rfl, ea, hm, h2, h3, h4⟩ := inAt_at rh rv hs
      dsimp only at h1
      split at h1
      · rename_i z hz
        obtain ⟨u, g1, g2⟩ := h2.get hz
        cases g2
        have mu : Mut (H1 a) := by rw [h3]; exact True.intro
        have hix := (List.getElem?_eq_some_iff.mp T.ix).1
        have hlt := (List.getElem?_eq_some_iff.mp g1).1
        refine ⟨a, _, dx, _, _, rfl, h3, T.cl, T.n, zip_lookup T.nd T.ix g1, _, _, rfl, rfl, dx, _, h3, ?_, ?_⟩
        · rw [List.length_zip]; have := T.l; omega
        · obtain ⟨z1, _⟩ := putF_zip (v := V.int (z + k)) (vs := vs) T.nd T.ix
          rw [z1 hlt]
          exact h1 _ _ _ (Nx.write mu) (rh.write ea mu ⟨dx, _, (RVs.set (.int _) i h2).mono (Nx.write mu), upd_same, by rw [List.length_set]; exact h4⟩) ((rr.sl.mono nx).mono (Nx.write mu))
      · exact h1.elim⟩
end
end Mi
end
section
set_option maxRecDepth 100000
set_option maxHeartbeats 4000000
set_option autoImplicit false
namespace Mi
open PySem PySem.Spec PyProof.Rows L2
theorem u1 {n : Nat} (h : n + 64 < cLine) : n + 1 < cLine := by omega
def hDks (M : Hs) (n : Nat) : Option (List (Key × D)) := match M[n]? with
  | some (.dks kvs) => some kvs
  | _ => none
theorem hDks_ok {M : Hs} {n : Nat} {kvs : List (Key × D)} (h : hDks M n = some kvs) : M[n]? = some (.dks kvs) := by
  unfold hDks at h
  split at h
  · rename_i e
    cases h
    exact e
  · cases h
def ksGet (kvs : List (Key × D)) (k : Key) : Option D := (kvs.find? fun p => decide (p.1 = k)).map (·.2)
def ksPut (kvs : List (Key × D)) (k : Key) (d : D) : List (Key × D) := kvs.map fun p => if p.1 = k then (p.1, d) else p
def gIxS (x y : D) (M : Hs) : Option (D × Hs) := match x with
  | .ref n => match hDks M n with
    | some kvs => match y with
      | .str k => match ksGet kvs (.inr k) with
        | some d => some (d, M)
        | none => none
      | _ => none
    | none => none
  | _ => none
def gPutS (o i v : D) (M : Hs) : Option Hs := match o with
  | .ref n => match hDks M n with
    | some kvs => match i with
      | .str k => match ksGet kvs (.inr k) with
        | some _ => if kvs.length < sizeLine then some (M.set n (.dks (ksPut kvs (.inr k) v))) else none
        | none => none
      | _ => none
    | none => none
  | _ => none
abbrev KD (K : PySem.W.Frag) (H : Hp) (μ : List Addr) : List (Key × D) → List (Key × V) → Prop := Paired fun p q => p.1 = q.1 ∧ RV K H μ p.2 q.2
section
variable {K : PySem.W.Frag} {H : Hp} {μ : List Addr}
theorem KD.get {k : Key} {d : D} : ∀ {kvs : List (Key × D)} {vs : List (Key × V)}, KD K H μ kvs vs → ksGet kvs k = some d → ∃ v, valV vs k = some v ∧ RV K H μ d v
  | _, _, .nil, h => by cases h
  | p :: kvs, q :: vs, .cons r t, h => by
    by_cases e : p.1 = k
    · have e2 : ksGet (p :: kvs) k = some p.2 := by simp [ksGet, List.find?_cons, e]
      rw [e2] at h
      cases h
      exact ⟨q.2, valV_pos (r.1.symm.trans e), r.2⟩
    · have e2 : ksGet (p :: kvs) k = ksGet kvs k := by simp [ksGet, List.find?_cons, e]
      rw [e2] at h
      obtain ⟨v, h1, h2⟩ := KD.get t h
      exact ⟨v, by rw [valV_neg (fun z => e (r.1.trans z))]; exact h1, h2⟩
theorem KD.put {k : Key} {d : D} {v : V} (rv : RV K H μ d v) : ∀ {kvs : List (Key × D)} {vs : List (Key × V)}, KD K H μ kvs vs → KD K H μ (ksPut kvs k d) (vs.map fun kv => if kv.1 = k then (kv.1, v) else kv)
  | _, _, .nil => .nil
  | p :: kvs, q :: vs, .cons r t => by
    refine .cons ?_ (KD.put rv t)
    show (if p.1 = k then (p.1, d) else p).1 = (if q.1 = k then (q.1, v) else q).1 ∧ RV K H μ (if p.1 = k then (p.1, d) else p).2 (if q.1 = k then (q.1, v) else q).2
    by_cases e : p.1 = k
    · rw [if_pos e, if_pos (r.1.symm.trans e)]
      exact ⟨r.1, rv⟩
    · rw [if_neg e, if_neg (fun z => e (r.1.trans z))]
      exact r
theorem KD.keys : ∀ {kvs : List (Key × D)} {vs : List (Key × V)}, KD K H μ kvs vs → kvs.map (·.1) = vs.map (·.1)
  | _, _, .nil => rfl
  | _ :: _, _ :: _, .cons r t => by rw [List.map_cons, List.map_cons, r.1, KD.keys t]
theorem KD.len {kvs : List (Key × D)} {vs : List (Key × V)} (r : KD K H μ kvs vs) : kvs.length = vs.length := Paired.length r
theorem ksPut_keys (kvs : List (Key × D)) (k : Key) (d : D) : (ksPut kvs k d).map (·.1) = kvs.map (·.1) := by
  unfold ksPut
  rw [List.map_map]
  refine List.map_congr_left fun p _ => ?_
  show (if p.1 = k then (p.1, d) else p).1 = p.1
  split <;> rfl
end
section
variable {X : Cx} {Γ : Gm} {W : WX} {a b : Expr} {fa fb : MX} {pos : Pos}
theorem ex_ixS (hu : X.A.units + 1 < cLine) (ha : EX X Γ W a fa) (hb : EX X Γ W b fb) (hs : NoSl b := by intro _ _; rfl) : EX X Γ W (.Subscript a b pos) (x2 gIxS fa fb) :=
  PE.imp (pe_dget hu ha hb hs) fun σ H Q ⟨ζ, M, μ, rr, h⟩ => ⟨ζ, M, μ, rr, Pst.then h fun v H1 d M1 μ1 nx rh rv h1 => ⟨ζ, M1, μ1, ⟨rr.sl.mono nx, rh⟩, Pst.then h1 fun v2 H2 e M2 μ2 nx2 rh2 rv2 h2 => by
    replace hq := h2.of
    have rv := RV.mono nx2 rv
    unfold gIxS at hq
    cases d with
    | ref n =>
      dsimp only at hq
      cases hk : hDks M2 n with
      | none => rw [hk] at hq; exact hq.elim
      | some kvs =>
        rw [hk] at hq
        dsimp only at hq
        cases e with
        | str k =>
          dsimp only at hq
          cases hg : ksGet kvs (.inr k) with
          | none => rw [hg] at hq; exact hq.elim
          | some d0 =>
            rw [hg] at hq
            dsimp only at hq
            obtain ⟨b, rfl, e1⟩ := ref_rel rv
            cases rv2
            obtain ⟨vs, g, r, nd⟩ := rh2.at_ n _ b (hDks_ok hk) e1
            obtain ⟨v0, h1, h2⟩ := KD.get r hg
            have dg : DGet H2 b (.str k) (some v0) := by
              have := DGet.k (k := .inr k) g
              rw [h1] at this
              exact this
            exact ⟨b, v0, rfl, dg, Pk.here rh2 hq h2⟩
        | _ => exact hq.elim
    | _ => exact hq.elim⟩⟩
theorem put_s (hu : X.A.units + 1 < cLine) : PSet X (rPut X.prog X.w X.K Γ gPutS) := by
  intro pins s σ H o i v ov iv u Q I ro ri rv ⟨d, e, f, M, μ, rh, rd, re, rf, h⟩
  unfold gPutS at h
  cases d with
  | ref n =>
    dsimp only at h
    cases hk : hDks M n with
    | none => rw [hk] at h; exact h.elim
    | some kvs =>
      rw [hk] at h
      dsimp only at h
      cases e with
      | str k =>
        dsimp only at h
        cases hg : ksGet kvs (.inr k) with
        | none => rw [hg] at h; exact h.elim
        | some d0 =>
          rw [hg] at h
          dsimp only at h
          by_cases hl : kvs.length < sizeLine
          · rw [if_pos hl] at h
            obtain ⟨b, rfl, e1⟩ := ref_rel rd
            cases ro
            cases re
            obtain ⟨vs, g, r, nd⟩ := rh.at_ n _ b (hDks_ok hk) e1
            obtain ⟨v0, h1, h2⟩ := KD.get r hg
            have hm : Mut (H b) := by rw [g]; trivial
            have ep : putK vs (.inr k) v = vs.map fun kv => if kv.1 = .inr k then (kv.1, v) else kv := by
              unfold putK
              rw [if_pos (by rw [valV_any, h1]; rfl)]
            have dp : DPut H b (.str k) v (upd H b (.dK (vs.map fun kv => if kv.1 = .inr k then (kv.1, v) else kv))) := by
              have := DPut.k (k := .inr k) (v := v) g (by rw [← KD.len r]; exact hl)
              rw [ep] at this
              exact this
            refine d_setItem hu I dp ri rv fun s' I' => ⟨_, I', h _ μ (Nx.write hm) (rh.write e1 hm ⟨_, upd_same, ?_, ?_⟩)⟩
            · exact Paired.imp (KD.put rf r) fun _ _ q => ⟨q.1, q.2.mono (Nx.write hm)⟩
            · rw [ksPut_keys]
              exact nd
          · rw [if_neg hl] at h
            exact h.elim
      | _ => exact h.elim
  | _ => exact h.elim
end
def xPs : List (Str × MX) → Sl → Hs → R (List (Key × D))
  | [], _, M => .ok [] M
  | (k, f) :: r, ζ, M => (f ζ M).bind fun d M1 => (xPs r ζ M1).bind fun ds M2 => .ok ((.inr k, d) :: ds) M2
def xDictS (fs : List (Str × MX)) : MX := fun ζ M => (xPs fs ζ (M ++ [.dks []])).bind fun kds M1 => match hDks M1 M.length with
  | some [] => if (kds.map (·.1)).Nodup ∧ kds.length ≤ 15 then .ok (.ref M.length) (M1.set M.length (.dks kds)) else .no
  | _ => .no
abbrev relP (K : PySem.W.Frag) (H : Hp) (μ : List Addr) (kds : List (Key × D)) (ps : List (V × V)) : Prop := Paired (fun (p : Key × D) (q : V × V) => q.1 = kV p.1 ∧ RV K H μ p.2 q.2) kds ps
structure EPs (X : Cx) (Γ : Gm) (W : WX) (pos : Pos) (keys : List (Option Expr)) (values : List Expr) (fs : List (Str × MX)) : Prop where
  run : ∀ (pins : List (Addr × Obj)) (s : Shared) (σ : L2.St) (H : Hp) (Q : List (V × V) → Hp → Prop), Inv X pins σ H s → (∃ ζ M μ, RR X.prog X.w X.K Γ μ H ζ M σ ∧ Pst X.prog X.w X.K Γ (relP X.K) W σ μ H (xPs fs ζ M) Q) →
    wpAny (model X.prog X.w) X.A (evalPairs (pairTrees keys values X.env pos)) (fun vs s' => ∃ ps H', Inv X pins σ H' s' ∧ VV ps vs ∧ Q ps H') X.xe s
section
variable {X : Cx} {Γ : Gm} {W : WX} {pos : Pos} {keys : List (Option Expr)} {values : List Expr} {fs : List (Str × MX)} {k : Str} {ke ve : Expr} {f : MX}
theorem eps_nil : EPs X Γ W pos [] [] [] := ⟨fun pins s σ H Q I ⟨ζ, M, μ, rr, h⟩ => pairTrees_nil_walk ⟨[], H, I, .nil, h [] H μ (Nx.refl _ _) rr.hp .nil⟩⟩
theorem eps_cons (hk : EX X Γ W ke (xC (.str k))) (hv : EX X Γ W ve f) (hr : EPs X Γ W pos keys values fs) : EPs X Γ W pos (some ke :: keys) (ve :: values) ((k, f) :: fs) := ⟨fun pins s σ H Q I ⟨ζ, M, μ, rr, h⟩ => by
  refine pairTrees_cons_walk (thn (hk.run pins s σ H (fun v H1 => v = .str k ∧ ∃ μ1, Nx μ H μ1 H1 ∧ RH X.prog X.w X.K Γ μ1 M H1) I ⟨ζ, M, μ, rr, fun v H' μ' nx rh rv => by cases rv; exact ⟨rfl, μ', nx, rh⟩⟩) fun u s1 ⟨x, H1, I1, rx, ex, μ1, nx1, rh1⟩ => ?_)
  subst ex
  unfold xPs at h
  refine thn (hv.run pins s1 σ H1 _ I1 ⟨ζ, M, μ1, ⟨rr.sl.mono nx1, rh1⟩, Pst.bind (Pst.mono h nx1)⟩) fun w2 s2 ⟨y, H2, I2, ry, d, M2, μ2, nx2, rh2, rv2, h2⟩ => ?_
  refine thn (hr.run pins s2 σ H2 _ I2 ⟨ζ, M2, μ2, ⟨(rr.sl.mono nx1).mono nx2, rh2⟩, Pst.bind h2⟩) fun ws s3 ⟨ps, H3, I3, rel, ds, M3, μ3, nx3, rh3, rp, h3⟩ => ?_
  exact ⟨(.str k, y) :: ps, H3, I3, .cons ⟨rx, ry⟩ rel, h3 ((.str k, y) :: ps) H3 μ3 (Nx.refl _ _) rh3 (.cons ⟨rfl, RV.mono nx3 rv2⟩ rp)⟩⟩
theorem relP_kv {K : PySem.W.Frag} {H : Hp} {μ : List Addr} : ∀ {kds : List (Key × D)} {ps : List (V × V)}, relP K H μ kds ps → ∃ kvs : List (Key × V), ps = kvs.map (fun kv => (kV kv.1, kv.2)) ∧ KD K H μ kds kvs
  | _, _, .nil => ⟨[], rfl, .nil⟩
  | p :: _, q :: _, .cons r t => by
    obtain ⟨kvs, h1, h2⟩ := relP_kv t
    exact ⟨(p.1, q.2) :: kvs, by rw [h1, List.map_cons, ← r.1], .cons ⟨rfl, r.2⟩ h2⟩
theorem merge_nd : ∀ (more acc : List (Key × V)), ((acc ++ more).map (·.1)).Nodup → mergeK acc more = acc ++ more
  | [], acc, _ => by rw [List.append_nil]; rfl
  | p :: r, acc, h => by
    have hn : valV acc p.1 = none := by
      cases hv : valV acc p.1 with
      | none => rfl
      | some v =>
        unfold valV at hv
        obtain ⟨q, hq, _⟩ := Option.map_eq_some_iff.mp hv
        have h1 := List.mem_of_find?_eq_some hq
        have h2 : q.1 = p.1 := by simpa using List.find?_some hq
        rw [List.map_append, List.nodup_append] at h
        exact absurd h2 (h.2.2 q.1 (List.mem_map.mpr ⟨q, h1, rfl⟩) p.1 (by simp))
    show mergeK (putK acc p.1 p.2) r = _
    rw [putK_new _ hn, merge_nd r _ (by rw [List.append_assoc]; exact h), List.append_assoc]
    rfl
theorem ex_dictS (h : EPs X Γ W pos keys values fs) (hall : keys.all (·.isSome) = true := by rfl) (hl : keys.length = values.length := by rfl) (h0 : keys ≠ [] := by intro h; cases h) (h15 : keys.length ≤ 15 := by decide) : EX X Γ W (.Dict keys values pos) (xDictS fs) := ⟨fun pins s σ H Q I ⟨ζ, M, μ, rr, q⟩ => by
  have hp := I.hok.fresh (Nat.le_refl s.heap.objs.size)
  have I1 := I.laid (a := s.heap.objs.size) (o := .dK []) (h' := s.heap.push { cls := .type "dict", data := .dict #[] }) (t' := s.toks) (fun _ _ q => Heap.get?_push_of_some _ q) (Nat.le_refl _) (dk_empty s.heap I.big)
  have n0 : Nx μ H (μ ++ [s.heap.objs.size]) (upd H s.heap.objs.size (.dK [])) := Nx.fresh hp [s.heap.objs.size]
  have rh0 : RH X.prog X.w X.K Γ (μ ++ [s.heap.objs.size]) (M ++ [.dks []]) (upd H s.heap.objs.size (.dK [])) := rr.hp.alloc hp ⟨[], upd_same, .nil, List.nodup_nil⟩
  have g0 : (μ ++ [s.heap.objs.size])[M.length]? = some s.heap.objs.size := rr.hp.last
  unfold xDictS at q
  refine wpAny_Dict_walk (knd := mixKind X.prog X.w) hall hl h0 h15 (thn (h.run pins _ σ _ _ I1 ⟨ζ, _, _, ⟨rr.sl.mono n0, rh0⟩, Pst.bind (Pst.mono q n0)⟩) fun ws s2 ⟨ps, H2, I2, rel, kds, M2, μ2, nx, rh, rp, h2⟩ => ?_)
  cases hk : hDks M2 M.length with
  | none => rw [hk] at h2; exact h2.elim
  | some kz =>
    rw [hk] at h2
    cases kz with
    | cons _ _ => exact h2.elim
    | nil =>
      dsimp only at h2
      by_cases hc : (kds.map (·.1)).Nodup ∧ kds.length ≤ 15
      · rw [if_pos hc] at h2
        have e2 : μ2[M.length]? = some s.heap.objs.size := nx.pre _ _ g0
        obtain ⟨vz, g, rz, _⟩ := rh.at_ _ _ _ (hDks_ok hk) e2
        cases rz
        obtain ⟨kvs, ep, rk⟩ := relP_kv rp
        subst ep
        obtain ⟨rs, c, rk2⟩ := carries_of (P := X.prog) (w := X.w) rel
        obtain ⟨z, hd, vs0, r0, dd⟩ := dk_of I2.hok g
        cases r0
        have em : mergeK [] kvs = kvs := merge_nd kvs [] (by rw [List.nil_append, ← KD.keys rk]; exact hc.1)
        refine ⟨rs, c, dd, fun h' dd' hs => ?_⟩
        have hz : (mergeK [] kvs).length ≤ sizeLine := by
          have h1 := length_mergeK kvs []
          have h3 := KD.len rk
          rw [List.length_nil] at h1
          rw [sizeLine_eq]; omega
        have he : ∃ q, h'.get? s.heap.objs.size = some q := let ⟨q, _, _, hq, _⟩ := dd'; ⟨q, hq⟩
        have hm : Mut (H2 s.heap.objs.size) := by rw [g]; exact True.intro
        have J := d_write (t' := s2.toks + ws.length) I2 hm hs he (dk_new hz hd (rk2.merge .nil) dd')
        rw [em] at J
        refine ⟨.ref s.heap.objs.size, _, J, rfl, h2 (.ref s.heap.objs.size) _ μ2 (Nx.write hm) (rh.write e2 hm ⟨kvs, upd_same, Paired.imp rk fun _ _ q => ⟨q.1, q.2.mono (Nx.write hm)⟩, hc.1⟩) (.ref e2)⟩
      · rw [if_neg hc] at h2
        exact h2.elim⟩
end
end Mi
end
section
set_option maxRecDepth 100000
set_option maxHeartbeats 4000000
set_option autoImplicit false
namespace Mi
open PySem PySem.Spec PyProof.Rows L2
section
variable {X : Cx} {Γ : Gm} {W : WX} {C : Addr} {x : Str} {p pos pos2 : Pos} {c n k : Nat} {e : Expr} {es : List Expr} {ga : MA}
theorem pmk_bareN {bmB : List Value} {B newId initId : String} (F : ExcBaseFacts B newId initId bmB) (q : PySem.W.excIn X.K C bmB newId = true) (gC : X.mg x = some (.ref C)) (kC : PySem.W.keepIn X.K (.ref C) = true) (r : Raises X (.ref C)) (hg : Gl X x)
    (hdb : (x == ("__debug__" : Str)) = false := by decide) : L2N.PMk X (.Call (.Name x p) [] [] pos) (fun _ H Q => Q (.ref C) none H) := by
  intro pins s σ H Q I h
  refine wpAny_Call_Name_kw (ld_glob I hg gC ?_ hdb)
  refine PySem.W.callWith_K0 I.kIn kC ?_
  obtain ⟨bm, N, nm, qn, bs, hdct, sn, sub, ab, col, dd, k0, k1, k2, k3, k5, mN, hC, hN, hni, T⟩ := exc_obj I.kIn q
  refine wpAny_call_exc_subT F T hC hN hni (fun h' e hm => ?_) (Nat.zero_le _)
  exact L2N.mk_of I hm r h (I.hok.gone hm.new)
theorem es_raise0N (T : Rz0 X.K X.mg (Γ.cA c) x) (hc : X.calm = true) (tk : L2N.Takes X W) (hg : Gl X x := by rfl) (hdb : (x == ("__debug__" : Str)) = false := by decide) : ES X Γ W (.Raise (some (.Call (.Name x p) [] [] pos)) none pos2) (sRaise0 c) :=
  PS.imp (L2N.ps_raise hc tk (pmk_bareN F.excBase_ValueError T.q T.g T.kp (raises_own T.sb T.ty) hg hdb)) fun E σ H ⟨ζ, M, μ, rr, h⟩ => h _ _ _ _ _ (Nx.refl _ _) rr.hp rr.sl ⟨rfl, .inl ⟨rfl, rfl⟩⟩
/-- of a class with own __init__ -/
theorem pmk_oexN {Cx0 : CXT} {fi : Addr} {fd : FuncData} {ps : List Str} {sp : Sp} {ta : TA} (T : OexC X.K C) (iC : PySem.W.findIn X.K (.ref C) "__init__" = some (some (.ref fi))) (tI : PySem.W.typeIn X.K (.ref fi) = some (.type "function"))
    (F1 : FnOk X.prog X.w X.K X.mg X.base Cx0 k fi fd ps sp) (hr : Room (k + 1) X.A) (hb : Binds X.K fd ps []) (hx : Passes Cx0 X (fun _ _ _ => False)) (hg : Gl X x) (hm : X.mg x = some (.ref C)) (ha : PA X (e :: es) ta)
    (hdb : (x == ("__debug__" : Str)) = false := by decide) (he : starEach (e :: es) X.env = (false, eval e X.env) :: starEach es X.env := by rfl) (hpl : (backTo pos (starEach es X.env)).any (·.1) = false := by rfl) :
    L2N.PMk X (.Call (.Name x p) (e :: es) [] pos) (tMkO C sp [] ta) := by
  intro pz sz σ H Q I h
  obtain ⟨nm, qz, N, bs, bm, sn, sub, ab, col, dz, k0, k1, k2, k3, k5, hC, hbm⟩ := T.cls
  refine wpAny_Call_Name_kw (ld_glob I hg hm ?_ hdb)
  refine PySem.W.callWith_K (h₀ := X.base) I.ok.mod.kin T.kC (thn (ha.run pos pz sz σ H _ I h) fun uz s1 ⟨vz, H1, I1, r1, hz, q1⟩ => ⟨I1.kIn, ?_⟩) he hpl
  show wpAny _ _ (call (.ref C) uz) _ _ _
  obtain ⟨hp, gz, dr, tz, oz⟩ := s1
  obtain ⟨e0, he0⟩ : ∃ e0, e0 = hp.objs.size + 1 := ⟨_, rfl⟩
  have hsz : hp.objs.size ≤ e0 := by omega
  have hn : H1 e0 = none := I1.hok.fresh hsz
  have hq := q1 e0 hn
  rw [List.append_nil] at hq
  obtain ⟨hp2, hhp2⟩ : ∃ hp2, hp2 = (hp.push (PySem.W.kdv_tup uz)).push (PySem.HandSPX.excO C hp.objs.size) := ⟨_, rfl⟩
  have kk : ∀ b o, hp.get? b = some o → hp2.get? b = some o := fun b o z => by
    rw [hhp2]
    exact Heap.get?_push_of_some _ (Heap.get?_push_of_some _ z)
  have hget : hp2.get? e0 = some (PySem.HandSPX.excO C hp.objs.size) := by
    rw [hhp2, he0]
    heap_get
  have I2 : Inv X pz σ (upd H1 e0 (exo e0 C none)) ⟨hp2, gz, dr, tz, oz⟩ := I1.laid (t' := tz) (a := e0) (o := exo e0 C none) (h' := hp2) kk hsz (exo_ok hget)
  have rz : Vals (V.ref e0 :: vz) (Value.ref e0 :: uz) := .cons rfl r1
  have hl : (Value.ref e0 :: uz ++ []).length = ps.length := by
    rw [List.append_nil, ← rz.length]
    exact F1.len _ _ _ _ hq
  have hus : uz.length ≤ sizeLine := by
    have := Paired.length r1
    rw [sizeLine_eq]
    omega
  have bz := hb _ (Value.ref e0 :: uz) I2.kIn hl
  rw [List.append_nil] at bz
  subst he0 hhp2
  refine wpAny_call (PySem.HandSPX.call_own F.excBase_ValueError (fun Y => PySem.HandSPX.refsVE_contains Y bm hbm) (I1.kIn _ _ hC) (PySem.W.looks_findIn I1.kIn iC) (fun self => PySem.W.bind_fn I1.kIn self tI) hus
    (codeAny_mono (F1.run _ X.stack _ _ ⟨Value.ref (hp.objs.size + 1) :: uz, []⟩ (Value.ref (hp.objs.size + 1) :: uz) _ _ (fun _ _ _ => False) (hr.make C uz []) (I2.env0.make C uz []) bz rz hq) fun r s' hz' => ?_))
  cases r with
  | error ee => exact hx pz σ _ _ ee s' I2 hz'
  | ok fl =>
    cases fl with
    | ret u =>
      obtain ⟨v, H2, os2, bare2, un2, hok2, rv, ev, dz2, fz, ea, ed, hd1, q2⟩ := hz'
      subst ev
      obtain ⟨h2, g2, d2, t2, os'⟩ := s'
      obtain ⟨t0, G, J, kG, ge, hoe, na⟩ := mk_end0 (d2 := d2) (t2 := t2) I1 hsz kk un2 hok2 os2 bare2 ea ed hd1
      exact ⟨rv, hp.objs.size + 1, _, _, ⟨G, g2, d2, t2, os'⟩, _, .ref C, some dz2, rfl, J, kG, ge, hoe, ⟨rfl, rfl, fun vs hv => (by cases hv; rfl)⟩, rfl, rfl, na, rfl, bare2, raises_own T.exC T.tyC, q2⟩
    | next => exact hz'.elim
    | brk => exact hz'.elim
    | cont => exact hz'.elim
theorem es_raiseN (T : RzI X.prog X.w X.K X.mg X.base k (Γ.cA c) x (Γ.cN c)) (hl : (Γ.cN c).length = n) (hn : 0 < n ∧ n ≤ 900) (hr : Room (k + 1) X.A) (hc : X.calm = true) (tk : L2N.Takes X W) (ha : EA X Γ W (e :: es) ga) (hg : Gl X x := by rfl)
    (hdb : (x == ("__debug__" : Str)) = false := by decide) (he : starEach (e :: es) X.env = (false, eval e X.env) :: starEach es X.env := by rfl) (hpl : (backTo pos (starEach es X.env)).any (·.1) = false := by rfl) :
    ES X Γ W (.Raise (some (.Call (.Name x p) (e :: es) [] pos)) none pos2) (sRaise c n ga) := by
  obtain ⟨f, fd, ps, h1, h2, F1, hb⟩ := T.i
  refine PS.imp (L2N.ps_raise hc tk (pmk_oexN T.o h1 h2 F1 hr hb (fun pins σ H s e s' I hx => passAt (W := fun _ _ _ _ => False) (fun u s' hx => (by obtain ⟨_, _, _, _, _, _, _, _, _, _, _, _, _, _, _, _, z⟩ := hx; exact z.elim)) σ pins H s e s' I hx) hg T.g ha hdb he hpl)) fun E σ H ⟨ζ, M, μ, rr, h⟩ => ⟨ζ, M, μ, rr, PstS.then h rr.sl fun vs H1 ds M1 μ1 nx rh rv h1 => ?_⟩
  replace rv : RVs X.K H1 μ1 ds vs := rv
  split at h1
  · rename_i hd
    have hv : vs.length = (Γ.cN c).length := by rw [← rv.length, hd, hl]
    refine ⟨by omega, fun a hna => ⟨a, vs, by rw [List.append_nil], hv, upd_same, fun dx H2 hdx hne ea ed oth => ⟨rfl, dx, _, ea, ed, ?_, ?_⟩⟩⟩
    · rw [upd_ne hne] at hdx; exact hdx
    · rw [upd_ne hne] at hdx
      have eH : upd (del H2 a) dx (.xd ((Γ.cN c).zip vs.reverse)) = upd H1 dx (.xd ((Γ.cN c).zip vs.reverse)) := by
        funext b
        by_cases hb : b = dx
        · rw [hb, upd_same, upd_same]
        · rw [upd_ne hb, upd_ne hb]
          by_cases hb2 : b = a
          · rw [hb2, del_same, hna]
          · rw [del_ne hb2, oth b hb2 hb, upd_ne hb2]
      rw [eH]
      have nx1 := Nx.fresh0 (μ := μ1) (u := HO.xd ((Γ.cN c).zip vs.reverse)) hdx
      refine h1 _ _ _ _ _ nx1 (rh.fresh hdx) ((rr.sl.mono nx).mono nx1) ⟨rfl, ?_⟩
      exact .inr ⟨fun hz => by rw [List.reverse_eq_nil_iff] at hz; rw [hz] at hd; simp at hd; omega, _, _, rfl, upd_same, by rw [List.length_reverse, hd, hl], (rv.mono nx1).reverse⟩
  · exact h1.elim
end
structure CalN (P : Program) (w : World) (K : PySem.W.Frag) (mg : Str → Option Value) (base : Heap) (Γ : Gm) (k : Nat) (x : Str) (ps : List Str) (F : MF) : Prop where
  ex : ∃ f fd, FnOk P w K mg base (L2N.CX P w) k f fd ps (spF P w K Γ ps.length F) ∧ mg x = some (.ref f) ∧ PySem.W.keepIn K (.ref f) = true ∧ Binds K fd ps []
section
variable {X : Cx} {Γ : Gm} {W : WX} {e : Expr} {es : List Expr} {ga : MA} {k : Nat} {x : Str} {ps : List Str} {F : MF} {p pos : Pos}
theorem ex_callN (c : CalN X.prog X.w X.K X.mg X.base Γ k x ps F) (hr : Room k X.A) (tk : L2N.Takes X W) (ha : EA X Γ W (e :: es) ga) (hg : Gl X x := by rfl) (hdb : (x == ("__debug__" : Str)) = false := by decide)
    (he : starEach (e :: es) X.env = (false, eval e X.env) :: starEach es X.env := by rfl) (hpl : (backTo pos (starEach es X.env)).any (·.1) = false := by rfl) : EX X Γ W (.Call (.Name x p) (e :: es) [] pos) (xCall ps.length F ga) := by
  obtain ⟨f, fd, F', hm, hk, hb⟩ := c.ex
  exact PE.imp (pe_callSD (E := WE W) F' hr hg hm hk hb .nil (fun σ => L2N.passAt tk σ) ha hdb he hpl) fun σ H Q ⟨ζ, M, μ, rr, h⟩ => ⟨ζ, M, μ, rr, Pst.then h fun vs H1 ds M1 μ1 nx rh rv h1 => by
    rw [List.append_nil]
    exact spF_of rh rv h1⟩
end
section
variable {P : Program} {w : World} {K : PySem.W.Frag} {mg : Str → Option Value} {base : Heap} {Γ : Gm}
theorem fn_mkN {qual : Str} {params : Arguments} {body : List Stmt} {scope : Scope} {f : Addr} {fd : FuncData} {x : Str} {N ps : List Str} {k : Nat} {b : MS} (F : FunD K x qual params body scope [] [] f fd) (S : FnScope N ps scope)
    (hbody : ∀ (cdv : Value) (A : Around) (outer : List Env) (s : Shared) (H : Hp) (E : XK), Room k (A.deeper (envOfC qual scope s.heap.objs.size f cdv)) →
      ESs (cxOf (L2N.CX P w) P w K mg base N qual scope f cdv A outer s H E) Γ (fun cls d _ H => E cls d H) body b) : FnOk P w K mg base (L2N.CX P w) (k + 1) f fd ps (spF P w K Γ ps.length (fnS ps.length N.length b)) := by
  refine F.ok S (fun vs H Q E ⟨ds, M, μ, rh, r, hl, _⟩ => by rw [← r.length]; exact hl) fun cdv A outer s H vs Q E hr h => ?_
  obtain ⟨ds, M, μ, rh, r, hl, h⟩ := h
  refine ⟨_, hbody cdv A outer s H E hr, _, M, μ, ⟨rsl_start (N := N) r hl, rh⟩, ?_⟩
  unfold fnS at h
  cases hb : b (ds.map some ++ List.replicate (N.length - ps.length) none) M with
  | nx ζ M' => rw [hb] at h; exact fun σ' H' μ' a c _ => h _ _ _ a c .non
  | rt d M' => rw [hb] at h; exact h
  | bk ζ M' => rw [hb] at h; exact h.elim
  | ct ζ M' => rw [hb] at h; exact h.elim
  | ex c fs ζ M' => rw [hb] at h; exact fun cls dd σ' H' μ' a c _ e => h cls dd H' μ' a c e
  | no => rw [hb] at h; exact h.elim
variable {N : List Str} {qual : Str} {scope : Scope} {i : Addr} {cdv : Value} {A : Around} {outer : List Env} {s : Shared} {H : Hp} {E : XK}
theorem takes_cxN : L2N.Takes (cxOf (L2N.CX P w) P w K mg base N qual scope i cdv A outer s H E) (fun cls d _ H => E cls d H) := L2N.takes_of rfl rfl rfl rfl
end
theorem takes_W0N {X : Cx} : L2N.Takes X W0 := fun _ _ ⟨_, _, _, _, _, _, _, _, _, _, _, _, _, _, _, _, z⟩ => z.elim
def suDN (X : Cx) (Γ : Gm) (su : List Stmt) (f : Addr → Option Addr → Nat → List D → MS) : Prop := ∀ (a : Addr) (oe : Obj) (c : Nat) (d : Option Addr) (fs : List D) (pn : List (Addr × Obj)), Zc (.ref (Γ.cA c)) d oe → (∃ vs, oe.data = .fields vs) → L2H.Hot1 (X.A.mark (some (.ref a))) (a, oe) → ESs (X.suite a ((a, oe) :: pn)) Γ W0 su (f a d c fs)
theorem es_tryN {X : Cx} {Γ : Gm} {W : WX} {body suite : List Stmt} {b₀ : Stmt} {np pos pos' : Pos} {mb : MS} {x n : Str} {i : Nat} {cv : Value} {ma : Nat → Option Bool} {f : Addr → Option Addr → Nat → List D → MS} (hs : X.stack = X.env :: X.outer) (hf : X.env.frame = some X.env.locals) (hN : X.N.Nodup) (hi : X.N[i]? = some n) (hln : X.env.kindOf n = some .local) (hc : Names X x cv) (tk : L2N.Takes X W)
    (hm : ∀ c b, ma c = some b → PySem.W.exmOne X.K (.ref (Γ.cA c)) cv = some b)
    (hb : ∀ (W : WX) (pn : List (Addr × Obj)) (xe : Value → Shared → Prop), L2N.Takes (X.tr pn xe) W → PassesOwn (model X.prog X.w) X.A X.env xe → ESs (X.tr pn xe) Γ W body mb)
    (hu : suDN X Γ (b₀ :: suite) f) : ES X Γ W (.Try body [.ExceptHandler (some (.Name x np)) (some n) (b₀ :: suite) pos'] [] [] pos) (sTry Γ.cN mb [⟨ma, some i, f⟩]) := by
  have hsu : ∀ (a : Addr) (oe : Obj) (cls : Value) (d : Option Addr) (pn : List (Addr × Obj)), L2N.Zn cls d oe → (∃ vs, oe.data = .fields vs) → PSs (X.suite a ((a, oe) :: pn)) (b₀ :: suite) (tsOf X Γ ⟨ma, some i, f⟩ a cls d) := by
    intro a oe cls d pn hz hv
    refine ⟨fun pins s σ H E I ⟨c, fs, ec, t⟩ => ?_⟩
    subst ec
    exact (hu a oe c d fs pn hz.zc hv ⟨rfl, hv.imp fun vs z => ⟨z, hz.2.2 vs z⟩⟩).run pins s σ H E I t
  refine PS.imp (L2N.ps_try_as hs hf hN hi hln hc tk (tb := fun W => tS X.prog X.w X.K Γ W mb) (fun W pn xe t p => hb W pn xe t p) hsu) fun E σ H ⟨ζ, M, μ, rr, h⟩ => ⟨ζ, M, μ, rr, ?_⟩
  unfold sTry at h
  cases hr : mb ζ M with
  | nx ζ1 M1 => rw [hr] at h; exact h
  | rt d M1 => rw [hr] at h; exact h
  | bk ζ1 M1 => rw [hr] at h; exact h
  | ct ζ1 M1 => rw [hr] at h; exact h
  | no => rw [hr] at h; exact h
  | ex c fs ζ1 M1 =>
    rw [hr] at h
    exact fun cls dd σ' H' μ' nx rh sl rx => caught (vl := [⟨cv, some i, tsOf X Γ ⟨ma, some i, f⟩⟩]) (.cons ⟨rfl, rfl, hm⟩ .nil) (PstS.mono h nx) rh sl rx
end Mi
end
section
set_option maxRecDepth 100000
set_option maxHeartbeats 4000000
set_option autoImplicit false
namespace Mi
open PySem PySem.Spec PyProof.Rows L2
structure FnP (P : Program) (w : World) (K : PySem.W.Frag) (mg : Str → Option Value) (base : Heap) (C0 : CXT) (k : Nat) (f : Addr) (fd : FuncData) (ps : List Str) (sp : Sp) (p : Addr × Obj) : Prop where
  len : ∀ vs H Q E, sp vs H Q E → vs.length = ps.length
  run : ∀ (A : Around) (outer : List Env) (s : Shared) (H : Hp) (ar : Args) (us : List Value) (vs : List V) (Q : VK) (E : XK), L2H.RoomH k A → L2H.Hot1 A p → L2H.PinOk outer H s p → Env0 P w K mg base A outer s H → BindsTo s fd ar (ps.zip us) → Vals vs us → sp vs H Q E →
    codeAny (model P w) A (.call (.ref f) ar) (CR C0 outer P w H s Q E) s
section
variable {P : Program} {w : World} {K : PySem.W.Frag} {mg : Str → Option Value} {base : Heap}
theorem fnd_okP {C0 : CXT} {qual : Str} {params : Arguments} {body : List Stmt} {scope : Scope} {f : Addr} {fd : FuncData} {x : Str} {N ps : List Str} {k : Nat} {sp : Sp} {p : Addr × Obj} (F : FunD K x qual params body scope [] [] f fd) (S : FnScope N ps scope) (len : ∀ vs H Q E, sp vs H Q E → vs.length = ps.length)
    (hbody : ∀ (cdv : Value) (A : Around) (outer : List Env) (s : Shared) (H : Hp) (vs : List V) (Q : VK) (E : XK), L2H.Hot1 A p → L2H.RoomH k (A.deeper (envOfC qual scope s.heap.objs.size f cdv)) → sp vs H Q E →
      ∃ t, PSs (L2H.cxH C0 P w K mg base N qual scope f cdv A outer s H E p) body t ∧ t { nx := fun _ H' => Q .non H', rt := Q } (L2.start N vs) H) : FnP P w K mg base C0 (k + 1) f fd ps sp p := by
  obtain ⟨oc, od, dV, kV, doc, pm, an, cdv, ct, osl, rfl, lk, hcd, _, _⟩ := F.ex
  refine ⟨len, fun A outer s H ar us vs Q E hr hh hpn e0 hb rv hsp => ?_⟩
  have kin : K.In s.heap := e0.mod.kin.keeps fun b o z => (e0.bs b o z).1
  have nol : s.heap.NoLimit := e0.mod.nolimit.keeps fun b o z => (e0.bs b o z).1
  have knd : ∀ y ∈ ps.zip us, scope.names.lookup y.1 = some .local ∨ (scope.names.lookup y.1 = some .cell ∧ ((cellsFrom (s.heap.objs.size + 1) scope.names []).lookup y.1).isSome = true) := by
    rintro ⟨y, v⟩ hy
    exact (S.par y (List.of_mem_zip hy).1).imp id fun z => ⟨z, PySem.W.cellsFrom_some _ _ _ (.inl z)⟩
  refine codeAny_call_function hr.depth (kin _ _ lk) rfl S.co S.gen rfl (PySem.W.codeRec_of kin hcd) (hb _ _ _ _ ?_)
  refine wpAny_newFunctionEnv_cells S.kind knd fun env he s1 xc => ?_
  subst he
  refine ⟨nol.keeps xc.toInCall.keep, codeAny_func ?_⟩
  obtain ⟨t, ht, hq⟩ := hbody cdv A outer s H vs Q E hh (hr.deeper _) hsp
  refine wpAny_mono (ht.run [] s1 (L2.start N vs) H _ (L2H.inv_startH (CX := C0) (E := E) S hpn e0 (len _ _ _ _ hsp) rv xc) hq) (fun fl s' hz => ?_) fun e s' hz => hz
  cases fl with
  | ret u =>
    obtain ⟨v, σ', H', J, r2, q⟩ := hz
    exact ⟨v, H', J.os, J.bare, J.base, J.hok, r2, q⟩
  | next =>
    obtain ⟨σ', H', J, q⟩ := hz
    exact ⟨V.non, H', J.os, J.bare, J.base, J.hok, rfl, q⟩
  | brk => exact hz.choose_spec.choose_spec.2.elim
  | cont => exact hz.choose_spec.choose_spec.2.elim
end
/-- in the context in which the exception is handled -/
theorem pss_hot {Y : Cx} {a : Addr} {oe : Obj} (hA : Y.A.handled = some (.ref a)) (hc : Y.calm = false) (hp : Y.pn = [(a, oe)]) {su : List Stmt} {t : TS} (h : PSs (Y.suite a [(a, oe)]) su t) : PSs Y su t := by
  have eY : Y.suite a [(a, oe)] = Y.wish fun _ _ => False := by
    cases Y with
    | mk prog w K mg base A N s0 H0 env outer stack ex fn calm pn xe =>
      dsimp only at hA hc hp
      subst hc hp
      cases A with
      | mk hd dp fr gu un =>
        dsimp only at hA
        subst hA
        rfl
  rw [eY] at h
  refine ⟨fun pins s σ H E I q => ?_⟩
  have I' : Inv (Y.wish fun _ _ => False) pins σ H s := ⟨I.ok.wish _, I.os, I.bare, I.base, I.loc, I.cell, I.free, I.freeC, I.pin, I.hok, I.len⟩
  exact wpAny_mono (h.run pins s σ H E I' q) (fun f s' hz => SP.unwish hz) fun _ _ z => False.elim z
structure CalP (P : Program) (w : World) (K : PySem.W.Frag) (mg : Str → Option Value) (base : Heap) (Γ : Gm) (k : Nat) (x : Str) (ps : List Str) (F : MF) (p : Addr × Obj) : Prop where
  ex : ∃ f fd, FnP P w K mg base (L2.CX P w) k f fd ps (fun vs H Q _ => spF P w K Γ ps.length F vs H Q fun _ _ _ => False) p ∧ mg x = some (.ref f) ∧ PySem.W.keepIn K (.ref f) = true ∧ Binds K fd ps []
section
variable {X : Cx} {Γ : Gm} {W : WX} {e : Expr} {es : List Expr} {ga : MA} {k : Nat} {x : Str} {ps : List Str} {F : MF} {q pos : Pos} {p : Addr × Obj}
theorem ex_callP (hot : L2H.Hot1 X.A p) (hp : p ∈ X.pn) (c : CalP X.prog X.w X.K X.mg X.base Γ k x ps F p) (hr : L2H.RoomH k X.A) (ha : EA X Γ W0 (e :: es) ga) (hg : Gl X x := by rfl) (hdb : (x == ("__debug__" : Str)) = false := by decide)
    (he : starEach (e :: es) X.env = (false, eval e X.env) :: starEach es X.env := by rfl) (hpl : (backTo pos (starEach es X.env)).any (·.1) = false := by rfl) : EX X Γ W0 (.Call (.Name x q) (e :: es) [] pos) (xCall ps.length F ga) := by
  obtain ⟨f, fd, F', hm, hk, hb⟩ := c.ex
  refine ⟨fun pins s σ H Q I ⟨ζ, M, μ, rr, h⟩ => ?_⟩
  refine wpAny_Call_Name_kw (ld_glob I hg hm ?_ hdb)
  refine PySem.W.callWith_K (h₀ := X.base) I.ok.mod.kin hk (thn (ha.run pos pins s σ H _ I ⟨ζ, M, μ, rr, Pst.bind h⟩) fun us s1 ⟨vs, H1, I1, r1, ds, M1, μ1, nx, rh, rv, h1⟩ => ⟨I1.kIn, ?_⟩) he hpl
  have sp := spF_of (W := W0) (σ := σ) rh rv h1
  have hl : us.length = ps.length := r1.length.symm.trans (F'.len vs H1 Q (WE W0 σ) sp)
  have bz := hb s1 us I1.kIn (by rw [List.append_nil]; exact hl)
  rw [List.append_nil] at bz
  have P1 := I1.pin p (List.mem_append_left _ hp)
  have hpn : L2H.PinOk X.stack H1 s1 p := ⟨P1.1, P1.2.1, fun z => (List.mem_cons.mp (I1.stkSub p.1 z)).elim P1.2.2.1 P1.2.2.2.1, P1.2.2.2.2⟩
  refine wpAny_call (codeAny_mono (F'.run X.A X.stack s1 H1 ⟨us, []⟩ us vs Q (WE W0 σ) hr hot hpn I1.env0 bz r1 sp) fun r s' hz => ?_)
  cases r with
  | error u => exact passAt takes_W0 σ pins H1 s1 u s' I1 hz
  | ok fl =>
    cases fl with
    | ret u => exact I1.after hz
    | next => exact hz.elim
    | brk => exact hz.elim
    | cont => exact hz.elim
end
section
variable {P : Program} {w : World} {K : PySem.W.Frag} {mg : Str → Option Value} {base : Heap} {Γ : Gm}
theorem fn_mkP {qual : Str} {params : Arguments} {body : List Stmt} {scope : Scope} {f : Addr} {fd : FuncData} {x : Str} {N ps : List Str} {k : Nat} {b : MS} {a : Addr} {oe : Obj} (F : FunD K x qual params body scope [] [] f fd) (S : FnScope N ps scope)
    (hbody : ∀ (cdv : Value) (A : Around) (outer : List Env) (s : Shared) (H : Hp) (E : XK), ESs ((L2H.cxH (L2.CX P w) P w K mg base N qual scope f cdv A outer s H E (a, oe)).suite a ((a, oe) :: [])) Γ W0 body b) :
    FnP P w K mg base (L2.CX P w) (k + 1) f fd ps (fun vs H Q _ => spF P w K Γ ps.length (fnS ps.length N.length b) vs H Q fun _ _ _ => False) (a, oe) := by
  refine fnd_okP F S (fun vs H Q E ⟨ds, M, μ, rh, r, hl, _⟩ => by rw [← r.length]; exact hl) fun cdv A outer s H vs Q E hot hr h => ?_
  obtain ⟨ds, M, μ, rh, r, hl, h⟩ := h
  refine ⟨_, pss_hot (Y := L2H.cxH (L2.CX P w) P w K mg base N qual scope f cdv A outer s H E (a, oe)) hot.1 rfl rfl (hbody cdv A outer s H E), _, M, μ, ⟨rsl_start (N := N) r hl, rh⟩, ?_⟩
  unfold fnS at h
  cases hb : b (ds.map some ++ List.replicate (N.length - ps.length) none) M with
  | nx ζ M' => rw [hb] at h; exact fun σ' H' μ' a c _ => h _ _ _ a c .non
  | rt d M' => rw [hb] at h; exact h
  | bk ζ M' => rw [hb] at h; exact h.elim
  | ct ζ M' => rw [hb] at h; exact h.elim
  | ex c fs ζ M' => rw [hb] at h; exact fun cls dd σ' H' μ' a c _ e => h cls dd H' μ' a c e
  | no => rw [hb] at h; exact h.elim
end
end Mi
end
section
set_option maxRecDepth 100000
set_option maxHeartbeats 4000000
set_option autoImplicit false
namespace Mi
open PySem PySem.Spec PyProof.Rows L2
theorem pe_lcH {X : Cx} {elt tg e0 : Expr} {scope : Scope} {own : List (Str × Nat)} {pos p0 p1 : Pos} {ta : TA} {g : TG} {tt : TT} {te : TE} (hc : L2H.HotC X) (hN : X.N.Nodup) (hgr : Gl X "range") (hmr : X.mg "range" = none) (ha : PA X [e0] ta) (ok : BlkOk X.N X.env.scope scope own)
    (hg : ∀ (s : Shared) (H : Hp) (C : Addr) (cl : List (Str × Addr)) (fp : List Addr), PG (X.blk s H scope (compEnvC scope cl C X.env) fp) tg g)
    (ht : ∀ (s : Shared) (H : Hp) (C : Addr) (cl : List (Str × Addr)) (fp : List Addr), PTs (X.blk s H scope (compEnvC scope cl C X.env) fp) [] tt)
    (he : ∀ (s : Shared) (H : Hp) (C : Addr) (cl : List (Str × Addr)) (fp : List Addr), PE (X.blk s H scope (compEnvC scope cl C X.env) fp) elt te)
    (hsa : starEach [e0] X.env = [(false, eval e0 X.env)] := by rfl) (hs : ∀ x, foldedSetIterable (.Call (.Name "range" p0) [e0] [] p1) X.env x = pure x := by intro _; rfl) :
    PE X (.ListComp elt [⟨tg, .Call (.Name "range" p0) [e0] [] p1, [], 0⟩] scope pos) (tLc (iRng1 ta) g tt te (own.map (·.2))) := by
  refine ⟨fun pins s σ H Q I h => ?_⟩
  rw [eval_ListComp]
  obtain ⟨hx, hot, hxm⟩ := hc
  have hfr : ∀ y ∈ scope.names, y.2 = .free → ∃ c, X.env.cells.lookup y.1 = some c := fun y hy z => I.ok.has _ ((ok.free y hy z).imp id id)
  refine wpAny_comprehension_free rfl hs (closure_ok hfr) ok.kind (fun y hy z => by rw [ok.uniq y hy, z]) (thn ((L2H.pi_range1H (tg := tg) hgr hmr ha hsa).run pins s σ H _ I h) fun xv s1 hz => thn hz fun iv s2 h2 => ?_)
  obtain ⟨it, fp, tn, J, H2, rfl, I2, T, st2, f2, q⟩ := h2
  refine wpAny_newObj_type (newEnv_comp ?_) (by show 0 ≤ sizeLine; decide)
  generalize hD : s2.heap.objs.size = D
  have hDn : H2 D = none := I2.hok.fresh (Nat.le_of_eq hD)
  obtain ⟨W, ⟨m0, w0⟩, turn⟩ := q D hDn
  generalize hs3 : ({ s2 with heap := s2.heap.push { cls := .type "list", data := .seq ([] : List Value).toArray } } : Shared) = s3
  have I3 : Inv X pins σ (upd H2 D (.lst [])) s3 := by
    rw [← hs3]
    refine I2.laid (t' := s2.toks) (fun b o z => Heap.get?_push_of_some _ z) (Nat.le_of_eq hD) ⟨Nat.zero_le _, [], 0, .nil, ?_⟩
    rw [← hD]
    exact Heap.get?_push_size _ rfl
  have h3 : s3.heap = s2.heap.push { cls := .type "list", data := .seq ([] : List Value).toArray } := by rw [← hs3]
  have szp : ∀ b ∈ fp, b < s2.heap.objs.size := fun b hb => let ⟨o, z, _⟩ := T.obj _ _ st2 b hb; Heap.lt_size z
  have f3 : ∀ b ∈ fp, FpOk X pins (upd H2 D (.lst [])) b ∧ b < s3.heap.objs.size := fun b hb => by
    have hlt := szp b hb
    refine ⟨⟨?_, (f2 b hb).2⟩, by rw [h3, Heap.size_push]; exact Nat.lt_succ_of_lt hlt⟩
    have nb : b ≠ D := by rw [← hD]; exact Nat.ne_of_lt hlt
    rw [upd_ne nb]
    exact (f2 b hb).1
  have st3 : tn 0 s3.heap := T.keep _ _ _ st2 fun b _ o z => by rw [h3]; exact Heap.get?_push_of_some _ z
  have I4 := block_start I3 ok hN f3
  have PX := I3.pin hx (List.mem_append_left _ hxm)
  have nxs : hx.1 ∉ frs X.stack := fun z => (List.mem_cons.mp (I3.stkSub hx.1 z)).elim PX.2.2.1 PX.2.2.2.1
  have lt3 : hx.1 < s3.heap.objs.size := Heap.lt_size PX.1
  change codeAny _ _ (.compStart (.ListComp elt [⟨tg, .Call (.Name "range" p0) [e0] [] p1, [], 0⟩] scope pos) 0 (.ref it) (.ref D)
    (compEnvC scope (cellsFrom (s3.heap.objs.size + 1) scope.names (cloFrom X.env.cells scope.names [])) s3.heap.objs.size X.env)) _
    { s3 with heap := pushCells (s3.heap.push { cls := .type "dict", data := .dict #[] }) scope.names }
  have pg := hg s3 (upd H2 D (.lst [])) s3.heap.objs.size (cellsFrom (s3.heap.objs.size + 1) scope.names (cloFrom X.env.cells scope.names [])) fp
  have pt := ht s3 (upd H2 D (.lst [])) s3.heap.objs.size (cellsFrom (s3.heap.objs.size + 1) scope.names (cloFrom X.env.cells scope.names [])) fp
  have pe := he s3 (upd H2 D (.lst [])) s3.heap.objs.size (cellsFrom (s3.heap.objs.size + 1) scope.names (cloFrom X.env.cells scope.names [])) fp
  have nfp : ∀ b ∈ fp, (upd H2 D (.lst [])) b = none := fun b hb => (f3 b hb).1.1
  generalize hce : compEnvC scope (cellsFrom (s3.heap.objs.size + 1) scope.names (cloFrom X.env.cells scope.names [])) s3.heap.objs.size X.env = ce at I4 pg pt pe ⊢
  have cL : ce.locals = s3.heap.objs.size := by subst hce; rfl
  generalize hH3 : upd H2 D (.lst []) = H3 at I3 I4 pg pt pe w0 nfp f3 PX
  generalize hs4 : ({ s3 with heap := pushCells (s3.heap.push { cls := .type "dict", data := .dict #[] }) scope.names } : Shared) = s4 at I4 ⊢
  have kp4 : ∀ b o, s3.heap.get? b = some o → s4.heap.get? b = some o := fun b o z => by rw [← hs4]; exact pushCells_keeps _ _ _ _ (Heap.get?_push_of_some _ z)
  have st4 : tn 0 s4.heap := T.keep _ _ _ st3 fun b _ o z => kp4 b o z
  -- the handled exception is held through the block
  have I4p : Inv (X.blk s3 H3 scope ce fp) [hx] (wipe σ (own.map (·.2))) H3 s4 := ⟨I4.ok, I4.os, I4.bare, I4.base, I4.loc, I4.cell, I4.free, I4.freeC, fun z hz => by
    have ez : z = hx := List.mem_singleton.mp hz
    subst ez
    exact ⟨kp4 _ _ PX.1, PX.2.1, by show z.1 ≠ ce.locals; rw [cL]; exact Nat.ne_of_lt lt3, nxs, PX.2.2.2.2⟩, I4.hok, I4.len⟩
  have stat : ∀ {σ' : L2.St} {H' : Hp} {s' : Shared}, Inv (X.blk s3 H3 scope ce fp) [hx] σ' H' s' → (∀ b ∈ fp, H' b = none) → ∀ b ∈ fp, FpOk (X.blk s3 H3 scope ce fp) [hx] H' b := fun {σ' H' s'} I' hn b hb =>
    ⟨hn b hb, (I'.ok.exf b hb).1, I'.ok.exfs b hb, .inl hb, fun x c z => (I'.ok.exf b hb).2 x c z, fun z hz => by
      have ez : z = hx := List.mem_singleton.mp hz
      subst ez
      exact (f3 b hb).1.2.2.2.2.2 z (List.mem_append_left _ hxm)⟩
  -- the block's context, the exception in it
  let XB : Cx := { X.blk s3 H3 scope ce fp with pn := [hx] }
  have toB : ∀ {σ' : L2.St} {H' : Hp} {s' : Shared}, Inv (X.blk s3 H3 scope ce fp) [hx] σ' H' s' → Inv XB [] σ' H' s' := fun I' => ⟨⟨I'.ok.mod, I'.ok.kind, I'.ok.glob, I'.ok.blt, I'.ok.above, I'.ok.inj, I'.ok.has, I'.ok.cab, I'.ok.hd, I'.ok.frames, I'.ok.stk, I'.ok.exf, I'.ok.bs, I'.ok.bsz, I'.ok.noex, I'.ok.exfs, I'.ok.funs, I'.ok.frf⟩, I'.os, I'.bare, I'.base, I'.loc, I'.cell, I'.free, I'.freeC, I'.pin, I'.hok, I'.len⟩
  have ofB : ∀ {σ' : L2.St} {H' : Hp} {s' : Shared}, Inv XB [] σ' H' s' → Inv (X.blk s3 H3 scope ce fp) [hx] σ' H' s' := fun I' => ⟨⟨I'.ok.mod, I'.ok.kind, I'.ok.glob, I'.ok.blt, I'.ok.above, I'.ok.inj, I'.ok.has, I'.ok.cab, I'.ok.hd, I'.ok.frames, I'.ok.stk, I'.ok.exf, I'.ok.bs, I'.ok.bsz, I'.ok.noex, I'.ok.exfs, I'.ok.funs, I'.ok.frf⟩, I'.os, I'.bare, I'.base, I'.loc, I'.cell, I'.free, I'.freeC, I'.pin, I'.hok, I'.len⟩
  have hotB : L2H.HotC XB := ⟨hx, hot, List.mem_cons_self⟩
  have statB : ∀ {σ' : L2.St} {H' : Hp} {s' : Shared}, Inv (X.blk s3 H3 scope ce fp) [hx] σ' H' s' → (∀ b ∈ fp, H' b = none) → ∀ b ∈ fp, FpOk XB [] H' b := fun I' hn b hb => stat I' hn b hb
  suffices loop : codeAny (model X.prog X.w) X.A (.compLoop (.ListComp elt [⟨tg, .Call (.Name "range" p0) [e0] [] p1, [], 0⟩] scope pos) 0 (.ref it) (.ref D) ce) _ s4 from codeAny_compStart_list loop (T.self X.A 0 _ _ _ st4 loop)
  focus
    refine compLoop_any (fun n s' => ∃ i H', Inv (X.blk s3 H3 scope ce fp) [hx] (wipe σ (own.map (·.2))) H' s' ∧ tn i s'.heap ∧ (∀ b ∈ fp, H' b = none) ∧ W i n H') ?_ m0 ⟨0, H3, I4p, st4, nfp, w0⟩
    rintro n s5 ⟨i, H5, I5, st5, n5, w5⟩
    rcases turn i n H5 w5 with ⟨stop, qq⟩ | ⟨go, Nz, hNz, step⟩
    · refine thnF (T.done XB rfl rfl rfl hotB i [] s5 _ H5 (fun _ _ => False) (toB I5) (statB I5 n5) st5 stop) fun r s6 ⟨hr, I6⟩ => ?_
      subst hr
      have I6 := ofB I6
      have I7 : Inv X pins σ H5 s6 := I3.call' (ch := fp) I6.os I6.base I6.hok I6.bare fun b hb => ⟨(f3 b hb).1.2.2.2.1, (f3 b hb).1.2.1, (f3 b hb).1.2.2.2.2.1, (f3 b hb).1.2.2.2.2.2⟩
      have nC : H5 s3.heap.objs.size = none := by
        have z : H5 ce.locals = none := I6.free
        rw [cL] at z
        exact z
      obtain ⟨m, hn, _⟩ := I6.loc
      replace hn : s6.heap.Ns ce.locals m := hn
      rw [cL] at hn
      obtain ⟨g0, g1, g2, g3, g4, g5⟩ := I3.fpOk (H' := H5) (Nat.le_refl _) nC
      exact ⟨m, hn, fun h'' sb => ⟨.ref D, H5, I7.turned (t' := s6.toks) (fun b o hb z => (sb.2 b hb).trans z) g0 g1 g3 g4 g5, rfl, qq⟩⟩
    · refine thnF (T.item XB rfl rfl rfl hotB i [] s5 _ H5 (fun _ _ => False) (toB I5) (statB I5 n5) st5 go) fun r s6 ⟨u, hr, h6⟩ => ?_
      subst hr
      refine thnF h6 fun _ s7 ⟨x, H7, I7, r7, y7, st7, n7⟩ => ?_
      have I7 := ofB I7
      have I7' := I7.pinned (stat I7 n7) (T.obj _ _ st7)
      refine thnF (pg.run _ s7 _ H7 x u _ I7' r7 (step x H7 y7)) fun _ s8 ⟨σ8, H8, I8, hw8, q8⟩ => ?_
      refine thnF (pt.run _ s8 σ8 H8 _ I8 q8) fun b s9 ⟨H9, I9, q9⟩ => ?_
      have fin : ∀ {s' : Shared} {H' : Hp}, Inv (X.blk s3 H3 scope ce fp) ([hx] ++ pinsAt fp s7.heap) σ8 H' s' → Nz H' → ∃ m, m < n ∧ ∃ i H', Inv (X.blk s3 H3 scope ce fp) [hx] (wipe σ (own.map (·.2))) H' s' ∧ tn i s'.heap ∧ (∀ b ∈ fp, H' b = none) ∧ W i m H' := fun {s' H'} I' nz => by
        obtain ⟨m', hm, w'⟩ := hNz H' nz
        have pz : ∀ b ∈ fp, ∀ o, s7.heap.get? b = some o → s'.heap.get? b = some o ∧ H' b = none := fun b hb o z =>
          let y := I'.pin (b, o) (List.mem_append_right _ (List.mem_append_right _ (mem_pinsAt hb z)))
          ⟨y.1, y.2.1⟩
        have hl : (wipe σ (own.map (·.2))).length = σ8.length := by rw [← hw8, wipe_length]
        refine ⟨m', hm, i + 1, H', (I'.unpinned (pins := [hx])).weak hl (fun j v z => ?_), T.keep _ _ _ st7 fun b hb o z => (pz b hb o z).1, fun b hb => ?_, w'⟩
        · rw [← hw8] at z
          exact (wipe_some z).1
        · obtain ⟨o, z, _⟩ := T.obj _ _ st7 b hb
          exact (pz b hb o z).2
      cases b with
      | false =>
        simp only [Bool.false_eq_true, if_false] at q9 ⊢
        exact fin I9 q9
      | true =>
        simp only [if_true] at q9 ⊢
        refine thnF (pe.run _ s9 σ8 H9 _ I9 q9) fun z s10 ⟨yv, H10, I10, r10, acc, hD10, hz10, nz⟩ => ?_
        exact app_ok (X := X.blk s3 H3 scope ce fp) I10 hD10 hz10 r10 fun s11 I11 => fin I11 nz
end Mi
end
section
set_option maxRecDepth 100000
set_option maxHeartbeats 4000000
set_option autoImplicit false
namespace Mi
open PySem PySem.Spec PyProof.Rows L2
theorem ex_lcH {X : Cx} {Γ : Gm} {W : WX} {elt tg e0 : Expr} {scope : Scope} {own : List (Str × Nat)} {pos p0 p1 : Pos} {fa f : MX} {p : Pt} (hc : L2H.HotC X) (hN : X.N.Nodup) (ha : EX X Γ W e0 fa) (hmr : X.mg "range" = none) (ok : BlkOk X.N X.env.scope scope own) (hp : ∀ i ∈ p.slots, i ∈ own.map (·.2))
    (hg : ∀ (s : Shared) (H : Hp) (C : Addr) (cl : List (Str × Addr)) (fp : List Addr), EG (X.blk s H scope (compEnvC scope cl C X.env) fp) Γ tg p)
    (he : ∀ (s : Shared) (H : Hp) (C : Addr) (cl : List (Str × Addr)) (fp : List Addr), EX (X.blk s H scope (compEnvC scope cl C X.env) fp) Γ W0 elt f) (hgr : Gl X "range" := by rfl)
    (hsa : starEach [e0] X.env = [(false, eval e0 X.env)] := by rfl) (hs : ∀ x, foldedSetIterable (.Call (.Name "range" p0) [e0] [] p1) X.env x = pure x := by intro _; rfl) :
    EX X Γ W (.ListComp elt [⟨tg, .Call (.Name "range" p0) [e0] [] p1, [], 0⟩] scope pos) (xLc (yRg1 fa) (own.map (·.2)) p tTrue f) :=
  PE.imp (pe_lcH hc hN hgr hmr (pa_cons ha pa_nil hsa) ok hg (fun _ _ _ _ _ => ets_nil) he hsa hs) fun σ H Q h => by
    obtain ⟨ζ, M, μ, rr, h⟩ := tLc_of hp h
    exact ⟨ζ, M, μ, rr, Pst.then h fun v H1 d M1 μ1 nx rh rv h1 => by
      cases d with
      | int j =>
        cases rv
        simp only at h1
        split at h1
        · rename_i hj
          obtain ⟨j1, j2⟩ := okRg_ok hj
          exact ⟨j, rfl, j1, j2, h1 _ _ _ (Nx.refl _ _) rh y_rg⟩
        · exact h1.elim
      | _ => exact h1.elim⟩
theorem ex_callS {X : Cx} {Γ : Gm} {e : Expr} {es : List Expr} {ga : MA} {k : Nat} {x : Str} {ps : List Str} {F : MF} {q pos : Pos} {a : Addr} {oe : Obj} {pn : List (Addr × Obj)} (hot : L2H.Hot1 (X.A.mark (some (.ref a))) (a, oe)) (c : CalP X.prog X.w X.K X.mg X.base Γ k x ps F (a, oe)) (hr : Room k X.A)
    (ha : EA (X.suite a ((a, oe) :: pn)) Γ W0 (e :: es) ga) (hg : Gl X x := by rfl) (hdb : (x == ("__debug__" : Str)) = false := by decide) (he : starEach (e :: es) X.env = (false, eval e X.env) :: starEach es X.env := by rfl) (hpl : (backTo pos (starEach es X.env)).any (·.1) = false := by rfl) :
    EX (X.suite a ((a, oe) :: pn)) Γ W0 (.Call (.Name x q) (e :: es) [] pos) (xCall ps.length F ga) :=
  ex_callP (X := X.suite a ((a, oe) :: pn)) hot List.mem_cons_self c (L2H.roomH_mark hr _) ha hg hdb he hpl
theorem ex_lcS {X : Cx} {Γ : Gm} {W : WX} {elt tg e0 : Expr} {scope : Scope} {own : List (Str × Nat)} {pos p0 p1 : Pos} {fa f : MX} {p : Pt} {a : Addr} {oe : Obj} {pn : List (Addr × Obj)} (hot : L2H.Hot1 (X.A.mark (some (.ref a))) (a, oe)) (hN : X.N.Nodup) (ha : EX (X.suite a ((a, oe) :: pn)) Γ W e0 fa) (hmr : X.mg "range" = none)
    (ok : BlkOk X.N X.env.scope scope own) (hp : ∀ i ∈ p.slots, i ∈ own.map (·.2))
    (hg : ∀ (s : Shared) (H : Hp) (C : Addr) (cl : List (Str × Addr)) (fp : List Addr), EG ((X.suite a ((a, oe) :: pn)).blk s H scope (compEnvC scope cl C X.env) fp) Γ tg p)
    (he : ∀ (s : Shared) (H : Hp) (C : Addr) (cl : List (Str × Addr)) (fp : List Addr), EX ((X.suite a ((a, oe) :: pn)).blk s H scope (compEnvC scope cl C X.env) fp) Γ W0 elt f) (hgr : Gl X "range" := by rfl)
    (hsa : starEach [e0] X.env = [(false, eval e0 X.env)] := by rfl) (hs : ∀ x, foldedSetIterable (.Call (.Name "range" p0) [e0] [] p1) X.env x = pure x := by intro _; rfl) :
    EX (X.suite a ((a, oe) :: pn)) Γ W (.ListComp elt [⟨tg, .Call (.Name "range" p0) [e0] [] p1, [], 0⟩] scope pos) (xLc (yRg1 fa) (own.map (·.2)) p tTrue f) :=
  ex_lcH (X := X.suite a ((a, oe) :: pn)) ⟨(a, oe), hot, List.mem_cons_self⟩ hN ha hmr ok hp hg he hgr hsa hs
end Mi
end
section
set_option maxRecDepth 1000000
set_option maxHeartbeats 4000000
set_option autoImplicit false
namespace Wk
open PySem PySem.Spec PyProof.Rows L2 Mi
def top (i : Nat) : Stmt := PySem.Challenge.pw_couplerreach_k16_errors_apart.main.body.getD i (.Pass ⟨0, 0, 0, 0⟩)
def inCls (st : Stmt) (j : Nat) : Stmt := match st with
  | .ClassDef (body := b) .. => b.getD j (.Pass ⟨0, 0, 0, 0⟩)
  | _ => .Pass ⟨0, 0, 0, 0⟩
def clsN : List Str := ["Organ", "Console", "Line", "OrganError", "InvalidManuals", "InvalidCoupler", "InvalidStop", "InvalidChain", "InvalidOctave", "InvalidTop", "InvalidKey", "InvalidPipe", "InvalidRank", "InvalidManual", "NotComparable", "InvalidMove", "UnknownKnob", "UnknownIndex", "InvalidText"]
def cN (n : Nat) : List Str := ([[], [], [], [], [], ["index"], ["index"], [], [], [], [], [], [], [], [], [], [], ["index"], ["word", "line"]] : List (List Str)).getD n []
def GmK (K : PySem.W.Frag) : Gm := ⟨fun n => He.ga K (clsN.getD n ""), cN⟩
def mt_OrganError (n : Nat) : Option Bool := ([none, none, none, some true, some true, some true, some true, some true, some true, some true, some true, some true, some true, some true, some true, some true, some true, some true, some true] : List (Option Bool)).getD n none
def xt_index (n : Nat) : Bool := ([false, false, false, false, false, true, true, false, false, false, false, false, false, false, false, false, false, true, false] : List Bool).getD n false
def xt_line (n : Nat) : Bool := ([false, false, false, false, false, false, false, false, false, false, false, false, false, false, false, false, false, false, true] : List Bool).getD n false
def xt_word (n : Nat) : Bool := ([false, false, false, false, false, false, false, false, false, false, false, false, false, false, false, false, false, false, true] : List Bool).getD n false
def kt_InvalidChain (n : Nat) : Option Bool := ([none, none, none, some false, some false, some false, some false, some true, some false, some false, some false, some false, some false, some false, some false, some false, some false, some false, some false] : List (Option Bool)).getD n none
def kt_InvalidCoupler (n : Nat) : Option Bool := ([none, none, none, some false, some false, some true, some false, some false, some false, some false, some false, some false, some false, some false, some false, some false, some false, some false, some false] : List (Option Bool)).getD n none
def kt_InvalidKey (n : Nat) : Option Bool := ([none, none, none, some false, some false, some false, some false, some false, some false, some false, some true, some false, some false, some false, some false, some false, some false, some false, some false] : List (Option Bool)).getD n none
def kt_InvalidManual (n : Nat) : Option Bool := ([none, none, none, some false, some false, some false, some false, some false, some false, some false, some false, some false, some false, some true, some false, some false, some false, some false, some false] : List (Option Bool)).getD n none
def kt_InvalidManuals (n : Nat) : Option Bool := ([none, none, none, some false, some true, some false, some false, some false, some false, some false, some false, some false, some false, some false, some false, some false, some false, some false, some false] : List (Option Bool)).getD n none
def kt_InvalidMove (n : Nat) : Option Bool := ([none, none, none, some false, some false, some false, some false, some false, some false, some false, some false, some false, some false, some false, some false, some true, some false, some false, some false] : List (Option Bool)).getD n none
def kt_InvalidOctave (n : Nat) : Option Bool := ([none, none, none, some false, some false, some false, some false, some false, some true, some false, some false, some false, some false, some false, some false, some false, some false, some false, some false] : List (Option Bool)).getD n none
def kt_InvalidPipe (n : Nat) : Option Bool := ([none, none, none, some false, some false, some false, some false, some false, some false, some false, some false, some true, some false, some false, some false, some false, some false, some false, some false] : List (Option Bool)).getD n none
def kt_InvalidRank (n : Nat) : Option Bool := ([none, none, none, some false, some false, some false, some false, some false, some false, some false, some false, some false, some true, some false, some false, some false, some false, some false, some false] : List (Option Bool)).getD n none
def kt_InvalidStop (n : Nat) : Option Bool := ([none, none, none, some false, some false, some false, some true, some false, some false, some false, some false, some false, some false, some false, some false, some false, some false, some false, some false] : List (Option Bool)).getD n none
def kt_InvalidText (n : Nat) : Option Bool := ([none, none, none, some false, some false, some false, some false, some false, some false, some false, some false, some false, some false, some false, some false, some false, some false, some false, some true] : List (Option Bool)).getD n none
def kt_InvalidTop (n : Nat) : Option Bool := ([none, none, none, some false, some false, some false, some false, some false, some false, some true, some false, some false, some false, some false, some false, some false, some false, some false, some false] : List (Option Bool)).getD n none
def kt_NotComparable (n : Nat) : Option Bool := ([none, none, none, some false, some false, some false, some false, some false, some false, some false, some false, some false, some false, some false, some true, some false, some false, some false, some false] : List (Option Bool)).getD n none
def kt_UnknownIndex (n : Nat) : Option Bool := ([none, none, none, some false, some false, some false, some false, some false, some false, some false, some false, some false, some false, some false, some false, some false, some false, some true, some false] : List (Option Bool)).getD n none
def kt_UnknownKnob (n : Nat) : Option Bool := ([none, none, none, some false, some false, some false, some false, some false, some false, some false, some false, some false, some false, some false, some false, some false, some true, some false, some false] : List (Option Bool)).getD n none
def kt_ValueError (n : Nat) : Option Bool := ([none, none, none, some true, some true, some true, some true, some true, some true, some true, some true, some true, some true, some true, some true, some true, some true, some true, some true] : List (Option Bool)).getD n none
/-- _law_mix: _law_script, _law_seed, _law_state, _law_cell -/
def f__law_mix : MF := fnS 2 4 (sSeq (sSet 2 (xVar 1))
  (sSeq (sFor (ySeq (xVar 0)) (.n 3) (sSet 2 (x2 gMod (xB gInt (aCons (x2 gAdd (x2 gAdd (x2 gMulA (xVar 2) (xC (.int 48271))) (x2 gMod (xB gInt (aCons (xVar 3) (aNil))) (xC (.int 2147483629)))) (xC (.int 1))) (aNil))) (xC (.int 2147483647)))))
  (sRet (xLst (aCons (xVar 2) (aCons (xB gListA (aCons (xVar 0) (aNil))) (aCons (xC (.int 0)) (aCons (xC (.int 14)) (aNil)))))))))
/-- _law_next: _law_h, _law_bound, _law_cell -/
def f__law_next : MF := fnS 2 3 (sSeq (sSet 2 (x2 gIxA (x2 gAdd (x2 gIxA (xVar 0) (xC (.int 1))) (xLst (aCons (xC (.int 0)) (aNil)))) (x2 gMod (xB gInt (aCons (x2 gIxA (xVar 0) (xC (.int 2))) (aNil))) (xB gMax2 (aCons (xC (.int 1)) (aCons (xB gLen (aCons (x2 gIxA (xVar 0) (xC (.int 1))) (aNil))) (aNil)))))))
  (sSeq (sIf (tB1 (x2 gGe (xVar 2) (x2 gPow (xC (.int 10)) (xC (.int 18))))) (sSeq (sPut gPutA (x2 gIxA (xVar 0) (xC (.int 1))) (x2 gMod (xB gInt (aCons (x2 gIxA (xVar 0) (xC (.int 2))) (aNil))) (xB gLen (aCons (x2 gIxA (xVar 0) (xC (.int 1))) (aNil)))) (x2 gDiv (xVar 2) (xVar 1)))
  (sRet (x2 gMod (xB gInt (aCons (xVar 2) (aNil))) (xVar 1)))) (sPass))
  (sSeq (sPut gPutA (xVar 0) (xC (.int 0)) (x2 gMod (xB gInt (aCons (x2 gAdd (x2 gAdd (x2 gMulA (x2 gIxA (xVar 0) (xC (.int 0))) (xC (.int 48271))) (x2 gMulA (xVar 2) (xC (.int 69621)))) (xC (.int 11))) (aNil))) (xC (.int 2147483647))))
  (sSeq (sPut gPutA (xVar 0) (xC (.int 2)) (x2 gAdd (x2 gIxA (xVar 0) (xC (.int 2))) (xC (.int 1))))
  (sRet (x2 gMod (xB gInt (aCons (x2 gDiv (x2 gIxA (xVar 0) (xC (.int 0))) (xC (.int 7))) (aNil))) (xVar 1)))))))
/-- _law_bare: _law_k -/
def f__law_bare : MF := fnS 1 1 (sSeq (sIf (tB1 (x2 gEq (xVar 0) (xC (.int 0)))) (sRaise0 4) (sPass))
  (sSeq (sIf (tB1 (x2 gEq (xVar 0) (xC (.int 1)))) (sRaise0 7) (sPass))
  (sSeq (sIf (tB1 (x2 gEq (xVar 0) (xC (.int 2)))) (sRaise0 8) (sPass))
  (sSeq (sIf (tB1 (x2 gEq (xVar 0) (xC (.int 3)))) (sRaise0 9) (sPass))
  (sSeq (sIf (tB1 (x2 gEq (xVar 0) (xC (.int 4)))) (sRaise0 10) (sPass))
  (sSeq (sIf (tB1 (x2 gEq (xVar 0) (xC (.int 5)))) (sRaise0 11) (sPass))
  (sSeq (sIf (tB1 (x2 gEq (xVar 0) (xC (.int 6)))) (sRaise0 14) (sPass))
  (sSeq (sIf (tB1 (x2 gEq (xVar 0) (xC (.int 7)))) (sRaise0 13) (sPass))
  (sSeq (sIf (tB1 (x2 gEq (xVar 0) (xC (.int 8)))) (sRaise0 12) (sPass))
  (sSeq (sIf (tB1 (x2 gEq (xVar 0) (xC (.int 9)))) (sRaise0 15) (sPass))
  (sRaise0 16)))))))))))
/-- _law_thrown: _law_k, _law_one, _law_two -/
def f__law_thrown : MF := fnS 3 3 (sSeq (sIf (tB1 (x2 gLt (xVar 0) (xC (.int 11)))) (sExpr (xCall 1 f__law_bare (aCons (xVar 0) (aNil)))) (sPass))
  (sSeq (sIf (tB1 (x2 gEq (xVar 0) (xC (.int 11)))) (sRaise 5 1 (aCons (xVar 1) (aNil))) (sPass))
  (sSeq (sIf (tB1 (x2 gEq (xVar 0) (xC (.int 12)))) (sRaise 6 1 (aCons (xVar 1) (aNil))) (sPass))
  (sSeq (sIf (tB1 (x2 gEq (xVar 0) (xC (.int 13)))) (sRaise 17 1 (aCons (xVar 1) (aNil))) (sPass))
  (sRaise 18 2 (aCons (xVar 1) (aCons (xVar 2) (aNil))))))))
/-- _law_classes: _law_e, _law_found -/
def f__law_classes (a : Addr) (d : Option Addr) (c : Nat) : MF := fnS 1 2 (sSeq (sSet 1 (xLst (aCons (xIsE a d c kt_InvalidManuals (xVar 0)) (aCons (xIsE a d c kt_InvalidChain (xVar 0)) (aCons (xIsE a d c kt_InvalidOctave (xVar 0)) (aNil))))))
  (sSeq (sSet 1 (x2 gAdd (xVar 1) (xLst (aCons (xIsE a d c kt_InvalidTop (xVar 0)) (aCons (xIsE a d c kt_InvalidKey (xVar 0)) (aCons (xIsE a d c kt_InvalidPipe (xVar 0)) (aNil)))))))
  (sSeq (sSet 1 (x2 gAdd (xVar 1) (xLst (aCons (xIsE a d c kt_NotComparable (xVar 0)) (aCons (xIsE a d c kt_InvalidManual (xVar 0)) (aCons (xIsE a d c kt_InvalidRank (xVar 0)) (aNil)))))))
  (sSeq (sSet 1 (x2 gAdd (xVar 1) (xLst (aCons (xIsE a d c kt_InvalidMove (xVar 0)) (aCons (xIsE a d c kt_UnknownKnob (xVar 0)) (aCons (xIsE a d c kt_InvalidCoupler (xVar 0)) (aNil)))))))
  (sRet (x2 gAdd (xVar 1) (xLst (aCons (xIsE a d c kt_InvalidStop (xVar 0)) (aCons (xIsE a d c kt_UnknownIndex (xVar 0)) (aCons (xIsE a d c kt_InvalidText (xVar 0)) (aNil)))))))))))
/-- _law_parts: _law_k, _law_e -/
def f__law_parts (a : Addr) (d : Option Addr) (c : Nat) : MF := fnS 2 2 (sSeq (sIf (tB1 (x2 gLt (xVar 0) (xC (.int 11)))) (sRet (xLst (aNil))) (sPass))
  (sRet (xIf (tB1 (x2 gLt (xVar 0) (xC (.int 14)))) (xLst (aCons (xXf2 cN a d c xt_index "index" (xVar 1)) (aNil))) (xLst (aCons (xXf2 cN a d c xt_line "line" (xVar 1)) (aCons (xXf2 cN a d c xt_word "word" (xVar 1)) (aNil)))))))
/-- _law_right: _law_k, _law_one, _law_two, _law_good, _law_due, _law_e, _law_other -/
noncomputable def f__law_right : MF := fnS 3 7 (sSeq (sSet 3 (xC (.bl false)))
  (sSeq (sSet 4 (x2 gAdd (xCut (xLst (aCons (xVar 1) (aNil))) (oNone) (oSome (xB gInt (aCons (x2 gGt (xVar 0) (xC (.int 10))) (aNil))))) (xCut (xLst (aCons (xVar 2) (aNil))) (oNone) (oSome (xB gInt (aCons (x2 gGt (xVar 0) (xC (.int 13))) (aNil)))))))
  (sSeq (sTry cN (sExpr (xCall 3 f__law_thrown (aCons (xVar 0) (aCons (xVar 1) (aCons (xVar 2) (aNil)))))) [⟨mt_OrganError, some 5, fun a d c fs => sSeq (sSet 3 (xAnd (xIsE a d c kt_ValueError (xVar 5)) (x2 gEq (xCall 1 (f__law_classes a d c) (aCons (xVar 5) (aNil))) (xLc (yRg1 (xC (.int 15))) [6] (.n 6) (tTrue) (x2 gEq (xVar 6) (xVar 0))))))
  (sSet 3 (xAnd (xVar 3) (x2 gEq (xCall 2 (f__law_parts a d c) (aCons (xVar 0) (aCons (xVar 5) (aNil)))) (xVar 4))))⟩])
  (sRet (xVar 3)))))
/-- law: _law_script, _law_h, _law_one, _law_two, _law_k -/
noncomputable def f_law : MF := fnS 1 5 (sSeq (sSet 1 (xCall 2 f__law_mix (aCons (xVar 0) (aCons (xC (.int 16)) (aNil)))))
  (sSeq (sSet 2 (x2 gIxA (xLst (aCons (xC (.str "a")) (aCons (xC (.str "")) (aCons (xC (.int 7)) (aCons (xTup (aCons (xC (.str "stop")) (aCons (xC (.int 0)) (aNil)))) (aCons (xC .non) (aNil))))))) (xCall 2 f__law_next (aCons (xVar 1) (aCons (xC (.int 5)) (aNil))))))
  (sSeq (sSet 3 (x2 gIxA (xLst (aCons (xTup (aNil)) (aCons (xC (.str "kind")) (aCons (xC (.int 0)) (aCons (xC .non) (aNil)))))) (xCall 2 f__law_next (aCons (xVar 1) (aCons (xC (.int 4)) (aNil))))))
  (sRet (xB gAll (aCons (xLc (yRg1 (xC (.int 15))) [4] (.n 4) (tTrue) (xCall 3 f__law_right (aCons (xVar 4) (aCons (xVar 2) (aCons (xVar 3) (aNil)))))) (aNil)))))))
def d__law_mix : DefP := ⟨⟨("_law_mix", none), "_law_mix", "_law_mix", defArgs (top 18), defBody (top 18), defScope (top 18), [], []⟩, false⟩
def d__law_next : DefP := ⟨⟨("_law_next", none), "_law_next", "_law_next", defArgs (top 19), defBody (top 19), defScope (top 19), [], []⟩, false⟩
def d__law_bare : DefP := ⟨⟨("_law_bare", none), "_law_bare", "_law_bare", defArgs (top 20), defBody (top 20), defScope (top 20), [], []⟩, false⟩
def d_InvalidCoupler_init : DefP := ⟨⟨("InvalidCoupler", some "__init__"), "__init__", "InvalidCoupler.__init__", defArgs (inCls (top 3) 0), defBody (inCls (top 3) 0), defScope (inCls (top 3) 0), [], []⟩, false⟩
def d_InvalidStop_init : DefP := ⟨⟨("InvalidStop", some "__init__"), "__init__", "InvalidStop.__init__", defArgs (inCls (top 4) 0), defBody (inCls (top 4) 0), defScope (inCls (top 4) 0), [], []⟩, false⟩
def d_UnknownIndex_init : DefP := ⟨⟨("UnknownIndex", some "__init__"), "__init__", "UnknownIndex.__init__", defArgs (inCls (top 7) 0), defBody (inCls (top 7) 0), defScope (inCls (top 7) 0), [], []⟩, false⟩
def d_InvalidText_init : DefP := ⟨⟨("InvalidText", some "__init__"), "__init__", "InvalidText.__init__", defArgs (inCls (top 16) 0), defBody (inCls (top 16) 0), defScope (inCls (top 16) 0), [], []⟩, false⟩
def d__law_thrown : DefP := ⟨⟨("_law_thrown", none), "_law_thrown", "_law_thrown", defArgs (top 21), defBody (top 21), defScope (top 21), [], []⟩, false⟩
def d__law_classes : DefP := ⟨⟨("_law_classes", none), "_law_classes", "_law_classes", defArgs (top 22), defBody (top 22), defScope (top 22), [], []⟩, false⟩
def d__law_parts : DefP := ⟨⟨("_law_parts", none), "_law_parts", "_law_parts", defArgs (top 23), defBody (top 23), defScope (top 23), [], []⟩, false⟩
def d__law_right : DefP := ⟨⟨("_law_right", none), "_law_right", "_law_right", defArgs (top 24), defBody (top 24), defScope (top 24), [], []⟩, false⟩
def d_law : DefP := ⟨⟨("law", none), "law", "law", defArgs (top 25), defBody (top 25), defScope (top 25), [], []⟩, false⟩
def fn : List DefP := [d__law_mix, d__law_next, d__law_bare, d_InvalidCoupler_init, d_InvalidStop_init, d_UnknownIndex_init, d_InvalidText_init, d__law_thrown, d__law_classes, d__law_parts, d__law_right, d_law]
def fa : List Fx := [.he (.free "int"),
  .he (.free "list"),
  .he (.free "len"),
  .he (.free "max"),
  .he (.free "range"),
  .he (.glo "InvalidManuals"),
  .he (.exc "InvalidManuals"),
  .he (.glo "InvalidChain"),
  .he (.exc "InvalidChain"),
  .he (.glo "InvalidOctave"),
  .he (.exc "InvalidOctave"),
  .he (.glo "InvalidTop"),
  .he (.exc "InvalidTop"),
  .he (.glo "InvalidKey"),
  .he (.exc "InvalidKey"),
  .he (.glo "InvalidPipe"),
  .he (.exc "InvalidPipe"),
  .he (.glo "NotComparable"),
  .he (.exc "NotComparable"),
  .he (.glo "InvalidManual"),
  .he (.exc "InvalidManual"),
  .he (.glo "InvalidRank"),
  .he (.exc "InvalidRank"),
  .he (.glo "InvalidMove"),
  .he (.exc "InvalidMove"),
  .he (.glo "UnknownKnob"),
  .he (.exc "UnknownKnob"),
  .he (.glo "InvalidCoupler"),
  .oex "InvalidCoupler" ["index"],
  .he (.glo "InvalidStop"),
  .oex "InvalidStop" ["index"],
  .he (.glo "UnknownIndex"),
  .oex "UnknownIndex" ["index"],
  .he (.glo "InvalidText"),
  .oex "InvalidText" ["line", "word"],
  .he (.glo "OrganError"),
  .he (.exc "OrganError"),
  .he (.free "ValueError"),
  .he (.free "isinstance"),
  .he (.free "all"),
  .he (.exm "OrganError" "OrganError" true),
  .he (.exm "InvalidManuals" "OrganError" true),
  .he (.exm "InvalidCoupler" "OrganError" true),
  .he (.exm "InvalidStop" "OrganError" true),
  .he (.exm "InvalidChain" "OrganError" true),
  .he (.exm "InvalidOctave" "OrganError" true),
  .he (.exm "InvalidTop" "OrganError" true),
  .he (.exm "InvalidKey" "OrganError" true),
  .he (.exm "InvalidPipe" "OrganError" true),
  .he (.exm "InvalidRank" "OrganError" true),
  .he (.exm "InvalidManual" "OrganError" true),
  .he (.exm "NotComparable" "OrganError" true),
  .he (.exm "InvalidMove" "OrganError" true),
  .he (.exm "UnknownKnob" "OrganError" true),
  .he (.exm "UnknownIndex" "OrganError" true),
  .he (.exm "InvalidText" "OrganError" true),
  .xfd "InvalidCoupler" "index",
  .xfd "InvalidStop" "index",
  .xfd "UnknownIndex" "index",
  .xfd "InvalidText" "line",
  .xfd "InvalidText" "word",
  .kit "OrganError" "InvalidChain" false,
  .kit "InvalidManuals" "InvalidChain" false,
  .kit "InvalidCoupler" "InvalidChain" false,
  .kit "InvalidStop" "InvalidChain" false,
  .kit "InvalidChain" "InvalidChain" true,
  .kit "InvalidOctave" "InvalidChain" false,
  .kit "InvalidTop" "InvalidChain" false,
  .kit "InvalidKey" "InvalidChain" false,
  .kit "InvalidPipe" "InvalidChain" false,
  .kit "InvalidRank" "InvalidChain" false,
  .kit "InvalidManual" "InvalidChain" false,
  .kit "NotComparable" "InvalidChain" false,
  .kit "InvalidMove" "InvalidChain" false,
  .kit "UnknownKnob" "InvalidChain" false,
  .kit "UnknownIndex" "InvalidChain" false,
  .kit "InvalidText" "InvalidChain" false,
  .kit "OrganError" "InvalidCoupler" false,
  .kit "InvalidManuals" "InvalidCoupler" false,
  .kit "InvalidCoupler" "InvalidCoupler" true,
  .kit "InvalidStop" "InvalidCoupler" false,
  .kit "InvalidChain" "InvalidCoupler" false,
  .kit "InvalidOctave" "InvalidCoupler" false,
  .kit "InvalidTop" "InvalidCoupler" false,
  .kit "InvalidKey" "InvalidCoupler" false,
  .kit "InvalidPipe" "InvalidCoupler" false,
  .kit "InvalidRank" "InvalidCoupler" false,
  .kit "InvalidManual" "InvalidCoupler" false,
  .kit "NotComparable" "InvalidCoupler" false,
  .kit "InvalidMove" "InvalidCoupler" false,
  .kit "UnknownKnob" "InvalidCoupler" false,
  .kit "UnknownIndex" "InvalidCoupler" false,
  .kit "InvalidText" "InvalidCoupler" false,
  .kit "OrganError" "InvalidKey" false,
  .kit "InvalidManuals" "InvalidKey" false,
  .kit "InvalidCoupler" "InvalidKey" false,
  .kit "InvalidStop" "InvalidKey" false,
  .kit "InvalidChain" "InvalidKey" false,
  .kit "InvalidOctave" "InvalidKey" false,
  .kit "InvalidTop" "InvalidKey" false,
  .kit "InvalidKey" "InvalidKey" true,
  .kit "InvalidPipe" "InvalidKey" false,
  .kit "InvalidRank" "InvalidKey" false,
  .kit "InvalidManual" "InvalidKey" false,
  .kit "NotComparable" "InvalidKey" false,
  .kit "InvalidMove" "InvalidKey" false,
  .kit "UnknownKnob" "InvalidKey" false,
  .kit "UnknownIndex" "InvalidKey" false,
  .kit "InvalidText" "InvalidKey" false,
  .kit "OrganError" "InvalidManual" false,
  .kit "InvalidManuals" "InvalidManual" false,
  .kit "InvalidCoupler" "InvalidManual" false,
  .kit "InvalidStop" "InvalidManual" false,
  .kit "InvalidChain" "InvalidManual" false,
  .kit "InvalidOctave" "InvalidManual" false,
  .kit "InvalidTop" "InvalidManual" false,
  .kit "InvalidKey" "InvalidManual" false,
  .kit "InvalidPipe" "InvalidManual" false,
  .kit "InvalidRank" "InvalidManual" false,
  .kit "InvalidManual" "InvalidManual" true,
  .kit "NotComparable" "InvalidManual" false,
  .kit "InvalidMove" "InvalidManual" false,
  .kit "UnknownKnob" "InvalidManual" false,
  .kit "UnknownIndex" "InvalidManual" false,
  .kit "InvalidText" "InvalidManual" false,
  .kit "OrganError" "InvalidManuals" false,
  .kit "InvalidManuals" "InvalidManuals" true,
  .kit "InvalidCoupler" "InvalidManuals" false,
  .kit "InvalidStop" "InvalidManuals" false,
  .kit "InvalidChain" "InvalidManuals" false,
  .kit "InvalidOctave" "InvalidManuals" false,
  .kit "InvalidTop" "InvalidManuals" false,
  .kit "InvalidKey" "InvalidManuals" false,
  .kit "InvalidPipe" "InvalidManuals" false,
  .kit "InvalidRank" "InvalidManuals" false,
  .kit "InvalidManual" "InvalidManuals" false,
  .kit "NotComparable" "InvalidManuals" false,
  .kit "InvalidMove" "InvalidManuals" false,
  .kit "UnknownKnob" "InvalidManuals" false,
  .kit "UnknownIndex" "InvalidManuals" false,
  .kit "InvalidText" "InvalidManuals" false,
  .kit "OrganError" "InvalidMove" false,
  .kit "InvalidManuals" "InvalidMove" false,
  .kit "InvalidCoupler" "InvalidMove" false,
  .kit "InvalidStop" "InvalidMove" false,
  .kit "InvalidChain" "InvalidMove" false,
  .kit "InvalidOctave" "InvalidMove" false,
  .kit "InvalidTop" "InvalidMove" false,
  .kit "InvalidKey" "InvalidMove" false,
  .kit "InvalidPipe" "InvalidMove" false,
  .kit "InvalidRank" "InvalidMove" false,
  .kit "InvalidManual" "InvalidMove" false,
  .kit "NotComparable" "InvalidMove" false,
  .kit "InvalidMove" "InvalidMove" true,
  .kit "UnknownKnob" "InvalidMove" false,
  .kit "UnknownIndex" "InvalidMove" false,
  .kit "InvalidText" "InvalidMove" false,
  .kit "OrganError" "InvalidOctave" false,
  .kit "InvalidManuals" "InvalidOctave" false,
  .kit "InvalidCoupler" "InvalidOctave" false,
  .kit "InvalidStop" "InvalidOctave" false,
  .kit "InvalidChain" "InvalidOctave" false,
  .kit "InvalidOctave" "InvalidOctave" true,
  .kit "InvalidTop" "InvalidOctave" false,
  .kit "InvalidKey" "InvalidOctave" false,
  .kit "InvalidPipe" "InvalidOctave" false,
  .kit "InvalidRank" "InvalidOctave" false,
  .kit "InvalidManual" "InvalidOctave" false,
  .kit "NotComparable" "InvalidOctave" false,
  .kit "InvalidMove" "InvalidOctave" false,
  .kit "UnknownKnob" "InvalidOctave" false,
  .kit "UnknownIndex" "InvalidOctave" false,
  .kit "InvalidText" "InvalidOctave" false,
  .kit "OrganError" "InvalidPipe" false,
  .kit "InvalidManuals" "InvalidPipe" false,
  .kit "InvalidCoupler" "InvalidPipe" false,
  .kit "InvalidStop" "InvalidPipe" false,
  .kit "InvalidChain" "InvalidPipe" false,
  .kit "InvalidOctave" "InvalidPipe" false,
  .kit "InvalidTop" "InvalidPipe" false,
  .kit "InvalidKey" "InvalidPipe" false,
  .kit "InvalidPipe" "InvalidPipe" true,
  .kit "InvalidRank" "InvalidPipe" false,
  .kit "InvalidManual" "InvalidPipe" false,
  .kit "NotComparable" "InvalidPipe" false,
  .kit "InvalidMove" "InvalidPipe" false,
  .kit "UnknownKnob" "InvalidPipe" false,
  .kit "UnknownIndex" "InvalidPipe" false,
  .kit "InvalidText" "InvalidPipe" false,
  .kit "OrganError" "InvalidRank" false,
  .kit "InvalidManuals" "InvalidRank" false,
  .kit "InvalidCoupler" "InvalidRank" false,
  .kit "InvalidStop" "InvalidRank" false,
  .kit "InvalidChain" "InvalidRank" false,
  .kit "InvalidOctave" "InvalidRank" false,
  .kit "InvalidTop" "InvalidRank" false,
  .kit "InvalidKey" "InvalidRank" false,
  .kit "InvalidPipe" "InvalidRank" false,
  .kit "InvalidRank" "InvalidRank" true,
  .kit "InvalidManual" "InvalidRank" false,
  .kit "NotComparable" "InvalidRank" false,
  .kit "InvalidMove" "InvalidRank" false,
  .kit "UnknownKnob" "InvalidRank" false,
  .kit "UnknownIndex" "InvalidRank" false,
  .kit "InvalidText" "InvalidRank" false,
  .kit "OrganError" "InvalidStop" false,
  .kit "InvalidManuals" "InvalidStop" false,
  .kit "InvalidCoupler" "InvalidStop" false,
  .kit "InvalidStop" "InvalidStop" true,
  .kit "InvalidChain" "InvalidStop" false,
  .kit "InvalidOctave" "InvalidStop" false,
  .kit "InvalidTop" "InvalidStop" false,
  .kit "InvalidKey" "InvalidStop" false,
  .kit "InvalidPipe" "InvalidStop" false,
  .kit "InvalidRank" "InvalidStop" false,
  .kit "InvalidManual" "InvalidStop" false,
  .kit "NotComparable" "InvalidStop" false,
  .kit "InvalidMove" "InvalidStop" false,
  .kit "UnknownKnob" "InvalidStop" false,
  .kit "UnknownIndex" "InvalidStop" false,
  .kit "InvalidText" "InvalidStop" false,
  .kit "OrganError" "InvalidText" false,
  .kit "InvalidManuals" "InvalidText" false,
  .kit "InvalidCoupler" "InvalidText" false,
  .kit "InvalidStop" "InvalidText" false,
  .kit "InvalidChain" "InvalidText" false,
  .kit "InvalidOctave" "InvalidText" false,
  .kit "InvalidTop" "InvalidText" false,
  .kit "InvalidKey" "InvalidText" false,
  .kit "InvalidPipe" "InvalidText" false,
  .kit "InvalidRank" "InvalidText" false,
  .kit "InvalidManual" "InvalidText" false,
  .kit "NotComparable" "InvalidText" false,
  .kit "InvalidMove" "InvalidText" false,
  .kit "UnknownKnob" "InvalidText" false,
  .kit "UnknownIndex" "InvalidText" false,
  .kit "InvalidText" "InvalidText" true,
  .kit "OrganError" "InvalidTop" false,
  .kit "InvalidManuals" "InvalidTop" false,
  .kit "InvalidCoupler" "InvalidTop" false,
  .kit "InvalidStop" "InvalidTop" false,
  .kit "InvalidChain" "InvalidTop" false,
  .kit "InvalidOctave" "InvalidTop" false,
  .kit "InvalidTop" "InvalidTop" true,
  .kit "InvalidKey" "InvalidTop" false,
  .kit "InvalidPipe" "InvalidTop" false,
  .kit "InvalidRank" "InvalidTop" false,
  .kit "InvalidManual" "InvalidTop" false,
  .kit "NotComparable" "InvalidTop" false,
  .kit "InvalidMove" "InvalidTop" false,
  .kit "UnknownKnob" "InvalidTop" false,
  .kit "UnknownIndex" "InvalidTop" false,
  .kit "InvalidText" "InvalidTop" false,
  .kit "OrganError" "NotComparable" false,
  .kit "InvalidManuals" "NotComparable" false,
  .kit "InvalidCoupler" "NotComparable" false,
  .kit "InvalidStop" "NotComparable" false,
  .kit "InvalidChain" "NotComparable" false,
  .kit "InvalidOctave" "NotComparable" false,
  .kit "InvalidTop" "NotComparable" false,
  .kit "InvalidKey" "NotComparable" false,
  .kit "InvalidPipe" "NotComparable" false,
  .kit "InvalidRank" "NotComparable" false,
  .kit "InvalidManual" "NotComparable" false,
  .kit "NotComparable" "NotComparable" true,
  .kit "InvalidMove" "NotComparable" false,
  .kit "UnknownKnob" "NotComparable" false,
  .kit "UnknownIndex" "NotComparable" false,
  .kit "InvalidText" "NotComparable" false,
  .kit "OrganError" "UnknownIndex" false,
  .kit "InvalidManuals" "UnknownIndex" false,
  .kit "InvalidCoupler" "UnknownIndex" false,
  .kit "InvalidStop" "UnknownIndex" false,
  .kit "InvalidChain" "UnknownIndex" false,
  .kit "InvalidOctave" "UnknownIndex" false,
  .kit "InvalidTop" "UnknownIndex" false,
  .kit "InvalidKey" "UnknownIndex" false,
  .kit "InvalidPipe" "UnknownIndex" false,
  .kit "InvalidRank" "UnknownIndex" false,
  .kit "InvalidManual" "UnknownIndex" false,
  .kit "NotComparable" "UnknownIndex" false,
  .kit "InvalidMove" "UnknownIndex" false,
  .kit "UnknownKnob" "UnknownIndex" false,
  .kit "UnknownIndex" "UnknownIndex" true,
  .kit "InvalidText" "UnknownIndex" false,
  .kit "OrganError" "UnknownKnob" false,
  .kit "InvalidManuals" "UnknownKnob" false,
  .kit "InvalidCoupler" "UnknownKnob" false,
  .kit "InvalidStop" "UnknownKnob" false,
  .kit "InvalidChain" "UnknownKnob" false,
  .kit "InvalidOctave" "UnknownKnob" false,
  .kit "InvalidTop" "UnknownKnob" false,
  .kit "InvalidKey" "UnknownKnob" false,
  .kit "InvalidPipe" "UnknownKnob" false,
  .kit "InvalidRank" "UnknownKnob" false,
  .kit "InvalidManual" "UnknownKnob" false,
  .kit "NotComparable" "UnknownKnob" false,
  .kit "InvalidMove" "UnknownKnob" false,
  .kit "UnknownKnob" "UnknownKnob" true,
  .kit "UnknownIndex" "UnknownKnob" false,
  .kit "InvalidText" "UnknownKnob" false,
  .kitT "OrganError" "ValueError" true,
  .kitT "InvalidManuals" "ValueError" true,
  .kitT "InvalidCoupler" "ValueError" true,
  .kitT "InvalidStop" "ValueError" true,
  .kitT "InvalidChain" "ValueError" true,
  .kitT "InvalidOctave" "ValueError" true,
  .kitT "InvalidTop" "ValueError" true,
  .kitT "InvalidKey" "ValueError" true,
  .kitT "InvalidPipe" "ValueError" true,
  .kitT "InvalidRank" "ValueError" true,
  .kitT "InvalidManual" "ValueError" true,
  .kitT "NotComparable" "ValueError" true,
  .kitT "InvalidMove" "ValueError" true,
  .kitT "UnknownKnob" "ValueError" true,
  .kitT "UnknownIndex" "ValueError" true,
  .kitT "InvalidText" "ValueError" true,
  .xcc "OrganError",
  .xcc "InvalidManuals",
  .xcc "InvalidCoupler",
  .xcc "InvalidStop",
  .xcc "InvalidChain",
  .xcc "InvalidOctave",
  .xcc "InvalidTop",
  .xcc "InvalidKey",
  .xcc "InvalidPipe",
  .xcc "InvalidRank",
  .xcc "InvalidManual",
  .xcc "NotComparable",
  .xcc "InvalidMove",
  .xcc "UnknownKnob",
  .xcc "UnknownIndex",
  .xcc "InvalidText",
  .he (.glo "_law_mix"),
  .he (.glo "_law_next"),
  .he (.glo "_law_bare"),
  .he (.glo "_law_thrown"),
  .he (.glo "_law_classes"),
  .he (.glo "_law_parts"),
  .he (.glo "_law_right"),
  .he (.glo "law")]
structure Fct (K : PySem.W.Frag) (mg : Str → Option Value) : Prop where
  h : ∃ h : Heap, K.In h ∧ h.Ns mainGlobals mg
  c : SaysM fa fn K
theorem u64 {k : Nat} {A : Around} (hr : Room k A) : A.units + 64 < cLine := by have := hr.un; omega
theorem u64m {k : Nat} {A : Around} {h : Option Value} (hr : Room k A) : (A.mark h).units + 64 < cLine := by have := hr.un; show A.units + 64 < cLine; omega
section
variable {K : PySem.W.Frag} {mg : Str → Option Value} {x f : Str} {d : D} {i : Nat}
theorem Fct.free (T : Fct K mg) (n : Nat) (e : fa[n]? = some (.he (.free x)) := by rfl) : mg x = none := let ⟨_, X, G⟩ := T.h; fx_free X G (T.c.fact n e)
theorem Fct.glo (T : Fct K mg) (n : Nat) (e : fa[n]? = some (.he (.glo x)) := by rfl) : mg x = some (.ref (He.ga K x)) := let ⟨_, X, G⟩ := T.h; fx_glo X G (T.c.fact n e)
theorem Fct.cst (T : Fct K mg) (n : Nat) (e : fa[n]? = some (.cst x d) := by rfl) : CstOk K mg x d := let ⟨_, X, G⟩ := T.h; fx_cst X G (T.c.fact n e)
theorem Fct.exc (T : Fct K mg) (n m : Nat) (e : fa[n]? = some (.he (.glo x)) := by rfl) (e2 : fa[m]? = some (.he (.exc x)) := by rfl) : Rz0 K mg (He.ga K x) x := let ⟨_, X, G⟩ := T.h; fx_exc X G (T.c.fact n e) (T.c.fact m e2)
theorem Fct.scl (T : Fct K mg) (n : Nat) (e : fa[n]? = some (.slc x) := by rfl) : SlX.SCls K (He.ga K x) := fx_scl (T.c.fact n e)
theorem Fct.slt (T : Fct K mg) (n m : Nat) (e : fa[n]? = some (.slc x) := by rfl) (e2 : fa[m]? = some (.slt x f i) := by rfl) : SlF K (He.ga K x) f i := fx_slt (T.c.fact n e) (T.c.fact m e2)
theorem Fct.mx_OrganError (T : Fct K mg) (c : Nat) (b : Bool) (h : mt_OrganError c = some b) : PySem.W.exmOne K (.ref ((GmK K).cA c)) (.ref (He.ga K "OrganError")) = some b := by
  unfold mt_OrganError at h
  match c, h with
  | 0, h => cases h
  | 1, h => cases h
  | 2, h => cases h
  | 3, h => cases h; exact He.exm_ok (T.c.fact 40 (f := .he (.exm "OrganError" "OrganError" true)))
  | 4, h => cases h; exact He.exm_ok (T.c.fact 41 (f := .he (.exm "InvalidManuals" "OrganError" true)))
  | 5, h => cases h; exact He.exm_ok (T.c.fact 42 (f := .he (.exm "InvalidCoupler" "OrganError" true)))
  | 6, h => cases h; exact He.exm_ok (T.c.fact 43 (f := .he (.exm "InvalidStop" "OrganError" true)))
  | 7, h => cases h; exact He.exm_ok (T.c.fact 44 (f := .he (.exm "InvalidChain" "OrganError" true)))
  | 8, h => cases h; exact He.exm_ok (T.c.fact 45 (f := .he (.exm "InvalidOctave" "OrganError" true)))
  | 9, h => cases h; exact He.exm_ok (T.c.fact 46 (f := .he (.exm "InvalidTop" "OrganError" true)))
  | 10, h => cases h; exact He.exm_ok (T.c.fact 47 (f := .he (.exm "InvalidKey" "OrganError" true)))
  | 11, h => cases h; exact He.exm_ok (T.c.fact 48 (f := .he (.exm "InvalidPipe" "OrganError" true)))
  | 12, h => cases h; exact He.exm_ok (T.c.fact 49 (f := .he (.exm "InvalidRank" "OrganError" true)))
  | 13, h => cases h; exact He.exm_ok (T.c.fact 50 (f := .he (.exm "InvalidManual" "OrganError" true)))
  | 14, h => cases h; exact He.exm_ok (T.c.fact 51 (f := .he (.exm "NotComparable" "OrganError" true)))
  | 15, h => cases h; exact He.exm_ok (T.c.fact 52 (f := .he (.exm "InvalidMove" "OrganError" true)))
  | 16, h => cases h; exact He.exm_ok (T.c.fact 53 (f := .he (.exm "UnknownKnob" "OrganError" true)))
  | 17, h => cases h; exact He.exm_ok (T.c.fact 54 (f := .he (.exm "UnknownIndex" "OrganError" true)))
  | 18, h => cases h; exact He.exm_ok (T.c.fact 55 (f := .he (.exm "InvalidText" "OrganError" true)))
  | n + 19, h => simp at h
theorem Fct.kx_InvalidChain (T : Fct K mg) (c : Nat) (b : Bool) (h : kt_InvalidChain c = some b) : XcC K ((GmK K).cA c) ∧ PySem.W.kitOne K (.ref ((GmK K).cA c)) (.ref (He.ga K "InvalidChain")) = some b := by
  unfold kt_InvalidChain at h
  match c, h with
  | 0, h => cases h
  | 1, h => cases h
  | 2, h => cases h
  | 3, h => cases h; exact ⟨fx_xcc (x := "OrganError") (T.c.fact 317 (f := .xcc "OrganError")), of_decide_eq_true (T.c.fact 61 (f := .kit "OrganError" "InvalidChain" false))⟩
  | 4, h => cases h; exact ⟨fx_xcc (x := "InvalidManuals") (T.c.fact 318 (f := .xcc "InvalidManuals")), of_decide_eq_true (T.c.fact 62 (f := .kit "InvalidManuals" "InvalidChain" false))⟩
  | 5, h => cases h; exact ⟨fx_xcc (x := "InvalidCoupler") (T.c.fact 319 (f := .xcc "InvalidCoupler")), of_decide_eq_true (T.c.fact 63 (f := .kit "InvalidCoupler" "InvalidChain" false))⟩
  | 6, h => cases h; exact ⟨fx_xcc (x := "InvalidStop") (T.c.fact 320 (f := .xcc "InvalidStop")), of_decide_eq_true (T.c.fact 64 (f := .kit "InvalidStop" "InvalidChain" false))⟩
  | 7, h => cases h; exact ⟨fx_xcc (x := "InvalidChain") (T.c.fact 321 (f := .xcc "InvalidChain")), of_decide_eq_true (T.c.fact 65 (f := .kit "InvalidChain" "InvalidChain" true))⟩
  | 8, h => cases h; exact ⟨fx_xcc (x := "InvalidOctave") (T.c.fact 322 (f := .xcc "InvalidOctave")), of_decide_eq_true (T.c.fact 66 (f := .kit "InvalidOctave" "InvalidChain" false))⟩
  | 9, h => cases h; exact ⟨fx_xcc (x := "InvalidTop") (T.c.fact 323 (f := .xcc "InvalidTop")), of_decide_eq_true (T.c.fact 67 (f := .kit "InvalidTop" "InvalidChain" false))⟩
  | 10, h => cases h; exact ⟨fx_xcc (x := "InvalidKey") (T.c.fact 324 (f := .xcc "InvalidKey")), of_decide_eq_true (T.c.fact 68 (f := .kit "InvalidKey" "InvalidChain" false))⟩
  | 11, h => cases h; exact ⟨fx_xcc (x := "InvalidPipe") (T.c.fact 325 (f := .xcc "InvalidPipe")), of_decide_eq_true (T.c.fact 69 (f := .kit "InvalidPipe" "InvalidChain" false))⟩
  | 12, h => cases h; exact ⟨fx_xcc (x := "InvalidRank") (T.c.fact 326 (f := .xcc "InvalidRank")), of_decide_eq_true (T.c.fact 70 (f := .kit "InvalidRank" "InvalidChain" false))⟩
  | 13, h => cases h; exact ⟨fx_xcc (x := "InvalidManual") (T.c.fact 327 (f := .xcc "InvalidManual")), of_decide_eq_true (T.c.fact 71 (f := .kit "InvalidManual" "InvalidChain" false))⟩
  | 14, h => cases h; exact ⟨fx_xcc (x := "NotComparable") (T.c.fact 328 (f := .xcc "NotComparable")), of_decide_eq_true (T.c.fact 72 (f := .kit "NotComparable" "InvalidChain" false))⟩
  | 15, h => cases h; exact ⟨fx_xcc (x := "InvalidMove") (T.c.fact 329 (f := .xcc "InvalidMove")), of_decide_eq_true (T.c.fact 73 (f := .kit "InvalidMove" "InvalidChain" false))⟩
  | 16, h => cases h; exact ⟨fx_xcc (x := "UnknownKnob") (T.c.fact 330 (f := .xcc "UnknownKnob")), of_decide_eq_true (T.c.fact 74 (f := .kit "UnknownKnob" "InvalidChain" false))⟩
  | 17, h => cases h; exact ⟨fx_xcc (x := "UnknownIndex") (T.c.fact 331 (f := .xcc "UnknownIndex")), of_decide_eq_true (T.c.fact 75 (f := .kit "UnknownIndex" "InvalidChain" false))⟩
  | 18, h => cases h; exact ⟨fx_xcc (x := "InvalidText") (T.c.fact 332 (f := .xcc "InvalidText")), of_decide_eq_true (T.c.fact 76 (f := .kit "InvalidText" "InvalidChain" false))⟩
  | n + 19, h => simp at h
theorem Fct.kx_InvalidCoupler (T : Fct K mg) (c : Nat) (b : Bool) (h : kt_InvalidCoupler c = some b) : XcC K ((GmK K).cA c) ∧ PySem.W.kitOne K (.ref ((GmK K).cA c)) (.ref (He.ga K "InvalidCoupler")) = some b := by
  unfold kt_InvalidCoupler at h
  match c, h with
  | 0, h => cases h
  | 1, h => cases h
  | 2, h => cases h
  | 3, h => cases h; exact ⟨fx_xcc (x := "OrganError") (T.c.fact 317 (f := .xcc "OrganError")), of_decide_eq_true (T.c.fact 77 (f := .kit "OrganError" "InvalidCoupler" false))⟩
  | 4, h => cases h; exact ⟨fx_xcc (x := "InvalidManuals") (T.c.fact 318 (f := .xcc "InvalidManuals")), of_decide_eq_true (T.c.fact 78 (f := .kit "InvalidManuals" "InvalidCoupler" false))⟩
  | 5, h => cases h; exact ⟨fx_xcc (x := "InvalidCoupler") (T.c.fact 319 (f := .xcc "InvalidCoupler")), of_decide_eq_true (T.c.fact 79 (f := .kit "InvalidCoupler" "InvalidCoupler" true))⟩
  | 6, h => cases h; exact ⟨fx_xcc (x := "InvalidStop") (T.c.fact 320 (f := .xcc "InvalidStop")), of_decide_eq_true (T.c.fact 80 (f := .kit "InvalidStop" "InvalidCoupler" false))⟩
  | 7, h => cases h; exact ⟨fx_xcc (x := "InvalidChain") (T.c.fact 321 (f := .xcc "InvalidChain")), of_decide_eq_true (T.c.fact 81 (f := .kit "InvalidChain" "InvalidCoupler" false))⟩
  | 8, h => cases h; exact ⟨fx_xcc (x := "InvalidOctave") (T.c.fact 322 (f := .xcc "InvalidOctave")), of_decide_eq_true (T.c.fact 82 (f := .kit "InvalidOctave" "InvalidCoupler" false))⟩
  | 9, h => cases h; exact ⟨fx_xcc (x := "InvalidTop") (T.c.fact 323 (f := .xcc "InvalidTop")), of_decide_eq_true (T.c.fact 83 (f := .kit "InvalidTop" "InvalidCoupler" false))⟩
  | 10, h => cases h; exact ⟨fx_xcc (x := "InvalidKey") (T.c.fact 324 (f := .xcc "InvalidKey")), of_decide_eq_true (T.c.fact 84 (f := .kit "InvalidKey" "InvalidCoupler" false))⟩
  | 11, h => cases h; exact ⟨fx_xcc (x := "InvalidPipe") (T.c.fact 325 (f := .xcc "InvalidPipe")), of_decide_eq_true (T.c.fact 85 (f := .kit "InvalidPipe" "InvalidCoupler" false))⟩
  | 12, h => cases h; exact ⟨fx_xcc (x := "InvalidRank") (T.c.fact 326 (f := .xcc "InvalidRank")), of_decide_eq_true (T.c.fact 86 (f := .kit "InvalidRank" "InvalidCoupler" false))⟩
  | 13, h => cases h; exact ⟨fx_xcc (x := "InvalidManual") (T.c.fact 327 (f := .xcc "InvalidManual")), of_decide_eq_true (T.c.fact 87 (f := .kit "InvalidManual" "InvalidCoupler" false))⟩
  | 14, h => cases h; exact ⟨fx_xcc (x := "NotComparable") (T.c.fact 328 (f := .xcc "NotComparable")), of_decide_eq_true (T.c.fact 88 (f := .kit "NotComparable" "InvalidCoupler" false))⟩
  | 15, h => cases h; exact ⟨fx_xcc (x := "InvalidMove") (T.c.fact 329 (f := .xcc "InvalidMove")), of_decide_eq_true (T.c.fact 89 (f := .kit "InvalidMove" "InvalidCoupler" false))⟩
  | 16, h => cases h; exact ⟨fx_xcc (x := "UnknownKnob") (T.c.fact 330 (f := .xcc "UnknownKnob")), of_decide_eq_true (T.c.fact 90 (f := .kit "UnknownKnob" "InvalidCoupler" false))⟩
  | 17, h => cases h; exact ⟨fx_xcc (x := "UnknownIndex") (T.c.fact 331 (f := .xcc "UnknownIndex")), of_decide_eq_true (T.c.fact 91 (f := .kit "UnknownIndex" "InvalidCoupler" false))⟩
  | 18, h => cases h; exact ⟨fx_xcc (x := "InvalidText") (T.c.fact 332 (f := .xcc "InvalidText")), of_decide_eq_true (T.c.fact 92 (f := .kit "InvalidText" "InvalidCoupler" false))⟩
  | n + 19, h => simp at h
theorem Fct.kx_InvalidKey (T : Fct K mg) (c : Nat) (b : Bool) (h : kt_InvalidKey c = some b) : XcC K ((GmK K).cA c) ∧ PySem.W.kitOne K (.ref ((GmK K).cA c)) (.ref (He.ga K "InvalidKey")) = some b := by
  unfold kt_InvalidKey at h
  match c, h with
  | 0, h => cases h
  | 1, h => cases h
  | 2, h => cases h
  | 3, h => cases h; exact ⟨fx_xcc (x := "OrganError") (T.c.fact 317 (f := .xcc "OrganError")), of_decide_eq_true (T.c.fact 93 (f := .kit "OrganError" "InvalidKey" false))⟩
  | 4, h => cases h; exact ⟨fx_xcc (x := "InvalidManuals") (T.c.fact 318 (f := .xcc "InvalidManuals")), of_decide_eq_true (T.c.fact 94 (f := .kit "InvalidManuals" "InvalidKey" false))⟩
  | 5, h => cases h; exact ⟨fx_xcc (x := "InvalidCoupler") (T.c.fact 319 (f := .xcc "InvalidCoupler")), of_decide_eq_true (T.c.fact 95 (f := .kit "InvalidCoupler" "InvalidKey" false))⟩
  | 6, h => cases h; exact ⟨fx_xcc (x := "InvalidStop") (T.c.fact 320 (f := .xcc "InvalidStop")), of_decide_eq_true (T.c.fact 96 (f := .kit "InvalidStop" "InvalidKey" false))⟩
  | 7, h => cases h; exact ⟨fx_xcc (x := "InvalidChain") (T.c.fact 321 (f := .xcc "InvalidChain")), of_decide_eq_true (T.c.fact 97 (f := .kit "InvalidChain" "InvalidKey" false))⟩
  | 8, h => cases h; exact ⟨fx_xcc (x := "InvalidOctave") (T.c.fact 322 (f := .xcc "InvalidOctave")), of_decide_eq_true (T.c.fact 98 (f := .kit "InvalidOctave" "InvalidKey" false))⟩
  | 9, h => cases h; exact ⟨fx_xcc (x := "InvalidTop") (T.c.fact 323 (f := .xcc "InvalidTop")), of_decide_eq_true (T.c.fact 99 (f := .kit "InvalidTop" "InvalidKey" false))⟩
  | 10, h => cases h; exact ⟨fx_xcc (x := "InvalidKey") (T.c.fact 324 (f := .xcc "InvalidKey")), of_decide_eq_true (T.c.fact 100 (f := .kit "InvalidKey" "InvalidKey" true))⟩
  | 11, h => cases h; exact ⟨fx_xcc (x := "InvalidPipe") (T.c.fact 325 (f := .xcc "InvalidPipe")), of_decide_eq_true (T.c.fact 101 (f := .kit "InvalidPipe" "InvalidKey" false))⟩
  | 12, h => cases h; exact ⟨fx_xcc (x := "InvalidRank") (T.c.fact 326 (f := .xcc "InvalidRank")), of_decide_eq_true (T.c.fact 102 (f := .kit "InvalidRank" "InvalidKey" false))⟩
  | 13, h => cases h; exact ⟨fx_xcc (x := "InvalidManual") (T.c.fact 327 (f := .xcc "InvalidManual")), of_decide_eq_true (T.c.fact 103 (f := .kit "InvalidManual" "InvalidKey" false))⟩
  | 14, h => cases h; exact ⟨fx_xcc (x := "NotComparable") (T.c.fact 328 (f := .xcc "NotComparable")), of_decide_eq_true (T.c.fact 104 (f := .kit "NotComparable" "InvalidKey" false))⟩
  | 15, h => cases h; exact ⟨fx_xcc (x := "InvalidMove") (T.c.fact 329 (f := .xcc "InvalidMove")), of_decide_eq_true (T.c.fact 105 (f := .kit "InvalidMove" "InvalidKey" false))⟩
  | 16, h => cases h; exact ⟨fx_xcc (x := "UnknownKnob") (T.c.fact 330 (f := .xcc "UnknownKnob")), of_decide_eq_true (T.c.fact 106 (f := .kit "UnknownKnob" "InvalidKey" false))⟩
  | 17, h => cases h; exact ⟨fx_xcc (x := "UnknownIndex") (T.c.fact 331 (f := .xcc "UnknownIndex")), of_decide_eq_true (T.c.fact 107 (f := .kit "UnknownIndex" "InvalidKey" false))⟩
  | 18, h => cases h; exact ⟨fx_xcc (x := "InvalidText") (T.c.fact 332 (f := .xcc "InvalidText")), of_decide_eq_true (T.c.fact 108 (f := .kit "InvalidText" "InvalidKey" false))⟩
  | n + 19, h => simp at h
theorem Fct.kx_InvalidManual (T : Fct K mg) (c : Nat) (b : Bool) (h : kt_InvalidManual c = some b) : XcC K ((GmK K).cA c) ∧ PySem.W.kitOne K (.ref ((GmK K).cA c)) (.ref (He.ga K "InvalidManual")) = some b := by
  unfold kt_InvalidManual at h
  match c, h with
  | 0, h => cases h
  | 1, h => cases h
  | 2, h => cases h
  | 3, h => cases h; exact ⟨fx_xcc (x := "OrganError") (T.c.fact 317 (f := .xcc "OrganError")), of_decide_eq_true (T.c.fact 109 (f := .kit "OrganError" "InvalidManual" false))⟩
  | 4, h => cases h; exact ⟨fx_xcc (x := "InvalidManuals") (T.c.fact 318 (f := .xcc "InvalidManuals")), of_decide_eq_true (T.c.fact 110 (f := .kit "InvalidManuals" "InvalidManual" false))⟩
  | 5, h => cases h; exact ⟨fx_xcc (x := "InvalidCoupler") (T.c.fact 319 (f := .xcc "InvalidCoupler")), of_decide_eq_true (T.c.fact 111 (f := .kit "InvalidCoupler" "InvalidManual" false))⟩
  | 6, h => cases h; exact ⟨fx_xcc (x := "InvalidStop") (T.c.fact 320 (f := .xcc "InvalidStop")), of_decide_eq_true (T.c.fact 112 (f := .kit "InvalidStop" "InvalidManual" false))⟩
  | 7, h => cases h; exact ⟨fx_xcc (x := "InvalidChain") (T.c.fact 321 (f := .xcc "InvalidChain")), of_decide_eq_true (T.c.fact 113 (f := .kit "InvalidChain" "InvalidManual" false))⟩
  | 8, h => cases h; exact ⟨fx_xcc (x := "InvalidOctave") (T.c.fact 322 (f := .xcc "InvalidOctave")), of_decide_eq_true (T.c.fact 114 (f := .kit "InvalidOctave" "InvalidManual" false))⟩
  | 9, h => cases h; exact ⟨fx_xcc (x := "InvalidTop") (T.c.fact 323 (f := .xcc "InvalidTop")), of_decide_eq_true (T.c.fact 115 (f := .kit "InvalidTop" "InvalidManual" false))⟩
  | 10, h => cases h; exact ⟨fx_xcc (x := "InvalidKey") (T.c.fact 324 (f := .xcc "InvalidKey")), of_decide_eq_true (T.c.fact 116 (f := .kit "InvalidKey" "InvalidManual" false))⟩
  | 11, h => cases h; exact ⟨fx_xcc (x := "InvalidPipe") (T.c.fact 325 (f := .xcc "InvalidPipe")), of_decide_eq_true (T.c.fact 117 (f := .kit "InvalidPipe" "InvalidManual" false))⟩
  | 12, h => cases h; exact ⟨fx_xcc (x := "InvalidRank") (T.c.fact 326 (f := .xcc "InvalidRank")), of_decide_eq_true (T.c.fact 118 (f := .kit "InvalidRank" "InvalidManual" false))⟩
  | 13, h => cases h; exact ⟨fx_xcc (x := "InvalidManual") (T.c.fact 327 (f := .xcc "InvalidManual")), of_decide_eq_true (T.c.fact 119 (f := .kit "InvalidManual" "InvalidManual" true))⟩
  | 14, h => cases h; exact ⟨fx_xcc (x := "NotComparable") (T.c.fact 328 (f := .xcc "NotComparable")), of_decide_eq_true (T.c.fact 120 (f := .kit "NotComparable" "InvalidManual" false))⟩
  | 15, h => cases h; exact ⟨fx_xcc (x := "InvalidMove") (T.c.fact 329 (f := .xcc "InvalidMove")), of_decide_eq_true (T.c.fact 121 (f := .kit "InvalidMove" "InvalidManual" false))⟩
  | 16, h => cases h; exact ⟨fx_xcc (x := "UnknownKnob") (T.c.fact 330 (f := .xcc "UnknownKnob")), of_decide_eq_true (T.c.fact 122 (f := .kit "UnknownKnob" "InvalidManual" false))⟩
  | 17, h => cases h; exact ⟨fx_xcc (x := "UnknownIndex") (T.c.fact 331 (f := .xcc "UnknownIndex")), of_decide_eq_true (T.c.fact 123 (f := .kit "UnknownIndex" "InvalidManual" false))⟩
  | 18, h => cases h; exact ⟨fx_xcc (x := "InvalidText") (T.c.fact 332 (f := .xcc "InvalidText")), of_decide_eq_true (T.c.fact 124 (f := .kit "InvalidText" "InvalidManual" false))⟩
  | n + 19, h => simp at h
theorem Fct.kx_InvalidManuals (T : Fct K mg) (c : Nat) (b : Bool) (h : kt_InvalidManuals c = some b) : XcC K ((GmK K).cA c) ∧ PySem.W.kitOne K (.ref ((GmK K).cA c)) (.ref (He.ga K "InvalidManuals")) = some b := by
  unfold kt_InvalidManuals at h
  match c, h with
  | 0, h => cases h
  | 1, h => cases h
  | 2, h => cases h
  | 3, h => cases h; exact ⟨fx_xcc (x := "OrganError") (T.c.fact 317 (f := .xcc "OrganError")), of_decide_eq_true (T.c.fact 125 (f := .kit "OrganError" "InvalidManuals" false))⟩
  | 4, h => cases h; exact ⟨fx_xcc (x := "InvalidManuals") (T.c.fact 318 (f := .xcc "InvalidManuals")), of_decide_eq_true (T.c.fact 126 (f := .kit "InvalidManuals" "InvalidManuals" true))⟩
  | 5, h => cases h; exact ⟨fx_xcc (x := "InvalidCoupler") (T.c.fact 319 (f := .xcc "InvalidCoupler")), of_decide_eq_true (T.c.fact 127 (f := .kit "InvalidCoupler" "InvalidManuals" false))⟩
  | 6, h => cases h; exact ⟨fx_xcc (x := "InvalidStop") (T.c.fact 320 (f := .xcc "InvalidStop")), of_decide_eq_true (T.c.fact 128 (f := .kit "InvalidStop" "InvalidManuals" false))⟩
  | 7, h => cases h; exact ⟨fx_xcc (x := "InvalidChain") (T.c.fact 321 (f := .xcc "InvalidChain")), of_decide_eq_true (T.c.fact 129 (f := .kit "InvalidChain" "InvalidManuals" false))⟩
  | 8, h => cases h; exact ⟨fx_xcc (x := "InvalidOctave") (T.c.fact 322 (f := .xcc "InvalidOctave")), of_decide_eq_true (T.c.fact 130 (f := .kit "InvalidOctave" "InvalidManuals" false))⟩
  | 9, h => cases h; exact ⟨fx_xcc (x := "InvalidTop") (T.c.fact 323 (f := .xcc "InvalidTop")), of_decide_eq_true (T.c.fact 131 (f := .kit "InvalidTop" "InvalidManuals" false))⟩
  | 10, h => cases h; exact ⟨fx_xcc (x := "InvalidKey") (T.c.fact 324 (f := .xcc "InvalidKey")), of_decide_eq_true (T.c.fact 132 (f := .kit "InvalidKey" "InvalidManuals" false))⟩
  | 11, h => cases h; exact ⟨fx_xcc (x := "InvalidPipe") (T.c.fact 325 (f := .xcc "InvalidPipe")), of_decide_eq_true (T.c.fact 133 (f := .kit "InvalidPipe" "InvalidManuals" false))⟩
  | 12, h => cases h; exact ⟨fx_xcc (x := "InvalidRank") (T.c.fact 326 (f := .xcc "InvalidRank")), of_decide_eq_true (T.c.fact 134 (f := .kit "InvalidRank" "InvalidManuals" false))⟩
  | 13, h => cases h; exact ⟨fx_xcc (x := "InvalidManual") (T.c.fact 327 (f := .xcc "InvalidManual")), of_decide_eq_true (T.c.fact 135 (f := .kit "InvalidManual" "InvalidManuals" false))⟩
  | 14, h => cases h; exact ⟨fx_xcc (x := "NotComparable") (T.c.fact 328 (f := .xcc "NotComparable")), of_decide_eq_true (T.c.fact 136 (f := .kit "NotComparable" "InvalidManuals" false))⟩
  | 15, h => cases h; exact ⟨fx_xcc (x := "InvalidMove") (T.c.fact 329 (f := .xcc "InvalidMove")), of_decide_eq_true (T.c.fact 137 (f := .kit "InvalidMove" "InvalidManuals" false))⟩
  | 16, h => cases h; exact ⟨fx_xcc (x := "UnknownKnob") (T.c.fact 330 (f := .xcc "UnknownKnob")), of_decide_eq_true (T.c.fact 138 (f := .kit "UnknownKnob" "InvalidManuals" false))⟩
  | 17, h => cases h; exact ⟨fx_xcc (x := "UnknownIndex") (T.c.fact 331 (f := .xcc "UnknownIndex")), of_decide_eq_true (T.c.fact 139 (f := .kit "UnknownIndex" "InvalidManuals" false))⟩
  | 18, h => cases h; exact ⟨fx_xcc (x := "InvalidText") (T.c.fact 332 (f := .xcc "InvalidText")), of_decide_eq_true (T.c.fact 140 (f := .kit "InvalidText" "InvalidManuals" false))⟩
  | n + 19, h => simp at h
theorem Fct.kx_InvalidMove (T : Fct K mg) (c : Nat) (b : Bool) (h : kt_InvalidMove c = some b) : XcC K ((GmK K).cA c) ∧ PySem.W.kitOne K (.ref ((GmK K).cA c)) (.ref (He.ga K "InvalidMove")) = some b := by
  unfold kt_InvalidMove at h
  match c, h with
  | 0, h => cases h
  | 1, h => cases h
  | 2, h => cases h
  | 3, h => cases h; exact ⟨fx_xcc (x := "OrganError") (T.c.fact 317 (f := .xcc "OrganError")), of_decide_eq_true (T.c.fact 141 (f := .kit "OrganError" "InvalidMove" false))⟩
  | 4, h => cases h; exact ⟨fx_xcc (x := "InvalidManuals") (T.c.fact 318 (f := .xcc "InvalidManuals")), of_decide_eq_true (T.c.fact 142 (f := .kit "InvalidManuals" "InvalidMove" false))⟩
  | 5, h => cases h; exact ⟨fx_xcc (x := "InvalidCoupler") (T.c.fact 319 (f := .xcc "InvalidCoupler")), of_decide_eq_true (T.c.fact 143 (f := .kit "InvalidCoupler" "InvalidMove" false))⟩
  | 6, h => cases h; exact ⟨fx_xcc (x := "InvalidStop") (T.c.fact 320 (f := .xcc "InvalidStop")), of_decide_eq_true (T.c.fact 144 (f := .kit "InvalidStop" "InvalidMove" false))⟩
  | 7, h => cases h; exact ⟨fx_xcc (x := "InvalidChain") (T.c.fact 321 (f := .xcc "InvalidChain")), of_decide_eq_true (T.c.fact 145 (f := .kit "InvalidChain" "InvalidMove" false))⟩
  | 8, h => cases h; exact ⟨fx_xcc (x := "InvalidOctave") (T.c.fact 322 (f := .xcc "InvalidOctave")), of_decide_eq_true (T.c.fact 146 (f := .kit "InvalidOctave" "InvalidMove" false))⟩
  | 9, h => cases h; exact ⟨fx_xcc (x := "InvalidTop") (T.c.fact 323 (f := .xcc "InvalidTop")), of_decide_eq_true (T.c.fact 147 (f := .kit "InvalidTop" "InvalidMove" false))⟩
  | 10, h => cases h; exact ⟨fx_xcc (x := "InvalidKey") (T.c.fact 324 (f := .xcc "InvalidKey")), of_decide_eq_true (T.c.fact 148 (f := .kit "InvalidKey" "InvalidMove" false))⟩
  | 11, h => cases h; exact ⟨fx_xcc (x := "InvalidPipe") (T.c.fact 325 (f := .xcc "InvalidPipe")), of_decide_eq_true (T.c.fact 149 (f := .kit "InvalidPipe" "InvalidMove" false))⟩
  | 12, h => cases h; exact ⟨fx_xcc (x := "InvalidRank") (T.c.fact 326 (f := .xcc "InvalidRank")), of_decide_eq_true (T.c.fact 150 (f := .kit "InvalidRank" "InvalidMove" false))⟩
  | 13, h => cases h; exact ⟨fx_xcc (x := "InvalidManual") (T.c.fact 327 (f := .xcc "InvalidManual")), of_decide_eq_true (T.c.fact 151 (f := .kit "InvalidManual" "InvalidMove" false))⟩
  | 14, h => cases h; exact ⟨fx_xcc (x := "NotComparable") (T.c.fact 328 (f := .xcc "NotComparable")), of_decide_eq_true (T.c.fact 152 (f := .kit "NotComparable" "InvalidMove" false))⟩
  | 15, h => cases h; exact ⟨fx_xcc (x := "InvalidMove") (T.c.fact 329 (f := .xcc "InvalidMove")), of_decide_eq_true (T.c.fact 153 (f := .kit "InvalidMove" "InvalidMove" true))⟩
  | 16, h => cases h; exact ⟨fx_xcc (x := "UnknownKnob") (T.c.fact 330 (f := .xcc "UnknownKnob")), of_decide_eq_true (T.c.fact 154 (f := .kit "UnknownKnob" "InvalidMove" false))⟩
  | 17, h => cases h; exact ⟨fx_xcc (x := "UnknownIndex") (T.c.fact 331 (f := .xcc "UnknownIndex")), of_decide_eq_true (T.c.fact 155 (f := .kit "UnknownIndex" "InvalidMove" false))⟩
  | 18, h => cases h; exact ⟨fx_xcc (x := "InvalidText") (T.c.fact 332 (f := .xcc "InvalidText")), of_decide_eq_true (T.c.fact 156 (f := .kit "InvalidText" "InvalidMove" false))⟩
  | n + 19, h => simp at h
theorem Fct.kx_InvalidOctave (T : Fct K mg) (c : Nat) (b : Bool) (h : kt_InvalidOctave c = some b) : XcC K ((GmK K).cA c) ∧ PySem.W.kitOne K (.ref ((GmK K).cA c)) (.ref (He.ga K "InvalidOctave")) = some b := by
  unfold kt_InvalidOctave at h
  match c, h with
  | 0, h => cases h
  | 1, h => cases h
  | 2, h => cases h
  | 3, h => cases h; exact ⟨fx_xcc (x := "OrganError") (T.c.fact 317 (f := .xcc "OrganError")), of_decide_eq_true (T.c.fact 157 (f := .kit "OrganError" "InvalidOctave" false))⟩
  | 4, h => cases h; exact ⟨fx_xcc (x := "InvalidManuals") (T.c.fact 318 (f := .xcc "InvalidManuals")), of_decide_eq_true (T.c.fact 158 (f := .kit "InvalidManuals" "InvalidOctave" false))⟩
  | 5, h => cases h; exact ⟨fx_xcc (x := "InvalidCoupler") (T.c.fact 319 (f := .xcc "InvalidCoupler")), of_decide_eq_true (T.c.fact 159 (f := .kit "InvalidCoupler" "InvalidOctave" false))⟩
  | 6, h => cases h; exact ⟨fx_xcc (x := "InvalidStop") (T.c.fact 320 (f := .xcc "InvalidStop")), of_decide_eq_true (T.c.fact 160 (f := .kit "InvalidStop" "InvalidOctave" false))⟩
  | 7, h => cases h; exact ⟨fx_xcc (x := "InvalidChain") (T.c.fact 321 (f := .xcc "InvalidChain")), of_decide_eq_true (T.c.fact 161 (f := .kit "InvalidChain" "InvalidOctave" false))⟩
  | 8, h => cases h; exact ⟨fx_xcc (x := "InvalidOctave") (T.c.fact 322 (f := .xcc "InvalidOctave")), of_decide_eq_true (T.c.fact 162 (f := .kit "InvalidOctave" "InvalidOctave" true))⟩
  | 9, h => cases h; exact ⟨fx_xcc (x := "InvalidTop") (T.c.fact 323 (f := .xcc "InvalidTop")), of_decide_eq_true (T.c.fact 163 (f := .kit "InvalidTop" "InvalidOctave" false))⟩
  | 10, h => cases h; exact ⟨fx_xcc (x := "InvalidKey") (T.c.fact 324 (f := .xcc "InvalidKey")), of_decide_eq_true (T.c.fact 164 (f := .kit "InvalidKey" "InvalidOctave" false))⟩
  | 11, h => cases h; exact ⟨fx_xcc (x := "InvalidPipe") (T.c.fact 325 (f := .xcc "InvalidPipe")), of_decide_eq_true (T.c.fact 165 (f := .kit "InvalidPipe" "InvalidOctave" false))⟩
  | 12, h => cases h; exact ⟨fx_xcc (x := "InvalidRank") (T.c.fact 326 (f := .xcc "InvalidRank")), of_decide_eq_true (T.c.fact 166 (f := .kit "InvalidRank" "InvalidOctave" false))⟩
  | 13, h => cases h; exact ⟨fx_xcc (x := "InvalidManual") (T.c.fact 327 (f := .xcc "InvalidManual")), of_decide_eq_true (T.c.fact 167 (f := .kit "InvalidManual" "InvalidOctave" false))⟩
  | 14, h => cases h; exact ⟨fx_xcc (x := "NotComparable") (T.c.fact 328 (f := .xcc "NotComparable")), of_decide_eq_true (T.c.fact 168 (f := .kit "NotComparable" "InvalidOctave" false))⟩
  | 15, h => cases h; exact ⟨fx_xcc (x := "InvalidMove") (T.c.fact 329 (f := .xcc "InvalidMove")), of_decide_eq_true (T.c.fact 169 (f := .kit "InvalidMove" "InvalidOctave" false))⟩
  | 16, h => cases h; exact ⟨fx_xcc (x := "UnknownKnob") (T.c.fact 330 (f := .xcc "UnknownKnob")), of_decide_eq_true (T.c.fact 170 (f := .kit "UnknownKnob" "InvalidOctave" false))⟩
  | 17, h => cases h; exact ⟨fx_xcc (x := "UnknownIndex") (T.c.fact 331 (f := .xcc "UnknownIndex")), of_decide_eq_true (T.c.fact 171 (f := .kit "UnknownIndex" "InvalidOctave" false))⟩
  | 18, h => cases h; exact ⟨fx_xcc (x := "InvalidText") (T.c.fact 332 (f := .xcc "InvalidText")), of_decide_eq_true (T.c.fact 172 (f := .kit "InvalidText" "InvalidOctave" false))⟩
  | n + 19, h => simp at h
theorem Fct.kx_InvalidPipe (T : Fct K mg) (c : Nat) (b : Bool) (h : kt_InvalidPipe c = some b) : XcC K ((GmK K).cA c) ∧ PySem.W.kitOne K (.ref ((GmK K).cA c)) (.ref (He.ga K "InvalidPipe")) = some b := by
  unfold kt_InvalidPipe at h
  match c, h with
  | 0, h => cases h
  | 1, h => cases h
  | 2, h => cases h
  | 3, h => cases h; exact ⟨fx_xcc (x := "OrganError") (T.c.fact 317 (f := .xcc "OrganError")), of_decide_eq_true (T.c.fact 173 (f := .kit "OrganError" "InvalidPipe" false))⟩
  | 4, h => cases h; exact ⟨fx_xcc (x := "InvalidManuals") (T.c.fact 318 (f := .xcc "InvalidManuals")), of_decide_eq_true (T.c.fact 174 (f := .kit "InvalidManuals" "InvalidPipe" false))⟩
  | 5, h => cases h; exact ⟨fx_xcc (x := "InvalidCoupler") (T.c.fact 319 (f := .xcc "InvalidCoupler")), of_decide_eq_true (T.c.fact 175 (f := .kit "InvalidCoupler" "InvalidPipe" false))⟩
  | 6, h => cases h; exact ⟨fx_xcc (x := "InvalidStop") (T.c.fact 320 (f := .xcc "InvalidStop")), of_decide_eq_true (T.c.fact 176 (f := .kit "InvalidStop" "InvalidPipe" false))⟩
  | 7, h => cases h; exact ⟨fx_xcc (x := "InvalidChain") (T.c.fact 321 (f := .xcc "InvalidChain")), of_decide_eq_true (T.c.fact 177 (f := .kit "InvalidChain" "InvalidPipe" false))⟩
  | 8, h => cases h; exact ⟨fx_xcc (x := "InvalidOctave") (T.c.fact 322 (f := .xcc "InvalidOctave")), of_decide_eq_true (T.c.fact 178 (f := .kit "InvalidOctave" "InvalidPipe" false))⟩
  | 9, h => cases h; exact ⟨fx_xcc (x := "InvalidTop") (T.c.fact 323 (f := .xcc "InvalidTop")), of_decide_eq_true (T.c.fact 179 (f := .kit "InvalidTop" "InvalidPipe" false))⟩
  | 10, h => cases h; exact ⟨fx_xcc (x := "InvalidKey") (T.c.fact 324 (f := .xcc "InvalidKey")), of_decide_eq_true (T.c.fact 180 (f := .kit "InvalidKey" "InvalidPipe" false))⟩
  | 11, h => cases h; exact ⟨fx_xcc (x := "InvalidPipe") (T.c.fact 325 (f := .xcc "InvalidPipe")), of_decide_eq_true (T.c.fact 181 (f := .kit "InvalidPipe" "InvalidPipe" true))⟩
  | 12, h => cases h; exact ⟨fx_xcc (x := "InvalidRank") (T.c.fact 326 (f := .xcc "InvalidRank")), of_decide_eq_true (T.c.fact 182 (f := .kit "InvalidRank" "InvalidPipe" false))⟩
  | 13, h => cases h; exact ⟨fx_xcc (x := "InvalidManual") (T.c.fact 327 (f := .xcc "InvalidManual")), of_decide_eq_true (T.c.fact 183 (f := .kit "InvalidManual" "InvalidPipe" false))⟩
  | 14, h => cases h; exact ⟨fx_xcc (x := "NotComparable") (T.c.fact 328 (f := .xcc "NotComparable")), of_decide_eq_true (T.c.fact 184 (f := .kit "NotComparable" "InvalidPipe" false))⟩
  | 15, h => cases h; exact ⟨fx_xcc (x := "InvalidMove") (T.c.fact 329 (f := .xcc "InvalidMove")), of_decide_eq_true (T.c.fact 185 (f := .kit "InvalidMove" "InvalidPipe" false))⟩
  | 16, h => cases h; exact ⟨fx_xcc (x := "UnknownKnob") (T.c.fact 330 (f := .xcc "UnknownKnob")), of_decide_eq_true (T.c.fact 186 (f := .kit "UnknownKnob" "InvalidPipe" false))⟩
  | 17, h => cases h; exact ⟨fx_xcc (x := "UnknownIndex") (T.c.fact 331 (f := .xcc "UnknownIndex")), of_decide_eq_true (T.c.fact 187 (f := .kit "UnknownIndex" "InvalidPipe" false))⟩
  | 18, h => cases h; exact ⟨fx_xcc (x := "InvalidText") (T.c.fact 332 (f := .xcc "InvalidText")), of_decide_eq_true (T.c.fact 188 (f := .kit "InvalidText" "InvalidPipe" false))⟩
  | n + 19, h => simp at h
theorem Fct.kx_InvalidRank (T : Fct K mg) (c : Nat) (b : Bool) (h : kt_InvalidRank c = some b) : XcC K ((GmK K).cA c) ∧ PySem.W.kitOne K (.ref ((GmK K).cA c)) (.ref (He.ga K "InvalidRank")) = some b := by
  unfold kt_InvalidRank at h
  match c, h with
  | 0, h => cases h
  | 1, h => cases h
  | 2, h => cases h
  | 3, h => cases h; exact ⟨fx_xcc (x := "OrganError") (T.c.fact 317 (f := .xcc "OrganError")), of_decide_eq_true (T.c.fact 189 (f := .kit "OrganError" "InvalidRank" false))⟩
  | 4, h => cases h; exact ⟨fx_xcc (x := "InvalidManuals") (T.c.fact 318 (f := .xcc "InvalidManuals")), of_decide_eq_true (T.c.fact 190 (f := .kit "InvalidManuals" "InvalidRank" false))⟩
  | 5, h => cases h; exact ⟨fx_xcc (x := "InvalidCoupler") (T.c.fact 319 (f := .xcc "InvalidCoupler")), of_decide_eq_true (T.c.fact 191 (f := .kit "InvalidCoupler" "InvalidRank" false))⟩
  | 6, h => cases h; exact ⟨fx_xcc (x := "InvalidStop") (T.c.fact 320 (f := .xcc "InvalidStop")), of_decide_eq_true (T.c.fact 192 (f := .kit "InvalidStop" "InvalidRank" false))⟩
  | 7, h => cases h; exact ⟨fx_xcc (x := "InvalidChain") (T.c.fact 321 (f := .xcc "InvalidChain")), of_decide_eq_true (T.c.fact 193 (f := .kit "InvalidChain" "InvalidRank" false))⟩
  | 8, h => cases h; exact ⟨fx_xcc (x := "InvalidOctave") (T.c.fact 322 (f := .xcc "InvalidOctave")), of_decide_eq_true (T.c.fact 194 (f := .kit "InvalidOctave" "InvalidRank" false))⟩
  | 9, h => cases h; exact ⟨fx_xcc (x := "InvalidTop") (T.c.fact 323 (f := .xcc "InvalidTop")), of_decide_eq_true (T.c.fact 195 (f := .kit "InvalidTop" "InvalidRank" false))⟩
  | 10, h => cases h; exact ⟨fx_xcc (x := "InvalidKey") (T.c.fact 324 (f := .xcc "InvalidKey")), of_decide_eq_true (T.c.fact 196 (f := .kit "InvalidKey" "InvalidRank" false))⟩
  | 11, h => cases h; exact ⟨fx_xcc (x := "InvalidPipe") (T.c.fact 325 (f := .xcc "InvalidPipe")), of_decide_eq_true (T.c.fact 197 (f := .kit "InvalidPipe" "InvalidRank" false))⟩
  | 12, h => cases h; exact ⟨fx_xcc (x := "InvalidRank") (T.c.fact 326 (f := .xcc "InvalidRank")), of_decide_eq_true (T.c.fact 198 (f := .kit "InvalidRank" "InvalidRank" true))⟩
  | 13, h => cases h; exact ⟨fx_xcc (x := "InvalidManual") (T.c.fact 327 (f := .xcc "InvalidManual")), of_decide_eq_true (T.c.fact 199 (f := .kit "InvalidManual" "InvalidRank" false))⟩
  | 14, h => cases h; exact ⟨fx_xcc (x := "NotComparable") (T.c.fact 328 (f := .xcc "NotComparable")), of_decide_eq_true (T.c.fact 200 (f := .kit "NotComparable" "InvalidRank" false))⟩
  | 15, h => cases h; exact ⟨fx_xcc (x := "InvalidMove") (T.c.fact 329 (f := .xcc "InvalidMove")), of_decide_eq_true (T.c.fact 201 (f := .kit "InvalidMove" "InvalidRank" false))⟩
  | 16, h => cases h; exact ⟨fx_xcc (x := "UnknownKnob") (T.c.fact 330 (f := .xcc "UnknownKnob")), of_decide_eq_true (T.c.fact 202 (f := .kit "UnknownKnob" "InvalidRank" false))⟩
  | 17, h => cases h; exact ⟨fx_xcc (x := "UnknownIndex") (T.c.fact 331 (f := .xcc "UnknownIndex")), of_decide_eq_true (T.c.fact 203 (f := .kit "UnknownIndex" "InvalidRank" false))⟩
  | 18, h => cases h; exact ⟨fx_xcc (x := "InvalidText") (T.c.fact 332 (f := .xcc "InvalidText")), of_decide_eq_true (T.c.fact 204 (f := .kit "InvalidText" "InvalidRank" false))⟩
  | n + 19, h => simp at h
theorem Fct.kx_InvalidStop (T : Fct K mg) (c : Nat) (b : Bool) (h : kt_InvalidStop c = some b) : XcC K ((GmK K).cA c) ∧ PySem.W.kitOne K (.ref ((GmK K).cA c)) (.ref (He.ga K "InvalidStop")) = some b := by
  unfold kt_InvalidStop at h
  match c, h with
  | 0, h => cases h
  | 1, h => cases h
  | 2, h => cases h
  | 3, h => cases h; exact ⟨fx_xcc (x := "OrganError") (T.c.fact 317 (f := .xcc "OrganError")), of_decide_eq_true (T.c.fact 205 (f := .kit "OrganError" "InvalidStop" false))⟩
  | 4, h => cases h; exact ⟨fx_xcc (x := "InvalidManuals") (T.c.fact 318 (f := .xcc "InvalidManuals")), of_decide_eq_true (T.c.fact 206 (f := .kit "InvalidManuals" "InvalidStop" false))⟩
  | 5, h => cases h; exact ⟨fx_xcc (x := "InvalidCoupler") (T.c.fact 319 (f := .xcc "InvalidCoupler")), of_decide_eq_true (T.c.fact 207 (f := .kit "InvalidCoupler" "InvalidStop" false))⟩
  | 6, h => cases h; exact ⟨fx_xcc (x := "InvalidStop") (T.c.fact 320 (f := .xcc "InvalidStop")), of_decide_eq_true (T.c.fact 208 (f := .kit "InvalidStop" "InvalidStop" true))⟩
  | 7, h => cases h; exact ⟨fx_xcc (x := "InvalidChain") (T.c.fact 321 (f := .xcc "InvalidChain")), of_decide_eq_true (T.c.fact 209 (f := .kit "InvalidChain" "InvalidStop" false))⟩
  | 8, h => cases h; exact ⟨fx_xcc (x := "InvalidOctave") (T.c.fact 322 (f := .xcc "InvalidOctave")), of_decide_eq_true (T.c.fact 210 (f := .kit "InvalidOctave" "InvalidStop" false))⟩
  | 9, h => cases h; exact ⟨fx_xcc (x := "InvalidTop") (T.c.fact 323 (f := .xcc "InvalidTop")), of_decide_eq_true (T.c.fact 211 (f := .kit "InvalidTop" "InvalidStop" false))⟩
  | 10, h => cases h; exact ⟨fx_xcc (x := "InvalidKey") (T.c.fact 324 (f := .xcc "InvalidKey")), of_decide_eq_true (T.c.fact 212 (f := .kit "InvalidKey" "InvalidStop" false))⟩
  | 11, h => cases h; exact ⟨fx_xcc (x := "InvalidPipe") (T.c.fact 325 (f := .xcc "InvalidPipe")), of_decide_eq_true (T.c.fact 213 (f := .kit "InvalidPipe" "InvalidStop" false))⟩
  | 12, h => cases h; exact ⟨fx_xcc (x := "InvalidRank") (T.c.fact 326 (f := .xcc "InvalidRank")), of_decide_eq_true (T.c.fact 214 (f := .kit "InvalidRank" "InvalidStop" false))⟩
  | 13, h => cases h; exact ⟨fx_xcc (x := "InvalidManual") (T.c.fact 327 (f := .xcc "InvalidManual")), of_decide_eq_true (T.c.fact 215 (f := .kit "InvalidManual" "InvalidStop" false))⟩
  | 14, h => cases h; exact ⟨fx_xcc (x := "NotComparable") (T.c.fact 328 (f := .xcc "NotComparable")), of_decide_eq_true (T.c.fact 216 (f := .kit "NotComparable" "InvalidStop" false))⟩
  | 15, h => cases h; exact ⟨fx_xcc (x := "InvalidMove") (T.c.fact 329 (f := .xcc "InvalidMove")), of_decide_eq_true (T.c.fact 217 (f := .kit "InvalidMove" "InvalidStop" false))⟩
  | 16, h => cases h; exact ⟨fx_xcc (x := "UnknownKnob") (T.c.fact 330 (f := .xcc "UnknownKnob")), of_decide_eq_true (T.c.fact 218 (f := .kit "UnknownKnob" "InvalidStop" false))⟩
  | 17, h => cases h; exact ⟨fx_xcc (x := "UnknownIndex") (T.c.fact 331 (f := .xcc "UnknownIndex")), of_decide_eq_true (T.c.fact 219 (f := .kit "UnknownIndex" "InvalidStop" false))⟩
  | 18, h => cases h; exact ⟨fx_xcc (x := "InvalidText") (T.c.fact 332 (f := .xcc "InvalidText")), of_decide_eq_true (T.c.fact 220 (f := .kit "InvalidText" "InvalidStop" false))⟩
  | n + 19, h => simp at h
theorem Fct.kx_InvalidText (T : Fct K mg) (c : Nat) (b : Bool) (h : kt_InvalidText c = some b) : XcC K ((GmK K).cA c) ∧ PySem.W.kitOne K (.ref ((GmK K).cA c)) (.ref (He.ga K "InvalidText")) = some b := by
  unfold kt_InvalidText at h
  match c, h with
  | 0, h => cases h
  | 1, h => cases h
  | 2, h => cases h
  | 3, h => cases h; exact ⟨fx_xcc (x := "OrganError") (T.c.fact 317 (f := .xcc "OrganError")), of_decide_eq_true (T.c.fact 221 (f := .kit "OrganError" "InvalidText" false))⟩
  | 4, h => cases h; exact ⟨fx_xcc (x := "InvalidManuals") (T.c.fact 318 (f := .xcc "InvalidManuals")), of_decide_eq_true (T.c.fact 222 (f := .kit "InvalidManuals" "InvalidText" false))⟩
  | 5, h => cases h; exact ⟨fx_xcc (x := "InvalidCoupler") (T.c.fact 319 (f := .xcc "InvalidCoupler")), of_decide_eq_true (T.c.fact 223 (f := .kit "InvalidCoupler" "InvalidText" false))⟩
  | 6, h => cases h; exact ⟨fx_xcc (x := "InvalidStop") (T.c.fact 320 (f := .xcc "InvalidStop")), of_decide_eq_true (T.c.fact 224 (f := .kit "InvalidStop" "InvalidText" false))⟩
  | 7, h => cases h; exact ⟨fx_xcc (x := "InvalidChain") (T.c.fact 321 (f := .xcc "InvalidChain")), of_decide_eq_true (T.c.fact 225 (f := .kit "InvalidChain" "InvalidText" false))⟩
  | 8, h => cases h; exact ⟨fx_xcc (x := "InvalidOctave") (T.c.fact 322 (f := .xcc "InvalidOctave")), of_decide_eq_true (T.c.fact 226 (f := .kit "InvalidOctave" "InvalidText" false))⟩
  | 9, h => cases h; exact ⟨fx_xcc (x := "InvalidTop") (T.c.fact 323 (f := .xcc "InvalidTop")), of_decide_eq_true (T.c.fact 227 (f := .kit "InvalidTop" "InvalidText" false))⟩
  | 10, h => cases h; exact ⟨fx_xcc (x := "InvalidKey") (T.c.fact 324 (f := .xcc "InvalidKey")), of_decide_eq_true (T.c.fact 228 (f := .kit "InvalidKey" "InvalidText" false))⟩
  | 11, h => cases h; exact ⟨fx_xcc (x := "InvalidPipe") (T.c.fact 325 (f := .xcc "InvalidPipe")), of_decide_eq_true (T.c.fact 229 (f := .kit "InvalidPipe" "InvalidText" false))⟩
  | 12, h => cases h; exact ⟨fx_xcc (x := "InvalidRank") (T.c.fact 326 (f := .xcc "InvalidRank")), of_decide_eq_true (T.c.fact 230 (f := .kit "InvalidRank" "InvalidText" false))⟩
  | 13, h => cases h; exact ⟨fx_xcc (x := "InvalidManual") (T.c.fact 327 (f := .xcc "InvalidManual")), of_decide_eq_true (T.c.fact 231 (f := .kit "InvalidManual" "InvalidText" false))⟩
  | 14, h => cases h; exact ⟨fx_xcc (x := "NotComparable") (T.c.fact 328 (f := .xcc "NotComparable")), of_decide_eq_true (T.c.fact 232 (f := .kit "NotComparable" "InvalidText" false))⟩
  | 15, h => cases h; exact ⟨fx_xcc (x := "InvalidMove") (T.c.fact 329 (f := .xcc "InvalidMove")), of_decide_eq_true (T.c.fact 233 (f := .kit "InvalidMove" "InvalidText" false))⟩
  | 16, h => cases h; exact ⟨fx_xcc (x := "UnknownKnob") (T.c.fact 330 (f := .xcc "UnknownKnob")), of_decide_eq_true (T.c.fact 234 (f := .kit "UnknownKnob" "InvalidText" false))⟩
  | 17, h => cases h; exact ⟨fx_xcc (x := "UnknownIndex") (T.c.fact 331 (f := .xcc "UnknownIndex")), of_decide_eq_true (T.c.fact 235 (f := .kit "UnknownIndex" "InvalidText" false))⟩
  | 18, h => cases h; exact ⟨fx_xcc (x := "InvalidText") (T.c.fact 332 (f := .xcc "InvalidText")), of_decide_eq_true (T.c.fact 236 (f := .kit "InvalidText" "InvalidText" true))⟩
  | n + 19, h => simp at h
theorem Fct.kx_InvalidTop (T : Fct K mg) (c : Nat) (b : Bool) (h : kt_InvalidTop c = some b) : XcC K ((GmK K).cA c) ∧ PySem.W.kitOne K (.ref ((GmK K).cA c)) (.ref (He.ga K "InvalidTop")) = some b := by
  unfold kt_InvalidTop at h
  match c, h with
  | 0, h => cases h
  | 1, h => cases h
  | 2, h => cases h
  | 3, h => cases h; exact ⟨fx_xcc (x := "OrganError") (T.c.fact 317 (f := .xcc "OrganError")), of_decide_eq_true (T.c.fact 237 (f := .kit "OrganError" "InvalidTop" false))⟩
  | 4, h => cases h; exact ⟨fx_xcc (x := "InvalidManuals") (T.c.fact 318 (f := .xcc "InvalidManuals")), of_decide_eq_true (T.c.fact 238 (f := .kit "InvalidManuals" "InvalidTop" false))⟩
  | 5, h => cases h; exact ⟨fx_xcc (x := "InvalidCoupler") (T.c.fact 319 (f := .xcc "InvalidCoupler")), of_decide_eq_true (T.c.fact 239 (f := .kit "InvalidCoupler" "InvalidTop" false))⟩
  | 6, h => cases h; exact ⟨fx_xcc (x := "InvalidStop") (T.c.fact 320 (f := .xcc "InvalidStop")), of_decide_eq_true (T.c.fact 240 (f := .kit "InvalidStop" "InvalidTop" false))⟩
  | 7, h => cases h; exact ⟨fx_xcc (x := "InvalidChain") (T.c.fact 321 (f := .xcc "InvalidChain")), of_decide_eq_true (T.c.fact 241 (f := .kit "InvalidChain" "InvalidTop" false))⟩
  | 8, h => cases h; exact ⟨fx_xcc (x := "InvalidOctave") (T.c.fact 322 (f := .xcc "InvalidOctave")), of_decide_eq_true (T.c.fact 242 (f := .kit "InvalidOctave" "InvalidTop" false))⟩
  | 9, h => cases h; exact ⟨fx_xcc (x := "InvalidTop") (T.c.fact 323 (f := .xcc "InvalidTop")), of_decide_eq_true (T.c.fact 243 (f := .kit "InvalidTop" "InvalidTop" true))⟩
  | 10, h => cases h; exact ⟨fx_xcc (x := "InvalidKey") (T.c.fact 324 (f := .xcc "InvalidKey")), of_decide_eq_true (T.c.fact 244 (f := .kit "InvalidKey" "InvalidTop" false))⟩
  | 11, h => cases h; exact ⟨fx_xcc (x := "InvalidPipe") (T.c.fact 325 (f := .xcc "InvalidPipe")), of_decide_eq_true (T.c.fact 245 (f := .kit "InvalidPipe" "InvalidTop" false))⟩
  | 12, h => cases h; exact ⟨fx_xcc (x := "InvalidRank") (T.c.fact 326 (f := .xcc "InvalidRank")), of_decide_eq_true (T.c.fact 246 (f := .kit "InvalidRank" "InvalidTop" false))⟩
  | 13, h => cases h; exact ⟨fx_xcc (x := "InvalidManual") (T.c.fact 327 (f := .xcc "InvalidManual")), of_decide_eq_true (T.c.fact 247 (f := .kit "InvalidManual" "InvalidTop" false))⟩
  | 14, h => cases h; exact ⟨fx_xcc (x := "NotComparable") (T.c.fact 328 (f := .xcc "NotComparable")), of_decide_eq_true (T.c.fact 248 (f := .kit "NotComparable" "InvalidTop" false))⟩
  | 15, h => cases h; exact ⟨fx_xcc (x := "InvalidMove") (T.c.fact 329 (f := .xcc "InvalidMove")), of_decide_eq_true (T.c.fact 249 (f := .kit "InvalidMove" "InvalidTop" false))⟩
  | 16, h => cases h; exact ⟨fx_xcc (x := "UnknownKnob") (T.c.fact 330 (f := .xcc "UnknownKnob")), of_decide_eq_true (T.c.fact 250 (f := .kit "UnknownKnob" "InvalidTop" false))⟩
  | 17, h => cases h; exact ⟨fx_xcc (x := "UnknownIndex") (T.c.fact 331 (f := .xcc "UnknownIndex")), of_decide_eq_true (T.c.fact 251 (f := .kit "UnknownIndex" "InvalidTop" false))⟩
  | 18, h => cases h; exact ⟨fx_xcc (x := "InvalidText") (T.c.fact 332 (f := .xcc "InvalidText")), of_decide_eq_true (T.c.fact 252 (f := .kit "InvalidText" "InvalidTop" false))⟩
  | n + 19, h => simp at h
theorem Fct.kx_NotComparable (T : Fct K mg) (c : Nat) (b : Bool) (h : kt_NotComparable c = some b) : XcC K ((GmK K).cA c) ∧ PySem.W.kitOne K (.ref ((GmK K).cA c)) (.ref (He.ga K "NotComparable")) = some b := by
  unfold kt_NotComparable at h
  match c, h with
  | 0, h => cases h
  | 1, h => cases h
  | 2, h => cases h
  | 3, h => cases h; exact ⟨fx_xcc (x := "OrganError") (T.c.fact 317 (f := .xcc "OrganError")), of_decide_eq_true (T.c.fact 253 (f := .kit "OrganError" "NotComparable" false))⟩
  | 4, h => cases h; exact ⟨fx_xcc (x := "InvalidManuals") (T.c.fact 318 (f := .xcc "InvalidManuals")), of_decide_eq_true (T.c.fact 254 (f := .kit "InvalidManuals" "NotComparable" false))⟩
  | 5, h => cases h; exact ⟨fx_xcc (x := "InvalidCoupler") (T.c.fact 319 (f := .xcc "InvalidCoupler")), of_decide_eq_true (T.c.fact 255 (f := .kit "InvalidCoupler" "NotComparable" false))⟩
  | 6, h => cases h; exact ⟨fx_xcc (x := "InvalidStop") (T.c.fact 320 (f := .xcc "InvalidStop")), of_decide_eq_true (T.c.fact 256 (f := .kit "InvalidStop" "NotComparable" false))⟩
  | 7, h => cases h; exact ⟨fx_xcc (x := "InvalidChain") (T.c.fact 321 (f := .xcc "InvalidChain")), of_decide_eq_true (T.c.fact 257 (f := .kit "InvalidChain" "NotComparable" false))⟩
  | 8, h => cases h; exact ⟨fx_xcc (x := "InvalidOctave") (T.c.fact 322 (f := .xcc "InvalidOctave")), of_decide_eq_true (T.c.fact 258 (f := .kit "InvalidOctave" "NotComparable" false))⟩
  | 9, h => cases h; exact ⟨fx_xcc (x := "InvalidTop") (T.c.fact 323 (f := .xcc "InvalidTop")), of_decide_eq_true (T.c.fact 259 (f := .kit "InvalidTop" "NotComparable" false))⟩
  | 10, h => cases h; exact ⟨fx_xcc (x := "InvalidKey") (T.c.fact 324 (f := .xcc "InvalidKey")), of_decide_eq_true (T.c.fact 260 (f := .kit "InvalidKey" "NotComparable" false))⟩
  | 11, h => cases h; exact ⟨fx_xcc (x := "InvalidPipe") (T.c.fact 325 (f := .xcc "InvalidPipe")), of_decide_eq_true (T.c.fact 261 (f := .kit "InvalidPipe" "NotComparable" false))⟩
  | 12, h => cases h; exact ⟨fx_xcc (x := "InvalidRank") (T.c.fact 326 (f := .xcc "InvalidRank")), of_decide_eq_true (T.c.fact 262 (f := .kit "InvalidRank" "NotComparable" false))⟩
  | 13, h => cases h; exact ⟨fx_xcc (x := "InvalidManual") (T.c.fact 327 (f := .xcc "InvalidManual")), of_decide_eq_true (T.c.fact 263 (f := .kit "InvalidManual" "NotComparable" false))⟩
  | 14, h => cases h; exact ⟨fx_xcc (x := "NotComparable") (T.c.fact 328 (f := .xcc "NotComparable")), of_decide_eq_true (T.c.fact 264 (f := .kit "NotComparable" "NotComparable" true))⟩
  | 15, h => cases h; exact ⟨fx_xcc (x := "InvalidMove") (T.c.fact 329 (f := .xcc "InvalidMove")), of_decide_eq_true (T.c.fact 265 (f := .kit "InvalidMove" "NotComparable" false))⟩
  | 16, h => cases h; exact ⟨fx_xcc (x := "UnknownKnob") (T.c.fact 330 (f := .xcc "UnknownKnob")), of_decide_eq_true (T.c.fact 266 (f := .kit "UnknownKnob" "NotComparable" false))⟩
  | 17, h => cases h; exact ⟨fx_xcc (x := "UnknownIndex") (T.c.fact 331 (f := .xcc "UnknownIndex")), of_decide_eq_true (T.c.fact 267 (f := .kit "UnknownIndex" "NotComparable" false))⟩
  | 18, h => cases h; exact ⟨fx_xcc (x := "InvalidText") (T.c.fact 332 (f := .xcc "InvalidText")), of_decide_eq_true (T.c.fact 268 (f := .kit "InvalidText" "NotComparable" false))⟩
  | n + 19, h => simp at h
theorem Fct.kx_UnknownIndex (T : Fct K mg) (c : Nat) (b : Bool) (h : kt_UnknownIndex c = some b) : XcC K ((GmK K).cA c) ∧ PySem.W.kitOne K (.ref ((GmK K).cA c)) (.ref (He.ga K "UnknownIndex")) = some b := by
  unfold kt_UnknownIndex at h
  match c, h with
  | 0, h => cases h
  | 1, h => cases h
  | 2, h => cases h
  | 3, h => cases h; exact ⟨fx_xcc (x := "OrganError") (T.c.fact 317 (f := .xcc "OrganError")), of_decide_eq_true (T.c.fact 269 (f := .kit "OrganError" "UnknownIndex" false))⟩
  | 4, h => cases h; exact ⟨fx_xcc (x := "InvalidManuals") (T.c.fact 318 (f := .xcc "InvalidManuals")), of_decide_eq_true (T.c.fact 270 (f := .kit "InvalidManuals" "UnknownIndex" false))⟩
  | 5, h => cases h; exact ⟨fx_xcc (x := "InvalidCoupler") (T.c.fact 319 (f := .xcc "InvalidCoupler")), of_decide_eq_true (T.c.fact 271 (f := .kit "InvalidCoupler" "UnknownIndex" false))⟩
  | 6, h => cases h; exact ⟨fx_xcc (x := "InvalidStop") (T.c.fact 320 (f := .xcc "InvalidStop")), of_decide_eq_true (T.c.fact 272 (f := .kit "InvalidStop" "UnknownIndex" false))⟩
  | 7, h => cases h; exact ⟨fx_xcc (x := "InvalidChain") (T.c.fact 321 (f := .xcc "InvalidChain")), of_decide_eq_true (T.c.fact 273 (f := .kit "InvalidChain" "UnknownIndex" false))⟩
  | 8, h => cases h; exact ⟨fx_xcc (x := "InvalidOctave") (T.c.fact 322 (f := .xcc "InvalidOctave")), of_decide_eq_true (T.c.fact 274 (f := .kit "InvalidOctave" "UnknownIndex" false))⟩
  | 9, h => cases h; exact ⟨fx_xcc (x := "InvalidTop") (T.c.fact 323 (f := .xcc "InvalidTop")), of_decide_eq_true (T.c.fact 275 (f := .kit "InvalidTop" "UnknownIndex" false))⟩
  | 10, h => cases h; exact ⟨fx_xcc (x := "InvalidKey") (T.c.fact 324 (f := .xcc "InvalidKey")), of_decide_eq_true (T.c.fact 276 (f := .kit "InvalidKey" "UnknownIndex" false))⟩
  | 11, h => cases h; exact ⟨fx_xcc (x := "InvalidPipe") (T.c.fact 325 (f := .xcc "InvalidPipe")), of_decide_eq_true (T.c.fact 277 (f := .kit "InvalidPipe" "UnknownIndex" false))⟩
  | 12, h => cases h; exact ⟨fx_xcc (x := "InvalidRank") (T.c.fact 326 (f := .xcc "InvalidRank")), of_decide_eq_true (T.c.fact 278 (f := .kit "InvalidRank" "UnknownIndex" false))⟩
  | 13, h => cases h; exact ⟨fx_xcc (x := "InvalidManual") (T.c.fact 327 (f := .xcc "InvalidManual")), of_decide_eq_true (T.c.fact 279 (f := .kit "InvalidManual" "UnknownIndex" false))⟩
  | 14, h => cases h; exact ⟨fx_xcc (x := "NotComparable") (T.c.fact 328 (f := .xcc "NotComparable")), of_decide_eq_true (T.c.fact 280 (f := .kit "NotComparable" "UnknownIndex" false))⟩
  | 15, h => cases h; exact ⟨fx_xcc (x := "InvalidMove") (T.c.fact 329 (f := .xcc "InvalidMove")), of_decide_eq_true (T.c.fact 281 (f := .kit "InvalidMove" "UnknownIndex" false))⟩
  | 16, h => cases h; exact ⟨fx_xcc (x := "UnknownKnob") (T.c.fact 330 (f := .xcc "UnknownKnob")), of_decide_eq_true (T.c.fact 282 (f := .kit "UnknownKnob" "UnknownIndex" false))⟩
  | 17, h => cases h; exact ⟨fx_xcc (x := "UnknownIndex") (T.c.fact 331 (f := .xcc "UnknownIndex")), of_decide_eq_true (T.c.fact 283 (f := .kit "UnknownIndex" "UnknownIndex" true))⟩
  | 18, h => cases h; exact ⟨fx_xcc (x := "InvalidText") (T.c.fact 332 (f := .xcc "InvalidText")), of_decide_eq_true (T.c.fact 284 (f := .kit "InvalidText" "UnknownIndex" false))⟩
  | n + 19, h => simp at h
theorem Fct.kx_UnknownKnob (T : Fct K mg) (c : Nat) (b : Bool) (h : kt_UnknownKnob c = some b) : XcC K ((GmK K).cA c) ∧ PySem.W.kitOne K (.ref ((GmK K).cA c)) (.ref (He.ga K "UnknownKnob")) = some b := by
  unfold kt_UnknownKnob at h
  match c, h with
  | 0, h => cases h
  | 1, h => cases h
  | 2, h => cases h
  | 3, h => cases h; exact ⟨fx_xcc (x := "OrganError") (T.c.fact 317 (f := .xcc "OrganError")), of_decide_eq_true (T.c.fact 285 (f := .kit "OrganError" "UnknownKnob" false))⟩
  | 4, h => cases h; exact ⟨fx_xcc (x := "InvalidManuals") (T.c.fact 318 (f := .xcc "InvalidManuals")), of_decide_eq_true (T.c.fact 286 (f := .kit "InvalidManuals" "UnknownKnob" false))⟩
  | 5, h => cases h; exact ⟨fx_xcc (x := "InvalidCoupler") (T.c.fact 319 (f := .xcc "InvalidCoupler")), of_decide_eq_true (T.c.fact 287 (f := .kit "InvalidCoupler" "UnknownKnob" false))⟩
  | 6, h => cases h; exact ⟨fx_xcc (x := "InvalidStop") (T.c.fact 320 (f := .xcc "InvalidStop")), of_decide_eq_true (T.c.fact 288 (f := .kit "InvalidStop" "UnknownKnob" false))⟩
  | 7, h => cases h; exact ⟨fx_xcc (x := "InvalidChain") (T.c.fact 321 (f := .xcc "InvalidChain")), of_decide_eq_true (T.c.fact 289 (f := .kit "InvalidChain" "UnknownKnob" false))⟩
  | 8, h => cases h; exact ⟨fx_xcc (x := "InvalidOctave") (T.c.fact 322 (f := .xcc "InvalidOctave")), of_decide_eq_true (T.c.fact 290 (f := .kit "InvalidOctave" "UnknownKnob" false))⟩
  | 9, h => cases h; exact ⟨fx_xcc (x := "InvalidTop") (T.c.fact 323 (f := .xcc "InvalidTop")), of_decide_eq_true (T.c.fact 291 (f := .kit "InvalidTop" "UnknownKnob" false))⟩
  | 10, h => cases h; exact ⟨fx_xcc (x := "InvalidKey") (T.c.fact 324 (f := .xcc "InvalidKey")), of_decide_eq_true (T.c.fact 292 (f := .kit "InvalidKey" "UnknownKnob" false))⟩
  | 11, h => cases h; exact ⟨fx_xcc (x := "InvalidPipe") (T.c.fact 325 (f := .xcc "InvalidPipe")), of_decide_eq_true (T.c.fact 293 (f := .kit "InvalidPipe" "UnknownKnob" false))⟩
  | 12, h => cases h; exact ⟨fx_xcc (x := "InvalidRank") (T.c.fact 326 (f := .xcc "InvalidRank")), of_decide_eq_true (T.c.fact 294 (f := .kit "InvalidRank" "UnknownKnob" false))⟩
  | 13, h => cases h; exact ⟨fx_xcc (x := "InvalidManual") (T.c.fact 327 (f := .xcc "InvalidManual")), of_decide_eq_true (T.c.fact 295 (f := .kit "InvalidManual" "UnknownKnob" false))⟩
  | 14, h => cases h; exact ⟨fx_xcc (x := "NotComparable") (T.c.fact 328 (f := .xcc "NotComparable")), of_decide_eq_true (T.c.fact 296 (f := .kit "NotComparable" "UnknownKnob" false))⟩
  | 15, h => cases h; exact ⟨fx_xcc (x := "InvalidMove") (T.c.fact 329 (f := .xcc "InvalidMove")), of_decide_eq_true (T.c.fact 297 (f := .kit "InvalidMove" "UnknownKnob" false))⟩
  | 16, h => cases h; exact ⟨fx_xcc (x := "UnknownKnob") (T.c.fact 330 (f := .xcc "UnknownKnob")), of_decide_eq_true (T.c.fact 298 (f := .kit "UnknownKnob" "UnknownKnob" true))⟩
  | 17, h => cases h; exact ⟨fx_xcc (x := "UnknownIndex") (T.c.fact 331 (f := .xcc "UnknownIndex")), of_decide_eq_true (T.c.fact 299 (f := .kit "UnknownIndex" "UnknownKnob" false))⟩
  | 18, h => cases h; exact ⟨fx_xcc (x := "InvalidText") (T.c.fact 332 (f := .xcc "InvalidText")), of_decide_eq_true (T.c.fact 300 (f := .kit "InvalidText" "UnknownKnob" false))⟩
  | n + 19, h => simp at h
theorem Fct.kx_ValueError (T : Fct K mg) (c : Nat) (b : Bool) (h : kt_ValueError c = some b) : XcC K ((GmK K).cA c) ∧ PySem.W.kitOne K (.ref ((GmK K).cA c)) (.type "ValueError") = some b := by
  unfold kt_ValueError at h
  match c, h with
  | 0, h => cases h
  | 1, h => cases h
  | 2, h => cases h
  | 3, h => cases h; exact ⟨fx_xcc (x := "OrganError") (T.c.fact 317 (f := .xcc "OrganError")), of_decide_eq_true (T.c.fact 301 (f := .kitT "OrganError" "ValueError" true))⟩
  | 4, h => cases h; exact ⟨fx_xcc (x := "InvalidManuals") (T.c.fact 318 (f := .xcc "InvalidManuals")), of_decide_eq_true (T.c.fact 302 (f := .kitT "InvalidManuals" "ValueError" true))⟩
  | 5, h => cases h; exact ⟨fx_xcc (x := "InvalidCoupler") (T.c.fact 319 (f := .xcc "InvalidCoupler")), of_decide_eq_true (T.c.fact 303 (f := .kitT "InvalidCoupler" "ValueError" true))⟩
  | 6, h => cases h; exact ⟨fx_xcc (x := "InvalidStop") (T.c.fact 320 (f := .xcc "InvalidStop")), of_decide_eq_true (T.c.fact 304 (f := .kitT "InvalidStop" "ValueError" true))⟩
  | 7, h => cases h; exact ⟨fx_xcc (x := "InvalidChain") (T.c.fact 321 (f := .xcc "InvalidChain")), of_decide_eq_true (T.c.fact 305 (f := .kitT "InvalidChain" "ValueError" true))⟩
  | 8, h => cases h; exact ⟨fx_xcc (x := "InvalidOctave") (T.c.fact 322 (f := .xcc "InvalidOctave")), of_decide_eq_true (T.c.fact 306 (f := .kitT "InvalidOctave" "ValueError" true))⟩
  | 9, h => cases h; exact ⟨fx_xcc (x := "InvalidTop") (T.c.fact 323 (f := .xcc "InvalidTop")), of_decide_eq_true (T.c.fact 307 (f := .kitT "InvalidTop" "ValueError" true))⟩
  | 10, h => cases h; exact ⟨fx_xcc (x := "InvalidKey") (T.c.fact 324 (f := .xcc "InvalidKey")), of_decide_eq_true (T.c.fact 308 (f := .kitT "InvalidKey" "ValueError" true))⟩
  | 11, h => cases h; exact ⟨fx_xcc (x := "InvalidPipe") (T.c.fact 325 (f := .xcc "InvalidPipe")), of_decide_eq_true (T.c.fact 309 (f := .kitT "InvalidPipe" "ValueError" true))⟩
  | 12, h => cases h; exact ⟨fx_xcc (x := "InvalidRank") (T.c.fact 326 (f := .xcc "InvalidRank")), of_decide_eq_true (T.c.fact 310 (f := .kitT "InvalidRank" "ValueError" true))⟩
  | 13, h => cases h; exact ⟨fx_xcc (x := "InvalidManual") (T.c.fact 327 (f := .xcc "InvalidManual")), of_decide_eq_true (T.c.fact 311 (f := .kitT "InvalidManual" "ValueError" true))⟩
  | 14, h => cases h; exact ⟨fx_xcc (x := "NotComparable") (T.c.fact 328 (f := .xcc "NotComparable")), of_decide_eq_true (T.c.fact 312 (f := .kitT "NotComparable" "ValueError" true))⟩
  | 15, h => cases h; exact ⟨fx_xcc (x := "InvalidMove") (T.c.fact 329 (f := .xcc "InvalidMove")), of_decide_eq_true (T.c.fact 313 (f := .kitT "InvalidMove" "ValueError" true))⟩
  | 16, h => cases h; exact ⟨fx_xcc (x := "UnknownKnob") (T.c.fact 330 (f := .xcc "UnknownKnob")), of_decide_eq_true (T.c.fact 314 (f := .kitT "UnknownKnob" "ValueError" true))⟩
  | 17, h => cases h; exact ⟨fx_xcc (x := "UnknownIndex") (T.c.fact 331 (f := .xcc "UnknownIndex")), of_decide_eq_true (T.c.fact 315 (f := .kitT "UnknownIndex" "ValueError" true))⟩
  | 18, h => cases h; exact ⟨fx_xcc (x := "InvalidText") (T.c.fact 332 (f := .xcc "InvalidText")), of_decide_eq_true (T.c.fact 316 (f := .kitT "InvalidText" "ValueError" true))⟩
  | n + 19, h => simp at h
theorem Fct.xf_index (T : Fct K mg) (c : Nat) (h : xt_index c = true) : XfC K ((GmK K).cA c) ∧ PySem.W.findIn K (.ref ((GmK K).cA c)) "index" = some none := by
  unfold xt_index at h
  match c, h with
  | 0, h => cases h
  | 1, h => cases h
  | 2, h => cases h
  | 3, h => cases h
  | 4, h => cases h
  | 5, h => exact fx_xfd (x := "InvalidCoupler") (f := "index") (T.c.fact 56 (f := .xfd "InvalidCoupler" "index"))
  | 6, h => exact fx_xfd (x := "InvalidStop") (f := "index") (T.c.fact 57 (f := .xfd "InvalidStop" "index"))
  | 7, h => cases h
  | 8, h => cases h
  | 9, h => cases h
  | 10, h => cases h
  | 11, h => cases h
  | 12, h => cases h
  | 13, h => cases h
  | 14, h => cases h
  | 15, h => cases h
  | 16, h => cases h
  | 17, h => exact fx_xfd (x := "UnknownIndex") (f := "index") (T.c.fact 58 (f := .xfd "UnknownIndex" "index"))
  | 18, h => cases h
  | n + 19, h => simp at h
theorem Fct.xf_line (T : Fct K mg) (c : Nat) (h : xt_line c = true) : XfC K ((GmK K).cA c) ∧ PySem.W.findIn K (.ref ((GmK K).cA c)) "line" = some none := by
  unfold xt_line at h
  match c, h with
  | 0, h => cases h
  | 1, h => cases h
  | 2, h => cases h
  | 3, h => cases h
  | 4, h => cases h
  | 5, h => cases h
  | 6, h => cases h
  | 7, h => cases h
  | 8, h => cases h
  | 9, h => cases h
  | 10, h => cases h
  | 11, h => cases h
  | 12, h => cases h
  | 13, h => cases h
  | 14, h => cases h
  | 15, h => cases h
  | 16, h => cases h
  | 17, h => cases h
  | 18, h => exact fx_xfd (x := "InvalidText") (f := "line") (T.c.fact 59 (f := .xfd "InvalidText" "line"))
  | n + 19, h => simp at h
theorem Fct.xf_word (T : Fct K mg) (c : Nat) (h : xt_word c = true) : XfC K ((GmK K).cA c) ∧ PySem.W.findIn K (.ref ((GmK K).cA c)) "word" = some none := by
  unfold xt_word at h
  match c, h with
  | 0, h => cases h
  | 1, h => cases h
  | 2, h => cases h
  | 3, h => cases h
  | 4, h => cases h
  | 5, h => cases h
  | 6, h => cases h
  | 7, h => cases h
  | 8, h => cases h
  | 9, h => cases h
  | 10, h => cases h
  | 11, h => cases h
  | 12, h => cases h
  | 13, h => cases h
  | 14, h => cases h
  | 15, h => cases h
  | 16, h => cases h
  | 17, h => cases h
  | 18, h => exact fx_xfd (x := "InvalidText") (f := "word") (T.c.fact 60 (f := .xfd "InvalidText" "word"))
  | n + 19, h => simp at h
end
section
variable {P : Program} {w : World} {K : PySem.W.Frag} {mg : Str → Option Value} {base : Heap}
theorem s__law_mix : FnScope ["_law_script", "_law_seed", "_law_state", "_law_cell"] ["_law_script", "_law_seed"] (defScope (top 18)) := ⟨rfl, rfl, rfl, by decide +kernel, rfl, by decide +kernel, by decide +kernel⟩
theorem k__law_mix (T : Fct K mg) {fd : FuncData} (FD : FunD K d__law_mix.toDefD.name d__law_mix.toDefD.qual d__law_mix.toDefD.params d__law_mix.toDefD.body d__law_mix.toDefD.scope (d__law_mix.toDefD.dvs K) (d__law_mix.toDefD.kws K) (d__law_mix.adr K) fd) : FnOk P w K mg base (L2.CX P w) 2 (d__law_mix.adr K) fd ["_law_script", "_law_seed"] (spF P w K (GmK K) 2 f__law_mix) := by
  refine fn_mk (k := 1) (N := ["_law_script", "_law_seed", "_law_state", "_law_cell"]) (ps := ["_law_script", "_law_seed"]) FD s__law_mix fun cdv A outer s H E hr => ?_
  have hN : (["_law_script", "_law_seed", "_law_state", "_law_cell"] : List Str).Nodup := (s__law_mix).nd
  have tk := takes_cx (P := P) (w := w) (K := K) (mg := mg) (base := base) (N := ["_law_script", "_law_seed", "_law_state", "_law_cell"]) (qual := "_law_mix") (scope := defScope (top 18)) (i := d__law_mix.adr K) (cdv := cdv) (A := A) (outer := outer) (s := s) (H := H) (E := E)
  have hp := passes_cx (P := P) (w := w) (K := K) (mg := mg) (base := base) (N := ["_law_script", "_law_seed", "_law_state", "_law_cell"]) (qual := "_law_mix") (scope := defScope (top 18)) (i := d__law_mix.adr K) (cdv := cdv) (A := A) (outer := outer) (s := s) (H := H) (E := E)
  exact es_cons (es_set 2 hN (ex_var 1))
    (es_cons (es_for hp rfl (ei_seq (ex_var 0)) (eg_name 3 hN) (es_one (es_set 2 hN (ex_op m_mod (ex_callTy b_int (T.free (x := "int") 0) rfl (ea_cons (ex_op m_add (ex_op m_add (ex_op m_mulA (ex_var 2) (ex_int)) (ex_op m_mod (ex_callTy b_int (T.free (x := "int") 0) rfl (ea_cons (ex_var 3) (ea_nil))) (ex_int))) (ex_int)) (ea_nil))) (ex_int)))))
    (es_one (es_ret (ex_lst (ea_cons (ex_var 2) (ea_cons (ex_callTy (b_listA rfl) (T.free (x := "list") 1) rfl (ea_cons (ex_var 0) (ea_nil))) (ea_cons (ex_int) (ea_cons (ex_int) (ea_nil)))))))))
theorem c__law_mix (T : Fct K mg) : Cal P w K mg base (GmK K) 2 "_law_mix" ["_law_script", "_law_seed"] f__law_mix := let ⟨fd, FD⟩ := T.c.def_ 0 (d := d__law_mix) rfl; ⟨⟨_, fd, k__law_mix T FD, T.glo (x := "_law_mix") 333, FD.kp, FD.bindsN fun _ _ _ _ _ _ us hl => match us, hl with | [_, _], _ => rfl⟩⟩
theorem s__law_next : FnScope ["_law_h", "_law_bound", "_law_cell"] ["_law_h", "_law_bound"] (defScope (top 19)) := ⟨rfl, rfl, rfl, by decide +kernel, rfl, by decide +kernel, by decide +kernel⟩
theorem k__law_next (T : Fct K mg) {fd : FuncData} (FD : FunD K d__law_next.toDefD.name d__law_next.toDefD.qual d__law_next.toDefD.params d__law_next.toDefD.body d__law_next.toDefD.scope (d__law_next.toDefD.dvs K) (d__law_next.toDefD.kws K) (d__law_next.adr K) fd) : FnOk P w K mg base (L2.CX P w) 2 (d__law_next.adr K) fd ["_law_h", "_law_bound"] (spF P w K (GmK K) 2 f__law_next) := by
  refine fn_mk (k := 1) (N := ["_law_h", "_law_bound", "_law_cell"]) (ps := ["_law_h", "_law_bound"]) FD s__law_next fun cdv A outer s H E hr => ?_
  have hN : (["_law_h", "_law_bound", "_law_cell"] : List Str).Nodup := (s__law_next).nd
  have tk := takes_cx (P := P) (w := w) (K := K) (mg := mg) (base := base) (N := ["_law_h", "_law_bound", "_law_cell"]) (qual := "_law_next") (scope := defScope (top 19)) (i := d__law_next.adr K) (cdv := cdv) (A := A) (outer := outer) (s := s) (H := H) (E := E)
  have hp := passes_cx (P := P) (w := w) (K := K) (mg := mg) (base := base) (N := ["_law_h", "_law_bound", "_law_cell"]) (qual := "_law_next") (scope := defScope (top 19)) (i := d__law_next.adr K) (cdv := cdv) (A := A) (outer := outer) (s := s) (H := H) (E := E)
  exact es_cons (es_set 2 hN (ex_ixA (hr.mono (by decide)) (ex_op m_add (ex_ixA (hr.mono (by decide)) (ex_var 0) (ex_int)) (ex_lst (ea_cons (ex_int) (ea_nil)))) (ex_op m_mod (ex_callTy b_int (T.free (x := "int") 0) rfl (ea_cons (ex_ixA (hr.mono (by decide)) (ex_var 0) (ex_int)) (ea_nil))) (ex_callB (b_max2 rfl) (T.free (x := "max") 3) rfl (ea_cons (ex_int) (ea_cons (ex_callB b_len (T.free (x := "len") 2) rfl (ea_cons (ex_ixA (hr.mono (by decide)) (ex_var 0) (ex_int)) (ea_nil))) (ea_nil)))))))
    (es_cons (es_if (et_cmp m_ge (ex_var 2) (ex_op m_pow (ex_int) (ex_int))) (es_cons (es_put (put_any (hr.mono (by decide))) (ex_ixA (hr.mono (by decide)) (ex_var 0) (ex_int)) (ex_op m_mod (ex_callTy b_int (T.free (x := "int") 0) rfl (ea_cons (ex_ixA (hr.mono (by decide)) (ex_var 0) (ex_int)) (ea_nil))) (ex_callB b_len (T.free (x := "len") 2) rfl (ea_cons (ex_ixA (hr.mono (by decide)) (ex_var 0) (ex_int)) (ea_nil)))) (ex_op m_div (ex_var 2) (ex_var 1)))
    (es_one (es_ret (ex_op m_mod (ex_callTy b_int (T.free (x := "int") 0) rfl (ea_cons (ex_var 2) (ea_nil))) (ex_var 1))))) (es_nil))
    (es_cons (es_put (put_any (hr.mono (by decide))) (ex_var 0) (ex_int) (ex_op m_mod (ex_callTy b_int (T.free (x := "int") 0) rfl (ea_cons (ex_op m_add (ex_op m_add (ex_op m_mulA (ex_ixA (hr.mono (by decide)) (ex_var 0) (ex_int)) (ex_int)) (ex_op m_mulA (ex_var 2) (ex_int))) (ex_int)) (ea_nil))) (ex_int)))
    (es_cons (es_put (put_any (hr.mono (by decide))) (ex_var 0) (ex_int) (ex_op m_add (ex_ixA (hr.mono (by decide)) (ex_var 0) (ex_int)) (ex_int)))
    (es_one (es_ret (ex_op m_mod (ex_callTy b_int (T.free (x := "int") 0) rfl (ea_cons (ex_op m_div (ex_ixA (hr.mono (by decide)) (ex_var 0) (ex_int)) (ex_int)) (ea_nil))) (ex_var 1)))))))
theorem c__law_next (T : Fct K mg) : Cal P w K mg base (GmK K) 2 "_law_next" ["_law_h", "_law_bound"] f__law_next := let ⟨fd, FD⟩ := T.c.def_ 1 (d := d__law_next) rfl; ⟨⟨_, fd, k__law_next T FD, T.glo (x := "_law_next") 334, FD.kp, FD.bindsN fun _ _ _ _ _ _ us hl => match us, hl with | [_, _], _ => rfl⟩⟩
theorem s__law_bare : FnScope ["_law_k"] ["_law_k"] (defScope (top 20)) := ⟨rfl, rfl, rfl, by decide +kernel, rfl, by decide +kernel, by decide +kernel⟩
theorem k__law_bare (T : Fct K mg) {fd : FuncData} (FD : FunD K d__law_bare.toDefD.name d__law_bare.toDefD.qual d__law_bare.toDefD.params d__law_bare.toDefD.body d__law_bare.toDefD.scope (d__law_bare.toDefD.dvs K) (d__law_bare.toDefD.kws K) (d__law_bare.adr K) fd) : FnOk P w K mg base (L2N.CX P w) 2 (d__law_bare.adr K) fd ["_law_k"] (spF P w K (GmK K) 1 f__law_bare) := by
  refine fn_mkN (k := 1) (N := ["_law_k"]) (ps := ["_law_k"]) FD s__law_bare fun cdv A outer s H E hr => ?_
  have hN : (["_law_k"] : List Str).Nodup := (s__law_bare).nd
  have tk := takes_cxN (P := P) (w := w) (K := K) (mg := mg) (base := base) (N := ["_law_k"]) (qual := "_law_bare") (scope := defScope (top 20)) (i := d__law_bare.adr K) (cdv := cdv) (A := A) (outer := outer) (s := s) (H := H) (E := E)
  exact es_cons (es_if (et_cmp (m_eq (u64 hr)) (ex_var 0) (ex_int)) (es_one (es_raise0N (c := 4) (T.exc (x := "InvalidManuals") 5 6) rfl tk)) (es_nil))
    (es_cons (es_if (et_cmp (m_eq (u64 hr)) (ex_var 0) (ex_int)) (es_one (es_raise0N (c := 7) (T.exc (x := "InvalidChain") 7 8) rfl tk)) (es_nil))
    (es_cons (es_if (et_cmp (m_eq (u64 hr)) (ex_var 0) (ex_int)) (es_one (es_raise0N (c := 8) (T.exc (x := "InvalidOctave") 9 10) rfl tk)) (es_nil))
    (es_cons (es_if (et_cmp (m_eq (u64 hr)) (ex_var 0) (ex_int)) (es_one (es_raise0N (c := 9) (T.exc (x := "InvalidTop") 11 12) rfl tk)) (es_nil))
    (es_cons (es_if (et_cmp (m_eq (u64 hr)) (ex_var 0) (ex_int)) (es_one (es_raise0N (c := 10) (T.exc (x := "InvalidKey") 13 14) rfl tk)) (es_nil))
    (es_cons (es_if (et_cmp (m_eq (u64 hr)) (ex_var 0) (ex_int)) (es_one (es_raise0N (c := 11) (T.exc (x := "InvalidPipe") 15 16) rfl tk)) (es_nil))
    (es_cons (es_if (et_cmp (m_eq (u64 hr)) (ex_var 0) (ex_int)) (es_one (es_raise0N (c := 14) (T.exc (x := "NotComparable") 17 18) rfl tk)) (es_nil))
    (es_cons (es_if (et_cmp (m_eq (u64 hr)) (ex_var 0) (ex_int)) (es_one (es_raise0N (c := 13) (T.exc (x := "InvalidManual") 19 20) rfl tk)) (es_nil))
    (es_cons (es_if (et_cmp (m_eq (u64 hr)) (ex_var 0) (ex_int)) (es_one (es_raise0N (c := 12) (T.exc (x := "InvalidRank") 21 22) rfl tk)) (es_nil))
    (es_cons (es_if (et_cmp (m_eq (u64 hr)) (ex_var 0) (ex_int)) (es_one (es_raise0N (c := 15) (T.exc (x := "InvalidMove") 23 24) rfl tk)) (es_nil))
    (es_one (es_raise0N (c := 16) (T.exc (x := "UnknownKnob") 25 26) rfl tk)))))))))))
theorem c__law_bare (T : Fct K mg) : CalN P w K mg base (GmK K) 2 "_law_bare" ["_law_k"] f__law_bare := let ⟨fd, FD⟩ := T.c.def_ 2 (d := d__law_bare) rfl; ⟨⟨_, fd, k__law_bare T FD, T.glo (x := "_law_bare") 335, FD.kp, FD.bindsN fun _ _ _ _ _ _ us hl => match us, hl with | [_], _ => rfl⟩⟩
theorem s_InvalidCoupler_init : FnScope ["self", "index"] ["self", "index"] (defScope (inCls (top 3) 0)) := ⟨rfl, rfl, rfl, by decide +kernel, rfl, by decide +kernel, by decide +kernel⟩
theorem z_InvalidCoupler (T : Fct K mg) : RzI P w K mg base 1 (He.ga K "InvalidCoupler") "InvalidCoupler" (cN 5) := by
  obtain ⟨fd, FD⟩ := T.c.def_ 3 (d := d_InvalidCoupler_init) rfl
  obtain ⟨o1, o2, o3, o4⟩ := fx_oex (T.c.fact 28 (f := .oex "InvalidCoupler" ["index"]) rfl)
  refine ⟨o1, ⟨_, fd, ["self", "index"], o2, o3, ?_, FD.bindsN fun _ _ _ _ _ _ us hl => match us, hl with | [_, _], _ => rfl⟩, T.glo 27⟩
  exact init_mk1 FD s_InvalidCoupler_init o1 (o4 _ (by simp)) fun cdv A outer s H E => pss_one (ps_ost (pv 0) (pv 1))
theorem s_InvalidStop_init : FnScope ["self", "index"] ["self", "index"] (defScope (inCls (top 4) 0)) := ⟨rfl, rfl, rfl, by decide +kernel, rfl, by decide +kernel, by decide +kernel⟩
theorem z_InvalidStop (T : Fct K mg) : RzI P w K mg base 1 (He.ga K "InvalidStop") "InvalidStop" (cN 6) := by
  obtain ⟨fd, FD⟩ := T.c.def_ 4 (d := d_InvalidStop_init) rfl
  obtain ⟨o1, o2, o3, o4⟩ := fx_oex (T.c.fact 30 (f := .oex "InvalidStop" ["index"]) rfl)
  refine ⟨o1, ⟨_, fd, ["self", "index"], o2, o3, ?_, FD.bindsN fun _ _ _ _ _ _ us hl => match us, hl with | [_, _], _ => rfl⟩, T.glo 29⟩
  exact init_mk1 FD s_InvalidStop_init o1 (o4 _ (by simp)) fun cdv A outer s H E => pss_one (ps_ost (pv 0) (pv 1))
theorem s_UnknownIndex_init : FnScope ["self", "index"] ["self", "index"] (defScope (inCls (top 7) 0)) := ⟨rfl, rfl, rfl, by decide +kernel, rfl, by decide +kernel, by decide +kernel⟩
theorem z_UnknownIndex (T : Fct K mg) : RzI P w K mg base 1 (He.ga K "UnknownIndex") "UnknownIndex" (cN 17) := by
  obtain ⟨fd, FD⟩ := T.c.def_ 5 (d := d_UnknownIndex_init) rfl
  obtain ⟨o1, o2, o3, o4⟩ := fx_oex (T.c.fact 32 (f := .oex "UnknownIndex" ["index"]) rfl)
  refine ⟨o1, ⟨_, fd, ["self", "index"], o2, o3, ?_, FD.bindsN fun _ _ _ _ _ _ us hl => match us, hl with | [_, _], _ => rfl⟩, T.glo 31⟩
  exact init_mk1 FD s_UnknownIndex_init o1 (o4 _ (by simp)) fun cdv A outer s H E => pss_one (ps_ost (pv 0) (pv 1))
theorem s_InvalidText_init : FnScope ["self", "line", "word"] ["self", "line", "word"] (defScope (inCls (top 16) 0)) := ⟨rfl, rfl, rfl, by decide +kernel, rfl, by decide +kernel, by decide +kernel⟩
theorem z_InvalidText (T : Fct K mg) : RzI P w K mg base 1 (He.ga K "InvalidText") "InvalidText" (cN 18) := by
  obtain ⟨fd, FD⟩ := T.c.def_ 6 (d := d_InvalidText_init) rfl
  obtain ⟨o1, o2, o3, o4⟩ := fx_oex (T.c.fact 34 (f := .oex "InvalidText" ["line", "word"]) rfl)
  refine ⟨o1, ⟨_, fd, ["self", "line", "word"], o2, o3, ?_, FD.bindsN fun _ _ _ _ _ _ us hl => match us, hl with | [_, _, _], _ => rfl⟩, T.glo 33⟩
  exact init_mk2 FD s_InvalidText_init o1 (o4 _ (by simp)) (o4 _ (by simp)) fun cdv A outer s H E => pss_cons (ps_ost (pv 0) (pv 1)) (pss_one (ps_ost (pv 0) (pv 2)))
theorem s__law_thrown : FnScope ["_law_k", "_law_one", "_law_two"] ["_law_k", "_law_one", "_law_two"] (defScope (top 21)) := ⟨rfl, rfl, rfl, by decide +kernel, rfl, by decide +kernel, by decide +kernel⟩
theorem k__law_thrown (T : Fct K mg) {fd : FuncData} (FD : FunD K d__law_thrown.toDefD.name d__law_thrown.toDefD.qual d__law_thrown.toDefD.params d__law_thrown.toDefD.body d__law_thrown.toDefD.scope (d__law_thrown.toDefD.dvs K) (d__law_thrown.toDefD.kws K) (d__law_thrown.adr K) fd) : FnOk P w K mg base (L2N.CX P w) 3 (d__law_thrown.adr K) fd ["_law_k", "_law_one", "_law_two"] (spF P w K (GmK K) 3 f__law_thrown) := by
  refine fn_mkN (k := 2) (N := ["_law_k", "_law_one", "_law_two"]) (ps := ["_law_k", "_law_one", "_law_two"]) FD s__law_thrown fun cdv A outer s H E hr => ?_
  have hN : (["_law_k", "_law_one", "_law_two"] : List Str).Nodup := (s__law_thrown).nd
  have tk := takes_cxN (P := P) (w := w) (K := K) (mg := mg) (base := base) (N := ["_law_k", "_law_one", "_law_two"]) (qual := "_law_thrown") (scope := defScope (top 21)) (i := d__law_thrown.adr K) (cdv := cdv) (A := A) (outer := outer) (s := s) (H := H) (E := E)
  exact es_cons (es_if (et_cmp m_lt (ex_var 0) (ex_int)) (es_one (es_expr (ex_callN (c__law_bare T) (hr.mono (by decide)) tk (ea_cons (ex_var 0) (ea_nil))))) (es_nil))
    (es_cons (es_if (et_cmp (m_eq (u64 hr)) (ex_var 0) (ex_int)) (es_one (es_raiseN (c := 5) (z_InvalidCoupler T) rfl (by decide) (hr.mono (by decide)) rfl tk (ea_cons (ex_var 1) (ea_nil)))) (es_nil))
    (es_cons (es_if (et_cmp (m_eq (u64 hr)) (ex_var 0) (ex_int)) (es_one (es_raiseN (c := 6) (z_InvalidStop T) rfl (by decide) (hr.mono (by decide)) rfl tk (ea_cons (ex_var 1) (ea_nil)))) (es_nil))
    (es_cons (es_if (et_cmp (m_eq (u64 hr)) (ex_var 0) (ex_int)) (es_one (es_raiseN (c := 17) (z_UnknownIndex T) rfl (by decide) (hr.mono (by decide)) rfl tk (ea_cons (ex_var 1) (ea_nil)))) (es_nil))
    (es_one (es_raiseN (c := 18) (z_InvalidText T) rfl (by decide) (hr.mono (by decide)) rfl tk (ea_cons (ex_var 1) (ea_cons (ex_var 2) (ea_nil))))))))
theorem c__law_thrown (T : Fct K mg) : CalN P w K mg base (GmK K) 3 "_law_thrown" ["_law_k", "_law_one", "_law_two"] f__law_thrown := let ⟨fd, FD⟩ := T.c.def_ 7 (d := d__law_thrown) rfl; ⟨⟨_, fd, k__law_thrown T FD, T.glo (x := "_law_thrown") 336, FD.kp, FD.bindsN fun _ _ _ _ _ _ us hl => match us, hl with | [_, _, _], _ => rfl⟩⟩
theorem s__law_classes : FnScope ["_law_e", "_law_found"] ["_law_e"] (defScope (top 22)) := ⟨rfl, rfl, rfl, by decide +kernel, rfl, by decide +kernel, by decide +kernel⟩
theorem k__law_classes (T : Fct K mg) {a : Addr} {oe : Obj} {c : Nat} {d : Option Addr} (hz : Zc (.ref ((GmK K).cA c)) d oe) (hf : ∃ vs, oe.data = .fields vs) {fd : FuncData} (FD : FunD K d__law_classes.toDefD.name d__law_classes.toDefD.qual d__law_classes.toDefD.params d__law_classes.toDefD.body d__law_classes.toDefD.scope (d__law_classes.toDefD.dvs K) (d__law_classes.toDefD.kws K) (d__law_classes.adr K) fd) : FnP P w K mg base (L2.CX P w) 2 (d__law_classes.adr K) fd ["_law_e"] (fun vs H Q _ => spF P w K (GmK K) 1 (f__law_classes a d c) vs H Q fun _ _ _ => False) (a, oe) := by
  refine fn_mkP (k := 1) (N := ["_law_e", "_law_found"]) (ps := ["_law_e"]) FD s__law_classes fun cdv A outer s H E => ?_
  have hN : (["_law_e", "_law_found"] : List Str).Nodup := (s__law_classes).nd
  exact es_cons (es_set 1 hN (ex_lst (ea_cons (ex_isE (cv := .ref (He.ga K "InvalidManuals")) (cx := .ref (He.ga K "InvalidManuals")) (ma := kt_InvalidManuals) hz hf (T.kx_InvalidManuals c) (ex_var 0) (pe_glob (v := .ref (He.ga K "InvalidManuals")) rfl (T.glo (x := "InvalidManuals") 5) rfl) (fun u hu => hu) (T.free (x := "isinstance") 38)) (ea_cons (ex_isE (cv := .ref (He.ga K "InvalidChain")) (cx := .ref (He.ga K "InvalidChain")) (ma := kt_InvalidChain) hz hf (T.kx_InvalidChain c) (ex_var 0) (pe_glob (v := .ref (He.ga K "InvalidChain")) rfl (T.glo (x := "InvalidChain") 7) rfl) (fun u hu => hu) (T.free (x := "isinstance") 38)) (ea_cons (ex_isE (cv := .ref (He.ga K "InvalidOctave")) (cx := .ref (He.ga K "InvalidOctave")) (ma := kt_InvalidOctave) hz hf (T.kx_InvalidOctave c) (ex_var 0) (pe_glob (v := .ref (He.ga K "InvalidOctave")) rfl (T.glo (x := "InvalidOctave") 9) rfl) (fun u hu => hu) (T.free (x := "isinstance") 38)) (ea_nil))))))
    (es_cons (es_set 1 hN (ex_op m_add (ex_var 1) (ex_lst (ea_cons (ex_isE (cv := .ref (He.ga K "InvalidTop")) (cx := .ref (He.ga K "InvalidTop")) (ma := kt_InvalidTop) hz hf (T.kx_InvalidTop c) (ex_var 0) (pe_glob (v := .ref (He.ga K "InvalidTop")) rfl (T.glo (x := "InvalidTop") 11) rfl) (fun u hu => hu) (T.free (x := "isinstance") 38)) (ea_cons (ex_isE (cv := .ref (He.ga K "InvalidKey")) (cx := .ref (He.ga K "InvalidKey")) (ma := kt_InvalidKey) hz hf (T.kx_InvalidKey c) (ex_var 0) (pe_glob (v := .ref (He.ga K "InvalidKey")) rfl (T.glo (x := "InvalidKey") 13) rfl) (fun u hu => hu) (T.free (x := "isinstance") 38)) (ea_cons (ex_isE (cv := .ref (He.ga K "InvalidPipe")) (cx := .ref (He.ga K "InvalidPipe")) (ma := kt_InvalidPipe) hz hf (T.kx_InvalidPipe c) (ex_var 0) (pe_glob (v := .ref (He.ga K "InvalidPipe")) rfl (T.glo (x := "InvalidPipe") 15) rfl) (fun u hu => hu) (T.free (x := "isinstance") 38)) (ea_nil)))))))
    (es_cons (es_set 1 hN (ex_op m_add (ex_var 1) (ex_lst (ea_cons (ex_isE (cv := .ref (He.ga K "NotComparable")) (cx := .ref (He.ga K "NotComparable")) (ma := kt_NotComparable) hz hf (T.kx_NotComparable c) (ex_var 0) (pe_glob (v := .ref (He.ga K "NotComparable")) rfl (T.glo (x := "NotComparable") 17) rfl) (fun u hu => hu) (T.free (x := "isinstance") 38)) (ea_cons (ex_isE (cv := .ref (He.ga K "InvalidManual")) (cx := .ref (He.ga K "InvalidManual")) (ma := kt_InvalidManual) hz hf (T.kx_InvalidManual c) (ex_var 0) (pe_glob (v := .ref (He.ga K "InvalidManual")) rfl (T.glo (x := "InvalidManual") 19) rfl) (fun u hu => hu) (T.free (x := "isinstance") 38)) (ea_cons (ex_isE (cv := .ref (He.ga K "InvalidRank")) (cx := .ref (He.ga K "InvalidRank")) (ma := kt_InvalidRank) hz hf (T.kx_InvalidRank c) (ex_var 0) (pe_glob (v := .ref (He.ga K "InvalidRank")) rfl (T.glo (x := "InvalidRank") 21) rfl) (fun u hu => hu) (T.free (x := "isinstance") 38)) (ea_nil)))))))
    (es_cons (es_set 1 hN (ex_op m_add (ex_var 1) (ex_lst (ea_cons (ex_isE (cv := .ref (He.ga K "InvalidMove")) (cx := .ref (He.ga K "InvalidMove")) (ma := kt_InvalidMove) hz hf (T.kx_InvalidMove c) (ex_var 0) (pe_glob (v := .ref (He.ga K "InvalidMove")) rfl (T.glo (x := "InvalidMove") 23) rfl) (fun u hu => hu) (T.free (x := "isinstance") 38)) (ea_cons (ex_isE (cv := .ref (He.ga K "UnknownKnob")) (cx := .ref (He.ga K "UnknownKnob")) (ma := kt_UnknownKnob) hz hf (T.kx_UnknownKnob c) (ex_var 0) (pe_glob (v := .ref (He.ga K "UnknownKnob")) rfl (T.glo (x := "UnknownKnob") 25) rfl) (fun u hu => hu) (T.free (x := "isinstance") 38)) (ea_cons (ex_isE (cv := .ref (He.ga K "InvalidCoupler")) (cx := .ref (He.ga K "InvalidCoupler")) (ma := kt_InvalidCoupler) hz hf (T.kx_InvalidCoupler c) (ex_var 0) (pe_glob (v := .ref (He.ga K "InvalidCoupler")) rfl (T.glo (x := "InvalidCoupler") 27) rfl) (fun u hu => hu) (T.free (x := "isinstance") 38)) (ea_nil)))))))
    (es_one (es_ret (ex_op m_add (ex_var 1) (ex_lst (ea_cons (ex_isE (cv := .ref (He.ga K "InvalidStop")) (cx := .ref (He.ga K "InvalidStop")) (ma := kt_InvalidStop) hz hf (T.kx_InvalidStop c) (ex_var 0) (pe_glob (v := .ref (He.ga K "InvalidStop")) rfl (T.glo (x := "InvalidStop") 29) rfl) (fun u hu => hu) (T.free (x := "isinstance") 38)) (ea_cons (ex_isE (cv := .ref (He.ga K "UnknownIndex")) (cx := .ref (He.ga K "UnknownIndex")) (ma := kt_UnknownIndex) hz hf (T.kx_UnknownIndex c) (ex_var 0) (pe_glob (v := .ref (He.ga K "UnknownIndex")) rfl (T.glo (x := "UnknownIndex") 31) rfl) (fun u hu => hu) (T.free (x := "isinstance") 38)) (ea_cons (ex_isE (cv := .ref (He.ga K "InvalidText")) (cx := .ref (He.ga K "InvalidText")) (ma := kt_InvalidText) hz hf (T.kx_InvalidText c) (ex_var 0) (pe_glob (v := .ref (He.ga K "InvalidText")) rfl (T.glo (x := "InvalidText") 33) rfl) (fun u hu => hu) (T.free (x := "isinstance") 38)) (ea_nil)))))))))))
theorem c__law_classes (T : Fct K mg) {a : Addr} {oe : Obj} {c : Nat} {d : Option Addr} (hz : Zc (.ref ((GmK K).cA c)) d oe) (hf : ∃ vs, oe.data = .fields vs) : CalP P w K mg base (GmK K) 2 "_law_classes" ["_law_e"] (f__law_classes a d c) (a, oe) := let ⟨fd, FD⟩ := T.c.def_ 8 (d := d__law_classes) rfl; ⟨⟨_, fd, k__law_classes T hz hf FD, T.glo (x := "_law_classes") 337, FD.kp, FD.bindsN fun _ _ _ _ _ _ us hl => match us, hl with | [_], _ => rfl⟩⟩
theorem s__law_parts : FnScope ["_law_k", "_law_e"] ["_law_k", "_law_e"] (defScope (top 23)) := ⟨rfl, rfl, rfl, by decide +kernel, rfl, by decide +kernel, by decide +kernel⟩
theorem k__law_parts (T : Fct K mg) {a : Addr} {oe : Obj} {c : Nat} {d : Option Addr} (hz : Zc (.ref ((GmK K).cA c)) d oe) (hf : ∃ vs, oe.data = .fields vs) {fd : FuncData} (FD : FunD K d__law_parts.toDefD.name d__law_parts.toDefD.qual d__law_parts.toDefD.params d__law_parts.toDefD.body d__law_parts.toDefD.scope (d__law_parts.toDefD.dvs K) (d__law_parts.toDefD.kws K) (d__law_parts.adr K) fd) : FnP P w K mg base (L2.CX P w) 2 (d__law_parts.adr K) fd ["_law_k", "_law_e"] (fun vs H Q _ => spF P w K (GmK K) 2 (f__law_parts a d c) vs H Q fun _ _ _ => False) (a, oe) := by
  refine fn_mkP (k := 1) (N := ["_law_k", "_law_e"]) (ps := ["_law_k", "_law_e"]) FD s__law_parts fun cdv A outer s H E => ?_
  have hN : (["_law_k", "_law_e"] : List Str).Nodup := (s__law_parts).nd
  exact es_cons (es_if (et_cmp m_lt (ex_var 0) (ex_int)) (es_one (es_ret (ex_lst (ea_nil)))) (es_nil))
    (es_one (es_ret (ex_if (et_cmp m_lt (ex_var 0) (ex_int)) (ex_lst (ea_cons (ex_xf2 hz hf (T.xf_index c) (ex_var 1)) (ea_nil))) (ex_lst (ea_cons (ex_xf2 hz hf (T.xf_line c) (ex_var 1)) (ea_cons (ex_xf2 hz hf (T.xf_word c) (ex_var 1)) (ea_nil)))))))
theorem c__law_parts (T : Fct K mg) {a : Addr} {oe : Obj} {c : Nat} {d : Option Addr} (hz : Zc (.ref ((GmK K).cA c)) d oe) (hf : ∃ vs, oe.data = .fields vs) : CalP P w K mg base (GmK K) 2 "_law_parts" ["_law_k", "_law_e"] (f__law_parts a d c) (a, oe) := let ⟨fd, FD⟩ := T.c.def_ 9 (d := d__law_parts) rfl; ⟨⟨_, fd, k__law_parts T hz hf FD, T.glo (x := "_law_parts") 338, FD.kp, FD.bindsN fun _ _ _ _ _ _ us hl => match us, hl with | [_, _], _ => rfl⟩⟩
theorem s__law_right : FnScope ["_law_k", "_law_one", "_law_two", "_law_good", "_law_due", "_law_e", "_law_other"] ["_law_k", "_law_one", "_law_two"] (defScope (top 24)) := ⟨rfl, rfl, rfl, by decide +kernel, rfl, by decide +kernel, by decide +kernel⟩
theorem k__law_right (T : Fct K mg) {fd : FuncData} (FD : FunD K d__law_right.toDefD.name d__law_right.toDefD.qual d__law_right.toDefD.params d__law_right.toDefD.body d__law_right.toDefD.scope (d__law_right.toDefD.dvs K) (d__law_right.toDefD.kws K) (d__law_right.adr K) fd) : FnOk P w K mg base (L2N.CX P w) 4 (d__law_right.adr K) fd ["_law_k", "_law_one", "_law_two"] (spF P w K (GmK K) 3 f__law_right) := by
  refine fn_mkN (k := 3) (N := ["_law_k", "_law_one", "_law_two", "_law_good", "_law_due", "_law_e", "_law_other"]) (ps := ["_law_k", "_law_one", "_law_two"]) FD s__law_right fun cdv A outer s H E hr => ?_
  have hN : (["_law_k", "_law_one", "_law_two", "_law_good", "_law_due", "_law_e", "_law_other"] : List Str).Nodup := (s__law_right).nd
  have tk := takes_cxN (P := P) (w := w) (K := K) (mg := mg) (base := base) (N := ["_law_k", "_law_one", "_law_two", "_law_good", "_law_due", "_law_e", "_law_other"]) (qual := "_law_right") (scope := defScope (top 24)) (i := d__law_right.adr K) (cdv := cdv) (A := A) (outer := outer) (s := s) (H := H) (E := E)
  exact es_cons (es_set 3 hN (ex_bl))
    (es_cons (es_set 4 hN (ex_op m_add (ex_cut (ex_lst (ea_cons (ex_var 1) (ea_nil))) (eo_none) (eo_some (ex_callTy b_int (T.free (x := "int") 0) rfl (ea_cons (ex_cmp m_gt (ex_var 0) (ex_int)) (ea_nil))))) (ex_cut (ex_lst (ea_cons (ex_var 2) (ea_nil))) (eo_none) (eo_some (ex_callTy b_int (T.free (x := "int") 0) rfl (ea_cons (ex_cmp m_gt (ex_var 0) (ex_int)) (ea_nil)))))))
    (es_cons (es_tryN (i := 5) (ma := mt_OrganError) rfl rfl hN rfl rfl ⟨rfl, by decide, .inl (T.glo (x := "OrganError") 35)⟩ tk (T.mx_OrganError) (fun W' pn xe tk' hp' => es_one (es_expr (ex_callN (c__law_thrown T) (hr.mono (by decide)) tk' (ea_cons (ex_var 0) (ea_cons (ex_var 1) (ea_cons (ex_var 2) (ea_nil))))))) (fun a oe c d fs pn hz hf hot => es_cons (es_set 3 hN (ex_and (ex_isE (cv := .type "ValueError") (cx := .ty "ValueError") (ma := kt_ValueError) hz hf (T.kx_ValueError c) (ex_var 5) (pe_bltn rfl (T.free (x := "ValueError") 37) boot_ValueError rfl) (fun u hu => hu) (T.free (x := "isinstance") 38)) (ex_one (ex_cmp (m_eq (u64m hr)) (ex_callS hot (c__law_classes T hz hf) (hr.mono (by decide)) (ea_cons (ex_var 5) (ea_nil))) (ex_lcS (own := [("_law_other", 6)]) hot hN (ex_int) (T.free (x := "range") 4) (blkOk_by (N := ["_law_k", "_law_one", "_law_two", "_law_good", "_law_due", "_law_e", "_law_other"]) (sc := defScope (top 24)) (by decide +kernel)) (by decide) (fun _ _ _ _ _ => eg_name 6 hN) (fun _ _ _ _ _ => ex_cmp (m_eq (u64m hr)) (ex_var 6) (ex_var 0)))))))
    (es_one (es_set 3 hN (ex_and (ex_var 3) (ex_one (ex_cmp (m_eq (u64m hr)) (ex_callS hot (c__law_parts T hz hf) (hr.mono (by decide)) (ea_cons (ex_var 0) (ea_cons (ex_var 5) (ea_nil)))) (ex_var 4))))))))
    (es_one (es_ret (ex_var 3)))))
theorem c__law_right (T : Fct K mg) : CalN P w K mg base (GmK K) 4 "_law_right" ["_law_k", "_law_one", "_law_two"] f__law_right := let ⟨fd, FD⟩ := T.c.def_ 10 (d := d__law_right) rfl; ⟨⟨_, fd, k__law_right T FD, T.glo (x := "_law_right") 339, FD.kp, FD.bindsN fun _ _ _ _ _ _ us hl => match us, hl with | [_, _, _], _ => rfl⟩⟩
theorem s_law : FnScope ["_law_script", "_law_h", "_law_one", "_law_two", "_law_k"] ["_law_script"] (defScope (top 25)) := ⟨rfl, rfl, rfl, by decide +kernel, rfl, by decide +kernel, by decide +kernel⟩
theorem k_law (T : Fct K mg) {fd : FuncData} (FD : FunD K d_law.toDefD.name d_law.toDefD.qual d_law.toDefD.params d_law.toDefD.body d_law.toDefD.scope (d_law.toDefD.dvs K) (d_law.toDefD.kws K) (d_law.adr K) fd) : FnOk P w K mg base (L2.CX P w) 5 (d_law.adr K) fd ["_law_script"] (spF P w K (GmK K) 1 f_law) := by
  refine fn_mk (k := 4) (N := ["_law_script", "_law_h", "_law_one", "_law_two", "_law_k"]) (ps := ["_law_script"]) FD s_law fun cdv A outer s H E hr => ?_
  have hN : (["_law_script", "_law_h", "_law_one", "_law_two", "_law_k"] : List Str).Nodup := (s_law).nd
  have tk := takes_cx (P := P) (w := w) (K := K) (mg := mg) (base := base) (N := ["_law_script", "_law_h", "_law_one", "_law_two", "_law_k"]) (qual := "law") (scope := defScope (top 25)) (i := d_law.adr K) (cdv := cdv) (A := A) (outer := outer) (s := s) (H := H) (E := E)
  have hp := passes_cx (P := P) (w := w) (K := K) (mg := mg) (base := base) (N := ["_law_script", "_law_h", "_law_one", "_law_two", "_law_k"]) (qual := "law") (scope := defScope (top 25)) (i := d_law.adr K) (cdv := cdv) (A := A) (outer := outer) (s := s) (H := H) (E := E)
  exact es_cons (es_set 1 hN (ex_call (c__law_mix T) (hr.mono (by decide)) tk (ea_cons (ex_var 0) (ea_cons (ex_int) (ea_nil)))))
    (es_cons (es_set 2 hN (ex_ixA (hr.mono (by decide)) (ex_lst (ea_cons (ex_str) (ea_cons (ex_str) (ea_cons (ex_int) (ea_cons (ex_tup (ea_cons (ex_str) (ea_cons (ex_int) (ea_nil)))) (ea_cons (ex_non) (ea_nil))))))) (ex_call (c__law_next T) (hr.mono (by decide)) tk (ea_cons (ex_var 1) (ea_cons (ex_int) (ea_nil))))))
    (es_cons (es_set 3 hN (ex_ixA (hr.mono (by decide)) (ex_lst (ea_cons (ex_tup (ea_nil)) (ea_cons (ex_str) (ea_cons (ex_int) (ea_cons (ex_non) (ea_nil)))))) (ex_call (c__law_next T) (hr.mono (by decide)) tk (ea_cons (ex_var 1) (ea_cons (ex_int) (ea_nil))))))
    (es_one (es_ret (ex_callB (b_all rfl) (T.free (x := "all") 39) rfl (ea_cons (ex_lc (own := [("_law_k", 4)]) rfl hN (ei_range1 (ex_int) (T.free (x := "range") 4)) (blkOk_by (N := ["_law_script", "_law_h", "_law_one", "_law_two", "_law_k"]) (sc := defScope (top 25)) (by decide +kernel)) (by decide) (fun _ _ _ _ _ => eg_name 4 hN) (fun _ _ _ _ _ => ets_nil) (fun _ _ _ _ _ => ex_callN (c__law_right T) (hr.mono (by decide)) takes_W0N (ea_cons (ex_var 4) (ea_cons (ex_var 2) (ea_cons (ex_var 3) (ea_nil)))))) (ea_nil)))))))
theorem c_law (T : Fct K mg) : Cal P w K mg base (GmK K) 5 "law" ["_law_script"] f_law := let ⟨fd, FD⟩ := T.c.def_ 11 (d := d_law) rfl; ⟨⟨_, fd, k_law T FD, T.glo (x := "law") 340, FD.kp, FD.bindsN fun _ _ _ _ _ _ us hl => match us, hl with | [_], _ => rfl⟩⟩
end
end Wk
end
section
set_option maxRecDepth 100000
set_option maxHeartbeats 2000000
set_option autoImplicit false
namespace Mi
open PySem

def wX {α : Type} (r : R α) (Q : α → Hs → Prop) : Prop := match r with
  | .ok a M => Q a M
  | _ => False
def wO {α : Type} (r : Option (α × Hs)) (Q : α → Hs → Prop) : Prop := match r with
  | some (a, M) => Q a M
  | none => False
def wS (r : RS) (N : Sl → Hs → Prop) (T : D → Hs → Prop) : Prop := match r with
  | .nx ζ M => N ζ M
  | .rt d M => T d M
  | _ => False
section
variable {α β : Type} {Q Q' : α → Hs → Prop} {ζ : Sl} {M : Hs} {N N' : Sl → Hs → Prop} {T T' : D → Hs → Prop}
theorem wX_ok {a : α} : wX (.ok a M) Q = Q a M := rfl
theorem wX_no : wX (.no : R α) Q = False := rfl
theorem wX_mono {r : R α} (h : wX r Q) (i : ∀ a M, Q a M → Q' a M) : wX r Q' := by
  cases r with
  | ok a M => exact i a M h
  | _ => exact h
theorem wS_mono {r : RS} (h : wS r N T) (i : ∀ a M, N a M → N' a M) (j : ∀ a M, T a M → T' a M) : wS r N' T' := by
  cases r with
  | nx a M => exact i a M h
  | rt a M => exact j a M h
  | _ => exact h
theorem wX_get {r : R α} (h : wX r Q) : ∃ a M, r = .ok a M ∧ Q a M := by
  cases r with
  | ok a M => exact ⟨a, M, rfl, h⟩
  | _ => exact h.elim
theorem wX_eq {r : R α} {a : α} (h : r = .ok a M) (q : Q a M) : wX r Q := by rw [h]; exact q
theorem wX_bind {r : R α} {k : α → Hs → R β} {Q : β → Hs → Prop} : wX (r.bind k) Q = wX r fun a M => wX (k a M) Q := by cases r <;> rfl
theorem wX_of {r : Option (α × Hs)} : wX (R.of r) Q = wO r Q := by
  cases r with
  | none => rfl
  | some p => rfl
theorem wO_some {a : α} : wO (some (a, M)) Q = Q a M := rfl
theorem wO_none : wO (none : Option (α × Hs)) Q = False := rfl
theorem wS_nx : wS (.nx ζ M) N T = N ζ M := rfl
theorem wS_rt {d : D} : wS (.rt d M) N T = T d M := rfl
theorem wS_of {r : R α} {k : α → Hs → RS} : wS (RS.of ζ r k) N T = wX r fun a M => wS (k a M) N T := by cases r <;> rfl
variable {a b : MS} {f g fo fi fv : MX} {t : MT} {i : Nat} {ga : MA}
theorem wS_seq : wS (sSeq a b ζ M) N T = wS (a ζ M) (fun ζ M => wS (b ζ M) N T) T := by
  unfold sSeq
  cases a ζ M <;> rfl
theorem wS_set : wS (sSet i f ζ M) N T = wX (f ζ M) fun d M => N (ζ.set i (some d)) M := wS_of
theorem wS_ret : wS (sRet f ζ M) N T = wX (f ζ M) T := wS_of
theorem wS_expr : wS (sExpr f ζ M) N T = wX (f ζ M) fun _ M => N ζ M := wS_of
theorem wS_pass : wS (sPass ζ M) N T = N ζ M := rfl
theorem wS_if : wS (sIf t a b ζ M) N T = wX (t ζ M) fun c M => if c = true then wS (a ζ M) N T else wS (b ζ M) N T := by
  unfold sIf
  rw [wS_of]
  congr
  funext c M
  split <;> rfl
theorem wS_put {p : D → D → D → Hs → Option Hs} : wS (sPut p fo fi fv ζ M) N T = wX (fv ζ M) fun v M => wX (fo ζ M) fun o M => wX (fi ζ M) fun i M => match p o i v M with
  | some M => N ζ M
  | none => False := by
  unfold sPut
  rw [wS_of]
  congr
  funext v M1
  rw [wS_of]
  congr
  funext o M2
  rw [wS_of]
  congr
  funext i M3
  cases p o i v M3 <;> rfl
variable {Qd : D → Hs → Prop}
theorem wX_var : wX (xVar i ζ M) Qd = match ζ[i]? with
  | some (some d) => Qd d M
  | _ => False := by
  unfold xVar
  cases ζ[i]? with
  | none => rfl
  | some o => cases o <;> rfl
theorem wX_c {d : D} : wX (xC d ζ M) Qd = Qd d M := rfl
theorem wX_2 {p : D → D → Hs → Option (D × Hs)} : wX (x2 p f g ζ M) Qd = wX (f ζ M) fun x M => wX (g ζ M) fun y M => wO (p x y M) Qd := by
  unfold x2
  simp only [wX_bind, wX_of]
theorem wX_3 {p p' : D → D → Hs → Option (D × Hs)} : wX (x3 p p' f g fo ζ M) Qd = wX (f ζ M) fun x M => wX (g ζ M) fun y M => wO (p x y M) fun z M => match z with
  | .bl true => wX (fo ζ M) fun u M => wO (p' y u M) Qd
  | .bl false => Qd (.bl false) M
  | _ => False := by
  unfold x3
  simp only [wX_bind, wX_of]
  congr
  funext x M1
  congr
  funext y M2
  congr
  funext z M3
  split
  · rw [wX_bind]
    simp only [wX_of]
  · rfl
  · rename_i h1 h2
    first
      | rfl
      | (split
         · exact absurd rfl h1
         · exact absurd rfl h2
         · rfl)
theorem wX_anil {Q : List D → Hs → Prop} : wX (aNil ζ M) Q = Q [] M := rfl
theorem wX_acons {Q : List D → Hs → Prop} : wX (aCons f ga ζ M) Q = wX (f ζ M) fun x M => wX (ga ζ M) fun xs M => Q (x :: xs) M := by
  unfold aCons
  simp only [wX_bind, wX_ok]
theorem wX_tup : wX (xTup ga ζ M) Qd = wX (ga ζ M) fun ds M => if ds.length ≤ sizeLine then Qd (.tup ds) M else False := by
  unfold xTup
  simp only [wX_bind]
  congr
  funext ds M
  split <;> rfl
theorem wX_lst : wX (xLst ga ζ M) Qd = wX (ga ζ M) fun ds M => if ds.length ≤ sizeLine then Qd (.ref M.length) (M ++ [.lst ds]) else False := by
  unfold xLst newL
  simp only [wX_bind, wX_of]
  congr
  funext ds M
  split <;> rfl
theorem wX_dict : wX (xDict ζ M) Qd = Qd (.ref M.length) (M ++ [.dct []]) := rfl
theorem wX_b {p : GL} : wX (xB p ga ζ M) Qd = wX (ga ζ M) fun ds M => wO (p ds M) Qd := by
  unfold xB
  simp only [wX_bind, wX_of]
theorem wX_meth {ok : D → Hs → Bool} {p : GM} : wX (xMeth ok p f ga ζ M) Qd = wX (f ζ M) fun x M => if ok x M = true then wX (ga ζ M) fun ds M => wO (p x ds M) Qd else False := by
  unfold xMeth
  rw [wX_bind]
  congr
  funext x M
  split
  · simp only [wX_bind, wX_of]
  · rfl
theorem wX_call {n : Nat} {F : MF} : wX (xCall n F ga ζ M) Qd = wX (ga ζ M) fun ds M => if ds.length = n then wX (F ds M) Qd else False := by
  unfold xCall
  rw [wX_bind]
  congr
  funext ds M
  split <;> rfl
theorem wX_fn {np nl : Nat} {ds : List D} : wX (fnS np nl a ds M) Qd = wS (a (ds.map some ++ List.replicate (nl - np) none) M) (fun _ M => Qd .non M) Qd := by
  unfold fnS
  cases a (ds.map some ++ List.replicate (nl - np) none) M <;> rfl
theorem wX_if : wX (xIf t f g ζ M) Qd = wX (t ζ M) fun c M => if c = true then wX (f ζ M) Qd else wX (g ζ M) Qd := by
  unfold xIf
  rw [wX_bind]
  congr
  funext c M
  split <;> rfl
theorem wX_t1 {Q : Bool → Hs → Prop} : wX (tB1 f ζ M) Q = wX (f ζ M) fun x M => match x with
  | .bl k => Q k M
  | _ => False := by
  unfold tB1
  rw [wX_bind]
  congr
  funext x M
  cases x <;> rfl
variable {t2 : MT} {Qb : Bool → Hs → Prop}
theorem wX_and2 : wX (tAnd2 t t2 ζ M) Qb = wX (t ζ M) fun c M => if c = true then wX (t2 ζ M) Qb else Qb false M := by
  unfold tAnd2
  rw [wX_bind]
  congr
  funext c M
  split <;> rfl
theorem wX_or2 : wX (tOr2 t t2 ζ M) Qb = wX (t ζ M) fun c M => if c = true then Qb true M else wX (t2 ζ M) Qb := by
  unfold tOr2
  rw [wX_bind]
  congr
  funext c M
  split <;> rfl
theorem wX_not1 : wX (tNot1 t ζ M) Qb = wX (t ζ M) fun c M => Qb (!c) M := by
  unfold tNot1
  rw [wX_bind]
  rfl
theorem wX_true : wX (tTrue ζ M) Qb = Qb true M := rfl
theorem wX_neg : wX (xNeg f ζ M) Qd = wX (f ζ M) fun x M => match x with
  | .int i => Qd (.int (-i)) M
  | _ => False := by
  unfold xNeg
  rw [wX_bind]
  congr
  funext x M
  cases x <;> rfl
theorem wX_oN {Q : Option Int → Hs → Prop} : wX (oNone ζ M) Q = Q none M := rfl
theorem wX_oS {Q : Option Int → Hs → Prop} : wX (oSome f ζ M) Q = wX (f ζ M) fun x M => match x with
  | .int i => Q (some i) M
  | _ => False := by
  unfold oSome
  rw [wX_bind]
  congr
  funext x M
  cases x <;> rfl
theorem wX_not : wX (xNot f ζ M) Qd = wX (f ζ M) fun x M => match x with
  | .bl k => Qd (.bl (!k)) M
  | _ => False := by
  unfold xNot
  rw [wX_bind]
  congr
  funext x M
  cases x <;> rfl
theorem wX_and : wX (xAnd f g ζ M) Qd = wX (f ζ M) fun x M => match x with
  | .bl true => wX (g ζ M) Qd
  | .bl false => Qd (.bl false) M
  | _ => False := by
  unfold xAnd
  rw [wX_bind]
  congr
  funext x M
  split <;> first | rfl | (rename_i h1 h2; split <;> first | exact absurd rfl h1 | exact absurd rfl h2 | rfl)
theorem wX_or : wX (xOr f g ζ M) Qd = wX (f ζ M) fun x M => match x with
  | .bl true => Qd (.bl true) M
  | .bl false => wX (g ζ M) Qd
  | _ => False := by
  unfold xOr
  rw [wX_bind]
  congr
  funext x M
  split <;> first | rfl | (rename_i h1 h2; split <;> first | exact absurd rfl h1 | exact absurd rfl h2 | rfl)
theorem wX_is {T : String} : wX (xIs T f ζ M) Qd = wX (f ζ M) fun x M => match kindOf x M with
  | some k => Qd (.bl (isKind k T)) M
  | none => False := by
  unfold xIs
  rw [wX_bind]
  congr
  funext x M
  cases kindOf x M <;> rfl
theorem wX_cut {l h : MO'} : wX (xCut f l h ζ M) Qd = wX (f ζ M) fun x M => wX (l ζ M) fun i M => wX (h ζ M) fun j M => wO (gCut x i j M) Qd := by
  unfold xCut
  simp only [wX_bind, wX_of]
theorem wX_fld {c k : Nat} : wX (xFld c k f ζ M) Qd = wX (f ζ M) fun x M => match slAt c x M with
  | some (_, fs) => match fs[k]? with
    | some (some d) => Qd d M
    | _ => False
  | none => False := by
  unfold xFld
  rw [wX_bind]
  congr
  funext x M
  cases slAt c x M with
  | none => rfl
  | some q =>
    obtain ⟨n, fs⟩ := q
    dsimp only
    cases fs[k]? with
    | none => rfl
    | some o => cases o <;> rfl
theorem wS_for {s : MY} {p : Pt} : wS (sFor s p a ζ M) N T = wX (s ζ M) fun yd M => wS (forN yd.y p a yd.fuel 0 ζ M) N T := wS_of
theorem wS_forN {y : Nat → Hs → Option (Option D)} {p : Pt} (I : Nat → Sl → Hs → Prop) (e : Nat) (go : ∀ i ζ M, i < e → I i ζ M → ∃ d l, y i M = some (some d) ∧ bindP p d = some l ∧ wS (a (setAll ζ l) M) (I (i + 1)) T) (fin : ∀ ζ M, I e ζ M → y e M = some none ∧ N ζ M) :
    ∀ (m i : Nat) (ζ : Sl) (M : Hs), e - i < m → i ≤ e → I i ζ M → wS (forN y p a m i ζ M) N T
  | 0, _, _, _, h, _, _ => by omega
  | m + 1, i, ζ, M, h, hi, q => by
    unfold forN
    by_cases hie : i = e
    · subst hie
      obtain ⟨h1, h2⟩ := fin ζ M q
      rw [h1]
      exact h2
    · obtain ⟨d, l, h1, h2, h3⟩ := go i ζ M (by omega) q
      rw [h1]
      dsimp only
      rw [h2]
      dsimp only
      cases hr : a (setAll ζ l) M with
      | nx ζ1 M1 => rw [hr] at h3; exact wS_forN I e go fin m (i + 1) ζ1 M1 (by omega) (by omega) h3
      | rt d M1 => rw [hr] at h3; exact h3
      | bk ζ1 M1 => rw [hr] at h3; exact h3.elim
      | ct ζ1 M1 => rw [hr] at h3; exact h3.elim
      | ex c fs ζ1 M1 => rw [hr] at h3; exact h3.elim
      | no => rw [hr] at h3; exact h3.elim
theorem wS_whileN (I : Nat → Sl → Hs → Prop) (go : ∀ n ζ M, I n ζ M → wX (t ζ M) fun c M => if c = true then wS (a ζ M) (fun ζ M => ∃ m, m < n ∧ I m ζ M) T else N ζ M) : ∀ (m n : Nat) (ζ : Sl) (M : Hs), n < m → I n ζ M → wS (whileN t a m ζ M) N T
  | 0, _, _, _, h, _ => by omega
  | m + 1, n, ζ, M, h, q => by
    have g := go n ζ M q
    unfold whileN
    rw [wS_of]
    refine wX_mono g fun c M1 h1 => ?_
    cases c with
    | false => exact h1
    | true =>
      rw [if_pos rfl] at h1 ⊢
      cases hr : a ζ M1 with
      | nx ζ1 M2 =>
        rw [hr] at h1
        obtain ⟨k, hk, hi⟩ := h1
        exact wS_whileN I go m k ζ1 M2 (by omega) hi
      | rt d M2 => rw [hr] at h1; exact h1
      | bk ζ1 M2 => rw [hr] at h1; exact h1.elim
      | ct ζ1 M2 => rw [hr] at h1; exact h1.elim
      | ex c fs ζ1 M2 => rw [hr] at h1; exact h1.elim
      | no => rw [hr] at h1; exact h1.elim
theorem wS_while (I : Nat → Sl → Hs → Prop) (n : Nat) (h : n < 10 ^ 30) (q : I n ζ M) (go : ∀ n ζ M, I n ζ M → wX (t ζ M) fun c M => if c = true then wS (a ζ M) (fun ζ M => ∃ m, m < n ∧ I m ζ M) T else N ζ M) : wS (sWhile t a ζ M) N T :=
  wS_whileN I go far n ζ M h q
/-- a comprehension's loop -/
theorem wX_lcN {y : Nat → Hs → Option (Option D)} {p : Pt} {k : Sl → Hs → R Unit} {Q : Hs → Prop} (I : Nat → Hs → Prop) (e : Nat) (go : ∀ i M, i < e → I i M → ∃ d l, y i M = some (some d) ∧ bindP p d = some l ∧ wX (k (setAll ζ l) M) fun _ M => I (i + 1) M)
    (fin : ∀ M, I e M → y e M = some none ∧ Q M) : ∀ (m i : Nat) (M : Hs), e - i < m → i ≤ e → I i M → wX (lcN y p k ζ m i M) fun _ M => Q M
  | 0, _, _, h, _, _ => by omega
  | m + 1, i, M, h, hi, q => by
    unfold lcN
    by_cases hie : i = e
    · subst hie
      obtain ⟨h1, h2⟩ := fin M q
      rw [h1]
      exact h2
    · obtain ⟨d, l, h1, h2, h3⟩ := go i M (by omega) q
      rw [h1]
      dsimp only
      rw [h2]
      dsimp only
      cases hr : k (setAll ζ l) M with
      | ok u M1 => rw [hr] at h3; exact wX_lcN I e go fin m (i + 1) M1 (by omega) (by omega) h3
      | ex c fs M1 => rw [hr] at h3; exact h3.elim
      | no => rw [hr] at h3; exact h3.elim
theorem wX_lc {s : MY} {vs : List Nat} {p : Pt} : wX (xLc s vs p t f ζ M) Qd = wX (s ζ M) fun yd M1 => wX (lcN yd.y p (lcB t f M1.length) (wipeD ζ vs) yd.fuel 0 (M1 ++ [.lst []])) fun _ M2 => Qd (.ref M1.length) M2 := by
  unfold xLc
  simp only [wX_bind, wX_ok]
/-- a comprehension over known items whose test and item only allocate: p i is put in where c i -/
theorem wX_lcB {n : Nat} {c : Bool} {v : D} {acc : List D} {Q : Unit → Hs → Prop} (ht : wX (t ζ M) fun b M1 => b = c ∧ (if c = true then wX (f ζ M1) fun z M2 => z = v ∧ hLst M2 n = some acc ∧ acc.length < sizeLine ∧ Q () (M2.set n (.lst (acc ++ [v]))) else Q () M1)) : wX (lcB t f n ζ M) Q := by
  unfold lcB
  obtain ⟨b, M1, h1, rfl, h2⟩ := wX_get ht
  rw [h1]
  cases b with
  | false => exact h2
  | true =>
    rw [if_pos rfl] at h2
    obtain ⟨z, M2, h3, rfl, h4, h5, h6⟩ := wX_get h2
    dsimp only
    rw [h3]
    dsimp only
    unfold lput
    rw [h4]
    dsimp only
    rw [if_pos h5]
    exact h6
end
end Mi
end
section
set_option maxRecDepth 100000
set_option maxHeartbeats 2000000
set_option autoImplicit false
namespace Mi
open PySem
def optD : Option Int → D
  | some i => .int i
  | none => .non
/-- where a key leads -/
def ledP (p s t o : Int) : Option Int :=
  let f := p + s
  let f := if 0 < o ∧ f < 0 then f + o else if 0 < o ∧ t < f then f - o else f
  if 0 ≤ f ∧ f ≤ t then some f else none
theorem g_add {i j : Int} {M : Hs} : gAdd (.int i) (.int j) M = some (.int (i + j), M) := rfl
theorem g_sub {i j : Int} {M : Hs} : gSub (.int i) (.int j) M = some (.int (i - j), M) := rfl
theorem g_lt {i j : Int} {M : Hs} : gLt (.int i) (.int j) M = some (.bl (decide (i < j)), M) := rfl
theorem g_le {i j : Int} {M : Hs} : gLe (.int i) (.int j) M = some (.bl (decide (i ≤ j)), M) := rfl
theorem g_gt {i j : Int} {M : Hs} : gGt (.int i) (.int j) M = some (.bl (decide (j < i)), M) := rfl
theorem g_ge {i j : Int} {M : Hs} : gGe (.int i) (.int j) M = some (.bl (decide (j ≤ i)), M) := rfl
theorem g_mod {i j : Int} {M : Hs} (h : 0 < j) : gMod (.int i) (.int j) M = some (.int (i % j), M) := by unfold gMod gI; simp [h]
theorem g_div {i j : Int} {M : Hs} (h : 0 < j) (h2 : j < 1073741824) : gDiv (.int i) (.int j) M = some (.int (i / j), M) := by unfold gDiv gI; simp [h, h2]
theorem g_mul {i j : Int} {M : Hs} (h : inW j = true) : gMul (.int i) (.int j) M = some (.int (i * j), M) := by unfold gMul gI; simp [h]
theorem g_int {i : Int} {M : Hs} : gInt [.int i] M = some (.int i, M) := rfl
theorem g_intb {b : Bool} {M : Hs} : gInt [.bl b] M = some (.int (if b then 1 else 0), M) := rfl
theorem g_max {i j : Int} {M : Hs} : gMax2 [.int i, .int j] M = some (.int (if j > i then j else i), M) := rfl
theorem atI_nat {xs : List D} {i : Nat} {k : Int} {d : D} (hd : xs[i]? = some d) (hk : k = (i : Int)) : L2.atI xs k = some d := by
  have hl := (List.getElem?_eq_some_iff.mp hd).1
  subst hk
  unfold L2.atI L2.ixN
  rw [if_pos (by omega), if_pos (by omega)]
  simpa using hd
theorem g_ixL {M : Hs} {n : Nat} {xs : List D} {i : Nat} {k : Int} {d : D} (h : M[n]? = some (.lst xs)) (hd : xs[i]? = some d) (hk : k = (i : Int) := by rfl) : gIxA (.ref n) (.int k) M = some (d, M) := by
  have e : gIxA (.ref n) (.int k) M = gIx (.ref n) (.int k) M := by simp [gIxA, hDct, h]
  rw [e]
  unfold gIx
  have e2 : hSeq M (.ref n) = some xs := by simp [hSeq, h]
  rw [e2]
  dsimp only
  rw [atI_nat hd hk]
theorem g_ixT {M : Hs} {xs : List D} {i : Nat} {k : Int} {d : D} (hd : xs[i]? = some d) (hk : k = (i : Int) := by rfl) : gIxA (.tup xs) (.int k) M = some (d, M) := by
  show gIx (.tup xs) (.int k) M = _
  unfold gIx
  have e2 : hSeq M (.tup xs) = some xs := rfl
  rw [e2]
  dsimp only
  rw [atI_nat hd hk]
end Mi
end
section
set_option maxRecDepth 100000
set_option maxHeartbeats 2000000
set_option autoImplicit false
namespace Mi
open PySem

abbrev Sp2 := Int × Int
abbrev Tr3 := Int × Int × Int
def trD (t : Tr3) : D := .tup [.int t.1, .int t.2.1, .int t.2.2]
def setD (xs : List Sp2) : List (D × D) := xs.map fun p => (prD p, .bl true)
def kyP (p : Sp2) : NestedKey := .tup [.num p.1, .num p.2]
def addS (xs : List Sp2) (p : Sp2) : List Sp2 := if p ∈ xs then xs else xs ++ [p]
theorem nkey_prD (p : Sp2) : nkey (prD p) = some (kyP p) := by simp [prD, nkey, nkeys, kyP]
theorem kyP_inj {p q : Sp2} (h : kyP p = kyP q) : p = q := by
  unfold kyP at h
  simp at h
  exact Prod.ext h.1 h.2
theorem keyOf_prD (p : Sp2) : keyOf (prD p) = some (kyP p) := by
  have h1 : isTupD (prD p) = true := rfl
  have h2 : (kyP p).depth ≤ 8 := by simp [kyP, NestedKey.depth, NestedKey.depthAll]
  unfold keyOf
  rw [if_pos h1, nkey_prD]
  dsimp only
  rw [if_pos h2]
theorem dGet_setD (xs : List Sp2) (p : Sp2) : (dGet (setD xs) (kyP p)).isSome = decide (p ∈ xs) := by
  unfold dGet setD
  induction xs with
  | nil => rfl
  | cons x xs ih =>
    rw [List.map_cons, List.find?_cons]
    by_cases h : x = p
    · subst h
      simp [nkey_prD]
    · have h2 : decide (nkey (prD x) = some (kyP p)) = false := decide_eq_false (by rw [nkey_prD]; exact fun e => h (kyP_inj (Option.some.inj e)))
      simp only [h2]
      rw [ih]
      have h3 : p ≠ x := Ne.symm h
      simp [h3]
theorem dPut_setD (xs : List Sp2) (p : Sp2) : dPut (setD xs) (kyP p) (prD p) (.bl true) = setD (addS xs p) := by
  unfold dPut addS
  rw [dGet_setD]
  by_cases h : p ∈ xs
  · rw [if_pos (by simpa using h), if_pos h]
    unfold setD
    rw [List.map_map]
    apply List.map_congr_left
    intro q _
    simp only [Function.comp]
    split <;> rfl
  · rw [if_neg (by simpa using h), if_neg h]
    simp [setD]
theorem g_inS {k : Bool → Bool} {n : Nat} {p : Sp2} {xs : List Sp2} {M : Hs} (h : M[n]? = some (.dct (setD xs))) : gInA k (prD p) (.ref n) M = some (.bl (k (decide (p ∈ xs))), M) := by
  have e : hDct M n = some (setD xs) := by unfold hDct; rw [h]
  unfold gInA
  dsimp only
  rw [e]
  dsimp only
  rw [keyOf_prD]
  dsimp only
  rw [dGet_setD]
theorem g_putS {n : Nat} {p : Sp2} {xs : List Sp2} {M : Hs} (h : M[n]? = some (.dct (setD xs))) (hl : xs.length < sizeLine) : gPutA (.ref n) (prD p) (.bl true) M = some (M.set n (.dct (setD (addS xs p)))) := by
  have e : hDct M n = some (setD xs) := by unfold hDct; rw [h]
  unfold gPutA
  dsimp only
  rw [e]
  dsimp only
  rw [keyOf_prD]
  dsimp only
  rw [if_pos (by unfold setD; rw [List.length_map]; exact hl), dPut_setD]
theorem mem_addS {xs : List Sp2} {p q : Sp2} : q ∈ addS xs p ↔ q ∈ xs ∨ q = p := by
  unfold addS
  split
  · rename_i h
    constructor
    · exact .inl
    · rintro (h1 | rfl)
      · exact h1
      · exact h
  · simp
theorem nodup_addS {xs : List Sp2} {p : Sp2} (h : xs.Nodup) : (addS xs p).Nodup := by
  unfold addS
  split
  · exact h
  · rename_i hp
    rw [List.nodup_append]
    exact ⟨h, by simp, fun a ha b hb e => by simp at hb; subst hb; subst e; exact hp ha⟩
def Fr (S : Nat → Prop) (M M' : Hs) : Prop := M.length ≤ M'.length ∧ ∀ n, n < M.length → ¬ S n → M'[n]? = M[n]?
def No : Nat → Prop := fun _ => False
theorem Fr.refl (S : Nat → Prop) (M : Hs) : Fr S M M := ⟨Nat.le_refl _, fun _ _ _ => rfl⟩
theorem Fr.trans {S : Nat → Prop} {M M1 M2 : Hs} (a : Fr S M M1) (b : Fr S M1 M2) : Fr S M M2 := ⟨Nat.le_trans a.1 b.1, fun n h s => (b.2 n (Nat.lt_of_lt_of_le h a.1) s).trans (a.2 n h s)⟩
theorem Fr.imp {S T : Nat → Prop} {M M' : Hs} (a : Fr S M M') (h : ∀ n, n < M.length → S n → T n) : Fr T M M' := ⟨a.1, fun n hl t => a.2 n hl fun s => t (h n hl s)⟩
theorem Fr.push {S : Nat → Prop} (M : Hs) (o : List MO) : Fr S M (M ++ o) := ⟨by simp, fun n h _ => List.getElem?_append_left h⟩
theorem Fr.set {S : Nat → Prop} {M : Hs} {n : Nat} {o : MO} (h : S n) : Fr S M (M.set n o) := ⟨by simp, fun m _ s => List.getElem?_set_ne fun e => s (by rw [← e]; exact h)⟩
theorem Fr.setHi {S : Nat → Prop} {M M' : Hs} {n : Nat} {o : MO} (a : Fr S M M') (h : M.length ≤ n) : Fr S M (M'.set n o) := ⟨by simpa using a.1, fun m hl s => by rw [List.getElem?_set_ne (by omega)]; exact a.2 m hl s⟩
theorem Fr.pushHi {S : Nat → Prop} {M M' : Hs} {o : List MO} (a : Fr S M M') : Fr S M (M' ++ o) := a.trans (Fr.push M' o)
theorem Fr.get {S : Nat → Prop} {M M' : Hs} (a : Fr S M M') {n : Nat} {o : MO} (h : M[n]? = some o) (s : ¬ S n) : M'[n]? = some o := (a.2 n (List.getElem?_eq_some_iff.mp h).1 s).trans h
theorem lt_of_get {M : Hs} {n : Nat} {o : MO} (h : M[n]? = some o) : n < M.length := (List.getElem?_eq_some_iff.mp h).1
theorem get_push {M : Hs} {o : MO} : (M ++ [o])[M.length]? = some o := by simp
theorem set_get {M : Hs} {n : Nat} {o u : MO} (h : M[n]? = some u) : (M.set n o)[n]? = some o := List.getElem?_set_self (lt_of_get h)
theorem srt_ext {xs ys : List Sp2} (h1 : xs.Nodup) (h2 : ys.Nodup) (h : ∀ p, p ∈ xs ↔ p ∈ ys) : srtB SrtO.lexB xs = srtB SrtO.lexB ys := by
  have p : xs.Perm ys := (List.perm_ext_iff_of_nodup h1 h2).mpr h
  exact SrtO.stb_uniq swo_P (srtB_srtd swo_P _) (srtB_srtd swo_P _) (stb_perm eq_P ((srtB_perm _ xs).trans (p.trans (srtB_perm _ ys).symm)))
theorem srt_mem {xs : List Sp2} {p : Sp2} : p ∈ srtB SrtO.lexB xs ↔ p ∈ xs := (srtB_perm _ xs).mem_iff
theorem pd_prD (M : Hs) (n : Nat) (p : Sp2) : toPD M (n + 2) (prD p) = some (.tuple [.int p.1, .int p.2]) := by simp [prD, toPD, mapO]
def pdP (p : Sp2) : PyData := .tuple [.int p.1, .int p.2]
theorem pd_prDs (M : Hs) (n : Nat) : ∀ xs : List Sp2, mapO (toPD M (n + 2)) (xs.map prD) = some (xs.map pdP)
  | [] => rfl
  | x :: xs => by
    rw [List.map_cons, List.map_cons]
    unfold mapO
    rw [pd_prD, pd_prDs M n xs]
    rfl
theorem pd_ref (M : Hs) (n m : Nat) (xs : List D) (h : M[m]? = some (.lst xs)) : toPD M (n + 1) (.ref m) = (match mapO (toPD M n) xs with
    | some ps => some (.list ps)
    | none => none) := by
  have e : toPD M (n + 1) (.ref m) = (match M[m]? with
    | some (.lst xs) => (match mapO (toPD M n) xs with
      | some ps => some (.list ps)
      | none => none)
    | some (.ro xs) => (match mapO (toPD M n) xs with
      | some ps => some (.list ps)
      | none => none)
    | _ => none) := rfl
  rw [e, h]
theorem pd_lstP {M : Hs} {n : Nat} {xs : List Sp2} (h : M[n]? = some (.lst (xs.map prD))) : toPD M deep (.ref n) = some (.list (xs.map pdP)) := by
  have e : deep = 11 + 1 := rfl
  rw [e, pd_ref M 11 n _ h, pd_prDs M 9 xs]
theorem shaped_ps (xs : List Sp2) : SeqAt.shaped (.list (xs.map pdP)) = true := by
  have h1 : PyData.canLayAll0 (xs.map pdP) = true := by
    induction xs with
    | nil => rfl
    | cons x xs ih => simp [PyData.canLayAll0, PyData.canLay0, pdP, ih]
  have h2 : PyData.depthAll (xs.map pdP) ≤ 3 := by
    induction xs with
    | nil => simp [PyData.depthAll]
    | cons x xs ih =>
      have h1' : PyData.canLayAll0 (xs.map pdP) = true := by
        simp [PyData.canLayAll0, PyData.canLay0, pdP] at h1
        exact h1
      have := ih h1'
      simp [PyData.depthAll, PyData.depth, pdP]
      omega
  unfold SeqAt.shaped
  simp [PyData.canLay0, PyData.depth, h1]
  omega
theorem eqv_ps : ∀ (xs ys : List Sp2), PyData.eqv (.list (xs.map pdP)) (.list (ys.map pdP)) = decide (xs = ys) := by
  have key : ∀ (xs ys : List Sp2), PyData.eqvAll (xs.map pdP) (ys.map pdP) = decide (xs = ys) := by
    intro xs
    induction xs with
    | nil => intro ys; cases ys <;> simp [PyData.eqvAll]
    | cons x xs ih =>
      intro ys
      cases ys with
      | nil => simp [PyData.eqvAll]
      | cons y ys =>
        obtain ⟨x1, x2⟩ := x
        obtain ⟨y1, y2⟩ := y
        simp [PyData.eqvAll, PyData.eqv, pdP, ih]
        by_cases h1 : x1 = y1 <;> by_cases h2 : x2 = y2 <;> by_cases h3 : xs = ys <;> simp [h1, h2, h3]
  intro xs ys
  simp only [PyData.eqv]
  exact key xs ys
theorem g_neP {m n : Nat} {xs ys : List Sp2} {M : Hs} (h1 : M[m]? = some (.lst (xs.map prD))) (h2 : M[n]? = some (.lst (ys.map prD))) : gNe (.ref m) (.ref n) M = some (.bl (!decide (xs = ys)), M) := by
  unfold gNe gEqB
  rw [pd_lstP h1, pd_lstP h2]
  dsimp only
  rw [shaped_ps, shaped_ps, eqv_ps]
  rfl
theorem pairsD_map : ∀ xs : List Sp2, pairsD (xs.map prD) = some xs
  | [] => rfl
  | (a, b) :: xs => by
    rw [List.map_cons]
    show (match pairsD (xs.map prD) with | some ps => some ((a, b) :: ps) | none => none) = _
    rw [pairsD_map xs]
theorem intsOf_prD {xs : List Sp2} (h : xs ≠ []) : intsOf (xs.map prD) = none := by
  cases xs with
  | nil => exact absurd rfl h
  | cons x xs => rfl
theorem g_sortedP {n : Nat} {xs : List Sp2} {M : Hs} (h : itemsA M (.ref n) = some (xs.map prD)) : gSorted [.ref n] M = some (.ref M.length, M ++ [.lst ((srtB SrtO.lexB xs).map prD)]) := by
  unfold gSorted
  dsimp only
  rw [h]
  dsimp only
  cases xs with
  | nil => rfl
  | cons x xs =>
    rw [intsOf_prD (by simp)]
    dsimp only
    rw [pairsD_map]
theorem items_lst {n : Nat} {xs : List D} {M : Hs} (h : M[n]? = some (.lst xs)) : itemsA M (.ref n) = some xs := by
  have e : hSeq M (.ref n) = some xs := by simp [hSeq, h]
  unfold itemsA
  rw [e]
theorem items_set {n : Nat} {xs : List Sp2} {M : Hs} (h : M[n]? = some (.dct (setD xs))) : itemsA M (.ref n) = some (xs.map prD) := by
  have e : hSeq M (.ref n) = none := by simp [hSeq, h]
  have e2 : hDct M n = some (setD xs) := by unfold hDct; rw [h]
  unfold itemsA
  rw [e]
  dsimp only
  rw [e2]
  simp [setD]
end Mi
end
section
set_option maxRecDepth 100000
set_option maxHeartbeats 4000000
set_option autoImplicit false
namespace Ga
open Mi

section
variable {α : Type}
inductive Rt (R : α → α → Prop) : α → α → Prop
  | refl (x : α) : Rt R x x
  | tail {x y z : α} : Rt R x y → R y z → Rt R x z
variable {R S : α → α → Prop}
theorem Rt.one {x y : α} (h : R x y) : Rt R x y := .tail (.refl x) h
theorem Rt.trans {x y z : α} (a : Rt R x y) (b : Rt R y z) : Rt R x z := by
  induction b with
  | refl => exact a
  | tail b h ih => exact .tail ih h
theorem Rt.imp (f : ∀ x y, R x y → S x y) {x y : α} (a : Rt R x y) : Rt S x y := by
  induction a with
  | refl => exact .refl _
  | tail a h ih => exact .tail ih (f _ _ h)
theorem Rt.map {β : Type} {S : β → β → Prop} (g : α → β) (f : ∀ x y, R x y → S (g x) (g y)) {x y : α} (a : Rt R x y) : Rt S (g x) (g y) := by
  induction a with
  | refl => exact .refl _
  | tail a h ih => exact .tail ih (f _ _ h)
/-- a walk of a step at least -/
def Tc (R : α → α → Prop) (x y : α) : Prop := ∃ z, Rt R x z ∧ R z y
theorem Tc.rt {x y : α} (h : Tc R x y) : Rt R x y := let ⟨_, a, b⟩ := h; .tail a b
theorem Tc.one {x y : α} (h : R x y) : Tc R x y := ⟨x, .refl x, h⟩
theorem Tc.imp (f : ∀ x y, R x y → S x y) {x y : α} (h : Tc R x y) : Tc S x y := let ⟨z, a, b⟩ := h; ⟨z, a.imp f, f _ _ b⟩
theorem Rt.tc {x y z : α} (a : Rt R x y) (b : Tc R y z) : Tc R x z := let ⟨w, c, d⟩ := b; ⟨w, a.trans c, d⟩
theorem Rt.cases {x y : α} (a : Rt R x y) : x = y ∨ Tc R x y := by
  cases a with
  | refl => exact .inl rfl
  | tail b h => exact .inr ⟨_, b, h⟩
theorem Tc.trans {x y z : α} (a : Tc R x y) (b : Tc R y z) : Tc R x z := a.rt.tc b
theorem Rt.head {x y : α} (a : Rt R x y) : x = y ∨ ∃ z, R x z ∧ Rt R z y := by
  induction a with
  | refl => exact .inl rfl
  | @tail y z a h ih =>
    rcases ih with rfl | ⟨w, h1, h2⟩
    · exact .inr ⟨z, h, .refl z⟩
    · exact .inr ⟨w, h1, .tail h2 h⟩
theorem Tc.head {x y : α} (a : Tc R x y) : ∃ z, R x z ∧ Rt R z y := by
  obtain ⟨w, h1, h2⟩ := a
  rcases h1.head with rfl | ⟨z, h3, h4⟩
  · exact ⟨y, h2, .refl y⟩
  · exact ⟨z, h3, .tail h4 h2⟩
/-- E' is E with new steps within W -/
structure Grows (E New E' : α → α → Prop) (W : α → Prop) : Prop where
  e : ∀ x y, E' x y ↔ E x y ∨ New x y
  w : ∀ x y, New x y → W x ∧ W y
def Ln (E New : α → α → Prop) (W : α → Prop) (a b : α) : Prop := (Tc E a b ∧ W a ∧ W b) ∨ New a b
variable {E New E' : α → α → Prop} {W : α → Prop}
theorem Grows.up (G : Grows E New E' W) {x y : α} (h : Rt E x y) : Rt E' x y := h.imp fun x y h => (G.e x y).mpr (.inl h)
theorem Grows.ln (G : Grows E New E' W) {x y : α} (h : Ln E New W x y) : Tc E' x y := by
  rcases h with ⟨h, _⟩ | h
  · exact h.imp fun x y h => (G.e x y).mpr (.inl h)
  · exact .one ((G.e x y).mpr (.inr h))
theorem Grows.lns (G : Grows E New E' W) {x y : α} (h : Rt (Ln E New W) x y) : Rt E' x y := by
  induction h with
  | refl => exact .refl _
  | tail a h ih => exact ih.trans (G.ln h).rt
theorem ln_of {x y : α} (h : Rt E x y) (wx : W x) (wy : W y) : Rt (Ln E New W) x y := by
  rcases h.cases with rfl | h
  · exact .refl _
  · exact .one (.inl ⟨h, wx, wy⟩)
theorem Grows.cut (G : Grows E New E' W) {p y : α} (h : Rt E' p y) : Rt E p y ∨ ∃ a z, W a ∧ Rt E p a ∧ W z ∧ Rt (Ln E New W) a z ∧ Rt E z y := by
  induction h with
  | refl => exact .inl (.refl _)
  | @tail y y' a h ih =>
    rcases (G.e _ _).mp h with h | h
    · rcases ih with ih | ⟨a, z, h1, h2, h3, h4, h5⟩
      · exact .inl (.tail ih h)
      · exact .inr ⟨a, z, h1, h2, h3, h4, .tail h5 h⟩
    · obtain ⟨w1, w2⟩ := G.w _ _ h
      rcases ih with ih | ⟨a, z, h1, h2, h3, h4, h5⟩
      · exact .inr ⟨y, y', w1, ih, w2, .one (.inr h), .refl _⟩
      · exact .inr ⟨a, y', h1, h2, w2, .tail (h4.trans (ln_of h5 h3 w1)) (.inr h), .refl _⟩
theorem Grows.win (G : Grows E New E' W) {x y : α} (wx : W x) (wy : W y) (h : Rt E' x y) : Rt (Ln E New W) x y := by
  rcases G.cut h with h | ⟨a, z, h1, h2, h3, h4, h5⟩
  · exact ln_of h wx wy
  · exact ((ln_of h2 wx h1).trans h4).trans (ln_of h5 h3 wy)
theorem Grows.from (G : Grows E New E' W) {x y : α} (wx : W x) (h : Rt E' x y) : ∃ z, W z ∧ Rt (Ln E New W) x z ∧ Rt E z y := by
  rcases G.cut h with h | ⟨a, z, h1, h2, h3, h4, h5⟩
  · exact ⟨x, wx, .refl _, h⟩
  · exact ⟨z, h3, (ln_of h2 wx h1).trans h4, h5⟩
theorem Grows.tc (G : Grows E New E' W) {x y : α} (wx : W x) (wy : W y) : Tc E' x y ↔ Tc (Ln E New W) x y := by
  constructor
  · rintro ⟨z', h1, h2⟩
    obtain ⟨z, wz, h3, h4⟩ := G.from wx h1
    rcases (G.e _ _).mp h2 with h2 | h2
    · exact h3.tc (.one (.inl ⟨h4.tc (.one h2), wz, wy⟩))
    · exact (h3.trans (ln_of h4 wz (G.w _ _ h2).1)).tc (.one (.inr h2))
  · rintro ⟨z, h1, h2⟩
    exact (G.lns h1).tc (G.ln h2)
end

structure Og where
  cs : List (Int × Int × Int)
  rs : List (Int × Int × Int)
  all : Bool
  oct : Int
structure Og.Ok (O : Og) : Prop where
  cm : ∀ c ∈ O.cs, (c.1 = 0 ∨ c.1 = 1) ∧ (c.2.1 = 0 ∨ c.2.1 = 1) ∧ -2 ≤ c.2.2 ∧ c.2.2 ≤ 2
  rm : ∀ r ∈ O.rs, (r.1 = 0 ∨ r.1 = 1) ∧ -2 ≤ r.2.2 ∧ r.2.2 ≤ 2
  oc : O.oct = 0 ∨ O.oct = 2 ∨ O.oct = 3
def Og.l2 (O : Og) : Int := if O.all then 0 else 1
theorem Og.l2_or (O : Og) : O.l2 = 0 ∨ O.l2 = 1 := by unfold Og.l2; split <;> simp
/-- a coupler leads from x to y, in the compass of n keys, without what comes back from above -/
def Ed (O : Og) (n : Int) (x y : T3) : Prop := ∃ c ∈ O.cs, x.2.1 = c.1 ∧ y.2.1 = c.2.1 ∧ x.2.2 = 0 ∧ y.2.2 = O.l2 ∧ (0 ≤ x.1 ∧ x.1 < n) ∧ (0 ≤ y.1 ∧ y.1 < n) ∧ (y.1 = x.1 + c.2.2 ∨ 0 < O.oct ∧ x.1 + c.2.2 < 0 ∧ y.1 = x.1 + c.2.2 + O.oct)
/-- such a step touches the last key -/
def Nw (O : Og) (n : Int) (x y : T3) : Prop := Ed O (n + 1) x y ∧ (x.1 = n ∨ y.1 = n)
/-- what comes back from above the last of n keys -/
def Hi (O : Og) (n : Int) (x y : T3) : Prop := ∃ c ∈ O.cs, x.2.1 = c.1 ∧ y.2.1 = c.2.1 ∧ x.2.2 = 0 ∧ y.2.2 = O.l2 ∧ (0 ≤ x.1 ∧ x.1 < n) ∧ (0 ≤ y.1 ∧ y.1 < n) ∧ 0 < O.oct ∧ n ≤ x.1 + c.2.2 ∧ y.1 = x.1 + c.2.2 - O.oct
def Fin (O : Og) (n : Int) (x y : T3) : Prop := Ed O n x y ∨ Hi O n x y
theorem ed_up {O : Og} {n m : Int} (h : n ≤ m) {x y : T3} (e : Ed O n x y) : Ed O m x y := by
  obtain ⟨c, h1, h2, h3, h4, h5, h6, h7, h8⟩ := e
  exact ⟨c, h1, h2, h3, h4, h5, ⟨h6.1, by omega⟩, ⟨h7.1, by omega⟩, h8⟩
theorem ed_rng {O : Og} {n : Int} {x y : T3} (e : Ed O n x y) : (0 ≤ x.1 ∧ x.1 < n) ∧ (0 ≤ y.1 ∧ y.1 < n) := by
  obtain ⟨c, h1, h2, h3, h4, h5, h6, h7, h8⟩ := e
  exact ⟨h6, h7⟩
/-- the window behind n keys, with the new one -/
def Wn (n : Int) (x : T3) : Prop := n - 3 ≤ x.1 ∧ x.1 ≤ n
theorem grows (O : Og) (ok : O.Ok) (n : Int) (hn : 0 ≤ n) : Grows (Ed O n) (Nw O n) (Ed O (n + 1)) (Wn n) where
  e := fun x y => by
    constructor
    · intro h
      by_cases t : x.1 = n ∨ y.1 = n
      · exact .inr ⟨h, t⟩
      · obtain ⟨c, h1, h2, h3, h4, h5, h6, h7, h8⟩ := h
        exact .inl ⟨c, h1, h2, h3, h4, h5, ⟨h6.1, by omega⟩, ⟨h7.1, by omega⟩, h8⟩
    · rintro (h | h)
      · exact ed_up (by omega) h
      · exact h.1
  w := fun x y ⟨h, t⟩ => by
    obtain ⟨c, h1, h2, h3, h4, h5, h6, h7, h8⟩ := h
    have hc := (ok.cm c h1).2.2
    have ho := ok.oc
    unfold Wn
    omega
theorem growsHi (O : Og) (ok : O.Ok) (n : Int) : Grows (Ed O n) (Hi O n) (Fin O n) (Wn n) where
  e := fun x y => Iff.rfl
  w := fun x y h => by
    obtain ⟨c, h1, h2, h3, h4, h5, h6, h7, h8⟩ := h
    have hc := (ok.cm c h1).2.2
    have ho := ok.oc
    unfold Wn
    omega
/-- the stops' keys of a pipe, in the compass of n keys -/
def En (O : Og) (rank : Int) (pos : Option Int) (n : Int) (e : T3) : Prop := ∃ r ∈ O.rs, r.2.1 = rank ∧ e.2.1 = r.1 ∧ (0 ≤ e.2.2 ∧ e.2.2 ≤ O.l2) ∧ (0 ≤ e.1 ∧ e.1 < n) ∧ ∃ p, pos = some p ∧ (0 ≤ p ∧ p < n) ∧ (e.1 + r.2.2 = p ∨ 0 < O.oct ∧ e.1 + r.2.2 < 0 ∧ e.1 + r.2.2 + O.oct = p)
def EnHi (O : Og) (rank : Int) (pos : Option Int) (n : Int) (e : T3) : Prop := ∃ r ∈ O.rs, r.2.1 = rank ∧ e.2.1 = r.1 ∧ (0 ≤ e.2.2 ∧ e.2.2 ≤ O.l2) ∧ (0 ≤ e.1 ∧ e.1 < n) ∧ ∃ p, pos = some p ∧ (0 ≤ p ∧ p < n) ∧ 0 < O.oct ∧ n ≤ e.1 + r.2.2 ∧ e.1 + r.2.2 - O.oct = p
/-- pressed keys -/
def Ps (pr : Int → Int → Prop) (n : Int) (x : T3) : Prop := pr x.1 x.2.1 ∧ x.2.2 = 0 ∧ (x.2.1 = 0 ∨ x.2.1 = 1) ∧ 0 ≤ x.1 ∧ x.1 < n
/-- the pipe sounds, in the compass of n keys -/
def Snd (O : Og) (rank : Int) (pr : Int → Int → Prop) (pos : Option Int) (n : Int) : Prop := ∃ p e, Ps pr n p ∧ (En O rank pos n e ∨ EnHi O rank pos n e) ∧ Rt (Fin O n) p e
end Ga
end
section
set_option maxRecDepth 100000
set_option maxHeartbeats 4000000
set_option autoImplicit false
namespace Ga
open Mi

structure St where
  many : Int
  links : List P6
  started : List T3
  ending : List T3
  age : Option Int
  done : Bool
def older (x : T3) : T3 := (x.1 + 1, x.2.1, x.2.2)
def stDone : St := ⟨3, [], [], [], some 3, true⟩
def stFirst : St := ⟨0, [], [], [], none, false⟩
def upTo (n : Int) : List Int := (List.range n.toNat).map fun i : Nat => (i : Int)
theorem mem_upTo {n k : Int} : k ∈ upTo n ↔ 0 ≤ k ∧ k < n := by
  unfold upTo
  rw [List.mem_map]
  constructor
  · rintro ⟨i, hi, rfl⟩
    have := List.mem_range.mp hi
    omega
  · rintro ⟨h1, h2⟩
    exact ⟨k.toNat, List.mem_range.mpr (by omega), by omega⟩
def mxI (a b : Int) : Int := if b > a then b else a
def mnI (a b : Int) : Int := if b < a then b else a
def lowF (oct s many : Int) : List (Int × Int) := (upTo (many + 1)).filterMap fun k => if 0 < oct ∧ k + s < 0 ∧ k + s + oct ≤ many ∧ mxI k (k + s + oct) = many then some (k, k + s + oct) else none
def highF (oct s many : Int) : List (Int × Int) := (upTo (mnI many 3)).filterMap fun b => if 0 < oct ∧ b < s ∧ b - s + oct < many then some (b, b - s + oct) else none
theorem mem_lowF {oct s many k p : Int} : (k, p) ∈ lowF oct s many ↔ 0 ≤ k ∧ k ≤ many ∧ 0 < oct ∧ k + s < 0 ∧ p = k + s + oct ∧ p ≤ many ∧ (k = many ∨ p = many) := by
  unfold lowF
  simp only [List.mem_filterMap, mem_upTo]
  constructor
  · rintro ⟨a, ha, h⟩
    split at h
    · rename_i hc
      cases h
      unfold mxI at hc
      split at hc <;> omega
    · cases h
  · rintro ⟨h1, h2, h3, h4, h5, h6, h7⟩
    refine ⟨k, by omega, ?_⟩
    rw [if_pos]
    · rw [h5]
    · unfold mxI
      split <;> omega
theorem mem_highF {oct s many b p : Int} : (b, p) ∈ highF oct s many ↔ 0 ≤ b ∧ b < many ∧ b < 3 ∧ 0 < oct ∧ b < s ∧ p = b - s + oct ∧ p < many := by
  unfold highF
  simp only [List.mem_filterMap, mem_upTo]
  constructor
  · rintro ⟨a, ha, h⟩
    split at h
    · rename_i hc
      cases h
      unfold mnI at ha
      split at ha <;> omega
    · cases h
  · rintro ⟨h1, h2, h3, h4, h5, h6, h7⟩
    refine ⟨b, by unfold mnI; split <;> omega, ?_⟩
    rw [if_pos (by omega), h6]
variable (O : Og)
def baseF (many : Int) (c : Int × Int × Int) : List P6 := if c.2.2 = 0 then [((0, c.1, 0), (0, c.2.1, O.l2))] else if c.2.2 > 0 ∧ many ≥ c.2.2 then [((c.2.2, c.1, 0), (0, c.2.1, O.l2))] else if c.2.2 < 0 ∧ many ≥ -c.2.2 then [((0, c.1, 0), (-c.2.2, c.2.1, O.l2))] else []
def newLinksF (many : Int) : List P6 := O.cs.flatMap fun c => baseF O many c ++ (if many < 3 then (lowF O.oct c.2.2 many).map fun q => ((many - q.1, c.1, 0), (many - q.2, c.2.1, O.l2)) else [])
def endsAt (rank many a : Int) (r : Int × Int × Int) : List (Int × Int) := (if r.2.2 = -a ∨ a = 0 ∧ 0 ≤ r.2.2 ∧ r.2.2 ≤ many then [(mxI r.2.2 0, r.1)] else []) ++ (if many < 3 ∧ a ≤ many then (lowF O.oct r.2.2 many).filterMap fun q => if q.2 = many - a then some (many - q.1, r.1) else none else [])
def newEndsF (rank many : Int) (age : Option Int) : List (Int × Int) := O.rs.flatMap fun r => match age with
  | some a => if r.2.1 = rank then endsAt O rank many a r else []
  | none => []
def layF (some : List (Int × Int)) : List T3 := some.flatMap fun q => (upTo (O.l2 + 1)).map fun l => (q.1, q.2, l)
theorem mem_layF {some : List (Int × Int)} {x : T3} : x ∈ layF O some ↔ (x.1, x.2.1) ∈ some ∧ 0 ≤ x.2.2 ∧ x.2.2 ≤ O.l2 := by
  unfold layF
  simp only [List.mem_flatMap, List.mem_map, mem_upTo]
  constructor
  · rintro ⟨q, hq, l, hl, rfl⟩
    exact ⟨hq, hl.1, by show l ≤ O.l2; omega⟩
  · rintro ⟨h1, h2, h3⟩
    exact ⟨_, h1, x.2.2, by omega, rfl⟩
def prs (l : List P6) (a b : T3) : Prop := (a, b) ∈ l
open Classical in
noncomputable def cloL (pairs : List P6) : List P6 := srtB lt6 (unq (((pairs.map (·.1)).flatMap fun a => (pairs.map (·.2)).map fun b => (a, b)).filter fun p => decide (Tc (prs pairs) p.1 p.2)))
open Classical in
theorem mem_clo {pairs : List P6} {p : P6} : p ∈ cloL pairs ↔ Tc (prs pairs) p.1 p.2 := by
  unfold cloL
  rw [(srtB_perm _ _).mem_iff, mem_unq, List.mem_filter, decide_eq_true_eq]
  constructor
  · exact fun h => h.2
  · intro h
    refine ⟨?_, h⟩
    obtain ⟨z, h1, _⟩ := h.head
    obtain ⟨w, _, h2⟩ := h
    exact List.mem_flatMap.mpr ⟨p.1, List.mem_map.mpr ⟨_, h1, rfl⟩, List.mem_map.mpr ⟨p.2, List.mem_map.mpr ⟨_, h2, rfl⟩, rfl⟩⟩
noncomputable def reachedF (links : List P6) (started : List T3) : List T3 := srtB lt3 (unq (started ++ (links.filter fun p => decide (p.1 ∈ started)).map (·.2)))
noncomputable def endsF (links : List P6) (ending : List T3) : List T3 := srtB lt3 (unq (ending ++ (links.filter fun p => decide (p.2 ∈ ending)).map (·.1)))
theorem mem_reached {links : List P6} {started : List T3} {x : T3} : x ∈ reachedF links started ↔ x ∈ started ∨ ∃ y ∈ started, (y, x) ∈ links := by
  unfold reachedF
  rw [(srtB_perm _ _).mem_iff, mem_unq, List.mem_append]
  simp only [List.mem_map, List.mem_filter, decide_eq_true_eq]
  constructor
  · rintro (h | ⟨p, ⟨h1, h2⟩, rfl⟩)
    · exact .inl h
    · exact .inr ⟨p.1, h2, h1⟩
  · rintro (h | ⟨y, h1, h2⟩)
    · exact .inl h
    · exact .inr ⟨(y, x), ⟨h2, h1⟩, rfl⟩
theorem mem_ends {links : List P6} {ending : List T3} {x : T3} : x ∈ endsF links ending ↔ x ∈ ending ∨ ∃ y ∈ ending, (x, y) ∈ links := by
  unfold endsF
  rw [(srtB_perm _ _).mem_iff, mem_unq, List.mem_append]
  simp only [List.mem_map, List.mem_filter, decide_eq_true_eq]
  constructor
  · rintro (h | ⟨p, ⟨h1, h2⟩, rfl⟩)
    · exact .inl h
    · exact .inr ⟨p.2, h2, h1⟩
  · rintro (h | ⟨y, h1, h2⟩)
    · exact .inl h
    · exact .inr ⟨(x, y), ⟨h2, h1⟩, rfl⟩
def nearP (p : P6) : Bool := decide (p.1.1 < 3) && decide (p.2.1 < 3)
def near (x : T3) : Bool := decide (x.1 < 3)
/-- settled -/
noncomputable def setF (many : Int) (pairs : List P6) (started ending : List T3) (age : Option Int) (done : Bool) : St :=
  let L := cloL pairs
  let r := reachedF L started
  let e := endsF L ending
  if (done || r.any fun x => decide (x ∈ e)) = true then stDone else ⟨many, L.filter nearP, r.filter near, e.filter near, age, false⟩
def ageF (isPipe : Bool) (age : Option Int) : Option Int := if isPipe then some 0 else age.map fun a => mnI (a + 1) 3
noncomputable def stepF (rank : Int) (st : St) (mans : List Int) (isPipe : Bool) : St :=
  setF (mnI (st.many + 1) 3) (st.links.map (fun p => (older p.1, older p.2)) ++ newLinksF O st.many) (st.started.map older ++ mans.map fun m => (0, m, 0)) (st.ending.map older ++ layF O (newEndsF O rank st.many (ageF isPipe st.age))) (ageF isPipe st.age) st.done
def highL (many : Int) : List P6 := O.cs.flatMap fun c => (highF O.oct c.2.2 many).map fun q => ((q.1, c.1, 0), (q.2, c.2.1, O.l2))
def highE (rank many : Int) (age : Option Int) : List T3 := O.rs.flatMap fun r => if r.2.1 = rank then layF O ((highF O.oct r.2.2 many).filterMap fun q => if some q.2 = age then some (q.1, r.1) else none) else []
noncomputable def sndF (rank : Int) (st : St) : Bool := (setF st.many (st.links ++ highL O st.many) st.started (st.ending ++ highE O rank st.many st.age) st.age st.done).done
end Ga
end
section
set_option maxRecDepth 100000
set_option maxHeartbeats 4000000
set_option autoImplicit false
namespace Mi
open PySem

/-- a list made: at n, nothing old is changed -/
def RL (d : D) (M M' : Hs) (L : List D) : Prop := ∃ n, d = .ref n ∧ M.length ≤ n ∧ M'[n]? = some (.lst L) ∧ Fr No M M'
section
variable {α β : Type} {ζ : Sl} {M M1 : Hs} {N : Sl → Hs → Prop} {T : D → Hs → Prop} {Qd : D → Hs → Prop}
theorem wX_star {f : MX} {ga : MA} {Q : List D → Hs → Prop} : wX (aStar f ga ζ M) Q = wX (f ζ M) fun x M1 => match hSeq M1 x with
  | some ys => wX (ga ζ M1) fun xs M2 => Q (ys ++ xs) M2
  | none => False := by
  unfold aStar
  rw [wX_bind]
  congr
  funext x M1
  cases hSeq M1 x with
  | none => rfl
  | some ys => dsimp only; rw [wX_bind]; rfl
theorem wS_asg {f : MX} {p : Pt} : wS (sAsg f p ζ M) N T = wX (f ζ M) fun d M1 => match bindP p d with
  | some l => N (setAll ζ l) M1
  | none => False := by
  unfold sAsg
  rw [wS_of]
  congr
  funext d M1
  cases bindP p d <;> rfl
theorem wS_par {i j : Nat} {g : MA} : wS (sPar i j g ζ M) N T = wX (g ζ M) fun ds M1 => match ds with
  | [d, e] => N ((ζ.set i (some d)).set j (some e)) M1
  | _ => False := by
  unfold sPar
  rw [wS_of]
  congr
  funext ds M1
  split <;> first | rfl | (rename_i h; split <;> first | rfl | (exact absurd rfl (h _ _)))
theorem wS_aug {i : Nat} {g : D → D → Hs → Option (D × Hs)} {f : MX} : wS (sAug i g f ζ M) N T = match ζ[i]? with
  | some (some x) => wX (f ζ M) fun y M1 => wO (g x y M1) fun d M2 => N (ζ.set i (some d)) M2
  | _ => False := by
  unfold sAug
  cases ζ[i]? with
  | none => rfl
  | some o =>
    cases o with
    | none => rfl
    | some x =>
      dsimp only
      rw [wS_of]
      congr
      funext y M1
      cases g x y M1 with
      | none => rfl
      | some r => obtain ⟨d, M2⟩ := r; rfl
def Src (s : MY) (ζ : Sl) (M : Hs) (xs : List D) (M1 : Hs) (K : Hs → Prop) : Prop := ∃ yd, s ζ M = .ok yd M1 ∧ xs.length < yd.fuel ∧ ∀ M', K M' → ∀ i, yd.y i M' = some xs[i]?
theorem src_d {f : MX} {d : D} {xs : List D} (hf : f ζ M = .ok d M1) (hs : hSeq M1 d = some xs) : Src (ySeq f) ζ M xs M1 fun M' => hSeq M' d = some xs := by
  unfold Src ySeq
  rw [hf]
  show ∃ yd, (match d with
    | .tup xs => R.ok (Yd.mk (fun i _ => some xs[i]?) (xs.length + 1)) M1
    | .klst xs => R.ok (Yd.mk (fun i _ => some xs[i]?) (xs.length + 1)) M1
    | .ref n => match hSeq M1 (.ref n) with
      | some xs => R.ok (Yd.mk (fun i M => match hSeq M (.ref n) with | some ys => some ys[i]? | none => none) (xs.length + 1)) M1
      | none => .no
    | _ => .no) = _ ∧ _
  cases d with
  | tup ys => cases hs; exact ⟨_, rfl, Nat.lt_succ_self _, fun M' _ i => rfl⟩
  | klst ys => cases hs; exact ⟨_, rfl, Nat.lt_succ_self _, fun M' _ i => rfl⟩
  | ref n =>
    dsimp only
    rw [hs]
    refine ⟨_, rfl, Nat.lt_succ_self _, fun M' h i => ?_⟩
    dsimp only
    rw [h]
  | _ => cases hs
theorem upTo_get (j : Int) (i : Nat) : ((Ga.upTo j).map D.int)[i]? = if i < j.toNat then some (.int (0 + (i : Int))) else none := by
  unfold Ga.upTo
  rw [List.map_map, List.getElem?_map]
  by_cases h : i < j.toNat
  · rw [if_pos h, List.getElem?_range h]
    simp
  · rw [if_neg h, List.getElem?_eq_none (by simpa using h)]
    rfl
theorem src_rg1 {f : MX} {j : Int} (hf : f ζ M = .ok (.int j) M1) (hj : okRg j = true) : Src (yRg1 f) ζ M ((Ga.upTo j).map D.int) M1 fun _ => True := by
  unfold Src yRg1
  rw [hf]
  show ∃ yd, (if okRg j = true then R.ok (yRg 0 j.toNat) M1 else .no) = _ ∧ _
  rw [if_pos hj]
  refine ⟨_, rfl, by simp [Ga.upTo, yRg], fun M' _ i => ?_⟩
  rw [upTo_get]
  rfl
/-- for a in as -/
theorem for_list {s : MY} {p : Pt} {b : MS} (e : α → D) {as : List α} {K : Hs → Prop} (S : Src s ζ M (as.map e) M1 K) (I : List α → Sl → Hs → Prop) (h0 : I [] ζ M1) (hk : ∀ done ζ M', I done ζ M' → K M')
    (go : ∀ done a rest ζ M', as = done ++ a :: rest → I done ζ M' → ∃ l, bindP p (e a) = some l ∧ wS (b (setAll ζ l) M') (I (done ++ [a])) T) (fin : ∀ ζ M', I as ζ M' → N ζ M') : wS (sFor s p b ζ M) N T := by
  obtain ⟨yd, h1, h2, h3⟩ := S
  rw [wS_for, h1, wX_ok]
  refine wS_forN (I := fun i ζ M' => I (as.take i) ζ M') as.length (fun i ζ M' hi h => ?_) (fun ζ M' h => ?_) yd.fuel 0 ζ M1 (by simpa using h2) (Nat.zero_le _) (by simpa using h0)
  · obtain ⟨l, h4, h5⟩ := go (as.take i) as[i] (as.drop (i + 1)) ζ M' (by simp) h
    refine ⟨e as[i], l, ?_, h4, ?_⟩
    · rw [h3 M' (hk _ _ _ h) i]
      simp [hi]
    · rw [List.take_succ, List.getElem?_eq_getElem hi]
      exact h5
  · refine ⟨?_, fin ζ M' (by simpa using h)⟩
    rw [h3 M' (hk _ _ _ h)]
    simp
theorem snoc_t {α β : Type} {c : α → Bool} {v : α → β} {l : List α} {a : α} (h : c a = true) : ((l ++ [a]).filter c).map v = (l.filter c).map v ++ [v a] := by
  rw [List.filter_append, List.map_append, List.filter_cons, if_pos h]
  rfl
theorem snoc_f {α β : Type} {c : α → Bool} {v : α → β} {l : List α} {a : α} (h : c a = false) : ((l ++ [a]).filter c).map v = (l.filter c).map v := by
  rw [List.filter_append, List.map_append, List.filter_cons, if_neg (by rw [h]; decide)]
  simp
theorem take_sn {α : Type} {l : List α} {i : Nat} (h : i < l.length) : l.take (i + 1) = l.take i ++ [l[i]] := by rw [List.take_succ, List.getElem?_eq_getElem h]; rfl
theorem hLst_at {M : Hs} {n : Nat} {xs : List D} (h : M[n]? = some (.lst xs)) : hLst M n = some xs := by unfold hLst; rw [h]
theorem fr_lt {M M' : Hs} (f : Fr No M M') {n : Nat} {o : MO} (h : M[n]? = some o) : M'[n]? = some o := f.get h id
/-- [v a for a in as if c a] -/
theorem lc_ret {s : MY} {vs : List Nat} {p : Pt} {t : MT} {f : MX} (e : α → D) (c : α → Bool) (v : α → D) {as : List α} {K : Hs → Prop} (S : Src s ζ M (as.map e) M1 K) (hM : Fr No M M1) (hk : ∀ M', Fr No M1 M' → K M') (hl : as.length < sizeLine)
    (go : ∀ a ∈ as, ∀ M', Fr No M1 M' → ∃ l, bindP p (e a) = some l ∧ wX (t (setAll (wipeD ζ vs) l) M') fun b M2 => b = c a ∧ Fr No M' M2 ∧ (c a = true → wX (f (setAll (wipeD ζ vs) l) M2) fun d M3 => d = v a ∧ Fr No M2 M3)) :
    wX (xLc s vs p t f ζ M) fun d M' => RL d M M' ((as.filter c).map v) := by
  obtain ⟨yd, h1, h2, h3⟩ := S
  rw [wX_lc, h1, wX_ok]
  refine wX_lcN (Q := fun M2 => RL (.ref M1.length) M M2 ((as.filter c).map v)) (fun i M' => Fr No M1 M' ∧ M'[M1.length]? = some (.lst (((as.take i).filter c).map v))) as.length (fun i M' hi ⟨h4, h5⟩ => ?_) (fun M' ⟨h4, h5⟩ => ?_) yd.fuel 0 (M1 ++ [.lst []]) (by simpa using h2) (Nat.zero_le _) ⟨Fr.push _ _, by simp⟩
  · obtain ⟨l, h6, h7⟩ := go as[i] (List.getElem_mem hi) M' h4
    refine ⟨e as[i], l, ?_, h6, ?_⟩
    · rw [h3 M' (hk _ h4) i]
      simp [hi]
    · rw [take_sn hi]
      obtain ⟨b, M2, e2, rfl, f2, h8⟩ := wX_get h7
      unfold lcB
      rw [e2]
      cases hc : c as[i] with
      | false =>
        refine ⟨h4.trans f2, ?_⟩
        rw [fr_lt f2 h5, snoc_f hc]
      | true =>
        obtain ⟨z, M3, e3, rfl, f3⟩ := wX_get (h8 hc)
        dsimp only
        rw [e3]
        have h9 := fr_lt f3 (fr_lt f2 h5)
        unfold lput
        dsimp only
        rw [hLst_at h9]
        dsimp only
        rw [if_pos]
        · refine ⟨((h4.trans f2).trans f3).setHi (Nat.le_refl _), ?_⟩
          rw [set_get h9, snoc_t hc]
        · have := List.length_filter_le c (as.take i)
          rw [List.length_map]
          rw [List.length_take] at this
          omega
  · refine ⟨?_, M1.length, rfl, hM.1, ?_, hM.trans h4⟩
    · rw [h3 M' (hk _ h4)]
      simp
    · rw [List.take_length] at h5
      exact h5
/-- [v a b for a in as if c a for b in bs a if d a b] -/
theorem lc2_ret {s s1 : MY} {vs vs1 : List Nat} {p p1 : Pt} {t t1 : MT} {f : MX} (e : α → D) (c : α → Bool) (bs : α → List β) (e1 : β → D) (c1 : α → β → Bool) (v : α → β → D) {as : List α} {K : Hs → Prop} (S : Src s ζ M (as.map e) M1 K) (hM : Fr No M M1) (hk : ∀ M', Fr No M1 M' → K M')
    (hl : (as.flatMap fun a => bs a).length < sizeLine)
    (go : ∀ a ∈ as, ∀ M', Fr No M1 M' → ∃ l, bindP p (e a) = some l ∧ wX (t (setAll (wipeD ζ vs) l) M') fun b M2 => b = c a ∧ Fr No M' M2 ∧ (c a = true → ∃ M3 K1, Src s1 (setAll (wipeD ζ vs) l) M2 ((bs a).map e1) M3 K1 ∧ Fr No M2 M3 ∧ (∀ M4, Fr No M1 M4 → Fr No M1 M3 → K1 M4) ∧
      ∀ x ∈ bs a, ∀ M4, Fr No M1 M4 → ∃ l1, bindP p1 (e1 x) = some l1 ∧ wX (t1 (setAll (wipeD (setAll (wipeD ζ vs) l) vs1) l1) M4) fun b M5 => b = c1 a x ∧ Fr No M4 M5 ∧ (c1 a x = true → wX (f (setAll (wipeD (setAll (wipeD ζ vs) l) vs1) l1) M5) fun d M6 => d = v a x ∧ Fr No M5 M6))) :
    wX (xLc2 s vs p t s1 p1 vs1 t1 f ζ M) fun d M' => RL d M M' ((as.filter c).flatMap fun a => ((bs a).filter (c1 a)).map (v a)) := by
  obtain ⟨yd, h1, h2, h3⟩ := S
  unfold xLc2
  rw [wX_bind, h1, wX_ok, wX_bind]
  have size : ∀ (i : Nat), (((as.take i).filter c).flatMap fun a => ((bs a).filter (c1 a)).map (v a)).length ≤ ((as.take i).flatMap fun a => bs a).length := fun i => by
    generalize as.take i = l
    induction l with
    | nil => simp
    | cons a l ih =>
      rw [List.filter_cons]
      split
      · rw [List.flatMap_cons, List.flatMap_cons, List.length_append, List.length_append, List.length_map]
        have := List.length_filter_le (c1 a) (bs a)
        omega
      · rw [List.flatMap_cons, List.length_append]
        omega
  refine wX_mono (wX_lcN (Q := fun M2 => RL (.ref M1.length) M M2 ((as.filter c).flatMap fun a => ((bs a).filter (c1 a)).map (v a))) (fun i M' => Fr No M1 M' ∧ M'[M1.length]? = some (.lst (((as.take i).filter c).flatMap fun a => ((bs a).filter (c1 a)).map (v a)))) as.length (fun i M' hi ⟨h4, h5⟩ => ?_) (fun M' ⟨h4, h5⟩ => ?_) yd.fuel 0 (M1 ++ [.lst []]) (by simpa using h2) (Nat.zero_le _) ⟨Fr.push _ _, by simp⟩) fun _ M2 h => h
  · obtain ⟨l, h6, h7⟩ := go as[i] (List.getElem_mem hi) M' h4
    refine ⟨e as[i], l, ?_, h6, ?_⟩
    · rw [h3 M' (hk _ h4) i]
      simp [hi]
    · rw [take_sn hi]
      obtain ⟨b, M2, e2, rfl, f2, h8⟩ := wX_get h7
      unfold lcB2
      rw [e2]
      cases hc : c as[i] with
      | false =>
        refine ⟨h4.trans f2, ?_⟩
        rw [fr_lt f2 h5, List.filter_append, List.filter_cons, if_neg (by rw [hc]; decide)]
        simp
      | true =>
        obtain ⟨M3, K1, ⟨yd1, g1, g2, g3⟩, f3, kk, go1⟩ := h8 hc
        dsimp only
        rw [g1]
        dsimp only
        have f13 := (h4.trans f2).trans f3
        have len1 : (((as.take i).filter c).flatMap fun a => ((bs a).filter (c1 a)).map (v a)).length + (bs as[i]).length < sizeLine := by
          have q := size i
          have q2 : ((as.take i).flatMap fun a => bs a).length + (bs as[i]).length ≤ (as.flatMap fun a => bs a).length := by
            have e3 : as = as.take i ++ as[i] :: as.drop (i + 1) := by simp
            rw [show (as.flatMap fun a => bs a) = ((as.take i ++ as[i] :: as.drop (i + 1)).flatMap fun a => bs a) from by rw [← e3]]
            rw [List.flatMap_append, List.flatMap_cons, List.length_append, List.length_append]
            omega
          omega
        refine wX_mono (wX_lcN (Q := fun M' => Fr No M1 M' ∧ M'[M1.length]? = some (.lst (((as.take i ++ [as[i]]).filter c).flatMap fun a => ((bs a).filter (c1 a)).map (v a)))) (fun j M' => Fr No M1 M' ∧ M'[M1.length]? = some (.lst ((((as.take i).filter c).flatMap fun a => ((bs a).filter (c1 a)).map (v a)) ++ ((((bs as[i]).take j).filter (c1 as[i])).map (v as[i]))))) (bs as[i]).length
          (fun j M' hj ⟨q4, q5⟩ => ?_) (fun M' ⟨q4, q5⟩ => ?_) yd1.fuel 0 M3 (by simpa using g2) (Nat.zero_le _) ⟨f13, by rw [fr_lt f3 (fr_lt f2 h5)]; simp⟩) fun _ M' h => h
        · obtain ⟨l1, q6, q7⟩ := go1 (bs as[i])[j] (List.getElem_mem hj) M' q4
          refine ⟨e1 (bs as[i])[j], l1, ?_, q6, ?_⟩
          · rw [g3 M' (kk _ q4 f13) j]
            simp [hj]
          · rw [take_sn hj]
            obtain ⟨b, M5, e5, rfl, f5, q8⟩ := wX_get q7
            unfold lcB
            rw [e5]
            cases hc1 : c1 as[i] (bs as[i])[j] with
            | false =>
              refine ⟨q4.trans f5, ?_⟩
              rw [fr_lt f5 q5, snoc_f hc1]
            | true =>
              obtain ⟨z, M6, e6, rfl, f6⟩ := wX_get (q8 hc1)
              dsimp only
              rw [e6]
              have q9 := fr_lt f6 (fr_lt f5 q5)
              unfold lput
              dsimp only
              rw [hLst_at q9]
              dsimp only
              rw [if_pos]
              · refine ⟨((q4.trans f5).trans f6).setHi (Nat.le_refl _), ?_⟩
                rw [set_get q9, snoc_t hc1, List.append_assoc]
              · have := List.length_filter_le (c1 as[i]) ((bs as[i]).take j)
                rw [List.length_append, List.length_map]
                rw [List.length_take] at this
                omega
        · refine ⟨?_, q4, ?_⟩
          · rw [g3 M' (kk _ q4 f13)]
            simp
          · rw [List.take_length] at q5
            rw [q5, List.filter_append, List.flatMap_append, List.filter_cons, if_pos hc]
            simp
  · refine ⟨?_, M1.length, rfl, hM.1, ?_, hM.trans h4⟩
    · rw [h3 M' (hk _ h4)]
      simp
    · rw [List.take_length] at h5
      exact h5
end
end Mi
end
section
set_option maxRecDepth 100000
set_option maxHeartbeats 4000000
set_option autoImplicit false
namespace Mi
open PySem

section
variable {M : Hs}
mutual
theorem pd_deep : ∀ (d : D) (p : PyData) (n : Nat), pdT d = some p → p.depth < n → toPD M n d = some p
  | .non, p, n, h, hn => by
    cases n with
    | zero => omega
    | succ n => simp only [pdT] at h; cases h; rfl
  | .bl b, p, n, h, hn => by
    cases n with
    | zero => omega
    | succ n => simp only [pdT] at h; cases h; rfl
  | .int i, p, n, h, hn => by
    cases n with
    | zero => omega
    | succ n => simp only [pdT] at h; cases h; rfl
  | .str x, p, n, h, hn => by
    cases n with
    | zero => omega
    | succ n => simp only [pdT] at h; cases h; rfl
  | .tup xs, p, n, h, hn => by
    simp only [pdT] at h
    cases e : pdTs xs with
    | none => rw [e] at h; cases h
    | some ps =>
      rw [e] at h
      cases h
      cases n with
      | zero => omega
      | succ n =>
        have hd : PyData.depthAll ps < n := by simp only [PyData.depth] at hn; omega
        show (match mapO (toPD M n) xs with | some ps => some (PyData.tuple ps) | none => none) = _
        rw [pds_deep xs ps n e hd]
  | .ref _, p, n, h, hn => by simp [pdT] at h
  | .klst _, p, n, h, hn => by simp [pdT] at h
  | .exc .., p, n, h, hn => by simp [pdT] at h
theorem pds_deep : ∀ (xs : List D) (ps : List PyData) (n : Nat), pdTs xs = some ps → PyData.depthAll ps < n → mapO (toPD M n) xs = some ps
  | [], ps, n, h, hn => by simp only [pdTs] at h; cases h; rfl
  | x :: xs, ps, n, h, hn => by
    simp only [pdTs] at h
    split at h
    · rename_i k ks h1 h2
      cases h
      simp only [PyData.depthAll] at hn
      unfold mapO
      rw [pd_deep x k n h1 (by omega), pds_deep xs ks n h2 (by omega)]
    · cases h
end
/-- things that are compared by value -/
structure Eqk (α : Type) (f : α → D) (enc : α → PyData) : Prop where
  pd : ∀ a, pdT (f a) = some (enc a)
  eq : ∀ a b, PyData.eqv (enc a) (enc b) = true ↔ a = b
  cl : ∀ a, PyData.canLay0 (enc a) = true
  dp : ∀ a, (enc a).depth ≤ 6
variable {α : Type} [DecidableEq α] {f : α → D} {enc : α → PyData} (E : Eqk α f enc)
include E
theorem Eqk.sh (a : α) : SeqAt.shaped (enc a) = true := by
  have := E.dp a
  unfold SeqAt.shaped
  rw [E.cl]
  simp
  omega
theorem Eqk.eqb (a b : α) : PyData.eqv (enc a) (enc b) = decide (a = b) := by
  have h := E.eq a b
  by_cases e : a = b
  · rw [h.mpr e, decide_eq_true e]
  · cases q : PyData.eqv (enc a) (enc b) with
    | true => exact absurd (h.mp q) e
    | false => rw [decide_eq_false e]
theorem Eqk.to (a : α) : toPD M deep (f a) = some (enc a) := pd_deep _ _ _ (E.pd a) (by have := E.dp a; show _ < 12; omega)
theorem Eqk.gEq (a b : α) : Mi.gEq (f a) (f b) M = some (.bl (decide (a = b)), M) := by
  unfold Mi.gEq gEqB
  rw [E.to, E.to]
  dsimp only
  rw [E.sh, E.sh, E.eqb]
  rfl
theorem Eqk.gNe (a b : α) : Mi.gNe (f a) (f b) M = some (.bl (!decide (a = b)), M) := by
  unfold Mi.gNe gEqB
  rw [E.to, E.to]
  dsimp only
  rw [E.sh, E.sh, E.eqb]
  rfl
theorem Eqk.all (xs : List α) : PyData.canLayAll0 (xs.map enc) = true ∧ PyData.depthAll (xs.map enc) ≤ 6 := by
  induction xs with
  | nil => exact ⟨rfl, Nat.zero_le _⟩
  | cons a xs ih =>
    have := E.dp a
    constructor
    · simp only [List.map_cons, PyData.canLayAll0, E.cl, ih.1, Bool.and_self]
    · simp only [List.map_cons, PyData.depthAll]
      omega
theorem Eqk.pds (xs : List α) : pdTs (xs.map f) = some (xs.map enc) := by
  induction xs with
  | nil => rfl
  | cons a xs ih =>
    rw [List.map_cons]
    unfold pdTs
    rw [E.pd, ih]
    rfl
theorem Eqk.tos (xs : List α) : mapO (toPD M 11) (xs.map f) = some (xs.map enc) := pds_deep _ _ _ (E.pds xs) (by have := (E.all xs).2; omega)
theorem Eqk.shL (xs : List α) : SeqAt.shaped (.list (xs.map enc)) = true := by
  obtain ⟨h1, h2⟩ := E.all xs
  unfold SeqAt.shaped
  rw [Bool.and_eq_true, decide_eq_true_eq]
  refine ⟨by simp only [PyData.canLay0]; exact h1, ?_⟩
  simp only [PyData.depth]
  exact Nat.le_trans (Nat.succ_le_succ h2) (by decide)
theorem Eqk.shT (xs : List α) : SeqAt.shaped (.tuple (xs.map enc)) = true := by
  obtain ⟨h1, h2⟩ := E.all xs
  unfold SeqAt.shaped
  rw [Bool.and_eq_true, decide_eq_true_eq]
  refine ⟨by simp only [PyData.canLay0]; exact h1, ?_⟩
  simp only [PyData.depth]
  exact Nat.le_trans (Nat.succ_le_succ h2) (by decide)
theorem Eqk.anyb (xs : List α) (a : α) : ((xs.map enc).any fun z => PyData.eqv z (enc a)) = decide (a ∈ xs) := by
  induction xs with
  | nil => rfl
  | cons x xs ih =>
    rw [List.map_cons, List.any_cons, ih, E.eqb]
    by_cases h1 : x = a <;> by_cases h2 : a ∈ xs
    · subst h1; simp
    · subst h1; simp
    · have h3 : a ≠ x := Ne.symm h1; simp [h1, h2, h3]
    · have h3 : a ≠ x := Ne.symm h1; simp [h1, h2, h3]
/-- a in xs, xs a list or a tuple -/
theorem Eqk.gIn {k : Bool → Bool} {a : α} {d : D} {xs : List α} (hd : (∃ n, d = .ref n ∧ M[n]? = some (.lst (xs.map f))) ∨ d = .tup (xs.map f)) : gInA k (f a) d M = some (.bl (k (decide (a ∈ xs))), M) := by
  rcases hd with ⟨n, rfl, hn⟩ | rfl
  · have e1 : hDct M n = none := by unfold hDct; rw [hn]
    have e2 : toPD M deep (.ref n) = some (.list (xs.map enc)) := by
      have := pd_ref M 11 n _ hn
      rw [E.tos] at this
      exact this
    unfold gInA
    dsimp only
    rw [e1]
    dsimp only
    unfold gInB
    rw [E.to, e2]
    dsimp only
    rw [E.sh, E.shL, E.anyb]
    rfl
  · have e2 : toPD M deep (.tup (xs.map f)) = some (.tuple (xs.map enc)) := by
      show (match mapO (toPD M 11) (xs.map f) with | some ps => some (PyData.tuple ps) | none => none) = _
      rw [E.tos]
    show gInB k (f a) (.tup (xs.map f)) M = _
    unfold gInB
    rw [E.to, e2]
    dsimp only
    rw [E.sh, E.shT, E.anyb]
    rfl
/-- a list that is compared with [] -/
theorem Eqk.gNeNil {m n : Nat} {xs : List α} (h1 : M[m]? = some (.lst (xs.map f))) (h2 : M[n]? = some (.lst [])) : Mi.gNe (.ref m) (.ref n) M = some (.bl (!xs.isEmpty), M) := by
  have e1 : toPD M deep (.ref m) = some (.list (xs.map enc)) := by
    have := pd_ref M 11 m _ h1
    rw [E.tos] at this
    exact this
  have e2 : toPD M deep (.ref n) = some (.list []) := pd_ref M 11 n _ h2
  unfold Mi.gNe gEqB
  rw [e1, e2]
  dsimp only
  rw [E.shL, show SeqAt.shaped (.list []) = true by decide +kernel]
  cases xs with
  | nil => rfl
  | cons x xs => simp [PyData.eqv, PyData.eqvAll]
end
theorem eqk_int : Eqk Int D.int PyData.int where
  pd := fun _ => rfl
  eq := fun a b => by simp [PyData.eqv]
  cl := fun _ => rfl
  dp := fun _ => by simp [PyData.depth]
theorem eqk_t3 : Eqk T3 tr3 t3P where
  pd := fun ⟨a, b, c⟩ => rfl
  eq := fun ⟨a, b, c⟩ ⟨x, y, z⟩ => by simp [t3P, PyData.eqv, PyData.eqvAll]
  cl := fun ⟨a, b, c⟩ => by simp [t3P, PyData.canLay0, PyData.canLayAll0]
  dp := fun ⟨a, b, c⟩ => by simp [t3P, PyData.depth, PyData.depthAll]
theorem eqk_p6 : Eqk P6 p6D p6P where
  pd := fun ⟨a, b⟩ => rfl
  eq := fun ⟨⟨a, b, c⟩, ⟨x, y, z⟩⟩ ⟨⟨a', b', c'⟩, ⟨x', y', z'⟩⟩ => by simp [p6P, t3P, PyData.eqv, PyData.eqvAll]
  cl := fun ⟨⟨a, b, c⟩, ⟨x, y, z⟩⟩ => by simp [p6P, t3P, PyData.canLay0, PyData.canLayAll0]
  dp := fun ⟨⟨a, b, c⟩, ⟨x, y, z⟩⟩ => by simp [p6P, t3P, PyData.depth, PyData.depthAll]

structure Kyk (κ : Type) (f : κ → D) (key : κ → NestedKey) : Prop where
  nk : ∀ k, nkey (f k) = some (key k)
  inj : ∀ k l, key k = key l → k = l
  dp : ∀ k, (key k).depth ≤ 8
  tp : ∀ k, isTupD (f k) = true
section
variable {κ : Type} [DecidableEq κ] {f : κ → D} {key : κ → NestedKey} (Y : Kyk κ f key)
def dcK (f : κ → D) (kvs : List (κ × D)) : List (D × D) := kvs.map fun p => (f p.1, p.2)
def kGet (kvs : List (κ × D)) (k : κ) : Option D := (kvs.find? fun p => decide (p.1 = k)).map (·.2)
def kPut (kvs : List (κ × D)) (k : κ) (v : D) : List (κ × D) := if (kGet kvs k).isSome then kvs.map fun p => if p.1 = k then (p.1, v) else p else kvs ++ [(k, v)]
include Y
theorem Kyk.of (k : κ) : keyOf (f k) = some (key k) := by
  unfold keyOf
  rw [if_pos (Y.tp k), Y.nk]
  dsimp only
  rw [if_pos (Y.dp k)]
theorem Kyk.get (kvs : List (κ × D)) (k : κ) : dGet (dcK f kvs) (key k) = kGet kvs k := by
  unfold dGet dcK kGet
  induction kvs with
  | nil => rfl
  | cons p kvs ih =>
    rw [List.map_cons, List.find?_cons, List.find?_cons]
    by_cases h : p.1 = k
    · have e1 : decide (nkey (f p.1) = some (key k)) = true := decide_eq_true (by rw [h]; exact Y.nk k)
      have e2 : decide (p.1 = k) = true := decide_eq_true h
      simp only [e1, e2, Option.map_some]
    · have e1 : decide (nkey (f p.1) = some (key k)) = false := decide_eq_false (by rw [Y.nk]; exact fun e => h (Y.inj _ _ (Option.some.inj e)))
      have e2 : decide (p.1 = k) = false := decide_eq_false h
      simp only [e1, e2]
      exact ih
theorem Kyk.put (kvs : List (κ × D)) (k : κ) (v : D) : dPut (dcK f kvs) (key k) (f k) v = dcK f (kPut kvs k v) := by
  unfold dPut kPut
  rw [Y.get]
  split
  · unfold dcK
    rw [List.map_map, List.map_map]
    apply List.map_congr_left
    intro p _
    simp only [Function.comp]
    by_cases h : p.1 = k
    · rw [if_pos h, if_pos (by rw [h]; exact Y.nk k)]
    · rw [if_neg h, if_neg (by rw [Y.nk]; exact fun e => h (Y.inj _ _ (Option.some.inj e)))]
  · simp [dcK]
theorem Kyk.gIn {n : Nat} {kvs : List (κ × D)} {M : Hs} {b : Bool → Bool} {k : κ} (h : M[n]? = some (.dct (dcK f kvs))) : gInA b (f k) (.ref n) M = some (.bl (b (kGet kvs k).isSome), M) := by
  have e : hDct M n = some (dcK f kvs) := by unfold hDct; rw [h]
  unfold gInA
  dsimp only
  rw [e]
  dsimp only
  rw [Y.of]
  dsimp only
  rw [Y.get]
theorem Kyk.gIx {n : Nat} {kvs : List (κ × D)} {M : Hs} {k : κ} {d : D} (h : M[n]? = some (.dct (dcK f kvs))) (hd : kGet kvs k = some d) : gIxA (.ref n) (f k) M = some (d, M) := by
  have e : hDct M n = some (dcK f kvs) := by unfold hDct; rw [h]
  unfold gIxA
  dsimp only
  rw [e]
  dsimp only
  rw [Y.of]
  dsimp only
  rw [Y.get, hd]
theorem Kyk.gPut {n : Nat} {kvs : List (κ × D)} {M : Hs} {k : κ} {v : D} (h : M[n]? = some (.dct (dcK f kvs))) (hl : kvs.length < sizeLine) : gPutA (.ref n) (f k) v M = some (M.set n (.dct (dcK f (kPut kvs k v)))) := by
  have e : hDct M n = some (dcK f kvs) := by unfold hDct; rw [h]
  unfold gPutA
  dsimp only
  rw [e]
  dsimp only
  rw [Y.of]
  dsimp only
  rw [if_pos (by unfold dcK; rw [List.length_map]; exact hl), Y.put]
end
section
variable {κ : Type} [DecidableEq κ]
theorem kGet_some {kvs : List (κ × D)} {k : κ} : (kGet kvs k).isSome = decide (k ∈ kvs.map (·.1)) := by
  unfold kGet
  induction kvs with
  | nil => rfl
  | cons p kvs ih =>
    rw [List.find?_cons]
    by_cases h : p.1 = k
    · simp [h]
    · have h2 : k ≠ p.1 := Ne.symm h
      simp only [decide_eq_false h]
      rw [ih]
      simp [h2]
theorem kGet_mem {kvs : List (κ × D)} (nd : (kvs.map (·.1)).Nodup) {k : κ} {d : D} (h : (k, d) ∈ kvs) : kGet kvs k = some d := by
  unfold kGet
  induction kvs with
  | nil => cases h
  | cons p kvs ih =>
    rw [List.map_cons, List.nodup_cons] at nd
    rw [List.find?_cons]
    rcases List.mem_cons.mp h with rfl | h
    · simp
    · have : p.1 ≠ k := fun e => nd.1 (by rw [e]; exact List.mem_map.mpr ⟨_, h, rfl⟩)
      simp only [decide_eq_false this]
      exact ih nd.2 h
theorem kPut_new {kvs : List (κ × D)} {k : κ} {v : D} (h : k ∉ kvs.map (·.1)) : kPut kvs k v = kvs ++ [(k, v)] := by
  unfold kPut
  rw [kGet_some, decide_eq_false h]
  rfl
/-- a set kept in a dict -/
def stK (xs : List κ) : List (κ × D) := xs.map fun k => (k, .bl true)
theorem stK_fst (xs : List κ) : (stK xs).map (·.1) = xs := by
  unfold stK
  rw [List.map_map]
  simp [Function.comp_def]
theorem stK_len (xs : List κ) : (stK xs).length = xs.length := by unfold stK; simp
def addK (xs : List κ) (k : κ) : List κ := if k ∈ xs then xs else xs ++ [k]
theorem stK_put (xs : List κ) (k : κ) : kPut (stK xs) k (.bl true) = stK (addK xs k) := by
  unfold addK
  by_cases h : k ∈ xs
  · rw [if_pos h]
    unfold kPut
    rw [kGet_some, stK_fst, decide_eq_true h, if_pos rfl]
    unfold stK
    rw [List.map_map]
    apply List.map_congr_left
    intro q _
    simp only [Function.comp]
    split <;> rfl
  · rw [if_neg h, kPut_new (by rw [stK_fst]; exact h)]
    simp [stK]
theorem mem_addK {xs : List κ} {k l : κ} : l ∈ addK xs k ↔ l ∈ xs ∨ l = k := by
  unfold addK
  split
  · rename_i h
    constructor
    · exact .inl
    · rintro (h1 | rfl)
      · exact h1
      · exact h
  · simp
theorem nd_addK {xs : List κ} {k : κ} (h : xs.Nodup) : (addK xs k).Nodup := by
  unfold addK
  split
  · exact h
  · rename_i hp
    rw [List.nodup_append]
    exact ⟨h, by simp, fun a ha b hb e => by simp at hb; subst hb; subst e; exact hp ha⟩
end
def t3K (t : T3) : NestedKey := .tup [.num t.1, .num t.2.1, .num t.2.2]
def p6K (p : P6) : NestedKey := .tup [t3K p.1, t3K p.2]
theorem kyk_p6 : Kyk P6 p6D p6K where
  nk := fun ⟨⟨a, b, c⟩, ⟨x, y, z⟩⟩ => by simp [p6D, tr3, nkey, nkeys, p6K, t3K]
  inj := fun ⟨⟨a, b, c⟩, ⟨x, y, z⟩⟩ ⟨⟨a', b', c'⟩, ⟨x', y', z'⟩⟩ h => by simpa [p6K, t3K] using h
  dp := fun ⟨⟨a, b, c⟩, ⟨x, y, z⟩⟩ => by simp [p6K, t3K, NestedKey.depth, NestedKey.depthAll]
  tp := fun _ => rfl
end Mi
end
section
set_option maxRecDepth 100000
set_option maxHeartbeats 4000000
set_option autoImplicit false
namespace Mi
open PySem

theorem size1 : (1000000 : Nat) < sizeLine := by decide
def OgM (M : Hs) (g : Nat) (many : Int) (cs rs : List Tr3) (ch : Str) (oct : Int) : Prop := M[g]? = some (.slo 0 [some (.int oct), some (.tup (cs.map trD)), some (.int many), some (.str ch), some (.tup (rs.map trD))])
section
variable {M M' : Hs} {n m : Nat}
theorem get_app {o : MO} {l : List MO} (h : M[n]? = some o) : (M ++ l)[n]? = some o := by rw [List.getElem?_append_left (lt_of_get h)]; exact h
theorem sl_at {g : Nat} {fs : List (Option D)} (h : M[g]? = some (.slo 0 fs)) : slAt 0 (.ref g) M = some (g, fs) := by
  unfold slAt
  simp only [h, if_true]
theorem s_ref {xs : List D} (h : M[n]? = some (.lst xs)) : hSeq M (.ref n) = some xs := by simp [hSeq, h]
theorem s_tup (xs : List D) : hSeq M (.tup xs) = some xs := rfl
theorem g_eqI {i j : Int} : gEq (.int i) (.int j) M = some (.bl (decide (i = j)), M) := by
  have := (eqk_int).gEq (M := M) i j
  exact this
theorem g_neI {i j : Int} : gNe (.int i) (.int j) M = some (.bl (!decide (i = j)), M) := (eqk_int).gNe (M := M) i j
theorem g_isN : gIs .non .non M = some (.bl true, M) := rfl
theorem g_isI {i : Int} : gIs (.int i) .non M = some (.bl false, M) := rfl
theorem g_isNotN : gIsNot .non .non M = some (.bl false, M) := rfl
theorem g_isNotI {i : Int} : gIsNot (.int i) .non M = some (.bl true, M) := rfl
theorem is_L {xs : List D} (h : M[n]? = some (.lst xs)) : isLst (.ref n) M = true := by
  have e : hLst M n = some xs := by unfold hLst; rw [h]
  unfold isLst
  dsimp only
  rw [e]
  rfl
theorem g_app {xs : List D} {d : D} (h : M[n]? = some (.lst xs)) (hl : xs.length < sizeLine) : gAppend (.ref n) [d] M = some (.non, M.set n (.lst (xs ++ [d]))) := by
  unfold gAppend
  dsimp only
  rw [hLst_at h]
  dsimp only
  rw [if_pos hl]
theorem g_ext {xs ys : List D} (h : M[n]? = some (.lst xs)) (h2 : M[m]? = some (.lst ys)) (hl : xs.length + ys.length ≤ sizeLine) : gExtend (.ref n) [.ref m] M = some (.non, M.set n (.lst (xs ++ ys))) := by
  unfold gExtend
  dsimp only
  rw [hLst_at h, hLst_at h2]
  dsimp only
  rw [if_pos hl]
theorem g_lenD {xs : List D} (h : M[n]? = some (.lst xs)) : gLen [.ref n] M = some (.int xs.length, M) := by
  unfold gLen
  dsimp only
  rw [s_ref h]
theorem g_lenT {xs : List D} : gLen [.tup xs] M = some (.int xs.length, M) := rfl
theorem g_ixR {xs : List D} {k : Int} {d : D} (h : M[n]? = some (.lst xs)) (h0 : 0 ≤ k) (hd : xs[k.toNat]? = some d) : gIxA (.ref n) (.int k) M = some (d, M) := g_ixL (i := k.toNat) h hd (by omega)
theorem g_ixU {xs : List D} {k : Int} {d : D} (h0 : 0 ≤ k) (hd : xs[k.toNat]? = some d) : gIxA (.tup xs) (.int k) M = some (d, M) := g_ixT (i := k.toNat) hd (by omega)
theorem g_ix0 {a : D} {xs : List D} : gIxA (.tup (a :: xs)) (.int 0) M = some (a, M) := g_ixU (by decide) rfl
theorem g_ix1 {a b : D} {xs : List D} : gIxA (.tup (a :: b :: xs)) (.int 1) M = some (b, M) := g_ixU (by decide) rfl
theorem g_ix2 {a b c : D} {xs : List D} : gIxA (.tup (a :: b :: c :: xs)) (.int 2) M = some (c, M) := g_ixU (by decide) rfl
theorem g_ix5 {a b c d e f : D} {xs : List D} : gIxA (.tup (a :: b :: c :: d :: e :: f :: xs)) (.int 5) M = some (f, M) := g_ixU (by decide) rfl
theorem sz_eq : sizeLine = 16777216 := rfl
theorem g_min {i j : Int} : gMin2 [.int i, .int j] M = some (.int (Ga.mnI i j), M) := rfl
theorem g_mx {i j : Int} : gMax2 [.int i, .int j] M = some (.int (Ga.mxI i j), M) := rfl
theorem g_cat {xs ys : List D} (h : M[m]? = some (.lst xs)) (h2 : M[n]? = some (.lst ys)) (hl : (xs ++ ys).length ≤ sizeLine) : gAdd (.ref m) (.ref n) M = some (.ref M.length, M ++ [.lst (xs ++ ys)]) := by
  unfold gAdd newL
  dsimp only
  rw [h, h2]
  dsimp only
  rw [if_pos hl]
theorem g_tupD {d : D} {xs : List D} (h : hSeq M d = some xs) : gTuple [d] M = some (.tup xs, M) := by
  unfold gTuple
  dsimp only
  rw [h]
theorem g_listT {xs : List D} : gListA [.tup xs] M = some (.ref M.length, M ++ [.lst xs]) := rfl
theorem g_listL {xs : List D} (h : M[n]? = some (.lst xs)) : gListA [.ref n] M = some (.ref M.length, M ++ [.lst xs]) := by
  have e1 : hDct M n = none := by unfold hDct; rw [h]
  unfold gListA
  dsimp only
  rw [e1]
  unfold gList
  dsimp only
  rw [s_ref h]
theorem g_listD {kvs : List (D × D)} (h : M[n]? = some (.dct kvs)) : gListA [.ref n] M = some (.ref M.length, M ++ [.lst (kvs.map (·.1))]) := by
  have e1 : hDct M n = some kvs := by unfold hDct; rw [h]
  unfold gListA
  dsimp only
  rw [e1]
theorem g_popL {xs : List D} {d : D} (h : M[n]? = some (.lst (xs ++ [d]))) : gPop (.ref n) [] M = some (d, M.set n (.lst xs)) := by
  unfold gPop
  dsimp only
  rw [hLst_at h]
  simp
theorem blsOf_map (bs : List Bool) : blsOf (bs.map D.bl) = some bs := by
  induction bs with
  | nil => rfl
  | cons b bs ih => rw [List.map_cons]; unfold blsOf; rw [ih]
theorem g_anyL {bs : List Bool} (h : M[n]? = some (.lst (bs.map D.bl))) : gAny [.ref n] M = some (.bl (bs.any id), M) := by
  unfold gAny gBools
  dsimp only
  rw [s_ref h]
  dsimp only
  rw [blsOf_map]
theorem intsOf_map (is : List Int) : intsOf (is.map D.int) = some is := by
  induction is with
  | nil => rfl
  | cons b bs ih => rw [List.map_cons]; unfold intsOf; rw [ih]
theorem t3s_map (ts : List T3) : t3s (ts.map tr3) = some ts := by
  induction ts with
  | nil => rfl
  | cons b bs ih =>
    obtain ⟨x, y, z⟩ := b
    rw [List.map_cons]
    show (match t3s (bs.map tr3) with | some ps => some ((x, y, z) :: ps) | none => none) = _
    rw [ih]
theorem p6s_map (ts : List P6) : p6s (ts.map p6D) = some ts := by
  induction ts with
  | nil => rfl
  | cons b bs ih =>
    obtain ⟨⟨x, y, z⟩, u, v, w⟩ := b
    rw [List.map_cons]
    show (match t3of (tr3 (x, y, z)), t3of (tr3 (u, v, w)), p6s (bs.map p6D) with | some x, some y, some ps => some ((x, y) :: ps) | _, _, _ => none) = _
    rw [ih]
    rfl
theorem g_sset3 {ts : List T3} (h : M[n]? = some (.lst (ts.map tr3))) (h1 : ts.all smallT = true) (h2 : (unq ts).length < 63) : gSortSet [.ref n] M = some (.ref M.length, M ++ [.lst ((srtB lt3 (unq ts)).map tr3)]) := by
  unfold gSortSet
  dsimp only
  rw [s_ref h]
  dsimp only
  cases ts with
  | nil => rfl
  | cons t ts =>
    have e : intsOf ((t :: ts).map tr3) = none := rfl
    rw [e]
    dsimp only
    rw [t3s_map]
    dsimp only
    rw [if_pos (by rw [h1, decide_eq_true h2]; rfl)]
theorem g_ssetI {is : List Int} (h : M[n]? = some (.lst (is.map D.int))) (hl : is.length < 63) : gSortSet [.ref n] M = some (.ref M.length, M ++ [.lst ((srtB ltI (unq is)).map D.int)]) := by
  unfold gSortSet
  dsimp only
  rw [s_ref h]
  dsimp only
  rw [intsOf_map]
  dsimp only
  rw [if_pos hl]
theorem g_sorted6 {xs : List P6} (h : M[n]? = some (.dct (dcK p6D (stK xs)))) : gSortedA [.ref n] M = some (.ref M.length, M ++ [.lst ((srtB lt6 xs).map p6D)]) := by
  have e1 : itemsA M (.ref n) = some (xs.map p6D) := by
    have e : hSeq M (.ref n) = none := by simp [hSeq, h]
    have e2 : hDct M n = some (dcK p6D (stK xs)) := by unfold hDct; rw [h]
    unfold itemsA
    rw [e]
    dsimp only
    rw [e2]
    simp [dcK, stK, Function.comp_def]
  unfold gSortedA
  cases xs with
  | nil =>
    have : gSorted [.ref n] M = some (.ref M.length, M ++ [.lst []]) := by
      unfold gSorted
      dsimp only
      rw [e1]
      rfl
    rw [this]
    rfl
  | cons x xs =>
    have : gSorted [.ref n] M = none := by
      unfold gSorted
      dsimp only
      rw [e1]
      rfl
    rw [this]
    dsimp only
    rw [e1]
    dsimp only
    rw [p6s_map]
end
theorem bp_n {i : Nat} {d : D} : bindP (.n i) d = some [(i, d)] := by simp [bindP]
theorem bp_t {ps : List Pt} {ds : List D} : bindP (.t ps) (.tup ds) = bindPs ps ds := by simp [bindP]
theorem bps_n : bindPs [] [] = some [] := by simp [bindPs]
theorem bps_c {p : Pt} {ps : List Pt} {d : D} {ds : List D} {l r : List (Nat × D)} (h1 : bindP p d = some l) (h2 : bindPs ps ds = some r) : bindPs (p :: ps) (d :: ds) = some (l ++ r) := by
  simp only [bindPs]
  rw [h1, h2]
theorem bps_cn {i : Nat} {ps : List Pt} {d : D} {ds : List D} : bindPs (.n i :: ps) (d :: ds) = (bindPs ps ds).map fun r => (i, d) :: r := by
  simp only [bindPs, bp_n]
  cases bindPs ps ds <;> rfl
theorem sa_n {α : Type} {ζ : List (Option α)} : setAll ζ [] = ζ := rfl
theorem sa_c {α : Type} {ζ : List (Option α)} {i : Nat} {d : α} {r : List (Nat × α)} : setAll ζ ((i, d) :: r) = setAll (ζ.set i (some d)) r := rfl
/-- the state as a tuple -/
def stD (s : Ga.St) : D := .tup [.int s.many, .tup (s.links.map p6D), .tup (s.started.map tr3), .tup (s.ending.map tr3), optD s.age, .bl s.done]
end Mi
end
section
set_option maxRecDepth 100000
set_option maxHeartbeats 4000000
set_option autoImplicit false
namespace Wk
open PySem Mi
local macro_rules | `(tactic| walk_at "mi") => `(tactic| simp only [wX_fn, wS_seq, wS_set, wS_ret, wS_expr, wS_pass, wS_if, wS_put, wX_var, wX_c, wX_2, wX_3, wX_anil, wX_acons, wX_tup, wX_lst, wX_dict, wX_b, wX_meth, wX_call, wX_if, wX_t1, wX_and2, wX_or2, wX_not1, wX_true, wX_neg, wX_oN, wX_oS, wX_not, wX_and, wX_or, wX_is, wX_cut, wX_fld, wS_for, wX_ok, wX_no, wO_some, wO_none, wS_nx, wS_rt, List.map_cons, List.map_nil, List.cons_append, List.nil_append, List.append_nil, List.replicate_succ, List.replicate_zero, List.set_cons_zero, List.set_cons_succ, List.getElem?_cons_zero, List.getElem?_cons_succ, List.getElem?_nil, List.length_cons, List.length_nil, Nat.reduceSub, Nat.reduceAdd, Nat.zero_add, Nat.add_zero, if_true, if_false, ite_true, ite_false, reduceIte, Bool.false_eq_true, Bool.not_true, Bool.not_false, ← Nat.add_assoc, reduceCtorEq, List.length_append])
theorem g_mulA {i j : Int} {M : Hs} (h : inW j = true) : gMulA (.int i) (.int j) M = some (.int (i * j), M) := g_mul h
theorem isL {M : Hs} {n : Nat} {xs : List D} (h : M[n]? = some (.lst xs)) : isLst (.ref n) M = true ∧ hLst M n = some xs := by
  have e : hLst M n = some xs := by unfold hLst; rw [h]
  exact ⟨by unfold isLst; dsimp only; rw [e]; rfl, e⟩
theorem seq_lst {M : Hs} {n : Nat} {xs : List D} (h : M[n]? = some (.lst xs)) : hSeq M (.ref n) = some xs := by simp [hSeq, h]
/-- the generator's cells: 0 and 1 of the store -/
def Hd (M : Hs) : Prop := ∃ (s i : Int) (xs : List Int), M[1]? = some (.lst [.int s, .ref 0, .int i, .int 14]) ∧ M[0]? = some (.lst (xs.map D.int)) ∧ xs.length ≤ 63
def H2 : Nat → Prop := fun n => n < 2
theorem Hd.fr {M M' : Hs} (h : Hd M) (f : Fr No M M') : Hd M' := let ⟨s, i, xs, h1, h2, h3⟩ := h; ⟨s, i, xs, f.get h1 id, f.get h2 id, h3⟩
theorem g_putL {M : Hs} {n : Nat} {xs : List D} {k : Int} {v : D} (h : M[n]? = some (.lst xs)) (h0 : 0 ≤ k) (h1 : k < xs.length) : gPutA (.ref n) (.int k) v M = some (M.set n (.lst (xs.set k.toNat v))) := by
  have e : gPutA (.ref n) (.int k) v M = gPutL (.ref n) (.int k) v M := by simp [gPutA, hDct, h]
  rw [e]
  unfold gPutL
  dsimp only
  rw [(isL h).2]
  unfold L2.ixN
  dsimp only
  rw [if_pos h0, if_pos h1]
theorem g_catL {M : Hs} {m n : Nat} {xs ys : List D} (h : M[m]? = some (.lst xs)) (h2 : M[n]? = some (.lst ys)) (hl : (xs ++ ys).length ≤ sizeLine) : gAdd (.ref m) (.ref n) M = some (.ref M.length, M ++ [.lst (xs ++ ys)]) := by
  unfold gAdd newL
  dsimp only
  rw [h, h2]
  dsimp only
  rw [if_pos hl]
theorem g_lenL {M : Hs} {n : Nat} {xs : List D} (h : M[n]? = some (.lst xs)) : gLen [.ref n] M = some (.int xs.length, M) := by
  unfold gLen
  dsimp only
  rw [seq_lst h]
theorem law_mix_w (ns : List Int) (hl : ns.length ≤ 63) (seed : Int) : wX (f__law_mix [.klst (ns.map D.int), .int seed] []) fun d M => d = .ref 1 ∧ Hd M ∧ M.length = 2 := by
  unfold f__law_mix
  try walk_at "mi"
  unfold ySeq
  simp only [wX_bind]
  try walk_at "mi"
  refine wS_forN (I := fun i ζ M => (∃ (s : Int) (a : Option D), ζ = [some (.klst (ns.map D.int)), some (.int seed), some (.int s), a]) ∧ M = []) ns.length ?_ ?_ _ 0 _ _ (by simp) (Nat.zero_le _) ⟨⟨_, _, rfl⟩, rfl⟩
  · rintro i ζ M hi ⟨⟨s, a, rfl⟩, rfl⟩
    refine ⟨.int ns[i], [(3, .int ns[i])], by simp [hi], rfl, ?_⟩
    simp only [setAll]
    try walk_at "mi"
    simp only [g_mulA (show inW 48271 = true by decide), g_add, g_int, g_mod (show (0 : Int) < 2147483629 by decide), g_mod (show (0 : Int) < 2147483647 by decide), wO_some]
    exact ⟨⟨_, _, rfl⟩, trivial⟩
  · rintro ζ M ⟨⟨s, a, rfl⟩, rfl⟩
    refine ⟨by simp, ?_⟩
    try walk_at "mi"
    have e : gListA [.klst (ns.map D.int)] [] = some (.ref 0, [.lst (ns.map D.int)]) := rfl
    rw [e]
    try walk_at "mi"
    rw [if_pos (show 4 ≤ sizeLine by decide)]
    exact ⟨trivial, ⟨s, 0, ns, rfl, rfl, hl⟩, trivial⟩
theorem law_next_w {M : Hs} (hd : Hd M) (b : Int) (h0 : 0 < b) (h1 : b < 1073741824) : wX (f__law_next [.ref 1, .int b] M) fun d M' => ∃ r : Int, d = .int r ∧ 0 ≤ r ∧ r < b ∧ Hd M' ∧ Fr H2 M M' := by
  obtain ⟨s, i, xs, hm1, hm0, hl⟩ := hd
  have hlen := lt_of_get hm1
  have hsz := size1
  unfold f__law_next
  try walk_at "mi"
  have fr1 : Fr No M (M ++ [MO.lst [.int 0]]) := Fr.push M _
  rw [g_ixL (i := 1) hm1 rfl]
  try walk_at "mi"
  rw [if_pos (show 1 ≤ sizeLine by decide)]
  have h01 : (M ++ [MO.lst [.int 0]])[0]? = some (.lst (xs.map D.int)) := fr1.get hm0 id
  have h11 : (M ++ [MO.lst [.int 0]])[1]? = some (.lst [.int s, .ref 0, .int i, .int 14]) := fr1.get hm1 id
  have hz1 : (M ++ [MO.lst [.int 0]])[M.length]? = some (.lst [.int 0]) := get_push
  rw [g_catL h01 hz1 (by simp; omega)]
  try walk_at "mi"
  have fr2 : Fr No M (M ++ [MO.lst [.int 0]] ++ [MO.lst (xs.map D.int ++ [.int 0])]) := fr1.pushHi
  have hn2 : (M ++ [MO.lst [.int 0]] ++ [MO.lst (xs.map D.int ++ [.int 0])])[(M ++ [MO.lst [.int 0]]).length]? = some (.lst (xs.map D.int ++ [.int 0])) := get_push
  rw [List.length_append, List.length_singleton] at hn2
  generalize (M ++ [MO.lst [.int 0]] ++ [MO.lst (xs.map D.int ++ [.int 0])]) = M2 at fr2 hn2 ⊢
  have h02 : M2[0]? = some (.lst (xs.map D.int)) := fr2.get hm0 id
  have h12 : M2[1]? = some (.lst [.int s, .ref 0, .int i, .int 14]) := fr2.get hm1 id
  rw [g_ixL (i := 2) h12 rfl]
  try walk_at "mi"
  rw [g_int]
  try walk_at "mi"
  rw [g_ixL (i := 1) h12 rfl]
  try walk_at "mi"
  rw [g_lenL h02]
  try walk_at "mi"
  rw [g_max]
  try walk_at "mi"
  rw [List.length_map]
  have hmx : (0 : Int) < if (xs.length : Int) > 1 then (xs.length : Int) else 1 := by split <;> omega
  rw [g_mod hmx]
  try walk_at "mi"
  have hk : 0 ≤ i % (if (xs.length : Int) > 1 then (xs.length : Int) else 1) ∧ i % (if (xs.length : Int) > 1 then (xs.length : Int) else 1) < (if (xs.length : Int) > 1 then (xs.length : Int) else 1) := ⟨Int.emod_nonneg _ (by omega), Int.emod_lt_of_pos _ hmx⟩
  generalize hkk : i % (if (xs.length : Int) > 1 then (xs.length : Int) else 1) = k at hk ⊢
  have hcell : ∃ c : Int, (xs.map D.int ++ [D.int 0])[k.toNat]? = some (.int c) ∧ (xs = [] → c = 0) := by
    by_cases hx : k.toNat < xs.length
    · refine ⟨xs[k.toNat], ?_, fun h => by rw [h] at hx; simp at hx⟩
      rw [List.getElem?_append_left (by simpa using hx), List.getElem?_map, List.getElem?_eq_getElem hx]
      rfl
    · have hxe : xs.length = 0 := by split at hk <;> omega
      have hxn : xs = [] := List.eq_nil_of_length_eq_zero hxe
      subst hxn
      refine ⟨0, ?_, fun _ => rfl⟩
      have : k.toNat = 0 := by simp at hk; omega
      rw [this]; rfl
  obtain ⟨c, hc, hc0⟩ := hcell
  rw [g_ixL (i := k.toNat) hn2 hc (by omega)]
  try walk_at "mi"
  have hpw : gPow (.int 10) (.int 18) M2 = some (.int 1000000000000000000, M2) := rfl
  rw [hpw]
  try walk_at "mi"
  rw [g_ge]
  try walk_at "mi"
  by_cases hbig : 1000000000000000000 ≤ c
  · simp only [hbig, decide_true, if_true]
    have hxn : xs ≠ [] := fun h => by have := hc0 h; omega
    have hxl : 0 < xs.length := List.length_pos_iff.mpr hxn
    try walk_at "mi"
    rw [g_div h0 h1]
    try walk_at "mi"
    rw [g_ixL (i := 1) h12 rfl]
    try walk_at "mi"
    rw [g_ixL (i := 2) h12 rfl]
    try walk_at "mi"
    rw [g_int]
    try walk_at "mi"
    rw [g_ixL (i := 1) h12 rfl]
    try walk_at "mi"
    rw [g_lenL h02]
    try walk_at "mi"
    rw [List.length_map, g_mod (show (0 : Int) < (xs.length : Int) by omega)]
    try walk_at "mi"
    have hk2 : 0 ≤ i % (xs.length : Int) ∧ i % (xs.length : Int) < xs.length := ⟨Int.emod_nonneg _ (by omega), Int.emod_lt_of_pos _ (by omega)⟩
    rw [g_putL h02 hk2.1 (by simpa using hk2.2)]
    try walk_at "mi"
    rw [g_int]
    try walk_at "mi"
    rw [g_mod h0]
    try walk_at "mi"
    refine ⟨_, rfl, Int.emod_nonneg _ (by omega), Int.emod_lt_of_pos _ h0, ⟨s, i, xs.set (i % (xs.length : Int)).toNat (c / b), ?_, ?_, by simpa using hl⟩, (fr2.imp fun _ _ h => h.elim).trans (Fr.set (by unfold H2; omega))⟩
    · rw [List.getElem?_set_ne (by omega)]; exact h12
    · rw [List.map_set]; exact set_get h02
  · simp only [hbig, decide_false, Bool.false_eq_true, if_false]
    try walk_at "mi"
    rw [g_ixL (i := 0) h12 rfl]
    try walk_at "mi"
    simp only [g_mulA (show inW 48271 = true by decide), g_mulA (show inW 69621 = true by decide), g_add, g_int, g_mod (show (0 : Int) < 2147483647 by decide), wO_some]
    try walk_at "mi"
    rw [g_putL h12 (by decide) (by simp)]
    dsimp only [List.set, Int.toNat]
    have h13 := set_get (o := MO.lst [D.int ((s * 48271 + c * 69621 + 11) % 2147483647), .ref 0, .int i, .int 14]) h12
    have h03 : (M2.set 1 (MO.lst [D.int ((s * 48271 + c * 69621 + 11) % 2147483647), .ref 0, .int i, .int 14]))[0]? = some (.lst (xs.map D.int)) := by rw [List.getElem?_set_ne (by omega)]; exact h02
    have fr3 : Fr H2 M (M2.set 1 (MO.lst [D.int ((s * 48271 + c * 69621 + 11) % 2147483647), .ref 0, .int i, .int 14])) := (fr2.imp fun _ _ h => h.elim).trans (Fr.set (by unfold H2; omega))
    generalize (M2.set 1 (MO.lst [D.int ((s * 48271 + c * 69621 + 11) % 2147483647), .ref 0, .int i, .int 14])) = M3 at h13 h03 fr3 ⊢
    generalize ((s * 48271 + c * 69621 + 11) % 2147483647) = s2 at h13 ⊢
    rw [g_ixL (i := 2) h13 rfl]
    try walk_at "mi"
    rw [g_add]
    try walk_at "mi"
    rw [g_putL h13 (by decide) (by simp)]
    dsimp only [List.set, Int.toNat]
    have h14 := set_get (o := MO.lst [D.int s2, .ref 0, .int (i + 1), .int 14]) h13
    have h04 : (M3.set 1 (MO.lst [D.int s2, .ref 0, .int (i + 1), .int 14]))[0]? = some (.lst (xs.map D.int)) := by rw [List.getElem?_set_ne (by omega)]; exact h03
    have fr4 : Fr H2 M (M3.set 1 (MO.lst [D.int s2, .ref 0, .int (i + 1), .int 14])) := fr3.trans (Fr.set (by unfold H2; omega))
    generalize (M3.set 1 (MO.lst [D.int s2, .ref 0, .int (i + 1), .int 14])) = M4 at h14 h04 fr4 ⊢
    rw [g_ixL (i := 0) h14 rfl]
    try walk_at "mi"
    rw [g_div (by decide) (by decide)]
    try walk_at "mi"
    rw [g_int]
    try walk_at "mi"
    rw [g_mod h0]
    try walk_at "mi"
    exact ⟨_, rfl, Int.emod_nonneg _ (by omega), Int.emod_lt_of_pos _ h0, ⟨s2, i + 1, xs, h14, h04, hl⟩, fr4⟩
end Wk
end
section
set_option maxRecDepth 100000
set_option maxHeartbeats 2000000
set_option autoImplicit false
namespace Mi
open PySem

abbrev XQ := Nat → List D → Hs → Prop
def wR {α : Type} (r : R α) (Q : α → Hs → Prop) (E : XQ) : Prop := match r with
  | .ok a M => Q a M
  | .ex c fs M => E c fs M
  | .no => False
def wT (r : RS) (N : Sl → Hs → Prop) (T : D → Hs → Prop) (E : Nat → List D → Sl → Hs → Prop) : Prop := match r with
  | .nx ζ M => N ζ M
  | .rt d M => T d M
  | .ex c fs ζ M => E c fs ζ M
  | _ => False
section
variable {α β : Type} {Q Q' : α → Hs → Prop} {ζ : Sl} {M : Hs} {N N' : Sl → Hs → Prop} {T T' : D → Hs → Prop} {E E' : XQ} {G G' : Nat → List D → Sl → Hs → Prop}
theorem wR_x {r : R α} (h : wX r Q) : wR r Q E := by
  cases r with
  | ok a M => exact h
  | _ => exact h.elim
theorem wR_mono {r : R α} (h : wR r Q E) (i : ∀ a M, Q a M → Q' a M) (j : ∀ c fs M, E c fs M → E' c fs M) : wR r Q' E' := by
  cases r with
  | ok a M => exact i a M h
  | ex c fs M => exact j c fs M h
  | no => exact h
theorem wR_ok {a : α} : wR (.ok a M) Q E = Q a M := rfl
theorem wR_get {r : R α} (h : wR r Q E) : (∃ a M, r = .ok a M ∧ Q a M) ∨ ∃ c fs M, r = .ex c fs M ∧ E c fs M := by
  cases r with
  | ok a M => exact .inl ⟨a, M, rfl, h⟩
  | ex c fs M => exact .inr ⟨c, fs, M, rfl, h⟩
  | no => exact h.elim
theorem wX_R {r : R α} (h : wR r Q fun _ _ _ => False) : wX r Q := by
  cases r with
  | ok a M => exact h
  | _ => exact h.elim
theorem wR_bind {r : R α} {k : α → Hs → R β} {Q : β → Hs → Prop} : wR (r.bind k) Q E = wR r (fun a M => wR (k a M) Q E) E := by cases r <;> rfl
theorem wT_s {r : RS} (h : wS r N T) : wT r N T G := by
  cases r with
  | nx a M => exact h
  | rt a M => exact h
  | _ => exact h.elim
theorem wT_mono {r : RS} (h : wT r N T G) (i : ∀ a M, N a M → N' a M) (j : ∀ a M, T a M → T' a M) (k : ∀ c fs ζ M, G c fs ζ M → G' c fs ζ M) : wT r N' T' G' := by
  cases r with
  | nx a M => exact i a M h
  | rt a M => exact j a M h
  | ex c fs ζ M => exact k c fs ζ M h
  | _ => exact h
theorem wT_of {r : R α} {k : α → Hs → RS} : wT (RS.of ζ r k) N T G = wR r (fun a M => wT (k a M) N T G) fun c fs M => G c fs ζ M := by cases r <;> rfl
variable {a b : MS} {f g fo fi fv : MX} {t : MT} {i n c k : Nat} {ga : MA} {F : MF}
theorem wT_seq : wT (sSeq a b ζ M) N T G = wT (a ζ M) (fun ζ M => wT (b ζ M) N T G) T G := by
  unfold sSeq
  cases a ζ M <;> rfl
theorem wT_set : wT (sSet i f ζ M) N T G = wR (f ζ M) (fun d M => N (ζ.set i (some d)) M) fun c fs M => G c fs ζ M := wT_of
theorem wT_ret : wT (sRet f ζ M) N T G = wR (f ζ M) T fun c fs M => G c fs ζ M := wT_of
theorem wT_expr : wT (sExpr f ζ M) N T G = wR (f ζ M) (fun _ M => N ζ M) fun c fs M => G c fs ζ M := wT_of
theorem wT_nx : wT (.nx ζ M) N T G = N ζ M := rfl
theorem wT_rt {d : D} : wT (.rt d M) N T G = T d M := rfl
theorem wT_pass : wT (sPass ζ M) N T G = N ζ M := rfl
theorem wT_if : wT (sIf t a b ζ M) N T G = wR (t ζ M) (fun c M => if c = true then wT (a ζ M) N T G else wT (b ζ M) N T G) fun c fs M => G c fs ζ M := by
  unfold sIf
  rw [wT_of]
  congr
  funext c M
  split <;> rfl
theorem wT_raise0 : wT (sRaise0 c ζ M) N T G = G c [] ζ M := rfl
theorem wT_raise : wT (sRaise c n ga ζ M) N T G = wR (ga ζ M) (fun ds M => if ds.length = n then G c ds.reverse ζ M else False) fun c fs M => G c fs ζ M := by
  unfold sRaise
  rw [wT_of]
  congr
  funext ds M
  split <;> rfl
theorem wT_for {s : MY} {p : Pt} : wT (sFor s p a ζ M) N T G = wR (s ζ M) (fun yd M => wT (forN yd.y p a yd.fuel 0 ζ M) N T G) fun c fs M => G c fs ζ M := wT_of
theorem wT_forN {y : Nat → Hs → Option (Option D)} {p : Pt} (I : Nat → Sl → Hs → Prop) (e : Nat) (go : ∀ i ζ M, i < e → I i ζ M → ∃ d l, y i M = some (some d) ∧ bindP p d = some l ∧ wT (a (setAll ζ l) M) (I (i + 1)) T G) (fin : ∀ ζ M, I e ζ M → y e M = some none ∧ N ζ M) :
    ∀ (m i : Nat) (ζ : Sl) (M : Hs), e - i < m → i ≤ e → I i ζ M → wT (forN y p a m i ζ M) N T G
  | 0, _, _, _, h, _, _ => by omega
  | m + 1, i, ζ, M, h, hi, q => by
    unfold forN
    by_cases hie : i = e
    · subst hie
      obtain ⟨h1, h2⟩ := fin ζ M q
      rw [h1]
      exact h2
    · obtain ⟨d, l, h1, h2, h3⟩ := go i ζ M (by omega) q
      rw [h1]
      dsimp only
      rw [h2]
      dsimp only
      cases hr : a (setAll ζ l) M with
      | nx ζ1 M1 => rw [hr] at h3; exact wT_forN I e go fin m (i + 1) ζ1 M1 (by omega) (by omega) h3
      | rt d M1 => rw [hr] at h3; exact h3
      | bk ζ1 M1 => rw [hr] at h3; exact h3.elim
      | ct ζ1 M1 => rw [hr] at h3; exact h3.elim
      | ex c fs ζ1 M1 => rw [hr] at h3; exact h3
      | no => rw [hr] at h3; exact h3.elim
theorem wR_fn {np nl : Nat} {ds : List D} {Q : D → Hs → Prop} : wR (fnS np nl a ds M) Q E = wT (a (ds.map some ++ List.replicate (nl - np) none) M) (fun _ M => Q .non M) Q fun c fs _ M => E c fs M := by
  unfold fnS
  cases a (ds.map some ++ List.replicate (nl - np) none) M <;> rfl
theorem wR_call {Q : D → Hs → Prop} : wR (xCall n F ga ζ M) Q E = wR (ga ζ M) (fun ds M => if ds.length = n then wR (F ds M) Q E else False) E := by
  unfold xCall
  rw [wR_bind]
  congr
  funext ds M
  split <;> rfl
theorem wR_make {o : MO} {Q : D → Hs → Prop} : wR (xMake o n F ga ζ M) Q E = wR (ga ζ M) (fun ds M1 => if ds.length + 1 = n then wR (F (.ref M1.length :: ds) (M1 ++ [o])) (fun v M2 => match v with
  | .non => Q (.ref M1.length) M2
  | _ => False) E else False) E := by
  unfold xMake
  rw [wR_bind]
  congr
  funext ds M1
  split
  · rw [wR_bind]
    congr
    funext v M2
    cases v <;> rfl
  · rfl
theorem wR_met {Q : D → Hs → Prop} : wR (xMet c n F fo ga ζ M) Q E = wR (fo ζ M) (fun x M1 => match slAt c x M1 with
  | some _ => wR (ga ζ M1) (fun ds M2 => if ds.length + 1 = n then wR (F (x :: ds) M2) Q E else False) E
  | none => False) E := by
  unfold xMet
  rw [wR_bind]
  congr
  funext x M1
  cases slAt c x M1 with
  | none => rfl
  | some q =>
    dsimp only
    rw [wR_bind]
    congr
    funext ds M2
    split <;> rfl
theorem wX_met {Q : D → Hs → Prop} : wX (xMet c n F fo ga ζ M) Q = wX (fo ζ M) (fun x M1 => match slAt c x M1 with
  | some _ => wX (ga ζ M1) (fun ds M2 => if ds.length + 1 = n then wX (F (x :: ds) M2) Q else False)
  | none => False) := by
  unfold xMet
  rw [wX_bind]
  congr
  funext x M1
  cases slAt c x M1 with
  | none => rfl
  | some q =>
    dsimp only
    rw [wX_bind]
    congr
    funext ds M2
    split <;> rfl
theorem wO_okR {r : R α} : wO (okR r) Q = wX r Q := by cases r <;> rfl
theorem wX_prp {Q : D → Hs → Prop} : wX (xPrp c F fo ζ M) Q = wX (fo ζ M) fun x M1 => match slAt c x M1 with
  | some _ => wX (F [x] M1) Q
  | none => False := by
  unfold xPrp
  rw [wX_bind]
  congr
  funext x M1
  cases slAt c x M1 with
  | none => rfl
  | some q =>
    dsimp only
    rw [wX_of, wO_okR]
theorem wX_isC {Q : D → Hs → Prop} : wX (xIsC c f ζ M) Q = wX (f ζ M) fun x M1 => if (slAt c x M1).isSome = true then Q (.bl true) M1 else if isLs x M1 = true then Q (.bl false) M1 else False := by
  unfold xIsC
  rw [wX_bind]
  congr
  funext x M1
  split
  · rfl
  · split <;> rfl
theorem wT_wX {r : R α} {k : α → Hs → RS} (h : wX r fun a M => wT (k a M) N T G) : wT (RS.of ζ r k) N T G := by
  rw [wT_of]
  exact wR_x h
end
theorem sTry_at {nm : Nat → List Str} {b : MS} {l : List CL} {ζ ζ' : Sl} {M M' : Hs} {c : Nat} {fs : List D} {r : RS} (hb : b ζ M = .ex c fs ζ' M') (hr : tryR nm l c fs ζ' M' = r) : sTry nm b l ζ M = r := by
  unfold sTry
  rw [hb]
  exact hr
theorem tryR_yes {nm : Nat → List Str} {h : CL} {l : List CL} {ζ : Sl} {M : Hs} {c : Nat} {fs : List D} {r : RS} (hm : h.ma c = some true) (hs : ∀ a d, suR nm h c fs ζ M a d = r) : tryR nm (h :: l) c fs ζ M = r := by
  simp only [tryR]
  rw [hm]
  exact uni_eq hs
theorem tryR_no {nm : Nat → List Str} {h : CL} {l : List CL} {ζ : Sl} {M : Hs} {c : Nat} {fs : List D} {r : RS} (hm : h.ma c = some false) (hs : tryR nm l c fs ζ M = r) : tryR nm (h :: l) c fs ζ M = r := by
  simp only [tryR]
  rw [hm]
  exact hs
theorem wT_try {nm : Nat → List Str} {b : MS} {l : List CL} {ζ : Sl} {M : Hs} {N : Sl → Hs → Prop} {T : D → Hs → Prop} {G : Nat → List D → Sl → Hs → Prop} (h : wT (b ζ M) N T fun c fs ζ' M' => wT (tryR nm l c fs ζ' M') N T G) : wT (sTry nm b l ζ M) N T G := by
  unfold sTry
  cases hb : b ζ M with
  | nx ζ' M' => rw [hb] at h; exact h
  | rt d M' => rw [hb] at h; exact h
  | ex c fs ζ' M' => rw [hb] at h; exact h
  | bk ζ' M' => rw [hb] at h; exact h.elim
  | ct ζ' M' => rw [hb] at h; exact h.elim
  | no => rw [hb] at h; exact h.elim
end Mi
end
section
set_option maxRecDepth 100000
set_option maxHeartbeats 8000000
set_option autoImplicit false
namespace Wk
open PySem PySem.Spec L2 Mi
def clsOf (k : Nat) : Nat := [4, 7, 8, 9, 10, 11, 14, 13, 12, 15, 16, 5, 6, 17, 18].getD k 0
def fsOf (k : Nat) (one two : D) : List D := if k < 11 then [] else if k < 14 then [one] else [two, one]
theorem bare_e (k : Nat) (hk : k < 11) (M : Hs) : f__law_bare [.int k] M = .ex (clsOf k) [] M := by
  unfold f__law_bare
  match k, hk with
  | 0, _ | 1, _ | 2, _ | 3, _ | 4, _ | 5, _ | 6, _ | 7, _ | 8, _ | 9, _ | 10, _ => simp [fnS, sSeq, sIf, tB1, x2, xVar, xC, R.bind, R.of, RS.of, g_eqI, sRaise0, sPass, clsOf]
theorem thrown_e (k : Nat) (hk : k < 15) (one two : D) (M : Hs) : f__law_thrown [.int k, one, two] M = .ex (clsOf k) (fsOf k one two) M := by
  have be := bare_e
  unfold f__law_thrown
  generalize f__law_bare = F at be ⊢
  by_cases h : k < 11
  · have h2 : decide ((k : Int) < 11) = true := decide_eq_true (by omega)
    simp [fnS, sSeq, sIf, tB1, x2, xVar, xC, R.bind, R.of, RS.of, g_lt, h2, sExpr, xCall, aCons, aNil, be k h, fsOf, h]
  · have h2 : decide ((k : Int) < 11) = false := decide_eq_false (by omega)
    match k, hk, h, h2 with
    | 11, _, h, h2 | 12, _, h, h2 | 13, _, h, h2 | 14, _, h, h2 => simp [fnS, sSeq, sIf, tB1, x2, xVar, xC, R.bind, R.of, RS.of, g_lt, g_eqI, sExpr, sPass, aCons, aNil, sRaise, fsOf, clsOf]
section
variable {ζ ζ1 : Sl} {M M1 M2 : Hs} {f g : MX} {d e : D} {i n : Nat} {a b : MS}
theorem sSet_e (h : f ζ M = .ok d M1) : sSet i f ζ M = .nx (ζ.set i (some d)) M1 := by
  unfold sSet
  rw [h]
  rfl
theorem sSeq_e (h : a ζ M = .nx ζ1 M1) : sSeq a b ζ M = b ζ1 M1 := by
  unfold sSeq
  rw [h]
theorem x2_e {p : D → D → Hs → Option (D × Hs)} (h1 : f ζ M = .ok d M1) (h2 : g ζ M1 = .ok e M2) : x2 p f g ζ M = R.of (p d e M2) := by
  unfold x2
  rw [h1]
  show (g ζ M1).bind _ = _
  rw [h2]
  rfl
theorem xVar_e (h : ζ[i]? = some (some d)) : xVar i ζ M = .ok d M := by
  unfold xVar
  rw [h]
theorem and_e (h : f ζ M = .ok (.bl true) M1) : xAnd f g ζ M = g ζ M1 := by
  unfold xAnd
  rw [h]
  rfl
theorem isE_e {ad : Addr} {dd : Option Addr} {c : Nat} {ns : List Str} {fs : List D} {ma : Nat → Option Bool} {b : Bool} (h : ζ[i]? = some (some (.exc ad dd c ns fs))) (hm : ma c = some b) : xIsE ad dd c ma (xVar i) ζ M = .ok (.bl b) M := by
  unfold xIsE
  rw [xVar_e h]
  show (if ad = ad ∧ c = c ∧ dd = dd then (match ma c with | some b => R.ok (D.bl b) M | none => .no) else .no) = _
  rw [if_pos ⟨rfl, rfl, rfl⟩, hm]
theorem lst3_e {f1 f2 f3 : MX} {d1 d2 d3 : D} (h1 : f1 ζ M = .ok d1 M) (h2 : f2 ζ M = .ok d2 M) (h3 : f3 ζ M = .ok d3 M) : xLst (aCons f1 (aCons f2 (aCons f3 aNil))) ζ M = .ok (.ref M.length) (M ++ [.lst [d1, d2, d3]]) := by
  simp [xLst, newL, aCons, aNil, R.bind, R.of, h1, h2, h3, sz_eq]
theorem cat_e {xs ys : List D} (h : ζ[i]? = some (some (.ref n))) (hn : M[n]? = some (.lst xs)) (hg : g ζ M = .ok (.ref M.length) (M ++ [.lst ys])) (hl : xs.length + ys.length ≤ 1000) : x2 gAdd (xVar i) g ζ M = .ok (.ref (M.length + 1)) (M ++ [.lst ys, .lst (xs ++ ys)]) := by
  have hz := sz_eq
  rw [x2_e (xVar_e h) hg, g_cat (get_app hn) get_push (by rw [List.length_append]; omega)]
  simp [R.of]
end
def bls (bs : List Bool) : MO := .lst (bs.map D.bl)
theorem cat_b {ζ : Sl} {M : Hs} {g : MX} {i n : Nat} {xs ys : List Bool} (h : ζ[i]? = some (some (.ref n))) (hn : M[n]? = some (bls xs)) (hg : g ζ M = .ok (.ref M.length) (M ++ [bls ys])) (hl : xs.length + ys.length ≤ 1000) : x2 gAdd (xVar i) g ζ M = .ok (.ref (M.length + 1)) (M ++ [bls ys, bls (xs ++ ys)]) := by
  have := cat_e (xs := xs.map D.bl) (ys := ys.map D.bl) h hn hg (by simpa using hl)
  rw [this, ← List.map_append]
  rfl
def hL (M : Hs) (b1 b2 b3 b4 b5 b6 b7 b8 b9 b10 b11 b12 b13 b14 b15 : Bool) : Hs := M ++ [bls [b1, b2, b3], bls [b4, b5, b6], bls [b1, b2, b3, b4, b5, b6], bls [b7, b8, b9], bls [b1, b2, b3, b4, b5, b6, b7, b8, b9], bls [b10, b11, b12], bls [b1, b2, b3, b4, b5, b6, b7, b8, b9, b10, b11, b12], bls [b13, b14, b15], bls [b1, b2, b3, b4, b5, b6, b7, b8, b9, b10, b11, b12, b13, b14, b15]]
theorem classes_e {ad : Addr} {dd : Option Addr} {c : Nat} {ns : List Str} {fs : List D} {M : Hs} {b1 b2 b3 b4 b5 b6 b7 b8 b9 b10 b11 b12 b13 b14 b15 : Bool} (h1 : kt_InvalidManuals c = some b1) (h2 : kt_InvalidChain c = some b2) (h3 : kt_InvalidOctave c = some b3) (h4 : kt_InvalidTop c = some b4) (h5 : kt_InvalidKey c = some b5) (h6 : kt_InvalidPipe c = some b6) (h7 : kt_NotComparable c = some b7) (h8 : kt_InvalidManual c = some b8) (h9 : kt_InvalidRank c = some b9)
    (h10 : kt_InvalidMove c = some b10) (h11 : kt_UnknownKnob c = some b11) (h12 : kt_InvalidCoupler c = some b12) (h13 : kt_InvalidStop c = some b13) (h14 : kt_UnknownIndex c = some b14) (h15 : kt_InvalidText c = some b15) :
    f__law_classes ad dd c [.exc ad dd c ns fs] M = .ok (.ref (M.length + 8)) (hL M b1 b2 b3 b4 b5 b6 b7 b8 b9 b10 b11 b12 b13 b14 b15) := by
  have gk : ∀ (l : List MO) (j : Nat), (M ++ l)[M.length + j]? = l[j]? := fun l j => by
    rw [List.getElem?_append_right (by omega)]
    congr 1
    omega
  have step : ∀ (N : Hs) (z : Option D) {f1 f2 f3 : Nat → Option Bool} {c1 c2 c3 : Bool}, f1 c = some c1 → f2 c = some c2 → f3 c = some c3 → xLst (aCons (xIsE ad dd c f1 (xVar 0)) (aCons (xIsE ad dd c f2 (xVar 0)) (aCons (xIsE ad dd c f3 (xVar 0)) aNil))) [some (.exc ad dd c ns fs), z] N = .ok (.ref N.length) (N ++ [bls [c1, c2, c3]]) := fun N z {f1 f2 f3 c1 c2 c3} e1 e2 e3 => lst3_e (isE_e rfl e1) (isE_e rfl e2) (isE_e rfl e3)
  unfold f__law_classes fnS
  simp only [List.map_cons, List.map_nil, List.cons_append, List.nil_append, List.replicate_succ, List.replicate_zero, Nat.reduceSub]
  rw [sSeq_e (sSet_e (step M _ h1 h2 h3))]
  simp only [List.set_cons_succ, List.set_cons_zero]
  rw [sSeq_e (sSet_e (cat_b (xs := [b1, b2, b3]) (ys := [b4, b5, b6]) rfl get_push (step _ _ h4 h5 h6) (by simp)))]
  simp only [List.set_cons_succ, List.set_cons_zero, List.append_assoc, List.cons_append, List.nil_append, List.length_append, List.length_cons, List.length_nil, Nat.zero_add, Nat.reduceAdd, Nat.add_assoc]
  rw [sSeq_e (sSet_e (cat_b (xs := [b1, b2, b3, b4, b5, b6]) (ys := [b7, b8, b9]) rfl (gk _ 2) (step _ _ h7 h8 h9) (by simp)))]
  simp only [List.set_cons_succ, List.set_cons_zero, List.append_assoc, List.cons_append, List.nil_append, List.length_append, List.length_cons, List.length_nil, Nat.zero_add, Nat.reduceAdd, Nat.add_assoc]
  rw [sSeq_e (sSet_e (cat_b (xs := [b1, b2, b3, b4, b5, b6, b7, b8, b9]) (ys := [b10, b11, b12]) rfl (gk _ 4) (step _ _ h10 h11 h12) (by simp)))]
  simp only [List.set_cons_succ, List.set_cons_zero, List.append_assoc, List.cons_append, List.nil_append, List.length_append, List.length_cons, List.length_nil, Nat.zero_add, Nat.reduceAdd, Nat.add_assoc]
  unfold sRet
  rw [cat_b (xs := [b1, b2, b3, b4, b5, b6, b7, b8, b9, b10, b11, b12]) (ys := [b13, b14, b15]) rfl (gk _ 6) (step _ _ h13 h14 h15) (by simp)]
  simp [hL, RS.of]
end Wk
end
section
set_option maxRecDepth 100000
set_option maxHeartbeats 8000000
set_option autoImplicit false
namespace Wk
open PySem PySem.Spec L2 Mi
local macro_rules | `(tactic| walk_at "mi") => `(tactic| simp only [wX_fn, wS_seq, wS_set, wS_ret, wS_expr, wS_pass, wS_if, wS_put, wX_var, wX_c, wX_2, wX_3, wX_anil, wX_acons, wX_tup, wX_lst, wX_dict, wX_b, wX_meth, wX_call, wX_if, wX_t1, wX_and2, wX_or2, wX_not1, wX_true, wX_neg, wX_oN, wX_oS, wX_not, wX_and, wX_or, wX_is, wX_cut, wX_fld, wS_for, wX_ok, wX_no, wO_some, wO_none, wS_nx, wS_rt, List.map_cons, List.map_nil, List.cons_append, List.nil_append, List.append_nil, List.replicate_succ, List.replicate_zero, List.set_cons_zero, List.set_cons_succ, List.getElem?_cons_zero, List.getElem?_cons_succ, List.getElem?_nil, List.length_cons, List.length_nil, Nat.reduceSub, Nat.reduceAdd, Nat.zero_add, Nat.add_zero, if_true, if_false, ite_true, ite_false, reduceIte, Bool.false_eq_true, Bool.not_true, Bool.not_false, ← Nat.add_assoc, reduceCtorEq, List.length_append])
def dueOf (k : Nat) (one two : D) : List D := (if 10 < k then [one] else []) ++ (if 13 < k then [two] else [])
theorem parts_e (k : Nat) (hk : k < 15) (one two : D) (ad d0 : Addr) (M : Hs) : f__law_parts ad (dOf (fsOf k one two) d0) (clsOf k) [.int k, .exc ad (dOf (fsOf k one two) d0) (clsOf k) (cN (clsOf k)) (fsOf k one two)] M = .ok (.ref M.length) (M ++ [.lst (dueOf k one two)]) := by
  have hz := sz_eq
  unfold f__law_parts
  by_cases h : k < 11
  · have h2 : decide ((k : Int) < 11) = true := decide_eq_true (by omega)
    have h3 : ¬ 10 < k := by omega
    have h4 : ¬ 13 < k := by omega
    simp [fnS, sSeq, sIf, tB1, x2, xVar, xC, R.bind, R.of, RS.of, g_lt, h2, sRet, xLst, newL, aNil, dueOf, h3, h4]
  · have h2 : decide ((k : Int) < 11) = false := decide_eq_false (by omega)
    have k1 : ¬ ("word" : Str) = "line" := by decide +kernel
    have k2 : ¬ ("line" : Str) = "word" := by decide +kernel
    have q1 : ∀ x y : D, List.lookup (Str.ofString "line") [(Str.ofString "word", x), (Str.ofString "line", y)] = some y := fun x y => by
      rw [List.lookup_cons, beq_eq_false_iff_ne.mpr k2]
      simp [List.lookup_cons]
    have q2 : ∀ x y : D, List.lookup (Str.ofString "word") [(Str.ofString "word", x), (Str.ofString "line", y)] = some x := fun x y => by simp [List.lookup_cons]
    have q3 : ∀ x : D, List.lookup (Str.ofString "index") [(Str.ofString "index", x)] = some x := fun x => by simp [List.lookup_cons]
    match k, hk, h, h2 with
    | 11, _, h, h2 | 12, _, h, h2 | 13, _, h, h2 | 14, _, h, h2 => simp [fnS, sSeq, sIf, tB1, x2, xVar, xC, R.bind, R.of, RS.of, g_lt, g_eqI, sPass, sRet, xIf, xLst, newL, aCons, aNil, fsOf, clsOf, dueOf, xXf2, xt_index, xt_line, xt_word, cN, fldOf, dOf, q1, q2, q3, hz]
def Bk (k : Nat) : List Bool := (List.range 15).map fun (j : Nat) => decide ((j : Int) = (k : Nat))
theorem lcr_e {k : Nat} {ζ : Sl} {M : Hs} {f : MX} (hf : ∀ (j : Nat) (M' : Hs), f (ζ.set 6 (some (.int (0 + (j : Nat))))) M' = .ok (.bl (decide ((j : Int) = (k : Nat)))) M') :
    ∀ (r i : Nat) (acc : List Bool), i + r = 15 → acc.length ≤ i → lcN (yRg 0 15).y (.n 6) (lcB tTrue f M.length) ζ (r + 1) i (M ++ [bls acc]) = .ok () (M ++ [bls (acc ++ (List.range' i r).map fun (j : Nat) => decide ((j : Int) = (k : Nat)))])
  | 0, i, acc, h, _ => by
    have : ¬ i < 15 := by omega
    simp [lcN, yRg, this]
  | r + 1, i, acc, h, ha => by
    have hi : i < 15 := by omega
    have hz := sz_eq
    unfold lcN
    have e : (yRg 0 15).y i (M ++ [bls acc]) = some (some (.int (0 + (i : Nat)))) := by simp [yRg, hi]
    rw [e]
    dsimp only
    rw [bp_n]
    dsimp only
    have eb : lcB tTrue f M.length (setAll ζ [(6, .int (0 + (i : Nat)))]) (M ++ [bls acc]) = .ok () (M ++ [bls (acc ++ [decide ((i : Int) = (k : Nat))])]) := by
      unfold lcB tTrue
      dsimp only
      rw [show setAll ζ [(6, D.int (0 + (i : Nat)))] = ζ.set 6 (some (.int (0 + (i : Nat)))) from rfl, hf]
      dsimp only
      unfold lput
      rw [show hLst (M ++ [bls acc]) M.length = some (acc.map D.bl) from hLst_at get_push]
      dsimp only
      rw [if_pos (by rw [List.length_map]; omega)]
      simp [bls]
    rw [eb]
    dsimp only
    rw [lcr_e hf r (i + 1) _ (by omega) (by rw [List.length_append, List.length_singleton]; omega), List.range'_succ, List.map_cons, List.append_assoc]
    rfl
theorem lc_e {k : Nat} {z1 z2 z3 z4 z5 z6 : Option D} {M : Hs} : xLc (yRg1 (xC (.int 15))) [6] (.n 6) tTrue (x2 gEq (xVar 6) (xVar 0)) [some (.int k), z1, z2, z3, z4, z5, z6] M = .ok (.ref M.length) (M ++ [bls (Bk k)]) := by
  have key := lcr_e (k := k) (ζ := [some (.int k), z1, z2, z3, z4, z5, none]) (M := M) (f := x2 gEq (xVar 6) (xVar 0)) (fun j M' => by
    rw [x2_e (d := .int (0 + (j : Nat))) (e := .int (k : Nat)) (xVar_e rfl) (xVar_e rfl), g_eqI]
    simp [R.of]) 15 0 [] rfl (Nat.le_refl _)
  unfold xLc
  have es : yRg1 (xC (.int 15)) [some (.int k), z1, z2, z3, z4, z5, z6] M = .ok (yRg 0 15) M := rfl
  rw [es]
  show (lcN (yRg 0 15).y (.n 6) (lcB tTrue (x2 gEq (xVar 6) (xVar 0)) M.length) [some (.int k), z1, z2, z3, z4, z5, none] (15 + 1) 0 (M ++ [bls []])).bind _ = _
  rw [key]
  rfl
theorem g_eqP {M : Hs} {x y : D} {p : PyData} (h1 : toPD M deep x = some p) (h2 : toPD M deep y = some p) (hs : SeqAt.shaped p = true) (hl : p.canLay0 = true) : gEq x y M = some (.bl true, M) := by
  unfold gEq gEqB
  rw [h1, h2]
  dsimp only
  rw [hs, SeqAt.eqv_refl _ hl]
  rfl
theorem eqk_bl : Eqk Bool D.bl PyData.bool where
  pd := fun _ => rfl
  eq := fun a b => by cases a <;> cases b <;> simp [PyData.eqv]
  cl := fun _ => rfl
  dp := fun _ => by simp [PyData.depth]
theorem lay_list {ps : List PyData} : (PyData.list ps).canLay0 = PyData.canLayAll0 ps := by simp [PyData.canLay0]
theorem g_eqB2 {M : Hs} {m n : Nat} {bs : List Bool} (h1 : M[m]? = some (bls bs)) (h2 : M[n]? = some (bls bs)) : gEq (.ref m) (.ref n) M = some (.bl true, M) :=
  g_eqP (p := .list (bs.map PyData.bool)) (by rw [show deep = 11 + 1 from rfl, pd_ref M 11 m _ h1, eqk_bl.tos]) (by rw [show deep = 11 + 1 from rfl, pd_ref M 11 n _ h2, eqk_bl.tos]) (eqk_bl.shL bs) (by rw [lay_list]; exact (eqk_bl.all bs).1)
structure Vl (d : D) (p : PyData) : Prop where
  pd : ∀ M, toPD M 11 d = some p
  cl : p.canLay0 = true
  dp : p.depth ≤ 3
theorem g_eqD {M : Hs} {m n k : Nat} {one two : D} {p q : PyData} (hp : Vl one p) (hq : Vl two q) (h1 : M[m]? = some (.lst (dueOf k one two))) (h2 : M[n]? = some (.lst (dueOf k one two))) : gEq (.ref m) (.ref n) M = some (.bl true, M) := by
  obtain ⟨ps, e1, e2, e3⟩ : ∃ ps, mapO (toPD M 11) (dueOf k one two) = some ps ∧ PyData.canLayAll0 ps = true ∧ PyData.depthAll ps ≤ 4 := by
    unfold dueOf
    by_cases h : 10 < k <;> by_cases h' : 13 < k
    · exact ⟨[p, q], by simp [h, h', mapO, hp.pd, hq.pd], by simp [PyData.canLayAll0, hp.cl, hq.cl], by have := hp.dp; have := hq.dp; simp [PyData.depthAll]; omega⟩
    · exact ⟨[p], by simp [h, h', mapO, hp.pd], by simp [PyData.canLayAll0, hp.cl], by have := hp.dp; simp [PyData.depthAll]; omega⟩
    · omega
    · exact ⟨[], by simp [h, h', mapO], by simp [PyData.canLayAll0], by simp [PyData.depthAll]⟩
  refine g_eqP (p := .list ps) (by rw [show deep = 11 + 1 from rfl, pd_ref M 11 m _ h1, e1]) (by rw [show deep = 11 + 1 from rfl, pd_ref M 11 n _ h2, e1]) ?_ (by rw [lay_list]; exact e2)
  unfold SeqAt.shaped
  rw [Bool.and_eq_true, decide_eq_true_eq, lay_list]
  refine ⟨e2, ?_⟩
  simp only [PyData.depth]
  omega
end Wk
end
section
set_option maxRecDepth 100000
set_option maxHeartbeats 8000000
set_option autoImplicit false
namespace Wk
open PySem PySem.Spec L2 Mi
local macro_rules | `(tactic| walk_at "mi") => `(tactic| simp only [wX_fn, wS_seq, wS_set, wS_ret, wS_expr, wS_pass, wS_if, wS_put, wX_var, wX_c, wX_2, wX_3, wX_anil, wX_acons, wX_tup, wX_lst, wX_dict, wX_b, wX_meth, wX_call, wX_if, wX_t1, wX_and2, wX_or2, wX_not1, wX_true, wX_neg, wX_oN, wX_oS, wX_not, wX_and, wX_or, wX_is, wX_cut, wX_fld, wS_for, wX_ok, wX_no, wO_some, wO_none, wS_nx, wS_rt, List.map_cons, List.map_nil, List.cons_append, List.nil_append, List.append_nil, List.replicate_succ, List.replicate_zero, List.set_cons_zero, List.set_cons_succ, List.getElem?_cons_zero, List.getElem?_cons_succ, List.getElem?_nil, List.length_cons, List.length_nil, Nat.reduceSub, Nat.reduceAdd, Nat.zero_add, Nat.add_zero, if_true, if_false, ite_true, ite_false, reduceIte, Bool.false_eq_true, Bool.not_true, Bool.not_false, ← Nat.add_assoc, reduceCtorEq, List.length_append])
theorem call1_e {ζ : Sl} {M : Hs} {f : MX} {d : D} {F : MF} (h : f ζ M = .ok d M) : xCall 1 F (aCons f aNil) ζ M = F [d] M := by
  simp [xCall, aCons, aNil, R.bind, h]
theorem call2_e {ζ : Sl} {M : Hs} {f g : MX} {d e : D} {F : MF} (h : f ζ M = .ok d M) (h2 : g ζ M = .ok e M) : xCall 2 F (aCons f (aCons g aNil)) ζ M = F [d, e] M := by
  simp [xCall, aCons, aNil, R.bind, h, h2]
def bk (i : Int) (k : Nat) : Bool := decide (i = (k : Nat))
theorem Bk_e (k : Nat) : Bk k = [bk 0 k, bk 1 k, bk 2 k, bk 3 k, bk 4 k, bk 5 k, bk 6 k, bk 7 k, bk 8 k, bk 9 k, bk 10 k, bk 11 k, bk 12 k, bk 13 k, bk 14 k] := rfl
def hK (M : Hs) (k : Nat) : Hs := hL M (bk 0 k) (bk 1 k) (bk 2 k) (bk 3 k) (bk 4 k) (bk 5 k) (bk 6 k) (bk 7 k) (bk 8 k) (bk 9 k) (bk 10 k) (bk 11 k) (bk 12 k) (bk 13 k) (bk 14 k)
def fin16 (M : Hs) (k : Nat) (one two : D) : Hs := hK M k ++ [bls (Bk k)] ++ [.lst (dueOf k one two)]
theorem fin_fr (M : Hs) (k : Nat) (one two : D) : Fr No M (fin16 M k one two) := by
  unfold fin16 hK hL
  exact ((Fr.push M _).pushHi).pushHi
def suF (a : Addr) (d : Option Addr) (c : Nat) (fs : List D) : MS := sSeq (sSet 3 (xAnd (xIsE a d c kt_ValueError (xVar 5)) (x2 gEq (xCall 1 (f__law_classes a d c) (aCons (xVar 5) (aNil))) (xLc (yRg1 (xC (.int 15))) [6] (.n 6) (tTrue) (x2 gEq (xVar 6) (xVar 0))))))
  (sSet 3 (xAnd (xVar 3) (x2 gEq (xCall 2 (f__law_parts a d c) (aCons (xVar 0) (aCons (xVar 5) (aNil)))) (xVar 4))))
theorem suite_e {k : Nat} (hk : k < 15) {one two : D} {p q : PyData} (hp : Vl one p) (hq : Vl two q) {nd : Nat} {M : Hs} (hnd : M[nd]? = some (.lst (dueOf k one two))) (a d0 : Addr) :
    suR cN ⟨mt_OrganError, some 5, suF⟩ (clsOf k) (fsOf k one two) [some (.int k), some one, some two, some (.bl false), some (.ref nd), none, none] M a d0 = .nx [some (.int k), some one, some two, some (.bl true), some (.ref nd), none, none] (fin16 M k one two) := by
  have kv : kt_ValueError (clsOf k) = some true := (by decide : ∀ k < 15, kt_ValueError (clsOf k) = some true) k hk
  have ce := classes_e (ad := a) (dd := dOf (fsOf k one two) d0) (c := clsOf k) (ns := cN (clsOf k)) (fs := fsOf k one two) (M := M)
    ((by decide : ∀ k < 15, kt_InvalidManuals (clsOf k) = some (bk 0 k)) k hk) ((by decide : ∀ k < 15, kt_InvalidChain (clsOf k) = some (bk 1 k)) k hk) ((by decide : ∀ k < 15, kt_InvalidOctave (clsOf k) = some (bk 2 k)) k hk) ((by decide : ∀ k < 15, kt_InvalidTop (clsOf k) = some (bk 3 k)) k hk)
    ((by decide : ∀ k < 15, kt_InvalidKey (clsOf k) = some (bk 4 k)) k hk) ((by decide : ∀ k < 15, kt_InvalidPipe (clsOf k) = some (bk 5 k)) k hk) ((by decide : ∀ k < 15, kt_NotComparable (clsOf k) = some (bk 6 k)) k hk) ((by decide : ∀ k < 15, kt_InvalidManual (clsOf k) = some (bk 7 k)) k hk)
    ((by decide : ∀ k < 15, kt_InvalidRank (clsOf k) = some (bk 8 k)) k hk) ((by decide : ∀ k < 15, kt_InvalidMove (clsOf k) = some (bk 9 k)) k hk) ((by decide : ∀ k < 15, kt_UnknownKnob (clsOf k) = some (bk 10 k)) k hk) ((by decide : ∀ k < 15, kt_InvalidCoupler (clsOf k) = some (bk 11 k)) k hk)
    ((by decide : ∀ k < 15, kt_InvalidStop (clsOf k) = some (bk 12 k)) k hk) ((by decide : ∀ k < 15, kt_UnknownIndex (clsOf k) = some (bk 13 k)) k hk) ((by decide : ∀ k < 15, kt_InvalidText (clsOf k) = some (bk 14 k)) k hk)
  have pe := fun N => parts_e k hk one two a d0 N
  have eS : hL M (bk 0 k) (bk 1 k) (bk 2 k) (bk 3 k) (bk 4 k) (bk 5 k) (bk 6 k) (bk 7 k) (bk 8 k) (bk 9 k) (bk 10 k) (bk 11 k) (bk 12 k) (bk 13 k) (bk 14 k) = hK M k := rfl
  rw [eS] at ce
  have g8 : (hK M k ++ [bls (Bk k)])[M.length + 8]? = some (bls (Bk k)) := by
    refine get_app ?_
    unfold hK hL
    rw [List.getElem?_append_right (by omega), show M.length + 8 - M.length = 8 by omega, Bk_e]
    rfl
  have hnd3 : (hK M k ++ [bls (Bk k)])[nd]? = some (.lst (dueOf k one two)) := get_app (by unfold hK hL; exact get_app hnd)
  unfold suR
  dsimp only
  generalize dOf (fsOf k one two) d0 = dd at ce pe ⊢
  show sEnd (some 5) (suF a dd (clsOf k) (fsOf k one two) [some (.int k), some one, some two, some (.bl false), some (.ref nd), some (.exc a dd (clsOf k) (cN (clsOf k)) (fsOf k one two)), none] M) = _
  unfold suF
  have first : sSet 3 (xAnd (xIsE a dd (clsOf k) kt_ValueError (xVar 5)) (x2 gEq (xCall 1 (f__law_classes a dd (clsOf k)) (aCons (xVar 5) (aNil))) (xLc (yRg1 (xC (.int 15))) [6] (.n 6) (tTrue) (x2 gEq (xVar 6) (xVar 0))))) [some (.int k), some one, some two, some (.bl false), some (.ref nd), some (.exc a dd (clsOf k) (cN (clsOf k)) (fsOf k one two)), none] M =
      .nx [some (.int k), some one, some two, some (.bl true), some (.ref nd), some (.exc a dd (clsOf k) (cN (clsOf k)) (fsOf k one two)), none] (hK M k ++ [bls (Bk k)]) := by
    refine sSet_e (d := .bl true) ?_
    rw [and_e (isE_e rfl kv), x2_e (d := .ref (M.length + 8)) (M1 := hK M k) (by rw [call1_e (xVar_e rfl)]; exact ce) lc_e, g_eqB2 g8 get_push]
    rfl
  rw [sSeq_e first]
  have second : sSet 3 (xAnd (xVar 3) (x2 gEq (xCall 2 (f__law_parts a dd (clsOf k)) (aCons (xVar 0) (aCons (xVar 5) (aNil)))) (xVar 4))) [some (.int k), some one, some two, some (.bl true), some (.ref nd), some (.exc a dd (clsOf k) (cN (clsOf k)) (fsOf k one two)), none] (hK M k ++ [bls (Bk k)]) =
      .nx [some (.int k), some one, some two, some (.bl true), some (.ref nd), some (.exc a dd (clsOf k) (cN (clsOf k)) (fsOf k one two)), none] (fin16 M k one two) := by
    refine sSet_e (d := .bl true) ?_
    rw [and_e (xVar_e rfl), x2_e (d := .ref (hK M k ++ [bls (Bk k)]).length) (M1 := fin16 M k one two) (by rw [call2_e (xVar_e rfl) (xVar_e rfl)]; exact pe _) (xVar_e (d := .ref nd) rfl)]
    have eq := g_eqD (M := fin16 M k one two) (k := k) hp hq get_push (get_app hnd3)
    rw [eq]
    rfl
  rw [second]
  rfl
section
variable {M : Hs}
theorem g_cutL {m : Nat} {xs : List D} {lo hi : Option Int} (h : M[m]? = some (.lst xs)) : gCut (.ref m) lo hi M = some (.ref M.length, M ++ [.lst (cutD xs lo hi)]) := by
  unfold gCut
  dsimp only
  rw [s_ref h]
theorem cut_b (x : D) (b : Bool) : cutD [x] none (some (if b = true then 1 else 0)) = if b = true then [x] else [] := by
  cases b <;> rfl
theorem right_w {k : Nat} (hk : k < 15) {one two : D} {p q : PyData} (hp : Vl one p) (hq : Vl two q) : wX (f__law_right [.int k, one, two] M) fun d M' => d = .bl true ∧ Fr No M M' := by
  have hz := sz_eq
  have te := thrown_e k hk one two
  have se := fun (N : Hs) (nd : Nat) (h : N[nd]? = some (.lst (dueOf k one two))) => suite_e hk hp hq h
  unfold f__law_right
  rw [wX_fn]
  simp only [List.map_cons, List.map_nil, List.cons_append, List.nil_append, List.replicate_succ, List.replicate_zero, Nat.reduceSub]
  rw [wS_seq, wS_set, wX_c]
  simp only [List.set_cons_succ, List.set_cons_zero]
  rw [wS_seq, wS_set, wX_2, wX_cut, wX_lst, wX_acons, wX_var]
  simp only [List.getElem?_cons_zero, List.getElem?_cons_succ]
  rw [wX_anil, if_pos (show ([one] : List D).length ≤ sizeLine from by show 1 ≤ sizeLine; omega)]
  simp only [wX_oN, wX_oS]
  rw [wX_b, wX_acons, wX_2, wX_var]
  simp only [List.getElem?_cons_zero, List.getElem?_cons_succ]
  rw [wX_c, g_gt, wO_some, wX_anil, g_intb, wO_some]
  dsimp only
  rw [g_cutL get_push, wO_some, cut_b]
  have f1 : Fr No M (M ++ [MO.lst [one]] ++ [MO.lst (if decide ((10 : Int) < k) = true then [one] else [])]) := (Fr.push M _).pushHi
  have p1 : (M ++ [MO.lst [one]] ++ [MO.lst (if decide ((10 : Int) < k) = true then [one] else [])])[(M ++ [MO.lst [one]]).length]? = some (.lst (if decide ((10 : Int) < k) = true then [one] else [])) := get_push
  generalize (M ++ [MO.lst [one]] ++ [MO.lst (if decide ((10 : Int) < k) = true then [one] else [])]) = M1 at f1 p1 ⊢
  generalize (M ++ [MO.lst [one]]).length = n1 at p1 ⊢
  rw [wX_cut, wX_lst, wX_acons, wX_var]
  simp only [List.getElem?_cons_zero, List.getElem?_cons_succ]
  rw [wX_anil, if_pos (show ([two] : List D).length ≤ sizeLine from by show 1 ≤ sizeLine; omega)]
  simp only [wX_oN, wX_oS]
  rw [wX_b, wX_acons, wX_2, wX_var]
  simp only [List.getElem?_cons_zero, List.getElem?_cons_succ]
  rw [wX_c, g_gt, wO_some, wX_anil, g_intb, wO_some]
  dsimp only
  rw [g_cutL get_push, wO_some, cut_b]
  have f2 : Fr No M1 (M1 ++ [MO.lst [two]] ++ [MO.lst (if decide ((13 : Int) < k) = true then [two] else [])]) := (Fr.push M1 _).pushHi
  have p2 : (M1 ++ [MO.lst [two]] ++ [MO.lst (if decide ((13 : Int) < k) = true then [two] else [])])[(M1 ++ [MO.lst [two]]).length]? = some (.lst (if decide ((13 : Int) < k) = true then [two] else [])) := get_push
  have p12 := f2.get p1 id
  have fr2 := f1.trans f2
  generalize (M1 ++ [MO.lst [two]] ++ [MO.lst (if decide ((13 : Int) < k) = true then [two] else [])]) = M2 at p2 p12 fr2 ⊢
  generalize (M1 ++ [MO.lst [two]]).length = n2 at p2 ⊢
  have ed : (if decide ((10 : Int) < k) = true then [one] else []) ++ (if decide ((13 : Int) < k) = true then [two] else []) = dueOf k one two := by
    unfold dueOf
    by_cases h : 10 < k <;> by_cases h' : 13 < k <;> simp [h, h', show ((10 : Int) < k) = (10 < k) from by simp; omega, show ((13 : Int) < k) = (13 < k) from by simp; omega]
  rw [g_cat p12 p2 (by rw [List.length_append]; split <;> split <;> simp <;> omega), wO_some, ed]
  have f3 : Fr No M2 (M2 ++ [MO.lst (dueOf k one two)]) := Fr.push _ _
  have p3 : (M2 ++ [MO.lst (dueOf k one two)])[M2.length]? = some (.lst (dueOf k one two)) := get_push
  have fr3 := fr2.trans f3
  generalize (M2 ++ [MO.lst (dueOf k one two)]) = M3 at p3 fr3 ⊢
  generalize M2.length = nd at p3 ⊢
  simp only [List.set_cons_succ, List.set_cons_zero]
  rw [wS_seq]
  have hb : sExpr (xCall 3 f__law_thrown (aCons (xVar 0) (aCons (xVar 1) (aCons (xVar 2) aNil)))) [some (.int k), some one, some two, some (.bl false), some (.ref nd), none, none] M3 = .ex (clsOf k) (fsOf k one two) [some (.int k), some one, some two, some (.bl false), some (.ref nd), none, none] M3 := by
    have : xCall 3 f__law_thrown (aCons (xVar 0) (aCons (xVar 1) (aCons (xVar 2) aNil))) [some (.int k), some one, some two, some (.bl false), some (.ref nd), none, none] M3 = f__law_thrown [.int k, one, two] M3 := by simp [xCall, aCons, aNil, xVar, R.bind]
    unfold sExpr
    rw [this, te]
    rfl
  show wS (sTry cN (sExpr (xCall 3 f__law_thrown (aCons (xVar 0) (aCons (xVar 1) (aCons (xVar 2) aNil))))) [⟨mt_OrganError, some 5, suF⟩] [some (.int k), some one, some two, some (.bl false), some (.ref nd), none, none] M3) _ _
  rw [sTry_at (l := [⟨mt_OrganError, some 5, suF⟩]) hb (tryR_yes ((by decide : ∀ k < 15, mt_OrganError (clsOf k) = some true) k hk) fun a d => se M3 nd p3 a d), wS_nx, wS_ret, wX_var]
  simp only [List.getElem?_cons_zero, List.getElem?_cons_succ]
  exact ⟨trivial, fr3.trans (fin_fr _ _ _ _)⟩
theorem g_allL {n : Nat} {bs : List Bool} (h : M[n]? = some (.lst (bs.map D.bl))) : gAll [.ref n] M = some (.bl (bs.all id), M) := by
  unfold gAll gBools
  dsimp only
  rw [s_ref h]
  dsimp only
  rw [blsOf_map]
end
theorem vl_one : ∀ r : Int, 0 ≤ r → r < 5 → ∃ d p, [D.str "a", .str "", .int 7, .tup [.str "stop", .int 0], .non][r.toNat]? = some d ∧ Vl d p := fun r h0 h1 => by
  obtain rfl | rfl | rfl | rfl | rfl : r = 0 ∨ r = 1 ∨ r = 2 ∨ r = 3 ∨ r = 4 := by omega
  · exact ⟨_, .str "a", rfl, fun _ => rfl, by decide +kernel, by decide +kernel⟩
  · exact ⟨_, .str "", rfl, fun _ => rfl, by decide +kernel, by decide +kernel⟩
  · exact ⟨_, .int 7, rfl, fun _ => rfl, by decide +kernel, by decide +kernel⟩
  · exact ⟨_, .tuple [.str "stop", .int 0], rfl, fun _ => rfl, by decide +kernel, by decide +kernel⟩
  · exact ⟨_, .none, rfl, fun _ => rfl, by decide +kernel, by decide +kernel⟩
theorem vl_two : ∀ r : Int, 0 ≤ r → r < 4 → ∃ d p, [D.tup [], .str "kind", .int 0, .non][r.toNat]? = some d ∧ Vl d p := fun r h0 h1 => by
  obtain rfl | rfl | rfl | rfl : r = 0 ∨ r = 1 ∨ r = 2 ∨ r = 3 := by omega
  · exact ⟨_, .tuple [], rfl, fun _ => rfl, by decide +kernel, by decide +kernel⟩
  · exact ⟨_, .str "kind", rfl, fun _ => rfl, by decide +kernel, by decide +kernel⟩
  · exact ⟨_, .int 0, rfl, fun _ => rfl, by decide +kernel, by decide +kernel⟩
  · exact ⟨_, .none, rfl, fun _ => rfl, by decide +kernel, by decide +kernel⟩
theorem law_w (ns : List Int) (hl : ns.length ≤ 63) : wX (f_law [.klst (ns.map D.int)] []) fun d _ => d = .bl true := by
  have hz := sz_eq
  have mw := law_mix_w ns hl 16
  have ln := @law_next_w
  have rw_ := @right_w
  unfold f_law
  generalize f__law_mix = F1 at mw ⊢
  generalize f__law_next = F2 at ln ⊢
  generalize f__law_right = F3 at rw_ ⊢
  rw [wX_fn]
  simp only [List.length_cons, List.length_nil, Nat.zero_add, Nat.reduceSub, List.map_cons, List.map_nil, List.replicate_succ, List.replicate_zero, List.cons_append, List.nil_append, if_true]
  rw [wS_seq, wS_set, wX_call, wX_acons, wX_var]
  simp only [List.getElem?_cons_zero, wX_acons, wX_anil, wX_c, List.length_cons, List.length_nil, Nat.zero_add, Nat.reduceAdd, if_true]
  refine wX_mono mw ?_
  rintro d M0 ⟨rfl, hd0, hM0⟩
  simp only [List.set_cons_succ, List.set_cons_zero]
  rw [wS_seq, wS_set, wX_2, wX_lst]
  simp only [wX_acons, wX_anil, wX_c, wX_tup]
  simp only [if_pos (show ([D.str (Str.ofString "stop"), .int 0] : List D).length ≤ sizeLine from by show 2 ≤ sizeLine; omega)]
  rw [if_pos (show ([D.str (Str.ofString "a"), .str (Str.ofString ""), .int 7, .tup [.str (Str.ofString "stop"), .int 0], .non] : List D).length ≤ sizeLine from by show 5 ≤ sizeLine; omega)]
  have f1 : Fr No M0 (M0 ++ [MO.lst [D.str (Str.ofString "a"), .str (Str.ofString ""), .int 7, .tup [.str (Str.ofString "stop"), .int 0], .non]]) := Fr.push _ _
  have p1 : (M0 ++ [MO.lst [D.str (Str.ofString "a"), .str (Str.ofString ""), .int 7, .tup [.str (Str.ofString "stop"), .int 0], .non]])[M0.length]? = some (.lst [D.str (Str.ofString "a"), .str (Str.ofString ""), .int 7, .tup [.str (Str.ofString "stop"), .int 0], .non]) := get_push
  have hd1 := hd0.fr f1
  generalize (M0 ++ [MO.lst [D.str (Str.ofString "a"), .str (Str.ofString ""), .int 7, .tup [.str (Str.ofString "stop"), .int 0], .non]]) = M1 at p1 hd1 ⊢
  rw [wX_call]
  simp only [List.getElem?_cons_zero, List.getElem?_cons_succ, wX_var, wX_acons, wX_anil, wX_c, List.length_cons, List.length_nil, Nat.zero_add, Nat.reduceAdd, if_true]
  refine wX_mono (ln hd1 5 (by decide) (by decide)) ?_
  rintro d M2 ⟨r, rfl, hr0, hr1, hd2, fr2⟩
  obtain ⟨one, p, eo, vo⟩ := vl_one r hr0 hr1
  rw [g_ixR (d := one) (fr2.get p1 (by unfold H2; omega)) hr0 eo, wO_some]
  simp only [List.set_cons_succ, List.set_cons_zero]
  rw [wS_seq, wS_set, wX_2, wX_lst]
  simp only [wX_acons, wX_anil, wX_c, wX_tup]
  simp only [if_pos (show ([] : List D).length ≤ sizeLine from Nat.zero_le _)]
  rw [if_pos (show ([D.tup [], .str (Str.ofString "kind"), .int 0, .non] : List D).length ≤ sizeLine from by show 4 ≤ sizeLine; omega)]
  have f3 : Fr No M2 (M2 ++ [MO.lst [D.tup [], .str (Str.ofString "kind"), .int 0, .non]]) := Fr.push _ _
  have p3 : (M2 ++ [MO.lst [D.tup [], .str (Str.ofString "kind"), .int 0, .non]])[M2.length]? = some (.lst [D.tup [], .str (Str.ofString "kind"), .int 0, .non]) := get_push
  have hd3 := hd2.fr f3
  have hM2 : 2 ≤ M2.length := by have := lt_of_get (fr2.get p1 (by unfold H2; omega)); omega
  generalize (M2 ++ [MO.lst [D.tup [], .str (Str.ofString "kind"), .int 0, .non]]) = M3 at p3 hd3 ⊢
  rw [wX_call]
  simp only [List.getElem?_cons_zero, List.getElem?_cons_succ, wX_var, wX_acons, wX_anil, wX_c, List.length_cons, List.length_nil, Nat.zero_add, Nat.reduceAdd, if_true]
  refine wX_mono (ln hd3 4 (by decide) (by decide)) ?_
  rintro d M4 ⟨t, rfl, ht0, ht1, hd4, fr4⟩
  obtain ⟨two, q, et, vt⟩ := vl_two t ht0 ht1
  rw [g_ixR (d := two) (fr4.get p3 (by unfold H2; omega)) ht0 et, wO_some]
  simp only [List.set_cons_succ, List.set_cons_zero]
  rw [wS_ret, wX_b, wX_acons]
  refine wX_mono (lc_ret D.int (fun _ => true) (fun _ => D.bl true) (as := Ga.upTo 15) (src_rg1 (f := xC (.int 15)) rfl (by decide)) (Fr.refl _ _) (fun _ _ => trivial) (by show 15 < sizeLine; omega) fun x hx M' fr => ?_) ?_
  · obtain ⟨x0, x1⟩ := Ga.mem_upTo.mp hx
    refine ⟨[(4, .int x)], bp_n, rfl, Fr.refl _ _, fun _ => ?_⟩
    simp only [wipeD, setAll, List.set_cons_succ, List.set_cons_zero]
    rw [wX_call]
    simp only [List.getElem?_cons_zero, List.getElem?_cons_succ, wX_var, wX_acons, wX_anil, wX_c, List.length_cons, List.length_nil, Nat.zero_add, Nat.reduceAdd, if_true]
    have := rw_ (M := M') (k := x.toNat) (by omega) vo vt
    rw [Int.toNat_of_nonneg x0] at this
    exact this
  · rintro d M5 ⟨n5, rfl, hn5, hm5, fr5⟩
    have e5 : ((Ga.upTo 15).filter fun _ => true).map (fun _ => D.bl true) = (List.replicate 15 true).map D.bl := rfl
    rw [e5] at hm5
    rw [wX_anil, g_allL hm5, wO_some]
    rfl
theorem pure (ns : List Int) (hl : ns.length ≤ 63) : ∃ M, f_law [.klst (ns.map .int)] [] = .ok (.bl true) M := by
  obtain ⟨d, M, e, h⟩ := wX_get (law_w ns hl)
  exact ⟨M, by rw [e, h]⟩
end Wk
end
section
set_option maxRecDepth 1000000
set_option maxHeartbeats 0
set_option autoImplicit false
namespace Wk
open PySem PySem.Spec PyProof.Rows L2 Mi
abbrev Rw : PySem.W.OpenRow := PySem.W.OpenLaw.row PySem.Challenge.rw_couplerreach_k16_errors_apart
abbrev hk : PySem.W.Hook := hookM 6 fa fn
def ob (s : PySem.W.SharedT) : He.AlD := obsMG 6 fa fn (HandSHeadRun.getT s)
theorem ob_eq (s : PySem.W.SharedT) : ob s = hk.obs s.abs := obsMG_eq (HandSHeadRun.getT_eq s)
def loose0 : List Str := ["OrganError", "InvalidManuals", "InvalidCoupler", "InvalidStop", "InvalidChain", "InvalidOctave", "UnknownIndex", "InvalidTop", "InvalidKey", "InvalidPipe", "NotComparable", "InvalidManual", "InvalidRank", "InvalidMove", "UnknownKnob", "InvalidText", "_law_mix", "_law_next", "_law_bare", "_law_thrown", "_law_classes", "_law_parts", "_law_right"]
abbrev loose : List Str := loose0
theorem run (w : World) : HandSHeadRun.RunEq Rw (PySem.W.view Rw.prog [25]) hk ob 12000 loose w := by
  intro os
  kernel_rfl
/-- the pure law -/
def Pure : Prop := ∀ ns : List Int, ns.length ≤ 63 → ∃ M, f_law [.klst (ns.map .int)] [] = .ok (.bl true) M
theorem only_rel {K : PySem.W.Frag} {H : Hp} {a : Addr} {ns : List Int} (ho : Only H) (h : SqL K H a (ns.map V.int)) : RV K H [] (.klst (ns.map D.int)) (.ref a) := by
  refine .kls (SqK.of h fun e => ?_) (RVs.ints ns)
  rcases ho a with z | ⟨o, xs, z⟩
  · rw [z] at e; cases e
  · rw [z] at e; cases e
theorem law_ok (pure : Pure) {P : Program} {w : World} {K : PySem.W.Frag} {H : Hp} {a : Addr} {ns : List Int} (hl : ns.length ≤ 63) (ho : Only H) (h : SqL K H a (ns.map V.int)) : spF P w K (GmK K) 1 f_law [.ref a] H (fun v _ => v = .bl true) fun _ _ _ => False := by
  obtain ⟨M, e⟩ := pure ns hl
  refine ⟨[.klst (ns.map D.int)], [], [], ⟨rfl, .nil, fun n o b h => by simp at h⟩, .cons (only_rel ho h) .nil, rfl, ?_⟩
  rw [e]
  intro v H' μ' _ _ r
  cases r
  rfl
end Wk
open PySem PySem.W PySem.Calls PyProof.Rows
theorem holds_of (pure : Wk.Pure) : PySem.Challenge.rw_couplerreach_k16_errors_apart.Holds := by
  w_on; o_law
  refine HandSHeadRun.head_any (r := OpenLaw.row PySem.Challenge.rw_couplerreach_k16_errors_apart) (q := view (OpenLaw.row PySem.Challenge.rw_couplerreach_k16_errors_apart).prog [25]) (H := Wk.hk) (ob := Wk.ob) (M := 12000) (loose := Wk.loose) (d := HandSHeadRun.topDef (OpenLaw.row PySem.Challenge.rw_couplerreach_k16_errors_apart).prog 25) (kwd := []) Wk.ob_eq
    (by kernel_rfl) (fun s => by kernel_rfl) Wk.run (by kernel_rfl) (by kernel_rfl) (by kernel_rfl) (by rfl) (by first | assumption | decide +kernel) (by decide +kernel) ⟨rfl, rfl, rfl, rfl, rfl, by decide +kernel⟩ ?hw ?hc
  case hw => w_witness2
  case hc =>
    refine Mi.walk_at (l := PySem.Challenge.rw_couplerreach_k16_errors_apart) (n := 63) (k := 5) (x := "_law_script") rfl (by decide) (by kernel_rfl) ⟨rfl, by decide, by decide⟩ ?T
    intro w mg fa h Y G hmg0
    obtain ⟨K, KX, c⟩ := Y
    have hmg : mg ("law" : PySem.Str) = some (.ref fa) := by
      have e : (HandSHeadRun.topDef (OpenLaw.row PySem.Challenge.rw_couplerreach_k16_errors_apart).prog 25).name = ("law" : PySem.Str) := by kernel_rfl
      rw [← e]
      exact hmg0
    have FT : Wk.Fct K mg := ⟨⟨h, KX, G⟩, c⟩
    have e := hmg.symm.trans (FT.glo (x := "law") 340)
    cases e
    obtain ⟨fd, FD⟩ := FT.c.def_ 11 (d := Wk.d_law) rfl
    have b := L2.FunD.bindsA (ps := ["_law_script"]) FD fun _ _ _ _ _ _ us hl => match us, hl with | [_], _ => rfl
    refine ⟨K, fd, Mi.spF PySem.Challenge.rw_couplerreach_k16_errors_apart.prog w K (Wk.GmK K) 1 Wk.f_law, KX, fun s v => b s [v] rfl, fun H a ns hl ho hS => Wk.law_ok pure hl ho hS, fun base => ?_⟩
    exact Wk.k_law (P := PySem.Challenge.rw_couplerreach_k16_errors_apart.prog) (w := w) (base := base) FT FD
end
set_option maxRecDepth 100000 in
theorem PySem.Challenge.cw_couplerreach_k16_errors_apart_holds : PySem.Challenge.rw_couplerreach_k16_errors_apart.Holds := by
  exact holds_of fun ns hl => Wk.pure ns hl
