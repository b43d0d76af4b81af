import PyProof.Rows.All
import HandS.ForMost
import HandS.ForExc
import HandS.More
import HandS.Star
import HandS.CallSlots
import HandS.Slots
import HandS.SlotsOwn
import HandS.Property
import HandS.TryMany
import KE.KDictKeyed
import KE.KDictWalk
import KE.GoesDict
import HandS.Deep
import HandS.TupAny
import HandS.TupMul
import HandS.Conv
import HandS.Style
import HandS.IsInst
import HandS.WordsExc
import HandS.Comp
import HandS.Iter
import KE.GoesEnum
import HandS.Defaults
import HandS.Dict
import HandS.Small
import HandS.ExcInit
import HandS.ExcIs
import HandS.ExcField
import KE.KExcIs
import HandS.SortInts
import HandS.SortRule
import KE.KDictCopyH
import KE.KDictSum
import HandS.HeadHook2
import HandS.HeadEnd
import HandS.Head2
import PySem.Challenge.RW_couplerreach_k01_whole_keys
set_option Elab.async false
set_option linter.all false
section
set_option maxRecDepth 100000
set_option maxHeartbeats 2000000
set_option autoImplicit false
namespace Mi
open PySem PySem.Spec PyProof.Rows L2

inductive D where
  | non | bl (b : Bool) | int (i : Int) | str (x : Str) | tup (xs : List D) | ref (n : Nat) | klst (xs : List D) | exc (a : Addr) (d : Option Addr) (c : Nat) (ns : List Str) (fs : List D)

/-- what stands at a number -/
inductive MO where
  | lst (xs : List D)
  | ro (xs : List D)
  | dct (kvs : List (D × D))
  | dks (kvs : List (Key × D))
  | ins (c : Nat) (fs : List D)
  | slo (c : Nat) (fs : List (Option D))

abbrev Sl := List (Option D)
abbrev Hs := List MO

inductive R (α : Type) where
  | ok (a : α) (M : Hs)
  | ex (c : Nat) (fs : List D) (M : Hs)
  | no

def R.bind {α β : Type} (r : R α) (k : α → Hs → R β) : R β := match r with
  | .ok a M => k a M
  | .ex c fs M => .ex c fs M
  | .no => .no

/-- a statement's end -/
inductive RS where
  | nx (ζ : Sl) (M : Hs)
  | rt (d : D) (M : Hs)
  | bk (ζ : Sl) (M : Hs)
  | ct (ζ : Sl) (M : Hs)
  | ex (c : Nat) (fs : List D) (ζ : Sl) (M : Hs)
  | no

abbrev MX := Sl → Hs → R D
abbrev MT := Sl → Hs → R Bool
abbrev MA := Sl → Hs → R (List D)
abbrev MS := Sl → Hs → RS
abbrev MF := List D → Hs → R D

/-- the classes of the program by numbers: where they stand, their fields' names -/
structure Gm where
  cA : Nat → Addr
  cN : Nat → List Str

/-- a list that nothing writes: the script, a list of the module -/
def SqK (K : PySem.W.Frag) (H : Hp) (a : Addr) (xs : List V) : Prop := (∃ o, H a = some (.frz o (.lst xs))) ∨
  ∃ (o : Obj) (its : Array Value) (n : Nat), K.lookup a = some o ∧ o.cls = .type "list" ∧ o.dict = none ∧ o.data = .seq its n ∧ its.size ≤ sizeLine ∧ Vals xs its.toList
theorem SqK.sq {K : PySem.W.Frag} {H : Hp} {a : Addr} {xs : List V} (h : SqK K H a xs) : SqL K H a xs := h.imp (fun h => .inr h) id
theorem SqK.of {K : PySem.W.Frag} {H : Hp} {a : Addr} {xs : List V} (h : SqL K H a xs) (n : H a ≠ some (.lst xs)) : SqK K H a xs := by
  rcases h with (h | h) | h
  · exact absurd h n
  · exact .inl h
  · exact .inr h
mutual
inductive RV (K : PySem.W.Frag) (H : Hp) (μ : List Addr) : D → V → Prop
  | non : RV K H μ .non .non
  | bl (b : Bool) : RV K H μ (.bl b) (.bl b)
  | int (i : Int) : RV K H μ (.int i) (.int i)
  | str (x : Str) : RV K H μ (.str x) (.str x)
  | tup {a : Addr} {vs : List V} {ds : List D} : SqT K H a vs → RVs K H μ ds vs → RV K H μ (.tup ds) (.ref a)
  | ref {n : Nat} {a : Addr} : μ[n]? = some a → RV K H μ (.ref n) (.ref a)
  | kls {a : Addr} {vs : List V} {ds : List D} : SqK K H a vs → RVs K H μ ds vs → RV K H μ (.klst ds) (.ref a)
  | excN {a : Addr} {c : Nat} {ns : List Str} : RV K H μ (.exc a none c ns []) (.ref a)
  | excD {a d : Addr} {c : Nat} {ns : List Str} {fs : List D} {vs : List V} : H d = some (.xd (ns.zip vs)) → fs.length = ns.length → RVs K H μ fs vs → RV K H μ (.exc a (some d) c ns fs) (.ref a)
inductive RVs (K : PySem.W.Frag) (H : Hp) (μ : List Addr) : List D → List V → Prop
  | nil : RVs K H μ [] []
  | cons {d : D} {v : V} {ds : List D} {vs : List V} : RV K H μ d v → RVs K H μ ds vs → RVs K H μ (d :: ds) (v :: vs)
end

/-- from (μ, H) to (μ', H') nothing that is by value has changed -/
structure Nx (μ : List Addr) (H : Hp) (μ' : List Addr) (H' : Hp) : Prop where
  pre : ∀ (n : Nat) (a : Addr), μ[n]? = some a → μ'[n]? = some a
  tup : ∀ a xs, Rd H a (.tup xs) → Rd H' a (.tup xs)
  frz : ∀ a o u, H a = some (.frz o u) → H' a = some (.frz o u)
  xd : ∀ a fs, H a = some (.xd fs) → H' a = some (.xd fs)
theorem Nx.refl (μ : List Addr) (H : Hp) : Nx μ H μ H := ⟨fun _ _ e => e, fun _ _ e => e, fun _ _ _ e => e, fun _ _ e => e⟩
theorem Nx.trans {μ μ1 μ2 : List Addr} {H H1 H2 : Hp} (x : Nx μ H μ1 H1) (y : Nx μ1 H1 μ2 H2) : Nx μ H μ2 H2 :=
  ⟨fun n a e => y.pre n a (x.pre n a e), fun a xs e => y.tup a xs (x.tup a xs e), fun a o u e => y.frz a o u (x.frz a o u e), fun a fs e => y.xd a fs (x.xd a fs e)⟩
section
variable {K : PySem.W.Frag} {H H' : Hp} {μ μ' : List Addr}
theorem Nx.sqT (x : Nx μ H μ' H') {a : Addr} {xs : List V} (h : SqT K H a xs) : SqT K H' a xs := h.imp (x.tup a xs) id
mutual
theorem RV.mono (x : Nx μ H μ' H') : ∀ {d : D} {v : V}, RV K H μ d v → RV K H' μ' d v
  | _, _, .non => .non
  | _, _, .bl b => .bl b
  | _, _, .int i => .int i
  | _, _, .str z => .str z
  | _, _, .tup h r => .tup (x.sqT h) (RVs.mono x r)
  | _, _, .ref e => .ref (x.pre _ _ e)
  | _, _, .kls h r => .kls (h.imp (fun ⟨o, h⟩ => ⟨o, x.frz _ _ _ h⟩) id) (RVs.mono x r)
  | _, _, .excN => .excN
  | _, _, .excD h l r => .excD (x.xd _ _ h) l (RVs.mono x r)
theorem RVs.mono (x : Nx μ H μ' H') : ∀ {ds : List D} {vs : List V}, RVs K H μ ds vs → RVs K H' μ' ds vs
  | _, _, .nil => .nil
  | _, _, .cons r t => .cons (RV.mono x r) (RVs.mono x t)
end
theorem RVs.length : ∀ {ds : List D} {vs : List V}, RVs K H μ ds vs → ds.length = vs.length
  | _, _, .nil => rfl
  | _, _, .cons _ t => congrArg (· + 1) (RVs.length t)
theorem RVs.get : ∀ {ds : List D} {vs : List V} {i : Nat} {d : D}, RVs K H μ ds vs → ds[i]? = some d → ∃ v, vs[i]? = some v ∧ RV K H μ d v
  | _, _, _, _, .nil, e => by simp at e
  | _, _, 0, _, .cons r _, e => by simp at e; subst e; exact ⟨_, rfl, r⟩
  | _, _, i + 1, d, .cons _ t, e => by
    obtain ⟨v, h1, h2⟩ := RVs.get (i := i) (d := d) t (by simpa using e)
    exact ⟨v, by simpa using h1, h2⟩
theorem RVs.got : ∀ {ds : List D} {vs : List V} {i : Nat} {v : V}, RVs K H μ ds vs → vs[i]? = some v → ∃ d, ds[i]? = some d ∧ RV K H μ d v
  | _, _, _, _, .nil, e => by simp at e
  | _, _, 0, _, .cons r _, e => by simp at e; subst e; exact ⟨_, rfl, r⟩
  | _, _, i + 1, d, .cons _ t, e => by
    obtain ⟨v, h1, h2⟩ := RVs.got (i := i) t (by simpa using e)
    exact ⟨v, by simpa using h1, h2⟩
theorem RVs.append : ∀ {ds es : List D} {vs us : List V}, RVs K H μ ds vs → RVs K H μ es us → RVs K H μ (ds ++ es) (vs ++ us)
  | _, _, _, _, .nil, s => s
  | _, _, _, _, .cons r t, s => .cons r (RVs.append t s)
theorem RVs.take : ∀ {ds : List D} {vs : List V} (n : Nat), RVs K H μ ds vs → RVs K H μ (ds.take n) (vs.take n)
  | _, _, 0, _ => .nil
  | _, _, _ + 1, .nil => .nil
  | _, _, n + 1, .cons r t => .cons r (RVs.take n t)
theorem RVs.drop : ∀ {ds : List D} {vs : List V} (n : Nat), RVs K H μ ds vs → RVs K H μ (ds.drop n) (vs.drop n)
  | _, _, 0, r => r
  | _, _, _ + 1, .nil => .nil
  | _, _, n + 1, .cons _ t => RVs.drop n t
theorem RVs.set {d : D} {v : V} (r : RV K H μ d v) : ∀ {ds : List D} {vs : List V} (i : Nat), RVs K H μ ds vs → RVs K H μ (ds.set i d) (vs.set i v)
  | _, _, _, .nil => .nil
  | _, _, 0, .cons _ t => .cons r t
  | _, _, i + 1, .cons q t => .cons q (RVs.set r i t)
theorem RVs.eraseIdx : ∀ {ds : List D} {vs : List V} (i : Nat), RVs K H μ ds vs → RVs K H μ (ds.eraseIdx i) (vs.eraseIdx i)
  | _, _, _, .nil => .nil
  | _, _, 0, .cons _ t => t
  | _, _, i + 1, .cons r t => .cons r (RVs.eraseIdx i t)
theorem RVs.dropLast {ds : List D} {vs : List V} (r : RVs K H μ ds vs) : RVs K H μ ds.dropLast vs.dropLast := by
  rw [List.dropLast_eq_take, List.dropLast_eq_take, r.length]
  exact r.take _
theorem RVs.reverse : ∀ {ds : List D} {vs : List V}, RVs K H μ ds vs → RVs K H μ ds.reverse vs.reverse
  | _, _, .nil => .nil
  | _, _, .cons r t => by
    rw [List.reverse_cons, List.reverse_cons]
    exact (RVs.reverse t).append (.cons r .nil)
theorem RVs.map {α : Type} (f : α → D) (g : α → V) (h : ∀ a, RV K H μ (f a) (g a)) : ∀ xs : List α, RVs K H μ (xs.map f) (xs.map g)
  | [] => .nil
  | a :: xs => .cons (h a) (RVs.map f g h xs)
theorem RVs.ints (ns : List Int) : RVs K H μ (ns.map D.int) (ns.map V.int) := RVs.map _ _ (fun i => .int i) ns
end

mutual
def nkey : D → Option NestedKey
  | .non => some NestedKey.none
  | .bl b => some (.num (if b = true then 1 else 0))
  | .int i => some (.num i)
  | .str x => some (.text x)
  | .tup xs => (nkeys xs).map .tup
  | .ref _ => none
  | .klst _ => none
  | .exc .. => none
def nkeys : List D → Option (List NestedKey)
  | [] => some []
  | x :: xs => match nkey x, nkeys xs with
    | some k, some ks => some (k :: ks)
    | _, _ => none
end

/-- the dict at d: its entries, keys known by where they stand -/
def dObj (P : Program) (w : World) (d : Addr) (es : List (NestedKey × Addr × V)) (h : Heap) : Prop :=
  ∃ xs : List (NestedKey × Addr × Value), Paired (fun (p : NestedKey × Addr × V) (q : NestedKey × Addr × Value) => p.1 = q.1 ∧ p.2.1 = q.2.1 ∧ RelV p.2.2 q.2.2) es xs ∧
    ∃ o ds ep, h.get? d = some o ∧ o.ExactDict ∧ o.data = .dict ds ep ∧ ds.toList = xs.map (entryOfKey (nestedKind P w)) ∧ (xs.map (·.1)).Nodup ∧ (d == sysModules) = false ∧ xs.length ≤ sizeLine
def dHO (P : Program) (w : World) (d : Addr) (es : List (NestedKey × Addr × V)) : HO := .ext (dObj P w d es)

section
variable (P : Program) (w : World) (K : PySem.W.Frag) (Γ : Gm)
/-- one entry of a dict -/
def REn (K : PySem.W.Frag) (H : Hp) (μ : List Addr) (p : D × D) (q : NestedKey × Addr × V) : Prop := nkey p.1 = some q.1 ∧ q.1.depth ≤ 8 ∧ RV K H μ p.1 (.ref q.2.1) ∧ RV K H μ p.2 q.2.2
def RO (H : Hp) (μ : List Addr) (a : Addr) : MO → Prop
  | .lst xs => ∃ vs, H a = some (.lst vs) ∧ RVs K H μ xs vs
  | .ro xs => ∃ vs, (∃ o, H a = some (.frz o (.lst vs))) ∧ RVs K H μ xs vs
  | .dct kvs => ∃ es, H a = some (dHO P w a es) ∧ Paired (REn K H μ) kvs es
  | .dks kvs => ∃ vs, H a = some (.dK vs) ∧ Paired (fun (p : Key × D) (q : Key × V) => p.1 = q.1 ∧ RV K H μ p.2 q.2) kvs vs ∧ (kvs.map (·.1)).Nodup
  | .ins c fs => ∃ dx vs, RVs K H μ fs vs ∧ H a = some (.ins (Γ.cA c) dx ((Γ.cN c).zip vs)) ∧ vs.length ≤ (Γ.cN c).length
  | .slo c fs => ∃ (dx : Addr) (vs : List (Option V)), SlX.Slt H a (Γ.cA c) dx vs ∧ dx ≠ a ∧ (H dx = some (.own a) ∨ H dx = some (.xd [])) ∧ ∀ (i : Nat) (d : D), fs[i]? = some (some d) → ∃ v, vs[i]? = some (some v) ∧ RV K H μ d v
/-- the numbers' world lies in the heap -/
structure RH (μ : List Addr) (M : Hs) (H : Hp) : Prop where
  len : M.length = μ.length
  nd : μ.Nodup
  at_ : ∀ (n : Nat) (o : MO) (a : Addr), M[n]? = some o → μ[n]? = some a → RO P w K Γ H μ a o
end
/-- the slots -/
structure RSl (K : PySem.W.Frag) (H : Hp) (μ : List Addr) (ζ : Sl) (σ : L2.St) : Prop where
  len : ζ.length = σ.length
  at_ : ∀ (i : Nat) (d : D), ζ[i]? = some (some d) → ∃ v, σ[i]? = some (some v) ∧ RV K H μ d v
theorem RSl.mono {K : PySem.W.Frag} {H H' : Hp} {μ μ' : List Addr} {ζ : Sl} {σ : L2.St} (r : RSl K H μ ζ σ) (x : Nx μ H μ' H') : RSl K H' μ' ζ σ :=
  ⟨r.len, fun i d e => let ⟨v, h1, h2⟩ := r.at_ i d e; ⟨v, h1, h2.mono x⟩⟩
theorem RSl.set {K : PySem.W.Frag} {H : Hp} {μ : List Addr} {ζ : Sl} {σ : L2.St} (r : RSl K H μ ζ σ) {d : D} {v : V} (rv : RV K H μ d v) (i : Nat) : RSl K H μ (ζ.set i (some d)) (σ.set i (some v)) := by
  refine ⟨by simp [r.len], fun j e h => ?_⟩
  by_cases hj : i = j
  · subst hj
    by_cases hl : i < ζ.length
    · rw [List.getElem?_set_self hl] at h
      cases h
      exact ⟨v, List.getElem?_set_self (by rw [← r.len]; exact hl), rv⟩
    · rw [List.getElem?_eq_none (by simpa using hl)] at h
      cases h
  · rw [List.getElem?_set_ne hj] at h ⊢
    exact r.at_ j e h

section
variable (P : Program) (w : World) (K : PySem.W.Frag) (Γ : Gm)
/-- an exception of the class c with the fields fs -/
def RX (H : Hp) (μ : List Addr) (c : Nat) (fs : List D) (cls : Value) (dd : Option Addr) : Prop :=
  cls = .ref (Γ.cA c) ∧ (fs = [] ∧ dd = none ∨ fs ≠ [] ∧ ∃ d vs, dd = some d ∧ H d = some (.xd ((Γ.cN c).zip vs)) ∧ fs.length = (Γ.cN c).length ∧ RVs K H μ fs vs)
def Pst {α β : Type} (rel : Hp → List Addr → α → β → Prop) (W : WX) (σ : L2.St) (μ : List Addr) (H : Hp) (r : R α) (Q : β → Hp → Prop) : Prop := match r with
  | .ok d M' => ∀ v H' μ', Nx μ H μ' H' → RH P w K Γ μ' M' H' → rel H' μ' d v → Q v H'
  | .ex c fs M' => ∀ cls dd H' μ', Nx μ H μ' H' → RH P w K Γ μ' M' H' → RX K Γ H' μ' c fs cls dd → W cls dd σ H'
  | .no => False
abbrev relV (H : Hp) (μ : List Addr) (d : D) (v : V) : Prop := RV K H μ d v
abbrev relA (H : Hp) (μ : List Addr) (ds : List D) (vs : List V) : Prop := RVs K H μ ds vs
abbrev relB (_ : Hp) (_ : List Addr) (b : Bool) (c : Bool) : Prop := b = c
def PstS (W : WX) (μ : List Addr) (H : Hp) (r : RS) (E : Ends) : Prop := match r with
  | .nx ζ M' => ∀ σ' H' μ', Nx μ H μ' H' → RH P w K Γ μ' M' H' → RSl K H' μ' ζ σ' → E.nx σ' H'
  | .rt d M' => ∀ v H' μ', Nx μ H μ' H' → RH P w K Γ μ' M' H' → RV K H' μ' d v → E.rt v H'
  | .bk ζ M' => ∀ σ' H' μ', Nx μ H μ' H' → RH P w K Γ μ' M' H' → RSl K H' μ' ζ σ' → E.bk σ' H'
  | .ct ζ M' => ∀ σ' H' μ', Nx μ H μ' H' → RH P w K Γ μ' M' H' → RSl K H' μ' ζ σ' → E.ct σ' H'
  | .ex c fs ζ M' => ∀ cls dd σ' H' μ', Nx μ H μ' H' → RH P w K Γ μ' M' H' → RSl K H' μ' ζ σ' → RX K Γ H' μ' c fs cls dd → W cls dd σ' H'
  | .no => False
/-- the state -/
structure RR (μ : List Addr) (H : Hp) (ζ : Sl) (M : Hs) (σ : L2.St) : Prop where
  sl : RSl K H μ ζ σ
  hp : RH P w K Γ μ M H
def tX (W : WX) (f : MX) : TE := fun σ H Q => ∃ ζ M μ, RR P w K Γ μ H ζ M σ ∧ Pst P w K Γ (relV K) W σ μ H (f ζ M) Q
def tT (W : WX) (f : MT) : TT := fun σ H Q => ∃ ζ M μ, RR P w K Γ μ H ζ M σ ∧ Pst P w K Γ relB W σ μ H (f ζ M) Q
def tA (W : WX) (f : MA) : TA := fun σ H Q => ∃ ζ M μ, RR P w K Γ μ H ζ M σ ∧ Pst P w K Γ (relA K) W σ μ H (f ζ M) Q
def tS (W : WX) (f : MS) : TS := fun E σ H => ∃ ζ M μ, RR P w K Γ μ H ζ M σ ∧ PstS P w K Γ W μ H (f ζ M) E
end
section
variable {P : Program} {w : World} {K : PySem.W.Frag} {Γ : Gm} {W : WX} {σ : L2.St} {μ μ1 : List Addr} {H H1 : Hp}
theorem Pst.mono {α β : Type} {rel : Hp → List Addr → α → β → Prop} {r : R α} {Q : β → Hp → Prop} (h : Pst P w K Γ rel W σ μ H r Q) (x : Nx μ H μ1 H1) : Pst P w K Γ rel W σ μ1 H1 r Q := by
  cases r with
  | ok d M => exact fun v H' μ' y rh rv => h v H' μ' (x.trans y) rh rv
  | ex c fs M => exact fun cls dd H' μ' y rh rx => h cls dd H' μ' (x.trans y) rh rx
  | no => exact h
theorem PstS.mono {r : RS} {E : Ends} (h : PstS P w K Γ W μ H r E) (x : Nx μ H μ1 H1) : PstS P w K Γ W μ1 H1 r E := by
  cases r with
  | nx ζ M => exact fun σ' H' μ' y => h σ' H' μ' (x.trans y)
  | bk ζ M => exact fun σ' H' μ' y => h σ' H' μ' (x.trans y)
  | ct ζ M => exact fun σ' H' μ' y => h σ' H' μ' (x.trans y)
  | rt d M => exact fun v H' μ' y => h v H' μ' (x.trans y)
  | ex c fs ζ M => exact fun cls dd σ' H' μ' y => h cls dd σ' H' μ' (x.trans y)
  | no => exact h
theorem Pst.bind {α β γ δ : Type} {rel : Hp → List Addr → α → β → Prop} {rel' : Hp → List Addr → γ → δ → Prop} {r : R α} {k : α → Hs → R γ} {Q : δ → Hp → Prop} (h : Pst P w K Γ rel' W σ μ H (r.bind k) Q) :
    Pst P w K Γ rel W σ μ H r fun v H1 => ∃ d M1 μ1, Nx μ H μ1 H1 ∧ RH P w K Γ μ1 M1 H1 ∧ rel H1 μ1 d v ∧ Pst P w K Γ rel' W σ μ1 H1 (k d M1) Q := by
  cases r with
  | ok d M => exact fun v H' μ' y rh rv => ⟨d, M, μ', y, rh, rv, Pst.mono h y⟩
  | ex c fs M => exact h
  | no => exact h
end
/-- weaker readings -/
theorem PE.imp {X : Cx} {e : Expr} {t t' : TE} (h : PE X e t) (i : ∀ σ H Q, t' σ H Q → t σ H Q) : PE X e t' := ⟨fun pins s σ H Q I q => h.run pins s σ H Q I (i _ _ _ q)⟩
theorem PT.imp {X : Cx} {e : Expr} {t t' : TT} (h : PT X e t) (i : ∀ σ H Q, t' σ H Q → t σ H Q) : PT X e t' := ⟨fun pins s σ H Q I q => h.run pins s σ H Q I (i _ _ _ q)⟩
theorem PA.imp {X : Cx} {e : List Expr} {t t' : TA} (h : PA X e t) (i : ∀ σ H Q, t' σ H Q → t σ H Q) : PA X e t' := ⟨fun pos pins s σ H Q I q => h.run pos pins s σ H Q I (i _ _ _ q)⟩
theorem PS.imp {X : Cx} {e : Stmt} {t t' : TS} (h : PS X e t) (i : ∀ E σ H, t' E σ H → t E σ H) : PS X e t' := ⟨fun pins s σ H E I q => h.run pins s σ H E I (i _ _ _ q)⟩
theorem PSs.imp {X : Cx} {e : List Stmt} {t t' : TS} (h : PSs X e t) (i : ∀ E σ H, t' E σ H → t E σ H) : PSs X e t' := ⟨fun pins s σ H E I q => h.run pins s σ H E I (i _ _ _ q)⟩
end Mi
end
section
set_option maxRecDepth 100000
set_option maxHeartbeats 2000000
set_option autoImplicit false
namespace Mi
open PySem PySem.Spec PyProof.Rows L2

section
variable {P : Program} {w : World} {K : PySem.W.Frag} {Γ : Gm} {W : WX} {σ : L2.St} {μ μ' : List Addr} {H H' : Hp} {M : Hs}
theorem Paired.imp {α β : Type} {F G : α → β → Prop} : ∀ {l₁ : List α} {l₂ : List β}, Paired F l₁ l₂ → (∀ a b, F a b → G a b) → Paired G l₁ l₂
  | _, _, .nil, _ => .nil
  | _, _, .cons r t, f => .cons (f _ _ r) (Paired.imp t f)
theorem REn.mono (x : Nx μ H μ' H') {p : D × D} {q : NestedKey × Addr × V} (h : REn K H μ p q) : REn K H' μ' p q := ⟨h.1, h.2.1, h.2.2.1.mono x, h.2.2.2.mono x⟩
theorem RO.keep {a : Addr} {o : MO} (h : RO P w K Γ H μ a o) (x : Nx μ H μ' H') (e : ∀ u, H a = some u → H' a = some u) (eo : ∀ b, H b = some (.own a) → H' b = some (.own a)) (ed : ∀ b, H b = some (.xd []) → H' b = some (.xd [])) : RO P w K Γ H' μ' a o := by
  cases o with
  | lst xs => obtain ⟨vs, h1, r⟩ := h; exact ⟨vs, e _ h1, r.mono x⟩
  | ro xs => obtain ⟨vs, ⟨o, h1⟩, r⟩ := h; exact ⟨vs, ⟨o, e _ h1⟩, r.mono x⟩
  | dct kvs => obtain ⟨es, h1, r⟩ := h; exact ⟨es, e _ h1, Paired.imp r fun _ _ => REn.mono x⟩
  | dks kvs => obtain ⟨vs, h1, r, nd⟩ := h; exact ⟨vs, e _ h1, Paired.imp r fun _ _ q => ⟨q.1, q.2.mono x⟩, nd⟩
  | ins c fs => obtain ⟨dx, vs, r, h1, h2⟩ := h; exact ⟨dx, vs, r.mono x, e _ h1, h2⟩
  | slo c fs =>
    obtain ⟨dx, vs, h1, h2, h3, h4⟩ := h
    refine ⟨dx, vs, ?_, h2, h3.imp (eo _) (ed _), fun i d q => let ⟨v, q1, q2⟩ := h4 i d q; ⟨v, q1, q2.mono x⟩⟩
    rcases h1 with ⟨h1, h5⟩ | ⟨h1, h5⟩
    · exact .inl ⟨e _ h1, h5⟩
    · exact .inr ⟨e _ h1, ed _ h5⟩
theorem RO.some {a : Addr} {o : MO} (h : RO P w K Γ H μ a o) : ∃ u, H a = some u := by
  cases o with
  | lst xs => obtain ⟨vs, h1, r⟩ := h; exact ⟨_, h1⟩
  | ro xs => obtain ⟨vs, ⟨o, h1⟩, r⟩ := h; exact ⟨_, h1⟩
  | dct kvs => obtain ⟨es, h1, r⟩ := h; exact ⟨_, h1⟩
  | dks kvs => obtain ⟨vs, h1, r, nd⟩ := h; exact ⟨_, h1⟩
  | ins c fs => obtain ⟨dx, vs, r, h1, h2⟩ := h; exact ⟨_, h1⟩
  | slo c fs =>
    obtain ⟨dx, vs, h1 | h1, h2⟩ := h
    · exact ⟨_, h1.1⟩
    · exact ⟨_, h1.1⟩
theorem Nx.fresh {p : Addr} {u : HO} (hp : H p = none) (l : List Addr) : Nx μ H (μ ++ l) (upd H p u) := by
  refine ⟨fun n a e => ?_, fun a xs e => ?_, fun a o v e => by rw [upd_ne (ne_of_none e hp)]; exact e, fun a fs e => by rw [upd_ne (ne_of_none e hp)]; exact e⟩
  · rw [List.getElem?_append_left (List.getElem?_eq_some_iff.mp e).1]
    exact e
  · rcases e with e | ⟨o, e⟩
    · exact .inl (by rw [upd_ne (ne_of_none e hp)]; exact e)
    · exact .inr ⟨o, by rw [upd_ne (ne_of_none e hp)]; exact e⟩
theorem Nx.fresh0 {p : Addr} {u : HO} (hp : H p = none) : Nx μ H μ (upd H p u) := by
  have := Nx.fresh (μ := μ) (u := u) hp []
  rwa [List.append_nil] at this
theorem RH.fresh {p : Addr} {u : HO} (rh : RH P w K Γ μ M H) (hp : H p = none) : RH P w K Γ μ M (upd H p u) :=
  ⟨rh.len, rh.nd, fun n o a h1 h2 => (rh.at_ n o a h1 h2).keep (Nx.fresh0 hp) (fun v e => by rw [upd_ne (ne_of_none e hp)]; exact e) (fun b e => by rw [upd_ne (ne_of_none e hp)]; exact e) fun b e => by rw [upd_ne (ne_of_none e hp)]; exact e⟩
theorem RH.alloc {p : Addr} {u : HO} {o : MO} (rh : RH P w K Γ μ M H) (hp : H p = none) (new : RO P w K Γ (upd H p u) (μ ++ [p]) p o) : RH P w K Γ (μ ++ [p]) (M ++ [o]) (upd H p u) := by
  have hpm : p ∉ μ := fun hm => by
    obtain ⟨n, hn⟩ := List.mem_iff_getElem?.mp hm
    have hl : n < M.length := by rw [rh.len]; exact (List.getElem?_eq_some_iff.mp hn).1
    obtain ⟨v, hv⟩ := (rh.at_ n _ p (List.getElem?_eq_getElem hl) hn).some
    rw [hp] at hv; cases hv
  refine ⟨by simp [rh.len], ?_, fun n o' a h1 h2 => ?_⟩
  · rw [List.nodup_append]
    exact ⟨rh.nd, by simp, fun a ha b hb e => by simp at hb; subst hb; subst e; exact hpm ha⟩
  · by_cases hn : n < M.length
    · rw [List.getElem?_append_left hn] at h1
      rw [List.getElem?_append_left (by rw [← rh.len]; exact hn)] at h2
      exact (rh.at_ n o' a h1 h2).keep (Nx.fresh hp [p]) (fun v e => by rw [upd_ne (ne_of_none e hp)]; exact e) (fun b e => by rw [upd_ne (ne_of_none e hp)]; exact e) fun b e => by rw [upd_ne (ne_of_none e hp)]; exact e
    · rw [List.getElem?_append_right (by omega)] at h1
      rw [List.getElem?_append_right (by rw [← rh.len]; omega)] at h2
      have e1 : n - M.length = 0 := by
        by_cases z : n - M.length = 0
        · exact z
        · rw [List.getElem?_eq_none (by simp; omega)] at h1; cases h1
      rw [e1] at h1
      rw [← rh.len, e1] at h2
      simp at h1 h2
      subst h1; subst h2
      exact new
theorem mutNe {a b : Addr} {u : HO} (hm : Mut (H a)) (e : H b = some u) (nm : ¬ Mut (some u)) : b ≠ a := fun z => by
  subst z
  rw [e] at hm
  exact nm hm
theorem Nx.write {a : Addr} {u : HO} (hm : Mut (H a)) : Nx μ H μ (upd H a u) := by
  refine ⟨fun n a e => e, fun b xs e => ?_, fun b o v e => by rw [upd_ne (mutNe hm e (fun z => z))]; exact e, fun b fs e => by rw [upd_ne (mutNe hm e (fun z => z))]; exact e⟩
  rcases e with e | ⟨o, e⟩
  · exact .inl (by rw [upd_ne (mutNe hm e (fun z => z))]; exact e)
  · exact .inr ⟨o, by rw [upd_ne (mutNe hm e (fun z => z))]; exact e⟩
theorem RH.write {n : Nat} {a : Addr} {u : HO} {o : MO} (rh : RH P w K Γ μ M H) (hn : μ[n]? = some a) (hm : Mut (H a)) (new : RO P w K Γ (upd H a u) μ a o) : RH P w K Γ μ (M.set n o) (upd H a u) := by
  refine ⟨by simp [rh.len], rh.nd, fun m o' b h1 h2 => ?_⟩
  by_cases hmn : n = m
  · subst hmn
    rw [hn] at h2; cases h2
    by_cases hl : n < M.length
    · rw [List.getElem?_set_self hl] at h1; cases h1
      exact new
    · rw [List.getElem?_eq_none (by simpa using hl)] at h1; cases h1
  · rw [List.getElem?_set_ne hmn] at h1
    have hba : b ≠ a := fun z => by
      subst z
      exact hmn ((List.getElem?_inj (List.getElem?_eq_some_iff.mp hn).1 rh.nd).mp (hn.trans h2.symm))
    exact (rh.at_ m o' b h1 h2).keep (Nx.write hm) (fun v e => by rw [upd_ne hba]; exact e) (fun c e => by rw [upd_ne (mutNe hm e (fun z => z))]; exact e) fun c e => by rw [upd_ne (mutNe hm e (fun z => z))]; exact e
theorem RH.addr {n : Nat} {o : MO} (rh : RH P w K Γ μ M H) (h : M[n]? = some o) : ∃ a, μ[n]? = some a ∧ RO P w K Γ H μ a o := by
  have hl : n < μ.length := by rw [← rh.len]; exact (List.getElem?_eq_some_iff.mp h).1
  exact ⟨_, List.getElem?_eq_getElem hl, rh.at_ n o _ h (List.getElem?_eq_getElem hl)⟩
theorem RH.last {p : Addr} (rh : RH P w K Γ μ M H) : (μ ++ [p])[M.length]? = some p := by
  rw [rh.len]
  simp

def R.of {α : Type} : Option (α × Hs) → R α
  | some (a, M) => .ok a M
  | none => .no
variable (P w K Γ) in
def Pk {α β : Type} (rel : Hp → List Addr → α → β → Prop) (μ : List Addr) (H : Hp) (r : Option (α × Hs)) (Q : β → Hp → Prop) : Prop := match r with
  | some (d, M') => ∀ v H' μ', Nx μ H μ' H' → RH P w K Γ μ' M' H' → rel H' μ' d v → Q v H'
  | none => False
theorem Pst.of {α β : Type} {rel : Hp → List Addr → α → β → Prop} {r : Option (α × Hs)} {Q : β → Hp → Prop} (h : Pst P w K Γ rel W σ μ H (R.of r) Q) : Pk P w K Γ rel μ H r Q := by
  cases r with
  | none => exact h
  | some p => exact h
theorem Pst.imp {α β : Type} {rel : Hp → List Addr → α → β → Prop} {r : R α} {Q Q' : β → Hp → Prop} (h : Pst P w K Γ rel W σ μ H r Q) (i : ∀ v H', Q v H' → Q' v H') : Pst P w K Γ rel W σ μ H r Q' := by
  cases r with
  | ok d M => exact fun v H' μ' x rh rv => i _ _ (h v H' μ' x rh rv)
  | ex c fs M => exact h
  | no => exact h
theorem Pst.then {α β γ δ : Type} {rel : Hp → List Addr → α → β → Prop} {rel' : Hp → List Addr → γ → δ → Prop} {r : R α} {k : α → Hs → R γ} {Q : δ → Hp → Prop} {Q' : β → Hp → Prop} (h : Pst P w K Γ rel' W σ μ H (r.bind k) Q)
    (i : ∀ v H1 d M1 μ1, Nx μ H μ1 H1 → RH P w K Γ μ1 M1 H1 → rel H1 μ1 d v → Pst P w K Γ rel' W σ μ1 H1 (k d M1) Q → Q' v H1) : Pst P w K Γ rel W σ μ H r Q' :=
  Pst.imp (Pst.bind h) fun v H1 ⟨d, M1, μ1, a, b, c, e⟩ => i v H1 d M1 μ1 a b c e
theorem Pk.new {Q : VK} {o : MO} {p : Addr} {u : HO} (rh : RH P w K Γ μ M H) (h : Pk P w K Γ (relV K) μ H (some (.ref M.length, M ++ [o])) Q) (hp : H p = none) (new : RO P w K Γ (upd H p u) (μ ++ [p]) p o) : Q (.ref p) (upd H p u) :=
  h _ _ _ (Nx.fresh hp [p]) (rh.alloc hp new) (.ref rh.last)
theorem Pk.tup {Q : VK} {ds : List D} {vs : List V} {p : Addr} (rh : RH P w K Γ μ M H) (h : Pk P w K Γ (relV K) μ H (some (.tup ds, M)) Q) (hp : H p = none) (r : RVs K H μ ds vs) : Q (.ref p) (upd H p (.tup vs)) :=
  h _ _ _ (Nx.fresh0 hp) (rh.fresh hp) (.tup (SqT.of upd_same) (r.mono (Nx.fresh0 hp)))
theorem Pk.here {α β : Type} {rel : Hp → List Addr → α → β → Prop} {Q : β → Hp → Prop} {d : α} {v : β} (rh : RH P w K Γ μ M H) (h : Pk P w K Γ rel μ H (some (d, M)) Q) (r : rel H μ d v) : Q v H := h _ _ _ (Nx.refl _ _) rh r
theorem nlst (rh : RH P w K Γ μ M H) {n : Nat} {a : Addr} {xs : List D} (h : M[n]? = some (.lst xs)) (e : μ[n]? = some a) : ∃ vs, H a = some (.lst vs) ∧ RVs K H μ xs vs := rh.at_ n _ a h e
end

abbrev EX (X : Cx) (Γ : Gm) (W : WX) (e : Expr) (f : MX) : Prop := PE X e (tX X.prog X.w X.K Γ W f)
abbrev ET (X : Cx) (Γ : Gm) (W : WX) (e : Expr) (f : MT) : Prop := PT X e (tT X.prog X.w X.K Γ W f)
abbrev EW (X : Cx) (Γ : Gm) (W : WX) (e : Expr) (f : MT) : Prop := PW X e (tT X.prog X.w X.K Γ W f)
abbrev EA (X : Cx) (Γ : Gm) (W : WX) (es : List Expr) (f : MA) : Prop := PA X es (tA X.prog X.w X.K Γ W f)
abbrev ES (X : Cx) (Γ : Gm) (W : WX) (st : Stmt) (f : MS) : Prop := PS X st (tS X.prog X.w X.K Γ W f)
abbrev ESs (X : Cx) (Γ : Gm) (W : WX) (st : List Stmt) (f : MS) : Prop := PSs X st (tS X.prog X.w X.K Γ W f)

section
variable {X : Cx} {Γ : Gm} {W : WX} {a b c : Expr} {fa fb fc : MX} {pos : Pos}
def xVar (i : Nat) : MX := fun ζ M => match ζ[i]? with
  | some (some d) => .ok d M
  | _ => .no
def xC (d : D) : MX := fun _ M => .ok d M
theorem ex_var (i : Nat) {x : Str} (hN : X.N[i]? = some x := by rfl) (hv : Vis X.env.scope x := by first | exact Or.inl rfl | exact Or.inr (Or.inl rfl) | exact Or.inr (Or.inr rfl)) (hd : (x == ("__debug__" : Str)) = false := by decide)
    (hcd : (x == ("__classdict__" : Str)) = false := by decide) : EX X Γ W (.Name x pos) (xVar i) := PE.imp (pe_var hN hv hd hcd) fun σ H Q ⟨ζ, M, μ, rr, h⟩ => by
  unfold xVar at h
  cases e : ζ[i]? with
  | none => rw [e] at h; exact h.elim
  | some o =>
    cases o with
    | none => rw [e] at h; exact h.elim
    | some d =>
      rw [e] at h
      obtain ⟨v, h1, h2⟩ := rr.sl.at_ i d e
      exact ⟨v, h1, h _ _ _ (Nx.refl _ _) rr.hp h2⟩
theorem ex_const {e : Expr} {d : D} {v : V} (h : PE X e (tC v)) (r : ∀ H μ, RV X.K H μ d v) : EX X Γ W e (xC d) := PE.imp h fun σ H Q ⟨ζ, M, μ, rr, h⟩ => h _ _ _ (Nx.refl _ _) rr.hp (r _ _)
theorem ex_int {i : Int} {j} : EX X Γ W (.Constant (.int i) j pos) (xC (.int i)) := ex_const pe_int fun _ _ => .int i
theorem ex_bl {i : Bool} {j} : EX X Γ W (.Constant (.bool i) j pos) (xC (.bl i)) := ex_const pe_bl fun _ _ => .bl i
theorem ex_non {j} : EX X Γ W (.Constant .none j pos) (xC .non) := ex_const pe_non fun _ _ => .non
theorem ex_str {x : Str} {j} : EX X Γ W (.Constant (.str x) j pos) (xC (.str x)) := ex_const pe_str fun _ _ => .str x
/-- a module's constant -/
def CstOk (K : PySem.W.Frag) (mg : Str → Option Value) (x : Str) (d : D) : Prop := ∃ u v, mg x = some u ∧ RelV v u ∧ ∀ H μ, RV K H μ d v
theorem ex_glob {x : Str} {d : D} (h : CstOk X.K X.mg x d) (hg : Gl X x := by rfl) (hd : (x == ("__debug__" : Str)) = false := by decide) : EX X Γ W (.Name x pos) (xC d) := by
  obtain ⟨u, v, h1, h2, h3⟩ := h
  exact ex_const (pe_glob hg h1 h2 hd) h3

def x2 (g : D → D → Hs → Option (D × Hs)) (fa fb : MX) : MX := fun ζ M => (fa ζ M).bind fun x M1 => (fb ζ M1).bind fun y M2 => R.of (g x y M2)
def r2 (P : Program) (w : World) (K : PySem.W.Frag) (Γ : Gm) (g : D → D → Hs → Option (D × Hs)) : R2 := fun x y H Q => ∃ d e M μ, RH P w K Γ μ M H ∧ RV K H μ d x ∧ RV K H μ e y ∧ Pk P w K Γ (relV K) μ H (g d e M) Q
abbrev Op2 (X : Cx) (Γ : Gm) (f : Value → Value → Sem Value) (g : D → D → Hs → Option (D × Hs)) : Prop := OpR X f (r2 X.prog X.w X.K Γ g)
theorem tOp_of {g : D → D → Hs → Option (D × Hs)} {σ : L2.St} {H : Hp} {Q : VK} (h : tX X.prog X.w X.K Γ W (x2 g fa fb) σ H Q) : tOp (r2 X.prog X.w X.K Γ g) (tX X.prog X.w X.K Γ W fa) (tX X.prog X.w X.K Γ W fb) σ H Q := by
  obtain ⟨ζ, M, μ, rr, h⟩ := h
  exact ⟨ζ, M, μ, rr, Pst.then h fun v H1 d M1 μ1 nx rh rv h1 => ⟨ζ, M1, μ1, ⟨rr.sl.mono nx, rh⟩, Pst.then h1 fun v2 H2 e M2 μ2 nx2 rh2 rv2 h2 => ⟨d, e, M2, μ2, rh2, rv.mono nx2, rv2, h2.of⟩⟩⟩
theorem ex_op {op : Operator} {g : D → D → Hs → Option (D × Hs)} (ho : Op2 X Γ (binaryOp op) g) (ha : EX X Γ W a fa) (hb : EX X Γ W b fb) : EX X Γ W (.BinOp a op b pos) (x2 g fa fb) :=
  PE.imp (pe_op ho ha hb) fun _ _ _ h => tOp_of h
theorem ex_cmp {op : CmpOp} {g : D → D → Hs → Option (D × Hs)} (ho : Op2 X Γ (compareOp op) g) (ha : EX X Γ W a fa) (hb : EX X Γ W b fb) (hm : behindInMarks op b = false := by rfl) : EX X Γ W (.Compare a [op] [b] pos) (x2 g fa fb) :=
  PE.imp (pe_cmpR ho ha hb hm) fun _ _ _ h => tOp_of h
/-- a value that is a truth value, as a test -/
def tB1 (f : MX) : MT := fun ζ M => (f ζ M).bind fun x M1 => match x with
  | .bl k => .ok k M1
  | _ => .no
theorem tTest_of {f : MX} {t : TE} {σ : L2.St} {H : Hp} {Q : Bool → Hp → Prop} (i : ∀ Q, tX X.prog X.w X.K Γ W f σ H Q → t σ H Q) (h : tT X.prog X.w X.K Γ W (tB1 f) σ H Q) : tTest t σ H Q := by
  obtain ⟨ζ, M, μ, rr, h⟩ := h
  refine i _ ⟨ζ, M, μ, rr, Pst.then h fun v H1 d M1 μ1 nx rh rv h1 => ?_⟩
  cases d with
  | bl k => cases rv; exact ⟨k, rfl, h1 _ _ _ (Nx.refl _ _) rh rfl⟩
  | _ => exact h1.elim
theorem et_cmp {op : CmpOp} {g : D → D → Hs → Option (D × Hs)} (ho : Op2 X Γ (compareOp op) g) (ha : EX X Γ W a fa) (hb : EX X Γ W b fb) (hm : behindInMarks op b = false := by rfl) : ET X Γ W (.Compare a [op] [b] pos) (tB1 (x2 g fa fb)) :=
  PT.imp (pt_cmpR ho ha hb hm) fun _ _ _ h => tTest_of (fun _ => tOp_of) h
theorem et_val (ha : EX X Γ W a fa) (he : ∀ whole, isTrue a X.env whole = (do let v ← whole; standAt a.pos; holding [v] (truthy v)) := by intro _; rfl) : ET X Γ W a (tB1 fa) :=
  PT.imp (pt_val ha he) fun _ _ _ h => tTest_of (fun _ h => h) h
/-- a < b < c -/
def x3 (g g' : D → D → Hs → Option (D × Hs)) (fa fb fc : MX) : MX := fun ζ M => (fa ζ M).bind fun x M1 => (fb ζ M1).bind fun y M2 => (R.of (g x y M2)).bind fun z M3 => match z with
  | .bl true => (fc ζ M3).bind fun u M4 => R.of (g' y u M4)
  | .bl false => .ok (.bl false) M3
  | _ => .no
end

def hLst (M : Hs) (n : Nat) : Option (List D) := match M[n]? with
  | some (.lst xs) => some xs
  | _ => none
def hSeq (M : Hs) : D → Option (List D)
  | .tup xs => some xs
  | .klst xs => some xs
  | .ref n => match M[n]? with
    | some (.lst xs) => some xs
    | some (.ro xs) => some xs
    | _ => none
  | _ => none
def newL (xs : List D) (M : Hs) : Option (D × Hs) := if xs.length ≤ sizeLine then some (.ref M.length, M ++ [.lst xs]) else none
def gAdd (x y : D) (M : Hs) : Option (D × Hs) := match x, y with
  | .int i, .int j => some (.int (i + j), M)
  | .str x, .str y => if x.length + y.length ≤ sizeLine then some (.str (x ++ y), M) else none
  | .tup xs, .tup ys => if xs.length + ys.length ≤ sizeLine then some (.tup (xs ++ ys), M) else none
  | .ref m, .ref n => match M[m]?, M[n]? with
    | some (.lst xs), some (.lst ys) => newL (xs ++ ys) M
    | _, _ => none
  | _, _ => none
def gI (C : Int → Int → Bool) (g : Int → Int → D) (x y : D) (M : Hs) : Option (D × Hs) := match x, y with
  | .int i, .int j => if C i j = true then some (g i j, M) else none
  | _, _ => none
def gSub : D → D → Hs → Option (D × Hs) := gI (fun _ _ => true) fun i j => .int (i - j)
def inW (i : Int) : Bool := decide (-(2 ^ 64) < i) && decide (i < 2 ^ 64)
def gMul : D → D → Hs → Option (D × Hs) := gI (fun i j => inW i || inW j) fun i j => .int (i * j)
def gDiv : D → D → Hs → Option (D × Hs) := gI (fun _ j => decide (0 < j) && decide (j < 1073741824)) fun i j => .int (i / j)
def gMod : D → D → Hs → Option (D × Hs) := gI (fun _ j => decide (0 < j)) fun i j => .int (i % j)
def gPow : D → D → Hs → Option (D × Hs) := gI (fun i j => decide (0 ≤ j) && decide (j ≤ 1000000) && decide (i.natAbs < 2 ^ 64)) fun i j => .int (i ^ j.toNat)
def gLt : D → D → Hs → Option (D × Hs) := gI (fun _ _ => true) fun i j => .bl (decide (i < j))
def gLe : D → D → Hs → Option (D × Hs) := gI (fun _ _ => true) fun i j => .bl (decide (i ≤ j))
def gGt : D → D → Hs → Option (D × Hs) := gI (fun _ _ => true) fun i j => .bl (decide (j < i))
def gGe : D → D → Hs → Option (D × Hs) := gI (fun _ _ => true) fun i j => .bl (decide (j ≤ i))
section
variable {X : Cx} {Γ : Gm}
theorem gI_ok {f : Value → Value → Sem Value} {C : Int → Int → Bool} {g : Int → Int → D} {gv : Int → Int → V} {C' : Int → Int → Prop} (h : OpR X f (rI C' gv)) (hc : ∀ i j, C i j = true → C' i j) (hg : ∀ H μ i j, RV X.K H μ (g i j) (gv i j)) : Op2 X Γ f (gI C g) := by
  intro pins s σ H x y v u Q I rx ry hq
  obtain ⟨d, e, M, μ, rh, rd, re, hq⟩ := hq
  unfold gI at hq
  cases d with
  | int i =>
    cases e with
    | int j =>
      cases rd; cases re
      simp only at hq
      split at hq
      · rename_i hcc
        exact h pins s σ H _ _ v u Q I rx ry ⟨i, j, rfl, rfl, hc i j hcc, Pk.here rh hq (hg _ _ _ _)⟩
      · exact hq.elim
    | _ => exact hq.elim
  | _ => exact hq.elim
theorem gI_ok0 {f : Value → Value → Sem Value} {g : Int → Int → D} {gv : Int → Int → V} (h : OpR X f (rI0 gv)) (hg : ∀ H μ i j, RV X.K H μ (g i j) (gv i j)) : Op2 X Γ f (gI (fun _ _ => true) g) :=
  gI_ok (C' := fun _ _ => True) (gv := gv) (fun pins s σ H x y v u Q I rx ry ⟨i, j, e1, e2, _, q⟩ => h pins s σ H x y v u Q I rx ry ⟨i, j, e1, e2, q⟩) (fun _ _ _ => trivial) hg
theorem m_sub : Op2 X Γ (binaryOp .Sub) gSub := gI_ok0 op_sub fun _ _ _ _ => .int _
theorem inW_ok {i : Int} (h : inW i = true) : -(2 ^ 64) < i ∧ i < 2 ^ 64 := by
  unfold inW at h
  rw [Bool.and_eq_true, decide_eq_true_eq, decide_eq_true_eq] at h
  exact h
theorem m_mul : Op2 X Γ (binaryOp .Mult) gMul := gI_ok op_mul (fun i j h => by
  rw [Bool.or_eq_true] at h
  exact h.imp inW_ok inW_ok) fun _ _ _ _ => .int _
theorem m_div : Op2 X Γ (binaryOp .FloorDiv) gDiv := gI_ok op_fdiv (fun i j h => by
  rw [Bool.and_eq_true, decide_eq_true_eq, decide_eq_true_eq] at h
  exact h) fun _ _ _ _ => .int _
theorem m_mod : Op2 X Γ (binaryOp .Mod) gMod := gI_ok op_mod (fun i j h => of_decide_eq_true h) fun _ _ _ _ => .int _
theorem m_pow : Op2 X Γ (binaryOp .Pow) gPow := gI_ok op_pow (fun i j h => by
  rw [Bool.and_eq_true, Bool.and_eq_true, decide_eq_true_eq, decide_eq_true_eq, decide_eq_true_eq] at h
  exact ⟨h.1.1, h.1.2, h.2⟩) fun _ _ _ _ => .int _
theorem m_lt : Op2 X Γ (compareOp .Lt) gLt := gI_ok0 op_lt fun _ _ _ _ => .bl _
theorem m_le : Op2 X Γ (compareOp .LtE) gLe := gI_ok0 op_le fun _ _ _ _ => .bl _
theorem m_gt : Op2 X Γ (compareOp .Gt) gGt := gI_ok0 op_gt fun _ _ _ _ => .bl _
theorem m_ge : Op2 X Γ (compareOp .GtE) gGe := gI_ok0 op_ge fun _ _ _ _ => .bl _
theorem m_add : Op2 X Γ (binaryOp .Add) gAdd := by
  intro pins s σ H x y v u Q I rx ry hq
  obtain ⟨d, e, M, μ, rh, rd, re, hq⟩ := hq
  unfold gAdd at hq
  split at hq
  · cases rd; cases re
    exact op_add pins s σ H _ _ v u Q I rx ry ⟨_, _, rfl, rfl, Pk.here rh hq (.int _)⟩
  · cases rd; cases re
    split at hq
    · rename_i hl
      exact op_add_str pins s σ H _ _ v u Q I rx ry ⟨_, _, rfl, rfl, hl, Pk.here rh hq (.str _)⟩
    · exact hq.elim
  · cases rd with
    | tup h1 r1 =>
      cases re with
      | tup h2 r2 =>
        split at hq
        · rename_i hl
          refine op_catA pins s σ H _ _ v u Q I rx ry ⟨_, _, _, _, rfl, rfl, h1, h2, by rw [← r1.length, ← r2.length]; exact hl, fun e => ?_, fun _ e => ?_, fun _ _ p hp => Pk.tup rh hq hp (r1.append r2)⟩
          · subst e
            cases r1
            exact Pk.here rh hq (.tup h2 r2)
          · subst e
            cases r2
            rw [List.append_nil] at hq
            exact Pk.here rh hq (.tup h1 r1)
        · exact hq.elim
  · cases rd with
    | ref e1 =>
      cases re with
      | ref e2 =>
        split at hq
        · rename_i xs ys h1 h2
          obtain ⟨vs1, g1, r1⟩ := nlst rh h1 e1
          obtain ⟨vs2, g2, r2⟩ := nlst rh h2 e2
          unfold newL at hq
          split at hq
          · rename_i hl
            rw [List.length_append] at hl
            refine op_cat pins s σ H _ _ v u Q I rx ry ⟨_, _, _, _, rfl, rfl, g1, g2, by rw [← r1.length, ← r2.length]; exact hl, fun p hp => ?_⟩
            exact Pk.new rh hq hp ⟨_, upd_same, (r1.append r2).mono (Nx.fresh hp _)⟩
          · exact hq.elim
        · exact hq.elim
  · exact hq.elim
end
end Mi
end
section
set_option maxRecDepth 100000
set_option maxHeartbeats 2000000
set_option autoImplicit false
namespace Mi
open PySem PySem.Spec PyProof.Rows L2

def mapO {α β : Type} (f : α → Option β) : List α → Option (List β)
  | [] => some []
  | x :: xs => match f x, mapO f xs with
    | some y, some ys => some (y :: ys)
    | _, _ => none
/-- data as a whole -/
def toPD (M : Hs) : Nat → D → Option PyData
  | 0, _ => none
  | n + 1, d => match d with
    | .non => some .none
    | .bl b => some (.bool b)
    | .int i => some (.int i)
    | .str x => some (.str x)
    | .tup xs => match mapO (toPD M n) xs with
      | some ps => some (.tuple ps)
      | none => none
    | .ref m => match M[m]? with
      | some (.lst xs) => (match mapO (toPD M n) xs with
        | some ps => some (.list ps)
        | none => none)
      | some (.ro xs) => (match mapO (toPD M n) xs with
        | some ps => some (.list ps)
        | none => none)
      | _ => none
    | .klst _ => none
    | .exc .. => none
section
variable {P : Program} {w : World} {K : PySem.W.Frag} {Γ : Gm} {W : WX} {σ : L2.St} {μ μ' : List Addr} {H H' : Hp} {M : Hs}
theorem dpAll_of {n : Nat} (ih : ∀ d p v, toPD M n d = some p → RV K H μ d v → Dp K H v p) : ∀ {xs : List D} {ps : List PyData} {vs : List V}, mapO (toPD M n) xs = some ps → RVs K H μ xs vs → DpAll K H vs ps
  | [], ps, vs, h, r => by
    cases r
    cases h
    exact .nil
  | x :: xs, ps, vs, h, r => by
    unfold mapO at h
    split at h
    · rename_i y ys h1 h2
      cases h
      cases r with
      | cons r1 r2 => exact .cons (ih _ _ _ h1 r1) (dpAll_of ih h2 r2)
    · cases h
theorem dp_of (rh : RH P w K Γ μ M H) : ∀ (n : Nat) (d : D) (p : PyData) (v : V), toPD M n d = some p → RV K H μ d v → Dp K H v p
  | 0, _, _, _, h, _ => by cases h
  | n + 1, d, p, v, h, r => by
    have ih := dp_of rh n
    cases r with
    | non => cases h; exact .non
    | bl b => cases h; exact .bl b
    | int i => cases h; exact .int i
    | str x => cases h; exact .str x
    | kls => cases h
    | excN => cases h
    | excD => cases h
    | tup h1 r1 =>
      simp only [toPD] at h
      split at h
      · rename_i ps h2
        cases h
        exact .tup h1 (dpAll_of ih h2 r1)
      · cases h
    | ref e =>
      simp only [toPD] at h
      split at h
      · rename_i xs h3
        split at h
        · rename_i ps h2
          cases h
          obtain ⟨vs, g, r1⟩ := rh.at_ _ _ _ h3 e
          exact .lst (SqL.of g) (dpAll_of ih h2 r1)
        · cases h
      · rename_i xs h3
        split at h
        · rename_i ps h2
          cases h
          obtain ⟨vs, ⟨o, g⟩, r1⟩ := rh.at_ _ _ _ h3 e
          exact .lst (.inl (.inr ⟨o, g⟩)) (dpAll_of ih h2 r1)
        · cases h
      · cases h
end
/-- how deep data may lie -/
def deep : Nat := 12
def gEqB (k : Bool → Bool) (x y : D) (M : Hs) : Option (D × Hs) := match toPD M deep x, toPD M deep y with
  | some p, some q => if (SeqAt.shaped p && SeqAt.shaped q) = true then some (.bl (k (PyData.eqv p q)), M) else none
  | _, _ => none
def gEq : D → D → Hs → Option (D × Hs) := gEqB id
def gNe : D → D → Hs → Option (D × Hs) := gEqB not
def gInB (k : Bool → Bool) (x y : D) (M : Hs) : Option (D × Hs) := match toPD M deep x, toPD M deep y with
  | some p, some (.list qs) => if (SeqAt.shaped p && SeqAt.shaped (.list qs)) = true then some (.bl (k (qs.any fun z => PyData.eqv z p)), M) else none
  | some p, some (.tuple qs) => if (SeqAt.shaped p && SeqAt.shaped (.tuple qs)) = true then some (.bl (k (qs.any fun z => PyData.eqv z p)), M) else none
  | _, _ => none
def gIn : D → D → Hs → Option (D × Hs) := gInB id
def gNotIn : D → D → Hs → Option (D × Hs) := gInB not
def isNon : D → Bool
  | .non => true
  | _ => false
def gIsN (k : Bool → Bool) (x y : D) (M : Hs) : Option (D × Hs) := match y with
  | .non => some (.bl (k (isNon x)), M)
  | _ => none
def gIs : D → D → Hs → Option (D × Hs) := gIsN id
def gIsNot : D → D → Hs → Option (D × Hs) := gIsN not
section
variable {X : Cx} {Γ : Gm}
theorem m_eq (hu : X.A.units + 64 < cLine) : Op2 X Γ (compareOp .Eq) gEq := by
  intro pins s σ H x y v u Q I rx ry hq
  obtain ⟨d, e, M, μ, rh, rd, re, hq⟩ := hq
  unfold gEq gEqB at hq
  split at hq
  · rename_i p q h1 h2
    split at hq
    · rename_i hs
      rw [Bool.and_eq_true] at hs
      exact op_eqD hu pins s σ H _ _ v u Q I rx ry ⟨p, q, dp_of rh _ _ _ _ h1 rd, dp_of rh _ _ _ _ h2 re, hs.1, hs.2, Pk.here rh hq (.bl _)⟩
    · exact hq.elim
  · exact hq.elim
theorem m_ne (hu : X.A.units + 64 < cLine) : Op2 X Γ (compareOp .NotEq) gNe := by
  intro pins s σ H x y v u Q I rx ry hq
  obtain ⟨d, e, M, μ, rh, rd, re, hq⟩ := hq
  unfold gNe gEqB at hq
  split at hq
  · rename_i p q h1 h2
    split at hq
    · rename_i hs
      rw [Bool.and_eq_true] at hs
      exact op_neD hu pins s σ H _ _ v u Q I rx ry ⟨p, q, dp_of rh _ _ _ _ h1 rd, dp_of rh _ _ _ _ h2 re, hs.1, hs.2, Pk.here rh hq (.bl _)⟩
    · exact hq.elim
  · exact hq.elim
theorem m_in (hu : X.A.units + 65 < cLine) : Op2 X Γ (compareOp .In) gIn := by
  intro pins s σ H x y v u Q I rx ry hq
  obtain ⟨d, e, M, μ, rh, rd, re, hq⟩ := hq
  unfold gIn gInB at hq
  split at hq
  · rename_i p qs h1 h2
    split at hq
    · rename_i hs
      rw [Bool.and_eq_true] at hs
      exact op_inD hu pins s σ H _ _ v u Q I rx ry ⟨p, qs, dp_of rh _ _ _ _ h1 rd, dp_of rh _ _ _ _ h2 re, hs.1, hs.2, Pk.here rh hq (.bl _)⟩
    · exact hq.elim
  · rename_i p qs h1 h2
    split at hq
    · rename_i hs
      rw [Bool.and_eq_true] at hs
      obtain ⟨as, r1⟩ := Dp.reads I p x v (dp_of rh _ _ _ _ h1 rd) rx
      obtain ⟨bs, r2⟩ := Dp.reads I (.tuple qs) y u (dp_of rh _ _ _ _ h2 re) ry
      exact SeqAt.in_tuple_reads r2 r1 (SeqAt.canLay_of_shaped hs.2) (SeqAt.canLay_of_shaped hs.1) (room_in_shaped hs.1 hu) ⟨.bl _, H, I, rfl, Pk.here rh hq (.bl _)⟩
    · exact hq.elim
  · exact hq.elim
theorem m_notIn (hu : X.A.units + 65 < cLine) : Op2 X Γ (compareOp .NotIn) gNotIn := by
  intro pins s σ H x y v u Q I rx ry hq
  obtain ⟨d, e, M, μ, rh, rd, re, hq⟩ := hq
  unfold gNotIn gInB at hq
  split at hq
  · rename_i p qs h1 h2
    split at hq
    · rename_i hs
      rw [Bool.and_eq_true] at hs
      exact op_notInD hu pins s σ H _ _ v u Q I rx ry ⟨p, qs, dp_of rh _ _ _ _ h1 rd, dp_of rh _ _ _ _ h2 re, hs.1, hs.2, Pk.here rh hq (.bl _)⟩
    · exact hq.elim
  · rename_i p qs h1 h2
    split at hq
    · rename_i hs
      rw [Bool.and_eq_true] at hs
      obtain ⟨as, r1⟩ := Dp.reads I p x v (dp_of rh _ _ _ _ h1 rd) rx
      obtain ⟨bs, r2⟩ := Dp.reads I (.tuple qs) y u (dp_of rh _ _ _ _ h2 re) ry
      exact SeqAt.notIn_tuple_reads r2 r1 (SeqAt.canLay_of_shaped hs.2) (SeqAt.canLay_of_shaped hs.1) (room_in_shaped hs.1 hu) ⟨.bl _, H, I, rfl, Pk.here rh hq (.bl _)⟩
    · exact hq.elim
  · exact hq.elim
theorem isN_of {K : PySem.W.Frag} {H : Hp} {μ : List Addr} {d : D} {x : V} (r : RV K H μ d x) : decide (x = .non) = isNon d := by
  cases r <;> first | rfl | exact decide_eq_false (fun e => by cases e)
theorem m_is : Op2 X Γ (compareOp .Is) gIs := by
  intro pins s σ H x y v u Q I rx ry hq
  obtain ⟨d, e, M, μ, rh, rd, re, hq⟩ := hq
  unfold gIs gIsN at hq
  split at hq
  · cases re
    exact op_isN pins s σ H _ _ v u Q I rx ry ⟨rfl, by rw [isN_of rd]; exact Pk.here rh hq (.bl _)⟩
  · exact hq.elim
theorem m_isNot : Op2 X Γ (compareOp .IsNot) gIsNot := by
  intro pins s σ H x y v u Q I rx ry hq
  obtain ⟨d, e, M, μ, rh, rd, re, hq⟩ := hq
  unfold gIsNot gIsN at hq
  split at hq
  · cases re
    exact op_notN pins s σ H _ _ v u Q I rx ry ⟨rfl, by rw [isN_of rd]; exact Pk.here rh hq (.bl _)⟩
  · exact hq.elim
end

def tAnd2 (f g : MT) : MT := fun ζ M => (f ζ M).bind fun c M1 => if c = true then g ζ M1 else .ok false M1
def tOr2 (f g : MT) : MT := fun ζ M => (f ζ M).bind fun c M1 => if c = true then .ok true M1 else g ζ M1
def tNot1 (f : MT) : MT := fun ζ M => (f ζ M).bind fun c M1 => .ok (!c) M1
def xAnd (f g : MX) : MX := fun ζ M => (f ζ M).bind fun x M1 => match x with
  | .bl true => g ζ M1
  | .bl false => .ok (.bl false) M1
  | _ => .no
def xOr (f g : MX) : MX := fun ζ M => (f ζ M).bind fun x M1 => match x with
  | .bl true => .ok (.bl true) M1
  | .bl false => g ζ M1
  | _ => .no
def xNot (f : MX) : MX := fun ζ M => (f ζ M).bind fun x M1 => match x with
  | .bl k => .ok (.bl (!k)) M1
  | _ => .no
def xIf (t : MT) (f g : MX) : MX := fun ζ M => (t ζ M).bind fun c M1 => if c = true then f ζ M1 else g ζ M1
def xNeg (f : MX) : MX := fun ζ M => (f ζ M).bind fun x M1 => match x with
  | .int i => .ok (.int (-i)) M1
  | _ => .no
section
variable {X : Cx} {Γ : Gm} {W : WX} {a b c : Expr} {rest : List Expr} {fa fb fc : MX} {ta tb : MT} {pos : Pos}
theorem PW.imp {e : Expr} {t t' : TT} (h : PW X e t) (i : ∀ σ H Q, t' σ H Q → t σ H Q) : PW X e t' := ⟨fun wh pins s σ H Q I q => h.run wh pins s σ H Q I (i _ _ _ q)⟩
theorem et_and1 (ha : ET X Γ W a ta) : EW X Γ W (.BoolOp .And [a] pos) ta := pw_and1 ha
theorem et_or1 (ha : ET X Γ W a ta) : EW X Γ W (.BoolOp .Or [a] pos) ta := pw_or1 ha
theorem et_and (ha : ET X Γ W a ta) (hb : EW X Γ W (.BoolOp .And (b :: rest) pos) tb) : EW X Γ W (.BoolOp .And (a :: b :: rest) pos) (tAnd2 ta tb) :=
  PW.imp (pw_and ha hb) fun σ H Q ⟨ζ, M, μ, rr, h⟩ => ⟨ζ, M, μ, rr, Pst.then h fun v H1 d M1 μ1 nx rh rv h1 => by
    have rv : d = v := rv
    subst rv
    cases d with
    | true => exact ⟨ζ, M1, μ1, ⟨rr.sl.mono nx, rh⟩, h1⟩
    | false => exact h1 _ _ _ (Nx.refl _ _) rh rfl⟩
theorem et_or (ha : ET X Γ W a ta) (hb : EW X Γ W (.BoolOp .Or (b :: rest) pos) tb) : EW X Γ W (.BoolOp .Or (a :: b :: rest) pos) (tOr2 ta tb) :=
  PW.imp (pw_or ha hb) fun σ H Q ⟨ζ, M, μ, rr, h⟩ => ⟨ζ, M, μ, rr, Pst.then h fun v H1 d M1 μ1 nx rh rv h1 => by
    have rv : d = v := rv
    subst rv
    cases d with
    | false => exact ⟨ζ, M1, μ1, ⟨rr.sl.mono nx, rh⟩, h1⟩
    | true => exact h1 _ _ _ (Nx.refl _ _) rh rfl⟩
theorem et_w (h : EW X Γ W a ta) : ET X Γ W a ta := PW.pt h
theorem et_not (ha : ET X Γ W a ta) : ET X Γ W (.UnaryOp .Not a pos) (tNot1 ta) :=
  PT.imp (pt_not ha) fun σ H Q ⟨ζ, M, μ, rr, h⟩ => ⟨ζ, M, μ, rr, Pst.then h fun v H1 d M1 μ1 nx rh rv h1 => by
    cases rv
    exact h1 _ _ _ (Nx.refl _ _) rh rfl⟩
theorem ex_one {op} (h : EX X Γ W a fa) : EX X Γ W (.BoolOp op [a] pos) fa := pe_one h
theorem ex_and (ha : EX X Γ W a fa) (hb : EX X Γ W (.BoolOp .And (b :: rest) pos) fb) : EX X Γ W (.BoolOp .And (a :: b :: rest) pos) (xAnd fa fb) :=
  PE.imp (pe_and ha hb) fun σ H Q ⟨ζ, M, μ, rr, h⟩ => ⟨ζ, M, μ, rr, Pst.then h fun v H1 d M1 μ1 nx rh rv h1 => by
    cases d with
    | bl k =>
      cases rv
      refine ⟨k, rfl, ?_⟩
      cases k with
      | true => exact ⟨ζ, M1, μ1, ⟨rr.sl.mono nx, rh⟩, h1⟩
      | false => exact h1 _ _ _ (Nx.refl _ _) rh (.bl _)
    | _ => exact h1.elim⟩
theorem ex_or (ha : EX X Γ W a fa) (hb : EX X Γ W (.BoolOp .Or (b :: rest) pos) fb) : EX X Γ W (.BoolOp .Or (a :: b :: rest) pos) (xOr fa fb) :=
  PE.imp (pe_or ha hb) fun σ H Q ⟨ζ, M, μ, rr, h⟩ => ⟨ζ, M, μ, rr, Pst.then h fun v H1 d M1 μ1 nx rh rv h1 => by
    cases d with
    | bl k =>
      cases rv
      refine ⟨k, rfl, ?_⟩
      cases k with
      | false => exact ⟨ζ, M1, μ1, ⟨rr.sl.mono nx, rh⟩, h1⟩
      | true => exact h1 _ _ _ (Nx.refl _ _) rh (.bl _)
    | _ => exact h1.elim⟩
theorem ex_not (ha : EX X Γ W a fa) : EX X Γ W (.UnaryOp .Not a pos) (xNot fa) :=
  PE.imp (pe_not ha) fun σ H Q ⟨ζ, M, μ, rr, h⟩ => ⟨ζ, M, μ, rr, Pst.then h fun v H1 d M1 μ1 nx rh rv h1 => by
    cases d with
    | bl k =>
      cases rv
      exact ⟨k, rfl, h1 _ _ _ (Nx.refl _ _) rh (.bl _)⟩
    | _ => exact h1.elim⟩
theorem ex_if (hc : ET X Γ W c ta) (ha : EX X Γ W a fa) (hb : EX X Γ W b fb) : EX X Γ W (.IfExp c a b pos) (xIf ta fa fb) :=
  PE.imp (pe_ifExp hc ha hb) fun σ H Q ⟨ζ, M, μ, rr, h⟩ => ⟨ζ, M, μ, rr, Pst.then h fun v H1 d M1 μ1 nx rh rv h1 => by
    have rv : d = v := rv
    subst rv
    cases d with
    | true => exact ⟨ζ, M1, μ1, ⟨rr.sl.mono nx, rh⟩, h1⟩
    | false => exact ⟨ζ, M1, μ1, ⟨rr.sl.mono nx, rh⟩, h1⟩⟩
theorem ex_neg (ha : EX X Γ W a fa) : EX X Γ W (.UnaryOp .USub a pos) (xNeg fa) :=
  PE.imp (pe_un un_neg ha) fun σ H Q ⟨ζ, M, μ, rr, h⟩ => ⟨ζ, M, μ, rr, Pst.then h fun v H1 d M1 μ1 nx rh rv h1 => by
    cases d with
    | int i =>
      cases rv
      exact ⟨i, rfl, h1 _ _ _ (Nx.refl _ _) rh (.int _)⟩
    | _ => exact h1.elim⟩
theorem tChain_of {g g' : D → D → Hs → Option (D × Hs)} {σ : L2.St} {H : Hp} {Q : VK} (h : tX X.prog X.w X.K Γ W (x3 g g' fa fb fc) σ H Q) :
    tChain (r2 X.prog X.w X.K Γ g) (r2 X.prog X.w X.K Γ g') (tX X.prog X.w X.K Γ W fa) (tX X.prog X.w X.K Γ W fb) (tX X.prog X.w X.K Γ W fc) σ H Q := by
  obtain ⟨ζ, M, μ, rr, h⟩ := h
  refine ⟨ζ, M, μ, rr, Pst.then h fun v H1 d M1 μ1 nx rh rv h1 => ⟨ζ, M1, μ1, ⟨rr.sl.mono nx, rh⟩, Pst.then h1 fun v2 H2 e M2 μ2 nx2 rh2 rv2 h2 => ⟨d, e, M2, μ2, rh2, rv.mono nx2, rv2, ?_⟩⟩⟩
  cases hg : g d e M2 with
  | none => rw [hg] at h2; exact h2.elim
  | some p =>
    rw [hg] at h2
    obtain ⟨z, M3⟩ := p
    intro v3 H3 μ3 nx3 rh3 rv3
    have h3 := Pst.mono h2 nx3
    cases z with
    | bl k =>
      cases rv3
      refine ⟨k, rfl, ?_⟩
      cases k with
      | true =>
        rw [if_pos rfl]
        exact ⟨ζ, M3, μ3, ⟨(rr.sl.mono nx).mono (nx2.trans nx3), rh3⟩, Pst.then h3 fun v4 H4 u M4 μ4 nx4 rh4 rv4 h4 => ⟨e, u, M4, μ4, rh4, (rv2.mono nx3).mono nx4, rv4, h4.of⟩⟩
      | false =>
        rw [if_neg Bool.false_ne_true]
        exact h3 _ _ _ (Nx.refl _ _) rh3 (.bl _)
    | _ => exact h3.elim
theorem ex_chain {op op' : CmpOp} {g g' : D → D → Hs → Option (D × Hs)} (ho : Op2 X Γ (compareOp op) g) (ho' : Op2 X Γ (compareOp op') g') (ha : EX X Γ W a fa) (hb : EX X Γ W b fb) (hc : EX X Γ W c fc)
    (hm : lastMarks [op, op'] [b, c] = false := by with_unfolding_all rfl) : EX X Γ W (.Compare a [op, op'] [b, c] pos) (x3 g g' fa fb fc) := PE.imp (pe_chain ho ho' ha hb hc hm) fun _ _ _ h => tChain_of h
theorem et_chain {op op' : CmpOp} {g g' : D → D → Hs → Option (D × Hs)} (ho : Op2 X Γ (compareOp op) g) (ho' : Op2 X Γ (compareOp op') g') (ha : EX X Γ W a fa) (hb : EX X Γ W b fb) (hc : EX X Γ W c fc)
    (hm : lastMarks [op, op'] [b, c] = false := by with_unfolding_all rfl) : ET X Γ W (.Compare a [op, op'] [b, c] pos) (tB1 (x3 g g' fa fb fc)) := PT.imp (pt_chain ho ho' ha hb hc hm) fun _ _ _ h => tTest_of (fun _ => tChain_of) h
end
end Mi
end
section
set_option maxRecDepth 100000
set_option maxHeartbeats 2000000
set_option autoImplicit false
namespace Mi
open PySem PySem.Spec PyProof.Rows L2

def aNil : MA := fun _ M => .ok [] M
def aCons (f : MX) (g : MA) : MA := fun ζ M => (f ζ M).bind fun x M1 => (g ζ M1).bind fun xs M2 => .ok (x :: xs) M2
def aStar (f : MX) (g : MA) : MA := fun ζ M => (f ζ M).bind fun x M1 => match hSeq M1 x with
  | some ys => (g ζ M1).bind fun xs M2 => .ok (ys ++ xs) M2
  | none => .no
def xTup (g : MA) : MX := fun ζ M => (g ζ M).bind fun ds M1 => if ds.length ≤ sizeLine then .ok (.tup ds) M1 else .no
def xLst (g : MA) : MX := fun ζ M => (g ζ M).bind fun ds M1 => R.of (newL ds M1)
section
variable {X : Cx} {Γ : Gm} {W : WX} {a b c e : Expr} {es : List Expr} {fa fb fc fe : MX} {ga : MA} {pos p : Pos}
theorem ea_nil : EA X Γ W [] aNil := PA.imp pa_nil fun σ H Q ⟨ζ, M, μ, rr, h⟩ => h _ _ _ (Nx.refl _ _) rr.hp .nil
theorem ea_cons (he : EX X Γ W e fe) (hr : EA X Γ W es ga) (hs : starEach (e :: es) X.env = (false, eval e X.env) :: starEach es X.env := by rfl) : EA X Γ W (e :: es) (aCons fe ga) :=
  PA.imp (pa_cons he hr hs) fun σ H Q ⟨ζ, M, μ, rr, h⟩ => ⟨ζ, M, μ, rr, Pst.then h fun v H1 d M1 μ1 nx rh rv h1 => ⟨ζ, M1, μ1, ⟨rr.sl.mono nx, rh⟩, Pst.then h1 fun vs H2 ds M2 μ2 nx2 rh2 rvs h2 =>
    h2 _ _ _ (Nx.refl _ _) rh2 (.cons (rv.mono nx2) rvs)⟩⟩
theorem hSeq_ok {P : Program} {w : World} {K : PySem.W.Frag} {μ : List Addr} {M : Hs} {H : Hp} {d : D} {v : V} {xs : List D} (rh : RH P w K Γ μ M H) (h : hSeq M d = some xs) (r : RV K H μ d v) : ∃ a vs, v = .ref a ∧ (SqL K H a vs ∨ SqT K H a vs) ∧ RVs K H μ xs vs := by
  cases r with
  | tup h1 r1 => cases h; exact ⟨_, _, rfl, .inr h1, r1⟩
  | kls h1 r1 => cases h; exact ⟨_, _, rfl, .inl h1.sq, r1⟩
  | ref e1 =>
    simp only [hSeq] at h
    split at h
    · rename_i ys h2
      cases h
      obtain ⟨vs, g, r1⟩ := rh.at_ _ _ _ h2 e1
      exact ⟨_, vs, rfl, .inl (SqL.of g), r1⟩
    · rename_i ys h2
      cases h
      obtain ⟨vs, ⟨o, g⟩, r1⟩ := rh.at_ _ _ _ h2 e1
      exact ⟨_, vs, rfl, .inl (.inl (.inr ⟨o, g⟩)), r1⟩
    · cases h
  | _ => cases h
theorem hRef_ok {P : Program} {w : World} {K : PySem.W.Frag} {μ : List Addr} {M : Hs} {H : Hp} {n : Nat} {v : V} {xs : List D} (rh : RH P w K Γ μ M H) (h : hSeq M (.ref n) = some xs) (r : RV K H μ (.ref n) v) : ∃ a vs, v = .ref a ∧ SqL K H a vs ∧ RVs K H μ xs vs := by
  cases r with
  | ref e1 =>
    simp only [hSeq] at h
    split at h
    · rename_i ys h2
      cases h
      obtain ⟨vs, g, r1⟩ := rh.at_ _ _ _ h2 e1
      exact ⟨_, vs, rfl, SqL.of g, r1⟩
    · rename_i ys h2
      cases h
      obtain ⟨vs, ⟨o, g⟩, r1⟩ := rh.at_ _ _ _ h2 e1
      exact ⟨_, vs, rfl, (.inl (.inr ⟨o, g⟩)), r1⟩
    · cases h
theorem ea_star (he : EX X Γ W e fe) (hr : EA X Γ W es ga) (hs : starEach (.Starred e p :: es) X.env = (true, eval e X.env) :: starEach es X.env := by rfl) : EA X Γ W (.Starred e p :: es) (aStar fe ga) :=
  PA.imp (StX.pa_star he hr hs) fun σ H Q ⟨ζ, M, μ, rr, h⟩ => ⟨ζ, M, μ, rr, Pst.then h fun v H1 d M1 μ1 nx rh rv h1 => by
    cases hq : hSeq M1 d with
    | none => rw [hq] at h1; exact h1.elim
    | some ys =>
      rw [hq] at h1
      obtain ⟨a, vs, rfl, hs, r⟩ := hSeq_ok rh hq rv
      exact ⟨a, vs, rfl, hs.symm, ⟨ζ, M1, μ1, ⟨rr.sl.mono nx, rh⟩, Pst.then h1 fun ws H2 ds M2 μ2 nx2 rh2 rvs h2 => h2 _ _ _ (Nx.refl _ _) rh2 ((r.mono nx2).append rvs)⟩⟩⟩
theorem ex_tup {k} (ha : EA X Γ W es ga) : EX X Γ W (.Tuple es k pos) (xTup ga) :=
  PE.imp (pe_tup ha) fun σ H Q ⟨ζ, M, μ, rr, h⟩ => ⟨ζ, M, μ, rr, Pst.then h fun vs H1 ds M1 μ1 nx rh rv h1 => by
    split at h1
    · rename_i hl
      exact ⟨by rw [← RVs.length rv]; exact hl, fun p hp => h1 _ _ _ (Nx.fresh0 hp) (rh.fresh hp) (.tup (SqT.of upd_same) (RVs.mono (Nx.fresh0 hp) rv))⟩
    · exact h1.elim⟩
theorem ex_lst (ha : EA X Γ W es ga) : EX X Γ W (.List es pos) (xLst ga) :=
  PE.imp (pe_lst ha) fun σ H Q ⟨ζ, M, μ, rr, h⟩ => ⟨ζ, M, μ, rr, Pst.then h fun vs H1 ds M1 μ1 nx rh rv h1 => by
    unfold newL at h1
    split at h1
    · rename_i hl
      exact ⟨by rw [← RVs.length rv]; exact hl, fun p hp => Pk.new rh h1 hp ⟨_, upd_same, RVs.mono (Nx.fresh hp _) rv⟩⟩
    · exact h1.elim⟩

def gIx (x y : D) (M : Hs) : Option (D × Hs) := match hSeq M x, y with
  | some xs, .int i => match atI xs i with
    | some d => some (d, M)
    | none => none
  | _, _ => none
theorem atI_rel {K : PySem.W.Frag} {H : Hp} {μ : List Addr} {xs : List D} {vs : List V} {i : Int} {d : D} (r : RVs K H μ xs vs) (h : atI xs i = some d) : ∃ v, atI vs i = some v ∧ RV K H μ d v := by
  unfold atI at h ⊢
  rw [← r.length]
  cases e : ixN xs.length i with
  | none => rw [e] at h; cases h
  | some j =>
    rw [e] at h
    exact r.get h
theorem ix_any : IxR X (fun x y H Q => rIxL X.K x y H Q ∨ rIxT X.K x y H Q) := ix_list.or ix_tup
theorem ex_ix (ha : EX X Γ W a fa) (hb : EX X Γ W b fb) (hs : PlainIx b := by intro _ _; rfl) : EX X Γ W (.Subscript a b pos) (x2 gIx fa fb) :=
  PE.imp (pe_ix ix_any ha hb hs) fun σ H Q ⟨ζ, M, μ, rr, h⟩ => ⟨ζ, M, μ, rr, Pst.then h fun v H1 d M1 μ1 nx rh rv h1 => ⟨ζ, M1, μ1, ⟨rr.sl.mono nx, rh⟩, Pst.then h1 fun v2 H2 e M2 μ2 nx2 rh2 rv2 h2 => by
    replace h2 := h2.of
    unfold gIx at h2
    split at h2
    · rename_i xs i hq
      cases rv2
      split at h2
      · rename_i z hz
        obtain ⟨a, vs, rfl, hs, r⟩ := hSeq_ok rh2 hq (RV.mono nx2 rv)
        obtain ⟨u, g1, g2⟩ := atI_rel r hz
        rcases hs with hs | hs
        · exact .inl ⟨_, _, _, _, rfl, rfl, hs, g1, Pk.here rh2 h2 g2⟩
        · exact .inr ⟨_, _, _, _, rfl, rfl, hs, g1, Pk.here rh2 h2 g2⟩
      · exact h2.elim
    · exact h2.elim⟩⟩
abbrev MO' := Sl → Hs → R (Option Int)
def oNone : MO' := fun _ M => .ok none M
def oSome (f : MX) : MO' := fun ζ M => (f ζ M).bind fun x M1 => match x with
  | .int i => .ok (some i) M1
  | _ => .no
abbrev EO (X : Cx) (Γ : Gm) (W : WX) (e : Option Expr) (f : MO') : Prop := PO X e (fun σ H Q => ∃ ζ M μ, RR X.prog X.w X.K Γ μ H ζ M σ ∧ Pst X.prog X.w X.K Γ (fun _ _ a b => a = b) W σ μ H (f ζ M) Q)
theorem PO.imp {e : Option Expr} {t t' : TO} (h : PO X e t) (i : ∀ σ H Q, t' σ H Q → t σ H Q) : PO X e t' := ⟨fun pins s σ H Q I q => h.run pins s σ H Q I (i _ _ _ q)⟩
theorem eo_none : EO X Γ W none oNone := PO.imp po_none fun σ H Q ⟨ζ, M, μ, rr, h⟩ => h _ _ _ (Nx.refl _ _) rr.hp rfl
theorem eo_some (ha : EX X Γ W a fa) : EO X Γ W (some a) (oSome fa) := PO.imp (po_some ha) fun σ H Q ⟨ζ, M, μ, rr, h⟩ => ⟨ζ, M, μ, rr, Pst.then h fun v H1 d M1 μ1 nx rh rv h1 => by
  cases d with
  | int i => cases rv; exact ⟨i, rfl, h1 _ _ _ (Nx.refl _ _) rh rfl⟩
  | _ => exact h1.elim⟩
def cutD {α : Type} (xs : List α) (lo hi : Option Int) : List α := (xs.drop (HT.sIx xs.length 0 lo)).take (HT.sIx xs.length xs.length hi - HT.sIx xs.length 0 lo)
theorem cut_rel {K : PySem.W.Frag} {H : Hp} {μ : List Addr} {xs : List D} {vs : List V} (r : RVs K H μ xs vs) (lo hi : Option Int) : RVs K H μ (cutD xs lo hi) (cutV vs lo hi) := by
  unfold cutD cutV
  rw [← r.length]
  exact (r.drop _).take _
theorem cutV_whole {vs : List V} {lo hi : Option Int} (h : HT.sIx vs.length 0 lo = 0 ∧ HT.sIx vs.length vs.length hi = vs.length) : cutV vs lo hi = vs := by
  unfold cutV
  rw [h.1, h.2]
  simp
def gCut (x : D) (lo hi : Option Int) (M : Hs) : Option (D × Hs) := match x with
  | .tup xs => some (.tup (cutD xs lo hi), M)
  | .ref n => match hSeq M (.ref n) with
    | some xs => some (.ref M.length, M ++ [.lst (cutD xs lo hi)])
    | none => none
  | _ => none
def xCut (f : MX) (l h : MO') : MX := fun ζ M => (f ζ M).bind fun x M1 => (l ζ M1).bind fun i M2 => (h ζ M2).bind fun j M3 => R.of (gCut x i j M3)
theorem sl_any : L2.SlR X (fun x lo hi H Q => rSlL X.K x lo hi H Q ∨ rSlA X.K x lo hi H Q) := sl_list.or sl_tupA
theorem ex_cut {lo hi : Option Expr} {fl fh : MO'} {p2 : Pos} (ha : EX X Γ W a fa) (hl : EO X Γ W lo fl) (hh : EO X Γ W hi fh) : EX X Γ W (.Subscript a (.Slice lo hi none p2) pos) (xCut fa fl fh) :=
  PE.imp (pe_slice sl_any ha hl hh) fun σ H Q ⟨ζ, M, μ, rr, h⟩ => ⟨ζ, M, μ, rr, Pst.then h fun v H1 d M1 μ1 nx rh rv h1 => ⟨ζ, M1, μ1, ⟨rr.sl.mono nx, rh⟩, Pst.then h1 fun v2 H2 i M2 μ2 nx2 rh2 rv2 h2 =>
    ⟨ζ, M2, μ2, ⟨(rr.sl.mono nx).mono nx2, rh2⟩, Pst.then h2 fun v3 H3 j M3 μ3 nx3 rh3 rv3 h3 => by
    replace h3 := h3.of
    replace rv2 : i = v2 := rv2
    replace rv3 : j = v3 := rv3
    subst rv2 rv3
    replace rv := (RV.mono nx2 rv).mono nx3
    unfold gCut at h3
    split at h3
    · cases rv with
      | tup g r =>
        refine .inr ⟨_, _, rfl, g, fun hw => ?_, fun hw p hp => Pk.tup rh3 h3 hp (cut_rel r _ _)⟩
        refine Pk.here rh3 h3 (.tup g ?_)
        have := cut_rel r i j
        rwa [cutV_whole hw] at this
    · split at h3
      · rename_i n xs hq
        obtain ⟨a, vs, rfl, hs, r⟩ := hRef_ok rh3 hq rv
        exact .inl ⟨_, _, rfl, hs, fun p hp => Pk.new rh3 h3 hp ⟨_, upd_same, (cut_rel r _ _).mono (Nx.fresh hp _)⟩⟩
      · exact h3.elim
    · exact h3.elim⟩⟩⟩
def gRevL (x : D) (M : Hs) : Option (D × Hs) := match x with
  | .ref n => match hSeq M (.ref n) with
    | some xs => some (.ref M.length, M ++ [.lst xs.reverse])
    | none => none
  | _ => none
end
end Mi
end
section
set_option maxRecDepth 100000
set_option maxHeartbeats 2000000
set_option autoImplicit false
namespace Mi
open PySem PySem.Spec PyProof.Rows L2

abbrev GL := List D → Hs → Option (D × Hs)
def xB (g : GL) (fas : MA) : MX := fun ζ M => (fas ζ M).bind fun ds M1 => R.of (g ds M1)
def rC (P : Program) (w : World) (K : PySem.W.Frag) (Γ : Gm) (g : GL) : List V → Hp → VK → Prop := fun xs H Q => ∃ ds M μ, RH P w K Γ μ M H ∧ RVs K H μ ds xs ∧ Pk P w K Γ (relV K) μ H (g ds M) Q
abbrev CB (X : Cx) (Γ : Gm) (f : Value) (g : GL) : Prop := CallR X f (rC X.prog X.w X.K Γ g)
abbrev GM := D → List D → Hs → Option (D × Hs)
def xMeth (ok : D → Hs → Bool) (g : GM) (fo : MX) (fas : MA) : MX := fun ζ M => (fo ζ M).bind fun x M1 => if ok x M1 = true then (fas ζ M1).bind fun ds M2 => R.of (g x ds M2) else .no
def rM (P : Program) (w : World) (K : PySem.W.Frag) (Γ : Gm) (g : GM) : V → List V → Hp → VK → Prop := fun x xs H Q => ∃ d ds M μ, RH P w K Γ μ M H ∧ RV K H μ d x ∧ RVs K H μ ds xs ∧ Pk P w K Γ (relV K) μ H (g d ds M) Q
abbrev CM (X : Cx) (Γ : Gm) (id : String) (g : GM) : Prop := MtR X id (rM X.prog X.w X.K Γ g)
def isLst (d : D) (M : Hs) : Bool := match d with
  | .ref n => (hLst M n).isSome
  | _ => false
def isStr (d : D) (_ : Hs) : Bool := match d with
  | .str _ => true
  | _ => false
/-- of which built-in type a value is told -/
def TyOk (T : String) (ok : D → Hs → Bool) : Prop := ∀ {P : Program} {w : World} {K : PySem.W.Frag} {Γ : Gm} {μ : List Addr} {M : Hs} {H : Hp} {d : D} {v : V}, RH P w K Γ μ M H → RV K H μ d v → ok d M = true → tyV K T v H
theorem hLst_ok {P : Program} {w : World} {K : PySem.W.Frag} {Γ : Gm} {μ : List Addr} {M : Hs} {H : Hp} {n : Nat} {xs : List D} (rh : RH P w K Γ μ M H) (h : hLst M n = some xs) : M[n]? = some (.lst xs) := by
  unfold hLst at h
  split at h
  · rename_i ys e
    cases h
    exact e
  · cases h
theorem ty_lst : TyOk "list" isLst := by
  intro P w K Γ μ M H d v rh r h
  unfold isLst at h
  split at h
  · rename_i n
    cases r with
    | ref e =>
      obtain ⟨xs, hx⟩ := Option.isSome_iff_exists.mp h
      obtain ⟨vs, g, _⟩ := nlst rh (hLst_ok rh hx) e
      exact .inl ⟨rfl, vs, SqL.of g⟩
  · cases h
theorem ty_str : TyOk "str" isStr := by
  intro P w K Γ μ M H d v rh r h
  unfold isStr at h
  split at h
  · cases r
    rfl
  · cases h
section
variable {X : Cx} {Γ : Gm} {W : WX} {a b c e o : Expr} {es : List Expr} {fa fb fc fe fo : MX} {ga : MA} {pos p apos cpos : Pos} {x name : Str} {id T : String}
theorem tCB_of {g : GL} {σ : L2.St} {H : Hp} {Q : VK} (h : tX X.prog X.w X.K Γ W (xB g ga) σ H Q) : tCB (rC X.prog X.w X.K Γ g) (tA X.prog X.w X.K Γ W ga) σ H Q := by
  obtain ⟨ζ, M, μ, rr, h⟩ := h
  exact ⟨ζ, M, μ, rr, Pst.then h fun vs H1 ds M1 μ1 nx rh rv h1 => ⟨ds, M1, μ1, rh, rv, h1.of⟩⟩
theorem ex_callB {g : GL} (hc : CB X Γ (.builtin id) g) (hm : X.mg x = none) (hv : bootBuiltins x = some (.builtin id)) (ha : EA X Γ W (e :: es) ga) (hg : Gl X x := by rfl) (hn : x ≠ "__name__" := by decide) (hdb : (x == ("__debug__" : Str)) = false := by decide)
    (he : starEach (e :: es) X.env = (false, eval e X.env) :: starEach es X.env := by rfl) (hpl : (backTo pos (starEach es X.env)).any (·.1) = false := by rfl) : EX X Γ W (.Call (.Name x p) (e :: es) [] pos) (xB g ga) :=
  PE.imp (pe_callB hc hg hm hv ha hn hdb he hpl) fun _ _ _ h => tCB_of h
theorem ex_callTy {g : GL} (hc : CB X Γ (.type T) g) (hm : X.mg x = none) (hv : bootBuiltins x = some (.type T)) (ha : EA X Γ W (e :: es) ga) (hg : Gl X x := by rfl) (hn : x ≠ "__name__" := by decide) (hdb : (x == ("__debug__" : Str)) = false := by decide)
    (he : starEach (e :: es) X.env = (false, eval e X.env) :: starEach es X.env := by rfl) (hpl : (backTo pos (starEach es X.env)).any (·.1) = false := by rfl) : EX X Γ W (.Call (.Name x p) (e :: es) [] pos) (xB g ga) :=
  PE.imp (pe_callTy hc hg hm hv ha hn hdb he hpl) fun _ _ _ h => tCB_of h
theorem ex_meth {ok : D → Hs → Bool} {g : GM} (pa : PlainAttrs T) (slot : Slot T name id) (hty : typeOf (.builtin id) = pure (.type "method_descriptor")) (hk : TyOk T ok) (hm : CM X Γ id g) (ho : EX X Γ W o fo) (ha : EA X Γ W (e :: es) ga)
    (hbase : attributeBase o name X.env (eval o X.env) = eval o X.env := by rfl)
    (hfew : ((backTo cpos (starEach (e :: es) X.env)).all (fun x => !x.1) && (backToKw cpos (keywordEach [] X.env)).all (fun x => x.1.isSome)
      && decide ((e :: es).length + ([] : List Keyword).length + (if ([] : List Keyword).isEmpty then 0 else 1) < 30)) = true := by rfl)
    (hline : (apos.endLine == cpos.line) = true := by rfl) (hs : starEach (e :: es) X.env = (false, eval e X.env) :: starEach es X.env := by rfl) (hplain : (backTo cpos (starEach es X.env)).any (·.1) = false := by rfl) :
    EX X Γ W (.Call (.Attribute o name apos) (e :: es) [] cpos) (xMeth ok g fo ga) :=
  PE.imp (pe_bm pa slot hty hm ho ha hbase hfew hline hs hplain) fun σ H Q ⟨ζ, M, μ, rr, h⟩ => ⟨ζ, M, μ, rr, Pst.then h fun v H1 d M1 μ1 nx rh rv h1 => by
    split at h1
    · rename_i hok
      exact ⟨hk rh rv hok, ζ, M1, μ1, ⟨rr.sl.mono nx, rh⟩, Pst.then h1 fun vs H2 ds M2 μ2 nx2 rh2 rvs h2 => ⟨d, ds, M2, μ2, rh2, RV.mono nx2 rv, rvs, h2.of⟩⟩
    · exact h1.elim⟩
theorem ex_meth0 {ok : D → Hs → Bool} {g : GM} (pa : PlainAttrs T) (slot : Slot T name id) (hty : typeOf (.builtin id) = pure (.type "method_descriptor")) (hk : TyOk T ok) (hm : CM X Γ id g) (ho : EX X Γ W o fo)
    (hbase : attributeBase o name X.env (eval o X.env) = eval o X.env := by rfl) (hline : (apos.endLine == cpos.line) = true := by rfl) : EX X Γ W (.Call (.Attribute o name apos) [] [] cpos) (xMeth ok g fo aNil) :=
  PE.imp (pe_bm0 pa slot hty hm ho hbase hline) fun σ H Q ⟨ζ, M, μ, rr, h⟩ => ⟨ζ, M, μ, rr, Pst.then h fun v H1 d M1 μ1 nx rh rv h1 => by
    split at h1
    · rename_i hok
      exact ⟨hk rh rv hok, d, [], M1, μ1, rh, rv, .nil, Pst.of h1⟩
    · exact h1.elim⟩
end

def gLen : GL := fun ds M => match ds with
  | [.str x] => if x.length ≤ sizeLine then some (.int x.length, M) else none
  | [d] => match hSeq M d with
    | some xs => some (.int xs.length, M)
    | none => none
  | _ => none
def gAbs : GL := fun ds M => match ds with
  | [.int i] => some (.int (if i < 0 then -i else i), M)
  | _ => none
def gMax2 : GL := fun ds M => match ds with
  | [.int i, .int j] => some (.int (if j > i then j else i), M)
  | _ => none
def gMin2 : GL := fun ds M => match ds with
  | [.int i, .int j] => some (.int (if j < i then j else i), M)
  | _ => none
def gInt : GL := fun ds M => match ds with
  | [.int i] => some (.int i, M)
  | [.bl k] => some (.int (if k then 1 else 0), M)
  | _ => none
def gList : GL := fun ds M => match ds with
  | [d] => match hSeq M d with
    | some xs => some (.ref M.length, M ++ [.lst xs])
    | none => none
  | _ => none
def gTuple : GL := fun ds M => match ds with
  | [d] => match hSeq M d with
    | some xs => some (.tup xs, M)
    | none => none
  | _ => none
def blsOf : List D → Option (List Bool)
  | [] => some []
  | .bl b :: r => match blsOf r with
    | some bs => some (b :: bs)
    | none => none
  | _ => none
def intsOf : List D → Option (List Int)
  | [] => some []
  | .int b :: r => match intsOf r with
    | some bs => some (b :: bs)
    | none => none
  | _ => none
def gBools (k : List Bool → Bool) : GL := fun ds M => match ds with
  | [.ref n] => match hSeq M (.ref n) with
    | some xs => match blsOf xs with
      | some bs => some (.bl (k bs), M)
      | none => none
    | none => none
  | _ => none
def gAny : GL := gBools fun bs => bs.any id
def gAll : GL := gBools fun bs => bs.all id
def minI : Int → List Int → Int
  | m, [] => m
  | m, x :: r => minI (if x < m then x else m) r
def maxI : Int → List Int → Int
  | m, [] => m
  | m, x :: r => maxI (if m < x then x else m) r
def gExt (k : Int → List Int → Int) : GL := fun ds M => match ds with
  | [.ref n] => match hSeq M (.ref n) with
    | some xs => match intsOf xs with
      | some (i :: is) => some (.int (k i is), M)
      | _ => none
    | none => none
  | _ => none
def gMinL : GL := gExt minI
def gMaxL : GL := gExt maxI
section
variable {K : PySem.W.Frag} {H : Hp} {μ : List Addr}
theorem blsOf_ok : ∀ {xs : List D} {bs : List Bool} {vs : List V}, blsOf xs = some bs → RVs K H μ xs vs → vs = bs.map V.bl
  | [], bs, vs, h, r => by cases h; cases r; rfl
  | d :: xs, bs, vs, h, r => by
    cases d with
    | bl b =>
      simp only [blsOf] at h
      split at h
      · rename_i cs e
        cases h
        cases r with
        | cons r1 r2 =>
          cases r1
          rw [List.map_cons, blsOf_ok e r2]
      · cases h
    | _ => cases h
theorem intsOf_ok : ∀ {xs : List D} {bs : List Int} {vs : List V}, intsOf xs = some bs → RVs K H μ xs vs → vs = bs.map V.int
  | [], bs, vs, h, r => by cases h; cases r; rfl
  | d :: xs, bs, vs, h, r => by
    cases d with
    | int b =>
      simp only [intsOf] at h
      split at h
      · rename_i cs e
        cases h
        cases r with
        | cons r1 r2 =>
          cases r1
          rw [List.map_cons, intsOf_ok e r2]
      · cases h
    | _ => cases h
theorem minI_spec : ∀ (r : List Int) (m : Int), (minI m r = m ∨ minI m r ∈ r) ∧ minI m r ≤ m ∧ ∀ y ∈ r, minI m r ≤ y
  | [], m => ⟨.inl rfl, Int.le_refl _, fun y h => nomatch h⟩
  | x :: r, m => by
    have ih := minI_spec r (if x < m then x else m)
    unfold minI
    refine ⟨?_, ?_, fun y hy => ?_⟩
    · rcases ih.1 with h | h
      · split at h
        · rename_i hlt
          rw [if_pos hlt]
          exact .inr (by rw [h]; exact List.mem_cons_self)
        · rename_i hlt
          rw [if_neg hlt]
          exact .inl h
      · exact .inr (List.mem_cons_of_mem _ h)
    · have := ih.2.1
      split at this <;> split <;> omega
    · rcases List.mem_cons.mp hy with e | hy
      · subst e
        have := ih.2.1
        split at this <;> split <;> omega
      · exact ih.2.2 y hy
theorem maxI_spec : ∀ (r : List Int) (m : Int), (maxI m r = m ∨ maxI m r ∈ r) ∧ m ≤ maxI m r ∧ ∀ y ∈ r, y ≤ maxI m r
  | [], m => ⟨.inl rfl, Int.le_refl _, fun y h => nomatch h⟩
  | x :: r, m => by
    have ih := maxI_spec r (if m < x then x else m)
    unfold maxI
    refine ⟨?_, ?_, fun y hy => ?_⟩
    · rcases ih.1 with h | h
      · split at h
        · rename_i hlt
          rw [if_pos hlt]
          exact .inr (by rw [h]; exact List.mem_cons_self)
        · rename_i hlt
          rw [if_neg hlt]
          exact .inl h
      · exact .inr (List.mem_cons_of_mem _ h)
    · have := ih.2.1
      split at this <;> split <;> omega
    · rcases List.mem_cons.mp hy with e | hy
      · subst e
        have := ih.2.1
        split at this <;> split <;> omega
      · exact ih.2.2 y hy
theorem one_rel {d : D} {vs : List V} (r : RVs K H μ [d] vs) : ∃ v, vs = [v] ∧ RV K H μ d v := by
  cases r with
  | cons r1 r2 => cases r2; exact ⟨_, rfl, r1⟩
theorem two_rel {d e : D} {vs : List V} (r : RVs K H μ [d, e] vs) : ∃ v u, vs = [v, u] ∧ RV K H μ d v ∧ RV K H μ e u := by
  cases r with
  | cons r1 r2 =>
    cases r2 with
    | cons r2 r3 => cases r3; exact ⟨_, _, rfl, r1, r2⟩
end
section
variable {X : Cx} {Γ : Gm}
theorem b_len : CB X Γ (.builtin "len") gLen := by
  intro pins s σ H xs us Q I r ⟨ds, M, μ, rh, rv, hq⟩
  unfold gLen at hq
  split at hq
  · obtain ⟨v, rfl, r1⟩ := one_rel rv
    cases r1
    split at hq
    · rename_i hl
      exact call_len pins s σ H _ us Q I r ⟨_, _, rfl, ⟨hl, rfl⟩, Pk.here rh hq (.int _)⟩
    · exact hq.elim
  · obtain ⟨v, rfl, r1⟩ := one_rel rv
    split at hq
    · rename_i ys e
      obtain ⟨a, vs, rfl, hs, r2⟩ := hSeq_ok rh e r1
      rw [r2.length] at hq
      rcases hs with hs | hs
      · exact call_len pins s σ H _ us Q I r ⟨_, _, rfl, .inl ⟨vs, hs, rfl⟩, Pk.here rh hq (.int _)⟩
      · exact call_len pins s σ H _ us Q I r ⟨_, _, rfl, .inr ⟨vs, hs, rfl⟩, Pk.here rh hq (.int _)⟩
    · exact hq.elim
  · exact hq.elim
theorem b_abs : CB X Γ (.builtin "abs") gAbs := by
  intro pins s σ H xs us Q I r ⟨ds, M, μ, rh, rv, hq⟩
  unfold gAbs at hq
  split at hq
  · obtain ⟨v, rfl, r1⟩ := one_rel rv
    cases r1
    exact call_abs pins s σ H _ us Q I r ⟨_, rfl, Pk.here rh hq (.int _)⟩
  · exact hq.elim
theorem b_max2 (hc : X.calm = true) : CB X Γ (.builtin "max") gMax2 := by
  intro pins s σ H xs us Q I r ⟨ds, M, μ, rh, rv, hq⟩
  unfold gMax2 at hq
  split at hq
  · obtain ⟨v, u, rfl, r1, r2⟩ := two_rel rv
    cases r1; cases r2
    exact call_max2 hc pins s σ H _ us Q I r ⟨_, _, rfl, Pk.here rh hq (.int _)⟩
  · exact hq.elim
theorem b_min2 (hc : X.calm = true) : CB X Γ (.builtin "min") gMin2 := by
  intro pins s σ H xs us Q I r ⟨ds, M, μ, rh, rv, hq⟩
  unfold gMin2 at hq
  split at hq
  · obtain ⟨v, u, rfl, r1, r2⟩ := two_rel rv
    cases r1; cases r2
    exact call_min2 hc pins s σ H _ us Q I r ⟨_, _, rfl, Pk.here rh hq (.int _)⟩
  · exact hq.elim
theorem b_int : CB X Γ (.type "int") gInt := by
  intro pins s σ H xs us Q I r ⟨ds, M, μ, rh, rv, hq⟩
  unfold gInt at hq
  split at hq
  · obtain ⟨v, rfl, r1⟩ := one_rel rv
    cases r1
    exact call_int1 pins s σ H _ us Q I r (.inl ⟨_, rfl, Pk.here rh hq (.int _)⟩)
  · obtain ⟨v, rfl, r1⟩ := one_rel rv
    cases r1
    exact call_int1 pins s σ H _ us Q I r (.inr ⟨_, rfl, Pk.here rh hq (.int _)⟩)
  · exact hq.elim
theorem b_list : CB X Γ (.type "list") gList := by
  intro pins s σ H xs us Q I r ⟨ds, M, μ, rh, rv, hq⟩
  unfold gList at hq
  split at hq
  · obtain ⟨v, rfl, r1⟩ := one_rel rv
    split at hq
    · rename_i ys e
      obtain ⟨a, vs, rfl, hs, r2⟩ := hSeq_ok rh e r1
      exact call_list_of pins s σ H _ us Q I r ⟨_, vs, rfl, hs, fun p hp => Pk.new rh hq hp ⟨_, upd_same, r2.mono (Nx.fresh hp _)⟩⟩
    · exact hq.elim
  · exact hq.elim
theorem b_tuple : CB X Γ (.type "tuple") gTuple := by
  intro pins s σ H xs us Q I r ⟨ds, M, μ, rh, rv, hq⟩
  unfold gTuple at hq
  split at hq
  · obtain ⟨v, rfl, r1⟩ := one_rel rv
    split at hq
    · rename_i ys e
      obtain ⟨a, vs, rfl, hs, r2⟩ := hSeq_ok rh e r1
      refine call_tuple_of pins s σ H _ us Q I r ⟨_, vs, rfl, hs.imp (fun hs => ⟨hs, fun p hp => Pk.tup rh hq hp r2⟩) fun hs => ⟨hs, Pk.here rh hq (.tup hs r2)⟩⟩
    · exact hq.elim
  · exact hq.elim
theorem b_bools {id : String} {k : List Bool → Bool} (h : CallR X (.builtin id) (fun vs H Q => ∃ (a : Addr) (bs : List Bool), vs = [V.ref a] ∧ SqL X.K H a (bs.map V.bl) ∧ Q (.bl (k bs)) H)) : CB X Γ (.builtin id) (gBools k) := by
  intro pins s σ H xs us Q I r ⟨ds, M, μ, rh, rv, hq⟩
  unfold gBools at hq
  split at hq
  · obtain ⟨v, rfl, r1⟩ := one_rel rv
    split at hq
    · rename_i ys e
      obtain ⟨a, vs, rfl, hs, r2⟩ := hRef_ok rh e r1
      split at hq
      · rename_i bs e2
        have e3 := blsOf_ok e2 r2
        subst e3
        exact h pins s σ H _ us Q I r ⟨a, bs, rfl, hs, Pk.here rh hq (.bl _)⟩
      · exact hq.elim
    · exact hq.elim
  · exact hq.elim
theorem b_any (hc : X.calm = true) : CB X Γ (.builtin "any") gAny := b_bools (cr_any hc)
theorem b_all (hc : X.calm = true) : CB X Γ (.builtin "all") gAll := b_bools (cr_all hc)
theorem b_minL (hc : X.calm = true) : CB X Γ (.builtin "min") gMinL := by
  intro pins s σ H xs us Q I r ⟨ds, M, μ, rh, rv, hq⟩
  unfold gMinL gExt at hq
  split at hq
  · obtain ⟨v, rfl, r1⟩ := one_rel rv
    split at hq
    · rename_i ys e
      obtain ⟨a, vs, rfl, hs, r2⟩ := hRef_ok rh e r1
      split at hq
      · rename_i i is e2
        have e3 := intsOf_ok e2 r2
        subst e3
        refine cr_min hc pins s σ H _ us Q I r ⟨a, i :: is, rfl, hs, by simp, fun m hm hle => ?_⟩
        have sp := minI_spec is i
        have e4 : m = minI i is := by
          have h1 : m ≤ minI i is := hle _ (by rcases sp.1 with h | h; rw [h]; exact List.mem_cons_self; exact List.mem_cons_of_mem _ h)
          have h2 : minI i is ≤ m := by rcases List.mem_cons.mp hm with h | h; rw [h]; exact sp.2.1; exact sp.2.2 m h
          omega
        rw [e4]
        exact Pk.here rh hq (.int _)
      · exact hq.elim
    · exact hq.elim
  · exact hq.elim
theorem b_maxL (hc : X.calm = true) : CB X Γ (.builtin "max") gMaxL := by
  intro pins s σ H xs us Q I r ⟨ds, M, μ, rh, rv, hq⟩
  unfold gMaxL gExt at hq
  split at hq
  · obtain ⟨v, rfl, r1⟩ := one_rel rv
    split at hq
    · rename_i ys e
      obtain ⟨a, vs, rfl, hs, r2⟩ := hRef_ok rh e r1
      split at hq
      · rename_i i is e2
        have e3 := intsOf_ok e2 r2
        subst e3
        refine cr_max hc pins s σ H _ us Q I r ⟨a, i :: is, rfl, hs, by simp, fun m hm hle => ?_⟩
        have sp := maxI_spec is i
        have e4 : m = maxI i is := by
          have h1 : maxI i is ≤ m := hle _ (by rcases sp.1 with h | h; rw [h]; exact List.mem_cons_self; exact List.mem_cons_of_mem _ h)
          have h2 : m ≤ maxI i is := by rcases List.mem_cons.mp hm with h | h; rw [h]; exact sp.2.1; exact sp.2.2 m h
          omega
        rw [e4]
        exact Pk.here rh hq (.int _)
      · exact hq.elim
    · exact hq.elim
  · exact hq.elim

def gAppend : GM := fun d ds M => match d, ds with
  | .ref n, [y] => match hLst M n with
    | some xs => if xs.length < sizeLine then some (.non, M.set n (.lst (xs ++ [y]))) else none
    | none => none
  | _, _ => none
def gExtend : GM := fun d ds M => match d, ds with
  | .ref n, [.ref m] => match hLst M n, hLst M m with
    | some xs, some ys => if xs.length + ys.length ≤ sizeLine then some (.non, M.set n (.lst (xs ++ ys))) else none
    | _, _ => none
  | _, _ => none
def gPop : GM := fun d ds M => match d, ds with
  | .ref n, [] => match hLst M n with
    | some xs => match xs[xs.length - 1]? with
      | some y => some (y, M.set n (.lst xs.dropLast))
      | none => none
    | none => none
  | _, _ => none
def gPopAt : GM := fun d ds M => match d, ds with
  | .ref n, [.int i] => match hLst M n with
    | some xs => if 0 ≤ i then match xs[i.toNat]? with
      | some y => some (y, M.set n (.lst (xs.eraseIdx i.toNat)))
      | none => none else none
    | none => none
  | _, _ => none
def gInsert : GM := fun d ds M => match d, ds with
  | .ref n, [.int i, y] => match hLst M n with
    | some xs => if 0 ≤ i ∧ i < 2 ^ 63 ∧ xs.length < sizeLine then some (.non, M.set n (.lst (xs.take i.toNat ++ [y] ++ xs.drop i.toNat))) else none
    | none => none
  | _, _ => none
def gReverse : GM := fun d ds M => match d, ds with
  | .ref n, [] => match hLst M n with
    | some xs => some (.non, M.set n (.lst xs.reverse))
    | none => none
  | _, _ => none
theorem mutL {H : Hp} {a : Addr} {vs : List V} (h : H a = some (.lst vs)) : Mut (H a) := by rw [h]; trivial
theorem Pk.lst {P : Program} {w : World} {K : PySem.W.Frag} {Γ : Gm} {μ : List Addr} {M : Hs} {H : Hp} {Q : VK} {n : Nat} {a : Addr} {vs vs' : List V} {xs' : List D} {d : D} {v : V} (rh : RH P w K Γ μ M H) (e : μ[n]? = some a) (g : H a = some (.lst vs))
    (h : Pk P w K Γ (relV K) μ H (some (d, M.set n (.lst xs'))) Q) (r : RVs K H μ xs' vs') (rd : RV K H μ d v) : Q v (upd H a (.lst vs')) :=
  h _ _ _ (Nx.write (mutL g)) (rh.write e (mutL g) ⟨_, upd_same, r.mono (Nx.write (mutL g))⟩) (RV.mono (Nx.write (mutL g)) rd)
theorem ref_rel {H : Hp} {μ : List Addr} {K : PySem.W.Frag} {n : Nat} {v : V} (r : RV K H μ (.ref n) v) : ∃ a, v = .ref a ∧ μ[n]? = some a := by
  cases r with
  | ref e => exact ⟨_, rfl, e⟩
theorem l_append : CM X Γ "list.append" gAppend := by
  intro pins s σ H x xs v us Q I rx rs ⟨d, ds, M, μ, rh, rd, rv, hq⟩
  unfold gAppend at hq
  split at hq
  · obtain ⟨a, rfl, e⟩ := ref_rel rd
    obtain ⟨y, rfl, r1⟩ := one_rel rv
    split at hq
    · rename_i ys e2
      obtain ⟨vs, g, r2⟩ := nlst rh (hLst_ok rh e2) e
      split at hq
      · rename_i hl
        exact mt_append pins s σ H _ _ v us Q I rx rs ⟨a, vs, y, rfl, rfl, g, by rw [← r2.length]; exact hl, Pk.lst rh e g hq (r2.append (.cons r1 .nil)) .non⟩
      · exact hq.elim
    · exact hq.elim
  · exact hq.elim
theorem l_extend : CM X Γ "list.extend" gExtend := by
  intro pins s σ H x xs v us Q I rx rs ⟨d, ds, M, μ, rh, rd, rv, hq⟩
  unfold gExtend at hq
  split at hq
  · obtain ⟨a, rfl, e⟩ := ref_rel rd
    obtain ⟨y, rfl, r1⟩ := one_rel rv
    obtain ⟨b, rfl, e'⟩ := ref_rel r1
    split at hq
    · rename_i ys zs e2 e3
      obtain ⟨vs, g, r2⟩ := nlst rh (hLst_ok rh e2) e
      obtain ⟨us', g', r3⟩ := nlst rh (hLst_ok rh e3) e'
      split at hq
      · rename_i hl
        exact mt_extend pins s σ H _ _ v us Q I rx rs ⟨a, b, vs, us', rfl, rfl, g, g', by rw [← r2.length, ← r3.length]; exact hl, Pk.lst rh e g hq (r2.append r3) .non⟩
      · exact hq.elim
    · exact hq.elim
  · exact hq.elim
theorem l_pop : CM X Γ "list.pop" gPop := by
  intro pins s σ H x xs v us Q I rx rs ⟨d, ds, M, μ, rh, rd, rv, hq⟩
  unfold gPop at hq
  split at hq
  · obtain ⟨a, rfl, e⟩ := ref_rel rd
    cases rv
    split at hq
    · rename_i ys e2
      obtain ⟨vs, g, r2⟩ := nlst rh (hLst_ok rh e2) e
      split at hq
      · rename_i y hy
        obtain ⟨u, hu, r3⟩ := r2.get hy
        rw [r2.length] at hu
        exact mt_pop pins s σ H _ _ v us Q I rx rs ⟨a, vs, u, rfl, rfl, g, hu, Pk.lst rh e g hq r2.dropLast r3⟩
      · exact hq.elim
    · exact hq.elim
  · exact hq.elim
theorem l_popAt : CM X Γ "list.pop" gPopAt := by
  intro pins s σ H x xs v us Q I rx rs ⟨d, ds, M, μ, rh, rd, rv, hq⟩
  unfold gPopAt at hq
  split at hq
  · obtain ⟨a, rfl, e⟩ := ref_rel rd
    obtain ⟨y, rfl, r1⟩ := one_rel rv
    cases r1
    split at hq
    · rename_i ys e2
      obtain ⟨vs, g, r2⟩ := nlst rh (hLst_ok rh e2) e
      split at hq
      · rename_i h0
        split at hq
        · rename_i y hy
          obtain ⟨u, hu, r3⟩ := r2.get hy
          have hl : vs.length ≤ sizeLine := (I.hok a _ g).1
          have hlt : _ < vs.length := (List.getElem?_eq_some_iff.mp hu).1
          have h63 := line63
          refine mt_popAt pins s σ H _ _ v us Q I rx rs ⟨a, vs, _, _, u, rfl, rfl, g, by omega, by omega, PySem.StrLaws.seqIndex_nonneg h0 (by omega), hu, Pk.lst rh e g hq (r2.eraseIdx _) r3⟩
        · exact hq.elim
      · exact hq.elim
    · exact hq.elim
  · exact hq.elim
theorem l_insert : CM X Γ "list.insert" gInsert := by
  intro pins s σ H x xs v us Q I rx rs ⟨d, ds, M, μ, rh, rd, rv, hq⟩
  unfold gInsert at hq
  split at hq
  · obtain ⟨a, rfl, e⟩ := ref_rel rd
    obtain ⟨y, z, rfl, r1, r2⟩ := two_rel rv
    cases r1
    split at hq
    · rename_i ys e2
      obtain ⟨vs, g, r3⟩ := nlst rh (hLst_ok rh e2) e
      split at hq
      · rename_i hc
        exact mt_insert pins s σ H _ _ v us Q I rx rs ⟨a, vs, _, z, rfl, rfl, g, by rw [← r3.length]; exact hc.2.2, hc.1, hc.2.1, Pk.lst rh e g hq (((r3.take _).append (.cons r2 .nil)).append (r3.drop _)) .non⟩
      · exact hq.elim
    · exact hq.elim
  · exact hq.elim
theorem l_reverse : CM X Γ "list.reverse" gReverse := by
  intro pins s σ H x xs v us Q I rx rs ⟨d, ds, M, μ, rh, rd, rv, hq⟩
  unfold gReverse at hq
  split at hq
  · obtain ⟨a, rfl, e⟩ := ref_rel rd
    cases rv
    split at hq
    · rename_i ys e2
      obtain ⟨vs, g, r2⟩ := nlst rh (hLst_ok rh e2) e
      exact mt_reverse pins s σ H _ _ v us Q I rx rs ⟨a, vs, rfl, rfl, g, Pk.lst rh e g hq r2.reverse .non⟩
    · exact hq.elim
  · exact hq.elim
end

def kindOf (d : D) (M : Hs) : Option String := match d with
  | .non => some "NoneType"
  | .bl _ => some "bool"
  | .int _ => some "int"
  | .str _ => some "str"
  | .tup _ => some "tuple"
  | .ref n => match M[n]? with
    | some (.lst _) => some "list"
    | some (.ro _) => some "list"
    | _ => none
  | .klst _ => none
  | .exc .. => none
def isKind (a b : String) : Bool := a == b || (a == "bool" && b == "int")
def xIs (T : String) (f : MX) : MX := fun ζ M => (f ζ M).bind fun x M1 => match kindOf x M1 with
  | some k => .ok (.bl (isKind k T)) M1
  | none => .no
def KindOk (T : String) : Prop := ∀ a ∈ ["NoneType", "bool", "int", "str", "tuple", "list"], kitB a T = some (isKind a T)
theorem kind_int : KindOk "int" := by unfold KindOk; decide +kernel
theorem kind_bool : KindOk "bool" := by unfold KindOk; decide +kernel
theorem kind_str : KindOk "str" := by unfold KindOk; decide +kernel
theorem kind_tuple : KindOk "tuple" := by unfold KindOk; decide +kernel
theorem kind_list : KindOk "list" := by unfold KindOk; decide +kernel
theorem kind_dict : KindOk "dict" := by unfold KindOk; decide +kernel
theorem kindOf_ok {P : Program} {w : World} {K : PySem.W.Frag} {Γ : Gm} {μ : List Addr} {M : Hs} {H : Hp} {d : D} {v : V} {k : String} (rh : RH P w K Γ μ M H) (r : RV K H μ d v) (h : kindOf d M = some k) : TyX K H v (.type k) ∧ k ∈ ["NoneType", "bool", "int", "str", "tuple", "list"] := by
  cases r with
  | non => cases h; exact ⟨.base .non, by simp⟩
  | bl b => cases h; exact ⟨.base (.bl b), by simp⟩
  | int b => cases h; exact ⟨.base (.int b), by simp⟩
  | str b => cases h; exact ⟨.base (.str b), by simp⟩
  | kls => cases h
  | excN => cases h
  | excD => cases h
  | tup g r =>
    cases h
    refine ⟨?_, by simp⟩
    rcases g with (g | ⟨o, g⟩) | ⟨o, its, n, g, hc, _⟩
    · exact .base (.tup g)
    · exact .fTuple g
    · exact .kTuple g hc
  | ref e =>
    simp only [kindOf] at h
    split at h
    · rename_i xs hx
      cases h
      obtain ⟨vs, g, _⟩ := rh.at_ _ _ _ hx e
      exact ⟨.base (.lst g), by simp⟩
    · rename_i xs hx
      cases h
      obtain ⟨vs, ⟨o, g⟩, _⟩ := rh.at_ _ _ _ hx e
      exact ⟨.base (.frz g), by simp⟩
    · cases h
section
variable {X : Cx} {Γ : Gm} {W : WX} {e : Expr} {fe : MX} {pos p p2 : Pos} {T : String} {x : Str}
theorem ex_isTy (hT : KindOk T) (he : EX X Γ W e fe) (hm : X.mg "isinstance" = none) (hm2 : X.mg x = none) (hv2 : bootBuiltins x = some (.type T)) (hg : Gl X "isinstance" := by rfl) (hg2 : Gl X x := by rfl)
    (he1 : starEach [e, .Name x p2] X.env = (false, eval e X.env) :: starEach [.Name x p2] X.env := by rfl) (hn : x ≠ "__name__" := by decide) (hdb : (x == ("__debug__" : Str)) = false := by decide) :
    EX X Γ W (.Call (.Name "isinstance" p) [e, .Name x p2] [] pos) (xIs T fe) :=
  PE.imp (pe_callB call_isi hg hm boot_isinstance (pa_cons he (pa_cons (pe_bltn (v := .ty T) hg2 hm2 hv2 rfl hn hdb) pa_nil) he1) (by decide) (by decide) he1) fun σ H Q ⟨ζ, M, μ, rr, h⟩ => ⟨ζ, M, μ, rr, Pst.then h fun v H1 d M1 μ1 nx rh rv h1 => by
    cases hk : kindOf d M1 with
    | none => rw [hk] at h1; exact h1.elim
    | some k =>
      rw [hk] at h1
      obtain ⟨h2, h3⟩ := kindOf_ok rh rv hk
      exact ⟨v, .ty T, .type k, .type T, isKind k T, rfl, .ty T, h2, kit_ty (hT k h3), h1 _ _ _ (Nx.refl _ _) rh (.bl _)⟩⟩
end
end Mi
end
section
set_option maxRecDepth 100000
set_option maxHeartbeats 2000000
set_option autoImplicit false
namespace Mi
open PySem PySem.Spec PyProof.Rows L2

inductive Pt where
  | n (i : Nat)
  | t (ps : List Pt)
mutual
def bindP : Pt → D → Option (List (Nat × D))
  | .n i, d => some [(i, d)]
  | .t ps, .tup ds => bindPs ps ds
  | .t _, _ => none
def bindPs : List Pt → List D → Option (List (Nat × D))
  | [], [] => some []
  | p :: ps, d :: ds => match bindP p d, bindPs ps ds with
    | some l, some r => some (l ++ r)
    | _, _ => none
  | _, _ => none
end
mutual
def Pt.slots : Pt → List Nat
  | .n i => [i]
  | .t ps => slotsOf ps
def slotsOf : List Pt → List Nat
  | [] => []
  | p :: ps => p.slots ++ slotsOf ps
end
def setAll {α : Type} (ζ : List (Option α)) : List (Nat × α) → List (Option α)
  | [] => ζ
  | (i, d) :: r => setAll (ζ.set i (some d)) r
theorem setAll_app {α : Type} : ∀ (l r : List (Nat × α)) (ζ : List (Option α)), setAll ζ (l ++ r) = setAll (setAll ζ l) r
  | [], _, _ => rfl
  | (i, d) :: l, r, ζ => setAll_app l r (ζ.set i (some d))
abbrev BR (K : PySem.W.Frag) (H : Hp) (μ : List Addr) : List (Nat × D) → List (Nat × V) → Prop := Paired fun p q => p.1 = q.1 ∧ RV K H μ p.2 q.2
theorem RSl.setAll {K : PySem.W.Frag} {H : Hp} {μ : List Addr} {l : List (Nat × D)} {l' : List (Nat × V)} (br : BR K H μ l l') : ∀ {ζ : Sl} {σ : L2.St}, RSl K H μ ζ σ → RSl K H μ (Mi.setAll ζ l) (Mi.setAll σ l') := by
  induction br with
  | nil => intro ζ σ r; exact r
  | @cons p q _ _ h t ih =>
    obtain ⟨i, d⟩ := p
    obtain ⟨j, v⟩ := q
    obtain ⟨e, q⟩ := h
    have e : i = j := e
    subst e
    intro ζ σ r
    exact ih (RSl.set r q i)
theorem paired_app {α β : Type} {F : α → β → Prop} : ∀ {a : List α} {b : List β} {c : List α} {d : List β}, Paired F a b → Paired F c d → Paired F (a ++ c) (b ++ d)
  | _, _, _, _, .nil, s => s
  | _, _, _, _, .cons r t, s => .cons r (paired_app t s)
def gP (P : Program) (w : World) (K : PySem.W.Frag) (Γ : Gm) (p : Pt) : TG := fun v σ H Q => ∃ d M μ, RH P w K Γ μ M H ∧ RV K H μ d v ∧ match bindP p d with
  | some l => ∀ l', BR K H μ l l' → Q (setAll σ l') H
  | none => False
def gPs (P : Program) (w : World) (K : PySem.W.Frag) (Γ : Gm) (ps : List Pt) : TGs := fun vs σ H Q => ∃ ds M μ, RH P w K Γ μ M H ∧ RVs K H μ ds vs ∧ match bindPs ps ds with
  | some l => ∀ l', BR K H μ l l' → Q (setAll σ l') H
  | none => False
theorem PG.imp {X : Cx} {e : Expr} {t t' : TG} (h : PG X e t) (i : ∀ v σ H Q, t' v σ H Q → t v σ H Q) : PG X e t' := ⟨fun pins s σ H v u Q I r q => h.run pins s σ H v u Q I r (i _ _ _ _ q)⟩
theorem PGs.imp {X : Cx} {e : List Expr} {t t' : TGs} (h : PGs X e t) (i : ∀ v σ H Q, t' v σ H Q → t v σ H Q) : PGs X e t' := ⟨fun pins s σ H v u Q I r q => h.run pins s σ H v u Q I r (i _ _ _ _ q)⟩
abbrev EG (X : Cx) (Γ : Gm) (e : Expr) (p : Pt) : Prop := PG X e (gP X.prog X.w X.K Γ p)
abbrev EGs (X : Cx) (Γ : Gm) (es : List Expr) (ps : List Pt) : Prop := PGs X es (gPs X.prog X.w X.K Γ ps)
section
variable {X : Cx} {Γ : Gm} {e : Expr} {es : List Expr} {p : Pt} {ps : List Pt} {pos : Pos}
theorem eg_name (i : Nat) {x : Str} (hN : X.N.Nodup) (hi : X.N[i]? = some x := by rfl) (hx : Loc X.env.scope x := by first | exact Or.inl rfl | exact Or.inr rfl) (hf : X.fn x = true ∨ X.env.scope.names.lookup x = some .local := by first | exact .inl rfl | exact .inr rfl) : EG X Γ (.Name x pos) (.n i) :=
  PG.imp (pg_name hN hi hx hf) fun v σ H Q ⟨d, M, μ, rh, r, h⟩ => h [(i, v)] (.cons ⟨rfl, r⟩ .nil)
theorem egs_nil : EGs X Γ [] [] := PGs.imp pgs_nil fun v σ H Q ⟨ds, M, μ, rh, r, h⟩ => by
  cases ds with
  | nil =>
    cases r
    exact ⟨rfl, h [] .nil⟩
  | cons d ds => exact h.elim
theorem egs_cons (h1 : EG X Γ e p) (h2 : EGs X Γ es ps) (hs : (assignEach (e :: es) X.env).map (·.2) = assign e X.env :: (assignEach es X.env).map (·.2) := by rfl) : EGs X Γ (e :: es) (p :: ps) :=
  PGs.imp (pgs_cons h1 h2 hs) fun v σ H Q ⟨ds, M, μ, rh, r, h⟩ => by
    cases r with
    | nil => exact h.elim
    | cons r1 r2 =>
      simp only [bindPs] at h
      split at h
      · rename_i l hl
        split at hl
        · rename_i l1 l2 e1 e2
          cases hl
          refine ⟨_, _, rfl, _, M, μ, rh, r1, ?_⟩
          rw [e1]
          intro l1' b1
          refine ⟨_, M, μ, rh, r2, ?_⟩
          rw [e2]
          intro l2' b2
          rw [← setAll_app]
          exact h _ (paired_app b1 b2)
        · cases hl
      · exact h.elim
theorem eg_tup {k} (hc : X.calm = true) (h : EGs X Γ es ps) (hn : (assignEach es X.env).length = ps.length := by rfl) (hst : (assignEach es X.env).findIdx? (·.1) = none := by rfl) : EG X Γ (.Tuple es k pos) (.t ps) :=
  PG.imp (pg_tup hc h hn hst) fun v σ H Q ⟨d, M, μ, rh, r, h⟩ => by
    cases r with
    | tup g rs =>
      simp only [bindP] at h
      refine ⟨_, _, rfl, g, ?_, _, M, μ, rh, rs, h⟩
      split at h
      · rename_i l hl
        rw [← rs.length]
        exact bindPs_len hl
      · exact h.elim
    | _ => exact h.elim
where
  bindPs_len : ∀ {ps : List Pt} {ds : List D} {l : List (Nat × D)}, bindPs ps ds = some l → ds.length = ps.length := by
    intro ps
    induction ps with
    | nil => intro ds l h; cases ds with | nil => rfl | cons d ds => simp [bindPs] at h
    | cons p ps ih =>
      intro ds l h
      cases ds with
      | nil => simp [bindPs] at h
      | cons d ds =>
        simp only [bindPs] at h
        split at h
        · rename_i h1 h2
          rw [List.length_cons, List.length_cons, ih h2]
        · cases h
end

def RS.of {α : Type} (ζ : Sl) (r : R α) (k : α → Hs → RS) : RS := match r with
  | .ok a M => k a M
  | .ex c fs M => .ex c fs ζ M
  | .no => .no
def sAsg (f : MX) (p : Pt) : MS := fun ζ M => RS.of ζ (f ζ M) fun d M1 => match bindP p d with
  | some l => .nx (setAll ζ l) M1
  | none => .no
def sSet (i : Nat) (f : MX) : MS := fun ζ M => RS.of ζ (f ζ M) fun d M1 => .nx (ζ.set i (some d)) M1
def sPar (i j : Nat) (g : MA) : MS := fun ζ M => RS.of ζ (g ζ M) fun ds M1 => match ds with
  | [d, e] => .nx ((ζ.set i (some d)).set j (some e)) M1
  | _ => .no
def sPut (g : D → D → D → Hs → Option Hs) (fo fi fv : MX) : MS := fun ζ M => RS.of ζ (fv ζ M) fun v M1 => RS.of ζ (fo ζ M1) fun o M2 => RS.of ζ (fi ζ M2) fun i M3 => match g o i v M3 with
  | some M4 => .nx ζ M4
  | none => .no
def sAug (i : Nat) (g : D → D → Hs → Option (D × Hs)) (f : MX) : MS := fun ζ M => match ζ[i]? with
  | some (some x) => RS.of ζ (f ζ M) fun y M1 => match g x y M1 with
    | some (d, M2) => .nx (ζ.set i (some d)) M2
    | none => .no
  | _ => .no
def sExpr (f : MX) : MS := fun ζ M => RS.of ζ (f ζ M) fun _ M1 => .nx ζ M1
def sRet (f : MX) : MS := fun ζ M => RS.of ζ (f ζ M) fun d M1 => .rt d M1
def sRetN : MS := fun _ M => .rt .non M
def sPass : MS := fun ζ M => .nx ζ M
def sIf (t : MT) (a b : MS) : MS := fun ζ M => RS.of ζ (t ζ M) fun c M1 => if c = true then a ζ M1 else b ζ M1
def sSeq (a b : MS) : MS := fun ζ M => match a ζ M with
  | .nx ζ1 M1 => b ζ1 M1
  | r => r
def whileN (t : MT) (b : MS) : Nat → MS
  | 0 => fun _ _ => .no
  | n + 1 => fun ζ M => RS.of ζ (t ζ M) fun c M1 => if c = true then match b ζ M1 with
      | .nx ζ' M' => whileN t b n ζ' M'
      | .ct ζ' M' => whileN t b n ζ' M'
      | .bk ζ' M' => .nx ζ' M'
      | r => r
    else .nx ζ M1
/-- more turns than any loop here takes -/
def far : Nat := 10 ^ 30
def sWhile (t : MT) (b : MS) : MS := whileN t b far
/-- what a loop walks: the item at a turn (none: it is told by nobody; some none: the end), and more turns than it takes -/
structure Yd where
  y : Nat → Hs → Option (Option D)
  fuel : Nat
abbrev MY := Sl → Hs → R Yd
def forN (y : Nat → Hs → Option (Option D)) (p : Pt) (b : MS) : Nat → Nat → MS
  | 0, _ => fun _ _ => .no
  | n + 1, i => fun ζ M => match y i M with
    | none => .no
    | some none => .nx ζ M
    | some (some d) => match bindP p d with
      | none => .no
      | some l => match b (setAll ζ l) M with
        | .nx ζ' M' => forN y p b n (i + 1) ζ' M'
        | .ct ζ' M' => forN y p b n (i + 1) ζ' M'
        | .bk ζ' M' => .nx ζ' M'
        | r => r
def sFor (s : MY) (p : Pt) (b : MS) : MS := fun ζ M => RS.of ζ (s ζ M) fun yd M1 => forN yd.y p b yd.fuel 0 ζ M1

section
variable {P : Program} {w : World} {K : PySem.W.Frag} {Γ : Gm} {W : WX} {σ : L2.St} {μ μ1 : List Addr} {H H1 : Hp} {M : Hs} {ζ : Sl}
theorem PstS.then {α β : Type} {rel : Hp → List Addr → α → β → Prop} {r : R α} {k : α → Hs → RS} {E : Ends} {Q' : β → Hp → Prop} (h : PstS P w K Γ W μ H (RS.of ζ r k) E) (sl : RSl K H μ ζ σ)
    (i : ∀ v H1 d M1 μ1, Nx μ H μ1 H1 → RH P w K Γ μ1 M1 H1 → rel H1 μ1 d v → PstS P w K Γ W μ1 H1 (k d M1) E → Q' v H1) : Pst P w K Γ rel W σ μ H r Q' := by
  cases r with
  | ok d M1 => exact fun v H' μ' x rh rv => i v H' d M1 μ' x rh rv (PstS.mono h x)
  | ex c fs M1 => exact fun cls dd H' μ' x rh rx => h cls dd σ H' μ' x rh (sl.mono x) rx
  | no => exact h.elim
theorem PstS.ends {r : RS} {E E' : Ends} (h : PstS P w K Γ W μ H r E) (h1 : ∀ σ H, E.nx σ H → E'.nx σ H) (h2 : ∀ v H, E.rt v H → E'.rt v H) (h3 : ∀ σ H, E.bk σ H → E'.bk σ H) (h4 : ∀ σ H, E.ct σ H → E'.ct σ H) : PstS P w K Γ W μ H r E' := by
  cases r with
  | nx ζ M => exact fun σ' H' μ' a b c => h1 _ _ (h σ' H' μ' a b c)
  | rt d M => exact fun σ' H' μ' a b c => h2 _ _ (h σ' H' μ' a b c)
  | bk ζ M => exact fun σ' H' μ' a b c => h3 _ _ (h σ' H' μ' a b c)
  | ct ζ M => exact fun σ' H' μ' a b c => h4 _ _ (h σ' H' μ' a b c)
  | ex c fs ζ M => exact h
  | no => exact h
end
section
variable {X : Cx} {Γ : Gm} {W : WX} {a b c e o v : Expr} {es : List Expr} {st : Stmt} {rest sa sb : List Stmt} {fa fb fc fe fo fv : MX} {ft : MT} {ga : MA} {ms ms' : MS} {pos pos' : Pos} {x : Str} {i j : Nat} {p : Pt}
theorem es_nil : ESs X Γ W [] sPass := PSs.imp pss_nil fun E σ H ⟨ζ, M, μ, rr, h⟩ => h _ _ _ (Nx.refl _ _) rr.hp rr.sl
theorem es_cons (h1 : ES X Γ W st ms) (h2 : ESs X Γ W rest ms') : ESs X Γ W (st :: rest) (sSeq ms ms') :=
  PSs.imp (pss_cons h1 h2) fun E σ H ⟨ζ, M, μ, rr, h⟩ => ⟨ζ, M, μ, rr, by
    unfold sSeq at h
    cases hr : ms ζ M with
    | nx ζ1 M1 => rw [hr] at h; exact fun σ' H' μ' x rh sl => ⟨ζ1, M1, μ', ⟨sl, rh⟩, PstS.mono h x⟩
    | rt d M1 => rw [hr] at h; exact h
    | bk ζ1 M1 => rw [hr] at h; exact h
    | ct ζ1 M1 => rw [hr] at h; exact h
    | ex c fs ζ1 M1 => rw [hr] at h; exact h
    | no => rw [hr] at h; exact h⟩
theorem es_one (h1 : ES X Γ W st ms) : ESs X Γ W [st] ms := pss_one h1
theorem es_pass : ES X Γ W (.Pass pos) sPass := PS.imp ps_pass fun E σ H ⟨ζ, M, μ, rr, h⟩ => h _ _ _ (Nx.refl _ _) rr.hp rr.sl
theorem es_doc {x : Str} {j} : ES X Γ W (.Expr (.Constant (.str x) j pos) pos') sPass := PS.imp ps_doc fun E σ H ⟨ζ, M, μ, rr, h⟩ => h _ _ _ (Nx.refl _ _) rr.hp rr.sl
theorem es_expr (he : EX X Γ W e fe) (hs : swapsWith e none pos.line X.env = pure false := by rfl) : ES X Γ W (.Expr e pos) (sExpr fe) :=
  PS.imp (ps_expr he hs) fun E σ H ⟨ζ, M, μ, rr, h⟩ => ⟨ζ, M, μ, rr, PstS.then h rr.sl fun v H1 d M1 μ1 nx rh rv h1 => h1 _ _ _ (Nx.refl _ _) rh (rr.sl.mono nx)⟩
theorem es_ret (he : EX X Γ W e fe) : ES X Γ W (.Return (some e) pos) (sRet fe) :=
  PS.imp (ps_ret he) fun E σ H ⟨ζ, M, μ, rr, h⟩ => ⟨ζ, M, μ, rr, PstS.then h rr.sl fun v H1 d M1 μ1 nx rh rv h1 => h1 _ _ _ (Nx.refl _ _) rh rv⟩
theorem es_retN : ES X Γ W (.Return none pos) sRetN := PS.imp ps_retN fun E σ H ⟨ζ, M, μ, rr, h⟩ => h _ _ _ (Nx.refl _ _) rr.hp .non
theorem es_if {ma mb : MS} (hc : ET X Γ W c ft) (ha : ESs X Γ W sa ma) (hb : ESs X Γ W sb mb) : ES X Γ W (.If c sa sb pos) (sIf ft ma mb) :=
  PS.imp (ps_if hc ha hb) fun E σ H ⟨ζ, M, μ, rr, h⟩ => ⟨ζ, M, μ, rr, PstS.then h rr.sl fun v H1 d M1 μ1 nx rh rv h1 => by
    have rv : d = v := rv
    subst rv
    cases d with
    | true => exact ⟨ζ, M1, μ1, ⟨rr.sl.mono nx, rh⟩, h1⟩
    | false => exact ⟨ζ, M1, μ1, ⟨rr.sl.mono nx, rh⟩, h1⟩⟩
theorem es_set (i : Nat) {pos' : Pos} (hN : X.N.Nodup) (he : EX X Γ W e fe) (hi : X.N[i]? = some x := by rfl) (hx : Loc X.env.scope x := by first | exact Or.inl rfl | exact Or.inr rfl) (hs : swapsWith e (some (.Name x pos')) pos.line X.env = pure false := by rfl)
    (hf : X.fn x = true ∨ X.env.scope.names.lookup x = some .local := by first | exact .inl rfl | exact .inr rfl) : ES X Γ W (.Assign [.Name x pos'] e pos) (sSet i fe) :=
  PS.imp (ps_set hN hi hx he hs hf) fun E σ H ⟨ζ, M, μ, rr, h⟩ => ⟨ζ, M, μ, rr, PstS.then h rr.sl fun v H1 d M1 μ1 nx rh rv h1 => h1 _ _ _ (Nx.refl _ _) rh ((rr.sl.mono nx).set rv i)⟩
theorem es_asg {tg : Expr} (he : EX X Γ W e fe) (hg : EG X Γ tg p) (hs : swapsWithSole [tg] e pos.line X.env = pure false := by rfl) (hw : swappedStores [tg] e X.env = pure none := by rfl)
    (h1 : (assignEach [tg] X.env).map (·.2) = [assign tg X.env] := by rfl) : ES X Γ W (.Assign [tg] e pos) (sAsg fe p) :=
  PS.imp (ps_asg he hg hs hw h1) fun E σ H ⟨ζ, M, μ, rr, h⟩ => ⟨ζ, M, μ, rr, PstS.then h rr.sl fun v H1 d M1 μ1 nx rh rv h1 => by
    refine ⟨d, M1, μ1, rh, rv, ?_⟩
    cases hb : bindP p d with
    | none => rw [hb] at h1; exact h1.elim
    | some l =>
      rw [hb] at h1
      exact fun l' br => h1 _ _ _ (Nx.refl _ _) rh (RSl.setAll br (rr.sl.mono nx))⟩
theorem es_par (i j : Nat) {y : Str} {px py pt : Pos} {kt k2 pt2} (hc : X.calm = true) (hN : X.N.Nodup) (ha : EA X Γ W [a, b] ga) (hij : i ≠ j) (hi : X.N[i]? = some x := by rfl) (hj : X.N[j]? = some y := by rfl)
    (hx : X.env.scope.names.lookup x = some .local := by rfl) (hy : X.env.scope.names.lookup y = some .local := by rfl)
    (hw : swappedStores [.Tuple [.Name x px, .Name y py] kt pt] (.Tuple [a, b] k2 pt2) X.env = pure (some [x, y]) := by rfl)
    (hs : swapsWithSole [.Tuple [.Name x px, .Name y py] kt pt] (.Tuple [a, b] k2 pt2) pos.line X.env = pure false := by rfl) :
    ES X Γ W (.Assign [.Tuple [.Name x px, .Name y py] kt pt] (.Tuple [a, b] k2 pt2) pos) (sPar i j ga) :=
  PS.imp (ps_par hc hN hi hj hij hx hy ha hw hs) fun E σ H ⟨ζ, M, μ, rr, h⟩ => ⟨ζ, M, μ, rr, PstS.then h rr.sl fun vs H1 ds M1 μ1 nx rh rv h1 => by
    replace rv : RVs X.K H1 μ1 ds vs := rv
    split at h1
    · obtain ⟨u, w', rfl, r1, r2⟩ := two_rel rv
      exact ⟨u, w', rfl, h1 _ _ _ (Nx.refl _ _) rh (((rr.sl.mono nx).set r1 i).set r2 j)⟩
    · exact h1.elim⟩
/-- o[i] = v -/
def rPut (P : Program) (w : World) (K : PySem.W.Frag) (Γ : Gm) (g : D → D → D → Hs → Option Hs) : TSet := fun o i v H Q => ∃ d e u M μ, RH P w K Γ μ M H ∧ RV K H μ d o ∧ RV K H μ e i ∧ RV K H μ u v ∧ match g d e u M with
  | some M' => ∀ H' μ', Nx μ H μ' H' → RH P w K Γ μ' M' H' → Q H'
  | none => False
theorem es_put {g : D → D → D → Hs → Option Hs} {fi : MX} {p2 : Pos} {ix : Expr} (hset : PSet X (rPut X.prog X.w X.K Γ g)) (ho : EX X Γ W o fo) (hi : EX X Γ W ix fi) (hv : EX X Γ W v fv)
    (ha : ∀ v, assign (.Subscript o ix p2) X.env v = (do
      let ov ← holding [v] (eval o X.env)
      let iv ← holding [v, ov] (eval ix X.env)
      standAt p2
      holding [v, ov, iv] (setItem ov iv v)
      release [v, ov, iv] []) := by intro _; rfl)
    (hs : swapsWithSole [.Subscript o ix p2] v pos.line X.env = pure false := by rfl) (hw : swappedStores [.Subscript o ix p2] v X.env = pure none := by rfl)
    (h1 : (assignEach [.Subscript o ix p2] X.env).map (·.2) = [assign (.Subscript o ix p2) X.env] := by rfl) : ES X Γ W (.Assign [.Subscript o ix p2] v pos) (sPut g fo fi fv) :=
  PS.imp (ps_asg hv (pg_sub ho hi hset ha) hs hw h1) fun E σ H ⟨ζ, M, μ, rr, h⟩ => ⟨ζ, M, μ, rr, PstS.then h rr.sl fun v H1 d M1 μ1 nx rh rv h1 => ⟨ζ, M1, μ1, ⟨rr.sl.mono nx, rh⟩, PstS.then h1 (rr.sl.mono nx) fun u H2 e M2 μ2 nx2 rh2 ru h2 =>
    ⟨ζ, M2, μ2, ⟨(rr.sl.mono nx).mono nx2, rh2⟩, PstS.then h2 ((rr.sl.mono nx).mono nx2) fun z H3 k M3 μ3 nx3 rh3 rz h3 => by
      refine ⟨e, k, d, M3, μ3, rh3, RV.mono nx3 ru, rz, RV.mono nx3 (RV.mono nx2 rv), ?_⟩
      cases hg : g e k d M3 with
      | none => rw [hg] at h3; exact h3.elim
      | some M4 =>
        rw [hg] at h3
        exact fun H4 μ4 nx4 rh4 => h3 _ _ _ nx4 rh4 (((rr.sl.mono nx).mono nx2).mono (nx3.trans nx4))⟩⟩⟩
def gPutL (o i v : D) (M : Hs) : Option Hs := match o, i with
  | .ref n, .int k => match hLst M n with
    | some xs => match ixN xs.length k with
      | some j => some (M.set n (.lst (xs.set j v)))
      | none => none
    | none => none
  | _, _ => none
theorem put_list : PSet X (rPut X.prog X.w X.K Γ gPutL) := by
  intro pins s σ H o i v ov iv u Q I ro ri rv ⟨d, e, f, M, μ, rh, rd, re, rf, h⟩
  unfold gPutL at h
  split at h
  · rename_i M' hg
    split at hg
    · obtain ⟨a, rfl, e1⟩ := ref_rel rd
      cases re
      split at hg
      · rename_i ys e2
        obtain ⟨vs, g, r2⟩ := nlst rh (hLst_ok rh e2) e1
        split at hg
        · rename_i j hj
          cases hg
          refine set_list pins s σ H _ _ v ov iv u Q I ro ri rv ⟨a, vs, _, j, rfl, rfl, g, by rw [← r2.length]; exact hj, ?_⟩
          exact h _ _ (Nx.write (mutL g)) (rh.write e1 (mutL g) ⟨_, upd_same, (RVs.set rf j r2).mono (Nx.write (mutL g))⟩)
        · cases hg
      · cases hg
    · cases hg
  · exact h.elim
/-- x op= e -/
def ipR (P : Program) (w : World) (K : PySem.W.Frag) (Γ : Gm) (g : D → D → Hs → Option (D × Hs)) : TIp := r2 P w K Γ g
theorem es_aug (i : Nat) {op : Operator} {g : D → D → Hs → Option (D × Hs)} {pos' : Pos} (hN : X.N.Nodup) (ho : PIp X op (ipR X.prog X.w X.K Γ g)) (he : EX X Γ W e fe) (hi : X.N[i]? = some x := by rfl) (hx : Loc X.env.scope x := by first | exact Or.inl rfl | exact Or.inr rfl)
    (hf : X.fn x = true ∨ X.env.scope.names.lookup x = some .local := by first | exact .inl rfl | exact .inr rfl) : ES X Γ W (.AugAssign (.Name x pos') op e pos) (sAug i g fe) :=
  PS.imp (ps_aug hN hi hx he ho hf) fun E σ H ⟨ζ, M, μ, rr, h⟩ => by
    unfold sAug at h
    split at h
    · rename_i d hd
      obtain ⟨v, e1, e2⟩ := rr.sl.at_ i d hd
      refine ⟨v, e1, ζ, M, μ, rr, PstS.then h rr.sl fun u H1 k M1 μ1 nx rh rv h1 => ⟨d, k, M1, μ1, rh, RV.mono nx e2, rv, ?_⟩⟩
      cases hg : g d k M1 with
      | none => rw [hg] at h1; exact h1.elim
      | some q =>
        rw [hg] at h1
        exact fun z H2 μ2 nx2 rh2 rz => h1 _ _ _ nx2 rh2 (((rr.sl.mono nx).mono nx2).set rz i)
    · exact h.elim
theorem ip_i {op : Operator} {g : Int → Int → Int} (h : PIp X op (ipI g)) : PIp X op (ipR X.prog X.w X.K Γ (gI (fun _ _ => true) fun i j => .int (g i j))) := by
  intro pins s σ H x y v u Q I rx ry ⟨d, e, M, μ, rh, rd, re, hq⟩
  unfold gI at hq
  split at hq
  · cases rd; cases re
    exact h pins s σ H _ _ v u Q I rx ry ⟨_, _, rfl, rfl, Pk.here rh hq (.int _)⟩
  · exact hq.elim
theorem i_add : PIp X .Add (ipR X.prog X.w X.K Γ (gI (fun _ _ => true) fun i j => .int (i + j))) := ip_i ip_add
theorem i_sub : PIp X .Sub (ipR X.prog X.w X.K Γ gSub) := ip_i ip_sub
theorem es_while {mb : MS} (hp : PassesOwn (model X.prog X.w) X.A X.env X.xe) (hc : ET X Γ W c ft) (hb : ESs X Γ W sb mb) : ES X Γ W (.While c sb [] pos) (sWhile ft mb) :=
  PS.imp (ps_while hp hc hb) fun E σ H ⟨ζ, M, μ, rr, h⟩ => by
    refine ⟨fun m σ H => ∃ ζ M μ, RR X.prog X.w X.K Γ μ H ζ M σ ∧ PstS X.prog X.w X.K Γ W μ H (whileN ft mb m ζ M) E, ⟨far, ζ, M, μ, rr, h⟩, ?_⟩
    rintro m σ H ⟨ζ, M, μ, rr, h⟩
    cases m with
    | zero => exact h.elim
    | succ m =>
      refine ⟨ζ, M, μ, rr, PstS.then h rr.sl fun v H1 d M1 μ1 nx rh rv h1 => ?_⟩
      have rv : d = v := rv
      subst rv
      cases d with
      | true =>
        rw [if_pos rfl]
        refine ⟨fun σ' H' => ∃ ζ M μ, RR X.prog X.w X.K Γ μ H' ζ M σ' ∧ PstS X.prog X.w X.K Γ W μ H' (whileN ft mb m ζ M) E, fun σ' H' q => ⟨m, Nat.lt_succ_self _, q⟩, ζ, M1, μ1, ⟨rr.sl.mono nx, rh⟩, ?_⟩
        rw [if_pos rfl] at h1
        cases hr : mb ζ M1 with
        | nx ζ1 M1 => rw [hr] at h1; exact fun σ' H' μ' x rh sl => ⟨ζ1, M1, μ', ⟨sl, rh⟩, PstS.mono h1 x⟩
        | ct ζ1 M1 => rw [hr] at h1; exact fun σ' H' μ' x rh sl => ⟨ζ1, M1, μ', ⟨sl, rh⟩, PstS.mono h1 x⟩
        | bk ζ1 M1 => rw [hr] at h1; exact h1
        | rt d M1 => rw [hr] at h1; exact h1
        | ex c fs ζ1 M1 => rw [hr] at h1; exact h1
        | no => rw [hr] at h1; exact h1
      | false =>
        rw [if_neg Bool.false_ne_true]
        exact h1 _ _ _ (Nx.refl _ _) rh (rr.sl.mono nx)
/-- the walked thing goes as told -/
def YOk (P : Program) (w : World) (K : PySem.W.Frag) (Γ : Gm) (H0 : Hp) (μ0 : List Addr) (yd : Yd) (J : It) : Prop := ∀ (i : Nat) (H : Hp) (μ : List Addr) (M : Hs), Nx μ0 H0 μ H → RH P w K Γ μ M H →
  (yd.y i M = some none → J.stop i H) ∧ ∀ d, yd.y i M = some (some d) → J.go i H ∧ ∀ x H2, J.yld i H x H2 → ∃ μ2, Nx μ H μ2 H2 ∧ RH P w K Γ μ2 M H2 ∧ RV K H2 μ2 d x
def iY (P : Program) (w : World) (K : PySem.W.Frag) (Γ : Gm) (W : WX) (s : MY) : TI := fun σ H R => ∃ ζ M μ, RR P w K Γ μ H ζ M σ ∧ Pst P w K Γ (YOk P w K Γ) W σ μ H (s ζ M) R
abbrev EI (X : Cx) (Γ : Gm) (W : WX) (tg it : Expr) (s : MY) : Prop := PI X tg it (iY X.prog X.w X.K Γ W s)
theorem PI.imp {tg e : Expr} {t t' : TI} (h : PI X tg e t) (i : ∀ σ H Q, t' σ H Q → t σ H Q) : PI X tg e t' := ⟨fun pins s σ H Q I q => h.run pins s σ H Q I (i _ _ _ q)⟩
theorem es_for {tg it : Expr} {s : MY} {mb : MS} (hp : PassesOwn (model X.prog X.w) X.A X.env X.xe) (hc : X.calm = true) (hi : EI X Γ W tg it s) (hg : EG X Γ tg p) (hb : ESs X Γ W sb mb)
    (hs : ∀ x, foldedSetIterable it X.env x = pure x := by intro _; rfl) : ES X Γ W (.For tg it sb [] pos) (sFor s p mb) :=
  PS.imp (ps_for hp hc hi hg hb hs) fun E σ H ⟨ζ, M, μ, rr, h⟩ => ⟨ζ, M, μ, rr, PstS.then h rr.sl fun J H1 yd M1 μ1 nx rh rv h1 => by
    refine ⟨fun i m σ H => ∃ ζ M μ, Nx μ1 H1 μ H ∧ RR X.prog X.w X.K Γ μ H ζ M σ ∧ PstS X.prog X.w X.K Γ W μ H (forN yd.y p mb m i ζ M) E, ⟨yd.fuel, ζ, M1, μ1, Nx.refl _ _, ⟨rr.sl.mono nx, rh⟩, h1⟩, ?_⟩
    rintro i m σ H ⟨ζ, M, μ, nx, rr, h⟩
    cases m with
    | zero => exact h.elim
    | succ m =>
      obtain ⟨st, go⟩ := rv i H μ M nx rr.hp
      simp only [forN] at h
      split at h
      · exact h.elim
      · rename_i hy
        exact .inl ⟨st hy, h _ _ _ (Nx.refl _ _) rr.hp rr.sl⟩
      · rename_i d hy
        obtain ⟨g1, g2⟩ := go d hy
        refine .inr ⟨g1, fun σ' H' => ∃ ζ M μ, Nx μ1 H1 μ H' ∧ RR X.prog X.w X.K Γ μ H' ζ M σ' ∧ PstS X.prog X.w X.K Γ W μ H' (forN yd.y p mb m (i + 1) ζ M) E, fun σ' H' q => ⟨m, Nat.lt_succ_self _, q⟩, fun x H2 hx => ?_⟩
        obtain ⟨μ2, nx2, rh2, rv2⟩ := g2 x H2 hx
        refine ⟨d, M, μ2, rh2, rv2, ?_⟩
        split at h
        · exact h.elim
        · rename_i l hl
          rw [hl]
          intro l' br
          refine ⟨setAll ζ l, M, μ2, ⟨RSl.setAll br (rr.sl.mono nx2), rh2⟩, ?_⟩
          have h2 := PstS.mono h nx2
          have n2 := nx.trans nx2
          cases hr : mb (setAll ζ l) M with
          | nx ζ3 M3 => rw [hr] at h2; exact fun σ' H' μ' x rh sl => ⟨ζ3, M3, μ', n2.trans x, ⟨sl, rh⟩, PstS.mono h2 x⟩
          | ct ζ3 M3 => rw [hr] at h2; exact fun σ' H' μ' x rh sl => ⟨ζ3, M3, μ', n2.trans x, ⟨sl, rh⟩, PstS.mono h2 x⟩
          | bk ζ3 M3 => rw [hr] at h2; exact h2
          | rt d M3 => rw [hr] at h2; exact h2
          | ex c fs ζ3 M3 => rw [hr] at h2; exact h2
          | no => rw [hr] at h2; exact h2⟩
end
end Mi
end
section
set_option maxRecDepth 100000
set_option maxHeartbeats 2000000
set_option autoImplicit false
namespace PySem
open Sem (wp)
open AutoSeq1 (wpAny_loadPart')
theorem mi_enumT (l : Addr) (items : Array Value) (n : Nat) (dct : Option Addr) (sl : Array (Option Value)) :
    Meets (Builtin.«enumerate.__new__» ⟨[.type "enumerate", .ref l], []⟩) (fun _ R s => s.heap.get? l = some { cls := .type "tuple", dict := dct, data := .seq items n, slots := sl } ∧
      R (.ok (.ret (.ref (s.heap.push { cls := .type "tuple_iterator", data := .fields #[.ref l, .int 0 0] }).objs.size)))
        { s with heap := (s.heap.push { cls := .type "tuple_iterator", data := .fields #[.ref l, .int 0 0] }).push { cls := .type "enumerate", data := .fields #[.none, .bool false, .ref s.heap.objs.size, rawInt 0, .none, .none] } }) :=
  .of_wp fun prog w A R s h => by
    obtain ⟨hp, g, d, tk, os⟩ := s; obtain ⟨hl, h⟩ := h
    have hsub := sub_enumerate
    have hL : Heap.IsTuple (Shared.heap ⟨hp, g, d, tk, os⟩) l items := ⟨_, hl, rfl, n, rfl⟩
    wp_walk using wpAny_loadPart' hl
    refine wpAny_stack_any fun st => wpAny_pure ?_
    split
    · rename_i c _ _ _ _ _
      cases (c == Value.type "enumerate")
      · wp_walk using wpAny_loadPart' hl, wpAny_pyIter_tuple hL
        exact ⟨_, rfl, h⟩
      · wp_walk using wpAny_loadPart' hl, wpAny_pyIter_tuple hL
        exact ⟨_, rfl, h⟩
    · wp_walk using wpAny_loadPart' hl, wpAny_pyIter_tuple hL
      exact ⟨_, rfl, h⟩
theorem mi_call_enumT {prog : Program} {w : World} {A : Around} {E : Value → Shared → Prop} {s : Shared} {l : Addr} {items : Array Value} {Q : Value → Shared → Prop} (hL : s.heap.IsTuple l items)
    (h : ∀ h', IsEnum h' (s.heap.objs.size + 1) s.heap.objs.size 0 .none → h'.IsTupleIter s.heap.objs.size l 0 → h'.objs.size = s.heap.objs.size + 2 →
      (∀ b o, s.heap.get? b = some o → h'.get? b = some o) → Q (.ref (s.heap.objs.size + 1)) { s with heap := h' }) :
    wpAny (model prog w) A (call (.type "enumerate") [.ref l]) Q E s := by
  obtain ⟨⟨c, dct, dt, sl⟩, hl, hc, n, hd⟩ := hL
  replace hc : c = .type "tuple" := hc
  replace hd : dt = .seq items n := hd
  subst hc hd
  refine callType_new F.called_enumerate (by decide) (F.typeCall_enumerate_1 _) (F.newCall_enumerate_1 _) (fun obj => F.args_object_init_2 obj _) F.entry_enumerate_new
    (mi_enumT l items n dct sl) ⟨hl, ?_⟩
  have hz : (s.heap.push { cls := .type "tuple_iterator", data := .fields #[.ref l, .int 0 0] }).objs.size = s.heap.objs.size + 1 := Heap.size_push ..
  show _ ∧ _
  rw [hz]
  have he : IsEnum ((s.heap.push { cls := .type "tuple_iterator", data := .fields #[.ref l, .int 0 0] }).push
      { cls := .type "enumerate", data := .fields #[.none, .bool false, .ref s.heap.objs.size, rawInt 0, .none, .none] }) (s.heap.objs.size + 1) s.heap.objs.size 0 .none := by
    have := Heap.get?_push_size (s.heap.push { cls := .type "tuple_iterator", data := .fields #[.ref l, .int 0 0] })
      (o := { cls := .type "enumerate", data := .fields #[.none, .bool false, .ref s.heap.objs.size, rawInt 0, .none, .none] }) rfl
    rw [hz] at this; exact this
  refine ⟨⟨_, he, rfl⟩, h _ he ⟨_, Heap.get?_push_of_some _ (Heap.get?_push_size _ rfl), rfl, rfl⟩ (by rw [Heap.size_push, hz]) fun b o x => Heap.get?_push_of_some _ (Heap.get?_push_of_some _ x)⟩
end PySem
namespace Mi
open PySem PySem.Spec PyProof.Rows L2

def IteT (K : PySem.W.Frag) (a : Addr) : It :=
  ⟨fun i H => ∃ (xs : List V) (x : V), SqT K H a xs ∧ xs[i]? = some x, fun i H v H' => ∃ T x, v = .ref T ∧ H T = none ∧ H' = upd H T (.tup [.int (i : Nat), x]) ∧ ∀ xs, SqT K H a xs → xs[i]? = some x, fun i H => ∃ xs : List V, SqT K H a xs ∧ xs.length ≤ i⟩
theorem turn_enumT {P : Program} {w : World} {K : PySem.W.Frag} {elts : List Expr} {kk : Nat} {tpos : Pos} (a e it : Addr) :
    Turn P w K (.Tuple elts kk tpos) (IteT K a) [e, it] e (fun i h => (∃ old, IsEnum h e it ((i : Nat) : Int) old) ∧ h.IsTupleIter it a i ∧ e ≠ it ∧ a ≠ it ∧ a ≠ e) where
  mem := by simp
  obj := fun i h st b hb => by
    obtain ⟨⟨old, he⟩, ⟨o, ho, hc, hd⟩, _⟩ := st
    have e' : b = e ∨ b = it := by simpa using hb
    rcases e' with z | z
    · rw [z]; exact ⟨_, he, fun v q => nomatch q⟩
    · rw [z]; exact ⟨o, ho, fun v q => by rw [hd] at q; cases q⟩
  keep := fun i h h' st k => let ⟨⟨old, he⟩, hi, hne⟩ := st; ⟨⟨old, k e (by simp) _ he⟩, hi.at fun o q => k it (by simp) o q, hne⟩
  item := by
    intro X hP hw hK hc i pins s σ H E I hf st hg
    subst hP hw hK
    obtain ⟨⟨old, he⟩, hit, hne, hai, hae⟩ := st
    obtain ⟨xs, x, hq, hx⟩ := hg
    obtain ⟨its, rv, p, hz⟩ := I.tuple hq
    obtain ⟨u, hu, ru⟩ := rv.get hx
    have hel : e < s.heap.objs.size := Heap.lt_size he
    have hil : it < s.heap.objs.size := by obtain ⟨_, q, _⟩ := hit; exact Heap.lt_size q
    have hit0 := hit
    have pt : s.heap.IsTuple a its.toArray := p
    have hlt : i < its.toArray.size := by
      have := (List.getElem?_eq_some_iff.mp hu).1
      simpa using this
    refine wpAny_pyNext_enum_itemD (Draws.tuple (by show X.A.in1.handled = none; exact I.ok.hd hc) it a hai its.toArray) he ⟨hit, pt⟩ hlt hne (by simp; exact ⟨hne, fun z => hae z.symm⟩) fun x' h' tk hP ho hit' hT hsz hk => ?_
    have hx' : x' = u := by
      have h1 : its.toArray[i]? = some x' := hP
      have h2 : its.toArray[i]? = some u := by simpa using hu
      rw [h1] at h2
      exact Option.some.inj h2
    subst hx'
    refine ⟨_, rfl, wpAny_letOwnedTupleGo_enum (s := { s with heap := h', toks := tk + 1 }) ho fun h'' he' sb => ?_⟩
    have hT2 : h''.get? s.heap.objs.size = some { cls := .type "tuple", data := .seq #[.int i tk, x'] } := (sb.2 _ (Nat.ne_of_gt hel)).trans hT
    have new : ObjOk X.prog X.w (upd H s.heap.objs.size (.tup [.int (i : Nat), x])) h'' s.heap.objs.size (.tup [.int (i : Nat), x]) :=
      ⟨by show 2 ≤ sizeLine; decide, [.int i tk, x'], .cons ⟨_, rfl⟩ (.cons ru .nil), ⟨_, hT2, rfl, _, rfl⟩⟩
    have I1 : Inv X pins σ (upd H s.heap.objs.size (.tup [.int (i : Nat), x])) { s with heap := h'', toks := tk + 1 } :=
      I.turnedNew (ch := [e, it]) (fun b ob hb q => (sb.2 b (fun z => hb (by simp [z]))).trans (hk b ob (fun z => hb (by simp [z])) (fun z => hb (by simp [z])) q)) hf (Nat.le_refl _) new
    refine ⟨.ref s.heap.objs.size, _, I1, rfl, ⟨_, x, rfl, I.hok.fresh (Nat.le_refl _), rfl, fun ys hy => by rw [I.tuple_inj hy hq]; exact hx⟩, ⟨⟨x', ?_⟩, hit'.1.at fun o q => (sb.2 it (Ne.symm hne)).trans q, hne, hai, hae⟩, fun b hb => ?_⟩
    · have e1 : ((i + 1 : Nat) : Int) = (i : Int) + 1 := by omega
      rw [e1]; exact he'
    · have hb' : b < s.heap.objs.size := by
        have e' : b = e ∨ b = it := by simpa using hb
        rcases e' with z | z
        · rw [z]; exact hel
        · rw [z]; exact hil
      rw [upd_ne (Nat.ne_of_lt hb')]
      exact (hf b hb).1
  done := by
    intro X hP hw hK hc i pins s σ H E I hf st hg
    subst hP hw hK
    obtain ⟨⟨old, he⟩, hit, hne, hai, hae⟩ := st
    obtain ⟨xs, hq, hx⟩ := hg
    obtain ⟨its, rv, p, hz⟩ := I.tuple hq
    obtain ⟨f0, f1, f2, f3, f4, f5⟩ := hf it (by simp)
    have hl := rv.length
    have pt : s.heap.IsTuple a its.toArray := p
    have hT : s.TypeIs (.ref e) "enumerate" := ⟨_, he, rfl⟩
    unfold pyNext
    refine wpAny_bind (wpAny_attempt (wpAny_callSpecial?_slot (name := Str.ofString "__next__") hT F.slot_enumerate_next
      (wpAny_call_entry F.slot_enumerate_next hT F.entry_enumerate_next ?_ (F.args_enumerate_next_1 _))))
    show wpAny _ _ (field (.ref e) 2 >>= _) _ _ _
    refine wpAny_bind (wpAny_field he rfl (x := .ref it) rfl ?_)
    refine wpAny_bind (wpAny_nextOf_tuple_end (by show X.A.in1.handled = none; exact I.ok.hd hc) hit pt (by simp; omega) fun h' x he' hx' => ?_)
    obtain ⟨o, ho, hcl⟩ := hx'
    refine wpAny_bind (wpAny_isInstance (T := "StopIteration") (b := true) ⟨o, ho, hcl⟩ isSubtype_stop ?_)
    exact wpAny_pure ⟨rfl, I.turned (t' := s.toks) (fun b o hb q => he' b o hb q) f0 f1 f3 f4 f5⟩
  self := fun A i s Q E st h => let ⟨⟨_, he⟩, _⟩ := st; wpAny_pyIter_enum he h
def iEnumT (K : PySem.W.Frag) (ta : TA) : TI := fun σ H R => ta σ H fun vs H1 => ∃ a xs, vs = [.ref a] ∧ SqT K H1 a xs ∧ R (IteT K a) H1
theorem pi_enumT {X : Cx} {e : Expr} {ta : TA} {p pos tpos : Pos} {elts : List Expr} {kk : Nat} (hg : Gl X "enumerate") (hm : X.mg "enumerate" = none) (ha : PA X [e] ta) (hs : starEach [e] X.env = [(false, eval e X.env)] := by rfl) :
    PI X (.Tuple elts kk tpos) (.Call (.Name "enumerate" p) [e] [] pos) (fun σ H R => ta σ H fun vs H1 => ∃ a xs, vs = [.ref a] ∧ ((SqL X.K H1 a xs ∧ R (Ite X.K a) H1) ∨ (SqT X.K H1 a xs ∧ R (IteT X.K a) H1))) := by
  refine ⟨fun pins s σ H R I h => ?_⟩
  refine Call_ (ld_blt I hg hm boot_enumerate (PyProof.Rows.callWith_type1 (thn (ha.run pos pins s σ H _ I h) fun us s1 ⟨vs, H1, I1, r1, q1⟩ => ?_) hs rfl))
  obtain ⟨a, xs, ex, hq⟩ := q1
  subst ex
  cases r1 with
  | cons r rr =>
    cases rr
    cases r
    have key : ∀ b, b = s1.heap.objs.size + 1 ∨ b = s1.heap.objs.size → s1.heap.objs.size ≤ b := fun b e' => by
      rcases e' with z | z
      · rw [z]; exact Nat.le_add_right _ _
      · rw [z]; exact Nat.le_refl _
    rcases hq with ⟨hq, q⟩ | ⟨hq, q⟩
    · obtain ⟨its, rv, p', hz⟩ := I1.list hq
      refine call_enumerate_list p'.isList fun h' he hit hsz hk => wpAny_pyIter_enum he ?_
      have I2 : Inv X pins σ H1 { s1 with heap := h' } := I1.kept (t' := s1.toks) hk
      refine ⟨s1.heap.objs.size + 1, [s1.heap.objs.size + 1, s1.heap.objs.size], _, _, H1, rfl, I2, turn_enum a (s1.heap.objs.size + 1) s1.heap.objs.size, ⟨⟨.none, he⟩, hit, Nat.succ_ne_self _⟩, fun b hb => ?_, q⟩
      have hle := key b (by simpa using hb)
      exact I1.fpOk hle (I1.hok.fresh hle)
    · obtain ⟨its, rv, p', hz⟩ := I1.tuple hq
      have pt : s1.heap.IsTuple a its.toArray := p'
      have hal : a < s1.heap.objs.size := by obtain ⟨o, ho, _⟩ := pt; exact Heap.lt_size ho
      refine mi_call_enumT pt fun h' he hit hsz hk => wpAny_pyIter_enum he ?_
      have I2 : Inv X pins σ H1 { s1 with heap := h' } := I1.kept (t' := s1.toks) hk
      refine ⟨s1.heap.objs.size + 1, [s1.heap.objs.size + 1, s1.heap.objs.size], _, _, H1, rfl, I2, turn_enumT a (s1.heap.objs.size + 1) s1.heap.objs.size, ⟨⟨.none, he⟩, hit, Nat.succ_ne_self _, Nat.ne_of_lt hal, Nat.ne_of_lt (Nat.lt_succ_of_lt hal)⟩, fun b hb => ?_, q⟩
      have hle := key b (by simpa using hb)
      exact I1.fpOk hle (I1.hok.fresh hle)

def ySeq (f : MX) : MY := fun ζ M => (f ζ M).bind fun d M1 => match d with
  | .tup xs => .ok ⟨fun i _ => some xs[i]?, xs.length + 1⟩ M1
  | .klst xs => .ok ⟨fun i _ => some xs[i]?, xs.length + 1⟩ M1
  | .ref n => match hSeq M1 (.ref n) with
    | some xs => .ok ⟨fun i M => match hSeq M (.ref n) with
      | some ys => some ys[i]?
      | none => none, xs.length + 1⟩ M1
    | none => .no
  | _ => .no
def okRg (i : Int) : Bool := decide (-(2 ^ 62) ≤ i) && decide (i < 2 ^ 62)
def yRg (lo : Int) (n : Nat) : Yd := ⟨fun i _ => some (if i < n then some (.int (lo + i)) else none), n + 1⟩
def yRg1 (f : MX) : MY := fun ζ M => (f ζ M).bind fun d M1 => match d with
  | .int j => if okRg j = true then .ok (yRg 0 j.toNat) M1 else .no
  | _ => .no
def yRg2 (f g : MX) : MY := fun ζ M => (f ζ M).bind fun d M1 => (g ζ M1).bind fun e M2 => match d, e with
  | .int i, .int j => if (okRg i && okRg j) = true then .ok (yRg i (j - i).toNat) M2 else .no
  | _, _ => .no
def yEnum (f : MX) : MY := fun ζ M => (f ζ M).bind fun d M1 => match d with
  | .tup xs => .ok ⟨fun i _ => some (match xs[i]? with | some x => some (.tup [.int (i : Nat), x]) | none => none), xs.length + 1⟩ M1
  | .ref n => match hSeq M1 (.ref n) with
    | some xs => .ok ⟨fun i M => match hSeq M (.ref n) with
      | some ys => some (match ys[i]? with | some x => some (.tup [.int (i : Nat), x]) | none => none)
      | none => none, xs.length + 1⟩ M1
    | none => .no
  | _ => .no
section
variable {P : Program} {w : World} {K : PySem.W.Frag} {Γ : Gm} {μ0 : List Addr} {H0 : Hp}
theorem RVs.getN {H : Hp} {μ : List Addr} {xs : List D} {vs : List V} {i : Nat} (r : RVs K H μ xs vs) (h : xs[i]? = none) : vs.length ≤ i := by
  rw [← r.length]
  exact List.getElem?_eq_none_iff.mp h
theorem y_tup {a : Addr} {vs : List V} {xs : List D} {f : Nat} (g : SqT K H0 a vs) (r : RVs K H0 μ0 xs vs) : YOk P w K Γ H0 μ0 ⟨fun i _ => some xs[i]?, f⟩ (Itt K a) := by
  intro i H μ M nx rh
  refine ⟨fun h => ⟨vs, nx.sqT g, (r.mono nx).getN (Option.some.inj h)⟩, fun d h => ?_⟩
  obtain ⟨v, h1, h2⟩ := (r.mono nx).get (Option.some.inj h)
  refine ⟨⟨vs, v, nx.sqT g, h1⟩, fun x H2 hy => ?_⟩
  obtain ⟨e, hy⟩ := hy
  subst e
  have h3 := hy vs (nx.sqT g)
  rw [h1] at h3
  cases h3
  exact ⟨μ, Nx.refl _ _, rh, h2⟩
theorem y_kls {a : Addr} {vs : List V} {xs : List D} {f : Nat} (g : SqK K H0 a vs) (r : RVs K H0 μ0 xs vs) : YOk P w K Γ H0 μ0 ⟨fun i _ => some xs[i]?, f⟩ (Itl K a) := by
  intro i H μ M nx rh
  have g1 : SqL K H a vs := (show SqK K H a vs from g.imp (fun ⟨o, h⟩ => ⟨o, nx.frz _ _ _ h⟩) id).sq
  refine ⟨fun h => ⟨vs, g1, (r.mono nx).getN (Option.some.inj h)⟩, fun d h => ?_⟩
  obtain ⟨v, h1, h2⟩ := (r.mono nx).get (Option.some.inj h)
  refine ⟨⟨vs, v, g1, h1⟩, fun x H2 hy => ?_⟩
  obtain ⟨e, hy⟩ := hy
  subst e
  have h3 := hy vs g1
  rw [h1] at h3
  cases h3
  exact ⟨μ, Nx.refl _ _, rh, h2⟩
theorem y_ref {a : Addr} {n f : Nat} (g : μ0[n]? = some a) : YOk P w K Γ H0 μ0 ⟨fun i M => match hSeq M (.ref n) with | some ys => some ys[i]? | none => none, f⟩ (Itl K a) := by
  intro i H μ M nx rh
  have e := nx.pre _ _ g
  have key : ∀ ys, hSeq M (.ref n) = some ys → ∃ vs, SqL K H a vs ∧ RVs K H μ ys vs := fun ys hy => by
    obtain ⟨b, vs, hb, hs, r⟩ := hRef_ok rh hy (.ref e)
    cases hb
    exact ⟨vs, hs, r⟩
  refine ⟨fun h => ?_, fun d h => ?_⟩
  · simp only at h
    split at h
    · rename_i ys hy
      obtain ⟨vs, hs, r⟩ := key ys hy
      exact ⟨vs, hs, r.getN (Option.some.inj h)⟩
    · cases h
  · simp only at h
    split at h
    · rename_i ys hy
      obtain ⟨vs, hs, r⟩ := key ys hy
      obtain ⟨v, h1, h2⟩ := r.get (Option.some.inj h)
      refine ⟨⟨vs, v, hs, h1⟩, fun x H2 hy => ?_⟩
      obtain ⟨e, hy⟩ := hy
      subst e
      have h3 := hy vs hs
      rw [h1] at h3
      cases h3
      exact ⟨μ, Nx.refl _ _, rh, h2⟩
    · cases h
theorem y_rg {lo : Int} {n : Nat} : YOk P w K Γ H0 μ0 (yRg lo n) (Itr lo n) := by
  intro i H μ M nx rh
  refine ⟨fun h => ?_, fun d h => ?_⟩
  · simp only [yRg] at h
    split at h
    · cases h
    · rename_i hn
      exact Nat.not_lt.mp hn
  · simp only [yRg] at h
    split at h
    · rename_i hn
      cases h
      refine ⟨hn, fun x H2 hy => ?_⟩
      obtain ⟨e, hy⟩ := hy
      subst e hy
      exact ⟨μ, Nx.refl _ _, rh, .int _⟩
    · cases h
theorem y_enumT {a : Addr} {vs : List V} {xs : List D} {f : Nat} (g : SqT K H0 a vs) (r : RVs K H0 μ0 xs vs) : YOk P w K Γ H0 μ0 ⟨fun i _ => some (match xs[i]? with | some x => some (.tup [.int (i : Nat), x]) | none => none), f⟩ (IteT K a) := by
  intro i H μ M nx rh
  refine ⟨fun h => ?_, fun d h => ?_⟩
  · simp only at h
    split at h
    · cases h
    · rename_i hx
      exact ⟨vs, nx.sqT g, (r.mono nx).getN hx⟩
  · simp only at h
    split at h
    · rename_i z hz
      cases h
      obtain ⟨v, h1, h2⟩ := (r.mono nx).get hz
      refine ⟨⟨vs, v, nx.sqT g, h1⟩, fun x H2 hy => ?_⟩
      obtain ⟨T, y, e1, hT, e2, hy⟩ := hy
      subst e1 e2
      have h3 := hy vs (nx.sqT g)
      rw [h1] at h3
      cases h3
      exact ⟨μ, Nx.fresh0 hT, rh.fresh hT, .tup (SqT.of upd_same) (.cons (.int _) (.cons (h2.mono (Nx.fresh0 hT)) .nil))⟩
    · cases h
theorem y_enumL {a : Addr} {n f : Nat} (g : μ0[n]? = some a) : YOk P w K Γ H0 μ0 ⟨fun i M => match hSeq M (.ref n) with | some ys => some (match ys[i]? with | some x => some (.tup [.int (i : Nat), x]) | none => none) | none => none, f⟩ (Ite K a) := by
  intro i H μ M nx rh
  have e := nx.pre _ _ g
  have key : ∀ ys, hSeq M (.ref n) = some ys → ∃ vs, SqL K H a vs ∧ RVs K H μ ys vs := fun ys hy => by
    obtain ⟨b, vs, hb, hs, r⟩ := hRef_ok rh hy (.ref e)
    cases hb
    exact ⟨vs, hs, r⟩
  refine ⟨fun h => ?_, fun d h => ?_⟩
  · simp only at h
    split at h
    · rename_i ys hy
      obtain ⟨vs, hs, r⟩ := key ys hy
      split at h
      · cases h
      · rename_i hx
        exact ⟨vs, hs, r.getN hx⟩
    · cases h
  · simp only at h
    split at h
    · rename_i ys hy
      obtain ⟨vs, hs, r⟩ := key ys hy
      split at h
      · rename_i z hz
        cases h
        obtain ⟨v, h1, h2⟩ := r.get hz
        refine ⟨⟨vs, v, hs, h1⟩, fun x H2 hy => ?_⟩
        obtain ⟨T, y, e1, hT, e2, hy⟩ := hy
        subst e1 e2
        have h3 := hy vs hs
        rw [h1] at h3
        cases h3
        exact ⟨μ, Nx.fresh0 hT, rh.fresh hT, .tup (SqT.of upd_same) (.cons (.int _) (.cons (h2.mono (Nx.fresh0 hT)) .nil))⟩
      · cases h
    · cases h
end
section
variable {X : Cx} {Γ : Gm} {W : WX} {tg a b e : Expr} {fa fb fe : MX} {p pos tpos : Pos} {elts : List Expr} {kk : Nat}
theorem pi_seq {l : Expr} {tl : TE} (hl : PE X l tl) : PI X tg l (fun σ H R => tl σ H fun x H1 => ∃ a, x = .ref a ∧ (((∃ xs, SqL X.K H1 a xs) ∧ R (Itl X.K a) H1) ∨ ((∃ xs, SqT X.K H1 a xs) ∧ R (Itt X.K a) H1))) := by
  refine ⟨fun pins s σ H R I h => ?_⟩
  refine thn (hl.run pins s σ H _ I h) fun v s1 ⟨x, H1, I1, r1, q1⟩ => ?_
  obtain ⟨a, e, q⟩ := q1
  subst e
  cases r1
  rcases q with ⟨⟨xs, hq⟩, q⟩ | ⟨⟨xs, hq⟩, q⟩
  · obtain ⟨its, rv, p, hz⟩ := I1.list hq
    refine wpAny_pyIter_list p.isList ?_
    refine ⟨s1.heap.objs.size, [s1.heap.objs.size], _, _, H1, rfl, I1.kept (t' := s1.toks) fun b o e => Heap.get?_push_of_some _ e, turn_list a _, ⟨_, Heap.get?_push_size _ rfl, rfl, rfl⟩, fun b hb => ?_, q⟩
    have e : b = s1.heap.objs.size := by simpa using hb
    subst e
    exact I1.fpOk (Nat.le_refl _) (I1.hok.fresh (Nat.le_refl _))
  · obtain ⟨its, rv, p, hz⟩ := I1.tuple hq
    refine wpAny_pyIter_tuple (show s1.heap.IsTuple a its.toArray from p) ?_
    refine ⟨s1.heap.objs.size, [s1.heap.objs.size], _, _, H1, rfl, I1.kept (t' := s1.toks) fun b o e => Heap.get?_push_of_some _ e, turn_tuple a _, ⟨_, Heap.get?_push_size _ rfl, rfl, rfl⟩, fun b hb => ?_, q⟩
    have e : b = s1.heap.objs.size := by simpa using hb
    subst e
    exact I1.fpOk (Nat.le_refl _) (I1.hok.fresh (Nat.le_refl _))
theorem ei_seq (he : EX X Γ W e fe) : EI X Γ W tg e (ySeq fe) :=
  PI.imp (pi_seq he) fun σ H R ⟨ζ, M, μ, rr, h⟩ => ⟨ζ, M, μ, rr, Pst.then h fun v H1 d M1 μ1 nx rh rv h1 => by
    replace rv : RV X.K H1 μ1 d v := rv
    cases rv with
    | tup g r => exact ⟨_, rfl, .inr ⟨⟨_, g⟩, h1 _ _ _ (Nx.refl _ _) rh (y_tup g r)⟩⟩
    | kls g r => exact ⟨_, rfl, .inl ⟨⟨_, g.sq⟩, h1 _ _ _ (Nx.refl _ _) rh (y_kls g r)⟩⟩
    | ref e1 =>
      simp only at h1
      split at h1
      · rename_i xs hx
        obtain ⟨b, vs, hb, hs, r⟩ := hRef_ok rh hx (.ref e1)
        cases hb
        exact ⟨_, rfl, .inl ⟨⟨_, hs⟩, h1 _ _ _ (Nx.refl _ _) rh (y_ref e1)⟩⟩
      · exact h1.elim
    | _ => exact h1.elim⟩
theorem okRg_ok {i : Int} (h : okRg i = true) : -(2 ^ 62) ≤ i ∧ i < 2 ^ 62 := by
  unfold okRg at h
  rw [Bool.and_eq_true, decide_eq_true_eq, decide_eq_true_eq] at h
  exact h
theorem ei_range1 (ha : EX X Γ W a fa) (hm : X.mg "range" = none) (hg : Gl X "range" := by rfl) (hs : starEach [a] X.env = [(false, eval a X.env)] := by rfl) : EI X Γ W tg (.Call (.Name "range" p) [a] [] pos) (yRg1 fa) :=
  PI.imp (pi_range1 hg hm (pa_cons ha pa_nil hs) hs) fun σ H R ⟨ζ, M, μ, rr, h⟩ => ⟨ζ, M, μ, rr, Pst.then h fun v H1 d M1 μ1 nx rh rv h1 => by
    cases d with
    | int j =>
      cases rv
      simp only at h1
      split at h1
      · rename_i hj
        obtain ⟨j1, j2⟩ := okRg_ok hj
        exact ⟨j, rfl, j1, j2, h1 _ _ _ (Nx.refl _ _) rh y_rg⟩
      · exact h1.elim
    | _ => exact h1.elim⟩
theorem ei_range2 (ha : EX X Γ W a fa) (hb : EX X Γ W b fb) (hm : X.mg "range" = none) (hg : Gl X "range" := by rfl) (hs : starEach [a, b] X.env = [(false, eval a X.env), (false, eval b X.env)] := by rfl)
    (hs2 : starEach [b] X.env = [(false, eval b X.env)] := by rfl) (hs3 : starEach [a, b] X.env = (false, eval a X.env) :: starEach [b] X.env := by rfl) : EI X Γ W tg (.Call (.Name "range" p) [a, b] [] pos) (yRg2 fa fb) :=
  PI.imp (pi_range2 hg hm (pa_cons ha (pa_cons hb pa_nil hs2) hs3) hs hs2) fun σ H R ⟨ζ, M, μ, rr, h⟩ => ⟨ζ, M, μ, rr, Pst.then h fun v H1 d M1 μ1 nx rh rv h1 => ⟨ζ, M1, μ1, ⟨rr.sl.mono nx, rh⟩, Pst.then h1 fun u H2 e M2 μ2 nx2 rh2 ru h2 => by
    replace rv : RV X.K H1 μ1 d v := rv
    replace ru : RV X.K H2 μ2 e u := ru
    split at h2
    · cases rv
      cases ru
      split at h2
      · rename_i hj
        rw [Bool.and_eq_true] at hj
        obtain ⟨i1, i2⟩ := okRg_ok hj.1
        obtain ⟨j1, j2⟩ := okRg_ok hj.2
        exact ⟨_, _, rfl, ⟨i1, i2, j1, j2⟩, h2 _ _ _ (Nx.refl _ _) rh2 y_rg⟩
      · exact h2.elim
    · exact h2.elim⟩⟩
theorem ei_enum (ha : EX X Γ W a fa) (hm : X.mg "enumerate" = none) (hg : Gl X "enumerate" := by rfl) (hs : starEach [a] X.env = [(false, eval a X.env)] := by rfl) : EI X Γ W (.Tuple elts kk tpos) (.Call (.Name "enumerate" p) [a] [] pos) (yEnum fa) :=
  PI.imp (pi_enumT hg hm (pa_cons ha pa_nil hs) hs) fun σ H R ⟨ζ, M, μ, rr, h⟩ => ⟨ζ, M, μ, rr, Pst.then h fun v H1 d M1 μ1 nx rh rv h1 => by
    replace rv : RV X.K H1 μ1 d v := rv
    cases rv with
    | tup g r => exact ⟨_, _, rfl, .inr ⟨g, h1 _ _ _ (Nx.refl _ _) rh (y_enumT g r)⟩⟩
    | ref e1 =>
      simp only at h1
      split at h1
      · rename_i xs hx
        obtain ⟨b, vs, hb, hs, r⟩ := hRef_ok rh hx (.ref e1)
        cases hb
        exact ⟨_, _, rfl, .inl ⟨hs, h1 _ _ _ (Nx.refl _ _) rh (y_enumL e1)⟩⟩
      · exact h1.elim
    | _ => exact h1.elim⟩
end
end Mi
end
section
set_option maxRecDepth 100000
set_option maxHeartbeats 2000000
set_option autoImplicit false
namespace Mi
open PySem PySem.Spec PyProof.Rows L2

def wipeD (ζ : Sl) : List Nat → Sl
  | [] => ζ
  | v :: vs => (wipeD ζ vs).set v none
def lcN (y : Nat → Hs → Option (Option D)) (p : Pt) (k : Sl → Hs → R Unit) (ζ : Sl) : Nat → Nat → Hs → R Unit
  | 0, _ => fun _ => .no
  | m + 1, i => fun M => match y i M with
    | none => .no
    | some none => .ok () M
    | some (some d) => match bindP p d with
      | none => .no
      | some l => match k (setAll ζ l) M with
        | .ok _ M' => lcN y p k ζ m (i + 1) M'
        | _ => .no
def lput (n : Nat) (v : D) (M : Hs) : R Unit := match hLst M n with
  | some acc => if acc.length < sizeLine then .ok () (M.set n (.lst (acc ++ [v]))) else .no
  | none => .no
def lcB (t : MT) (f : MX) (n : Nat) : Sl → Hs → R Unit := fun ζ M => match t ζ M with
  | .ok false M1 => .ok () M1
  | .ok true M1 => match f ζ M1 with
    | .ok v M2 => lput n v M2
    | _ => .no
  | _ => .no
def lcB2 (t : MT) (s : MY) (p1 : Pt) (vs1 : List Nat) (t1 : MT) (f : MX) (n : Nat) : Sl → Hs → R Unit := fun ζ M => match t ζ M with
  | .ok false M1 => .ok () M1
  | .ok true M1 => match s ζ M1 with
    | .ok yd M2 => lcN yd.y p1 (lcB t1 f n) (wipeD ζ vs1) yd.fuel 0 M2
    | _ => .no
  | _ => .no
def tTrue : MT := fun _ M => .ok true M
def xLc (s : MY) (vs : List Nat) (p : Pt) (t : MT) (f : MX) : MX := fun ζ M => (s ζ M).bind fun yd M1 => (lcN yd.y p (lcB t f M1.length) (wipeD ζ vs) yd.fuel 0 (M1 ++ [.lst []])).bind fun _ M2 => .ok (.ref M1.length) M2
def xLc2 (s : MY) (vs : List Nat) (p : Pt) (t : MT) (s1 : MY) (p1 : Pt) (vs1 : List Nat) (t1 : MT) (f : MX) : MX := fun ζ M => (s ζ M).bind fun yd M1 => (lcN yd.y p (lcB2 t s1 p1 vs1 t1 f M1.length) (wipeD ζ vs) yd.fuel 0 (M1 ++ [.lst []])).bind fun _ M2 => .ok (.ref M1.length) M2

theorem RSl.wiped {K : PySem.W.Frag} {H : Hp} {μ : List Addr} {ζ : Sl} {σ : L2.St} (r : RSl K H μ ζ σ) : ∀ vs : List Nat, RSl K H μ (wipeD ζ vs) (wipe σ vs)
  | [] => r
  | v :: vs => by
    have ih := RSl.wiped r vs
    refine ⟨by simp [wipeD, wipe, ih.len], fun i d h => ?_⟩
    simp only [wipeD] at h
    by_cases hi : v = i
    · subst hi
      by_cases hv : v < (wipeD ζ vs).length
      · rw [List.getElem?_set_self hv] at h; cases h
      · rw [List.getElem?_eq_none (by simpa using hv)] at h; cases h
    · rw [List.getElem?_set_ne hi] at h
      simp only [wipe]
      rw [List.getElem?_set_ne hi]
      exact ih.at_ i d h
theorem wipe_set {σ : L2.St} {i : Nat} {x : Option V} : ∀ {vs : List Nat}, i ∈ vs → wipe (σ.set i x) vs = wipe σ vs
  | [], h => by cases h
  | v :: vs, h => by
    simp only [wipe]
    by_cases hi : i ∈ vs
    · rw [wipe_set hi]
    · have hv : v = i := by
        rcases List.mem_cons.mp h with e | e
        · exact e.symm
        · exact absurd e hi
      subst hv
      rw [wipe_setn hi]
      rw [List.set_set]
where
  wipe_setn {σ : L2.St} {i : Nat} {x : Option V} : ∀ {vs : List Nat}, i ∉ vs → wipe (σ.set i x) vs = (wipe σ vs).set i x
    | [], _ => rfl
    | v :: vs, h => by
      have h1 : v ≠ i := fun e => h (by rw [e]; exact List.mem_cons_self)
      have h2 : i ∉ vs := fun m => h (List.mem_cons_of_mem _ m)
      simp only [wipe]
      rw [wipe_setn h2, List.set_comm _ _ (Ne.symm h1)]
theorem wipe_setAll : ∀ {l : List (Nat × V)} {σ : L2.St} {vs : List Nat}, (∀ p ∈ l, p.1 ∈ vs) → wipe (setAll σ l) vs = wipe σ vs
  | [], _, _, _ => rfl
  | (i, x) :: l, σ, vs, h => by
    show wipe (setAll (σ.set i (some x)) l) vs = _
    rw [wipe_setAll fun p hp => h p (List.mem_cons_of_mem _ hp), wipe_set (h (i, x) List.mem_cons_self)]
theorem wipe_wipe {σ : L2.St} : ∀ {vs us : List Nat}, (∀ v ∈ us, v ∈ vs) → wipe (wipe σ us) vs = wipe σ vs
  | _, [], _ => rfl
  | vs, u :: us, h => by
    show wipe ((wipe σ us).set u none) vs = _
    rw [wipe_set (h u List.mem_cons_self), wipe_wipe fun v hv => h v (List.mem_cons_of_mem _ hv)]
mutual
theorem bindP_slots : ∀ (p : Pt) {d : D} {l : List (Nat × D)}, bindP p d = some l → ∀ q ∈ l, q.1 ∈ p.slots
  | .n i, d, l, h => by
    simp only [bindP] at h
    cases h
    intro q hq
    simp only [List.mem_singleton] at hq
    subst hq
    simp [Pt.slots]
  | .t ps, d, l, h => by
    cases d with
    | tup ds => simp only [bindP] at h; simp only [Pt.slots]; exact bindPs_slots ps h
    | _ => simp [bindP] at h
theorem bindPs_slots : ∀ (ps : List Pt) {ds : List D} {l : List (Nat × D)}, bindPs ps ds = some l → ∀ q ∈ l, q.1 ∈ slotsOf ps
  | [], [], l, h => by simp only [bindPs] at h; cases h; intro q hq; cases hq
  | [], _ :: _, l, h => by simp [bindPs] at h
  | p :: ps, [], l, h => by simp [bindPs] at h
  | p :: ps, d :: ds, l, h => by
    simp only [bindPs] at h
    split at h
    · rename_i l1 l2 h1 h2
      cases h
      intro q hq
      simp only [slotsOf, List.mem_append]
      rcases List.mem_append.mp hq with hq | hq
      · exact .inl (bindP_slots p h1 q hq)
      · exact .inr (bindPs_slots ps h2 q hq)
    · cases h
end
theorem br_slots {K : PySem.W.Frag} {H : Hp} {μ : List Addr} {vs : List Nat} : ∀ {l : List (Nat × D)} {l' : List (Nat × V)}, BR K H μ l l' → (∀ q ∈ l, q.1 ∈ vs) → ∀ q ∈ l', q.1 ∈ vs
  | _, _, .nil, _ => fun q h => by cases h
  | _, _, .cons r t, h => fun q hq => by
    rcases List.mem_cons.mp hq with e | hq
    · subst e
      rw [← r.1]
      exact h _ List.mem_cons_self
    · exact br_slots t (fun q hq => h q (List.mem_cons_of_mem _ hq)) q hq
section
variable {X : Cx} {Γ : Gm} {W : WX}
/-- no exception leaves the block -/
abbrev W0 : WX := fun _ _ _ _ => False
/-- a turn of the block, told by its k -/
def Turned (P : Program) (w : World) (K : PySem.W.Frag) (Γ : Gm) (H1 : Hp) (μ1 : List Addr) (n : Nat) (D : Addr) (Q : Prop) : Prop := Q
theorem lput_ok {P : Program} {w : World} {K : PySem.W.Frag} {Γ : Gm} {n : Nat} {D' : Addr} {d : D} {v : V} {μ : List Addr} {M M' : Hs} {H : Hp} (rh : RH P w K Γ μ M H) (hn : μ[n]? = some D') (r : RV K H μ d v) (h : lput n d M = .ok () M') :
    ∃ acc, H D' = some (.lst acc) ∧ acc.length < sizeLine ∧ RH P w K Γ μ M' (upd H D' (.lst (acc ++ [v]))) ∧ Nx μ H μ (upd H D' (.lst (acc ++ [v]))) := by
  unfold lput at h
  split at h
  · rename_i acc hl
    obtain ⟨vs, g, ra⟩ := nlst rh (hLst_ok rh hl) hn
    split at h
    · rename_i hz
      cases h
      exact ⟨vs, g, by rw [← ra.length]; exact hz, rh.write hn (mutL g) ⟨_, upd_same, (ra.append (.cons r .nil)).mono (Nx.write (mutL g))⟩, Nx.write (mutL g)⟩
    · cases h
  · cases h
theorem ets_nil : PTs X [] (tT X.prog X.w X.K Γ W tTrue) := ⟨fun pins s σ H Q I ⟨ζ, M, μ, rr, h⟩ => pts_nil.run pins s σ H Q I (h _ _ _ (Nx.refl _ _) rr.hp rfl)⟩
theorem ets_one {c : Expr} {t : MT} (h : ET X Γ W c t) : PTs X [c] (tT X.prog X.w X.K Γ W t) := pts_one h
abbrev ETs (X : Cx) (Γ : Gm) (W : WX) (ifs : List Expr) (t : MT) : Prop := PTs X ifs (tT X.prog X.w X.K Γ W t)
variable {elt tg iter tg1 iter1 : Expr} {ifs ifs1 : List Expr} {scope : Scope} {own : List (Str × Nat)} {pos : Pos} {s s1 : MY} {p p1 : Pt} {t t1 : MT} {f : MX} {vs1 : List Nat}
theorem tLc_of {vs : List Nat} {σ : L2.St} {H : Hp} {Q : VK} (hp : ∀ i ∈ p.slots, i ∈ vs) (h : tX X.prog X.w X.K Γ W (xLc s vs p t f) σ H Q) :
    tLc (iY X.prog X.w X.K Γ W s) (gP X.prog X.w X.K Γ p) (tT X.prog X.w X.K Γ W0 t) (tX X.prog X.w X.K Γ W0 f) vs σ H Q := by
  obtain ⟨ζ, M, μ, rr, h⟩ := h
  refine ⟨ζ, M, μ, rr, Pst.then h fun J H1 yd M1 μ1 nx rh rv h1 => fun D' hD => ?_⟩
  have nx0 : Nx μ1 H1 (μ1 ++ [D']) (upd H1 D' (.lst [])) := Nx.fresh hD [D']
  have rh0 : RH X.prog X.w X.K Γ (μ1 ++ [D']) (M1 ++ [.lst []]) (upd H1 D' (.lst [])) := rh.alloc hD ⟨[], upd_same, .nil⟩
  refine ⟨fun i m H => ∃ M μ, Nx μ1 H1 μ H ∧ RH X.prog X.w X.K Γ μ M H ∧ μ[M1.length]? = some D' ∧
    Pst X.prog X.w X.K Γ (relV X.K) W σ μ H ((lcN yd.y p (lcB t f M1.length) (wipeD ζ vs) m i M).bind fun _ M2 => .ok (.ref M1.length) M2) Q,
    ⟨yd.fuel, _, _, nx0, rh0, rh.last, Pst.mono h1 nx0⟩, ?_⟩
  rintro i m H2 ⟨M2, μ2, nx2, rh2, hn, h2⟩
  cases m with
  | zero => exact h2.elim
  | succ m =>
    obtain ⟨st, go⟩ := rv i H2 μ2 M2 nx2 rh2
    simp only [lcN] at h2
    split at h2
    · exact h2.elim
    · rename_i hy
      exact .inl ⟨st hy, h2 _ _ _ (Nx.refl _ _) rh2 (.ref hn)⟩
    · rename_i d hy
      obtain ⟨g1, g2⟩ := go d hy
      refine .inr ⟨g1, fun H' => ∃ M μ, Nx μ1 H1 μ H' ∧ RH X.prog X.w X.K Γ μ M H' ∧ μ[M1.length]? = some D' ∧
        Pst X.prog X.w X.K Γ (relV X.K) W σ μ H' ((lcN yd.y p (lcB t f M1.length) (wipeD ζ vs) m (i + 1) M).bind fun _ M2 => .ok (.ref M1.length) M2) Q, fun H' q => ⟨m, Nat.lt_succ_self _, q⟩, fun x H3 hx => ?_⟩
      obtain ⟨μ3, nx3, rh3, rv3⟩ := g2 x H3 hx
      refine ⟨d, M2, μ3, rh3, rv3, ?_⟩
      split at h2
      · exact h2.elim
      · rename_i l hl
        rw [hl]
        intro l' br
        have hs : ∀ q ∈ l', q.1 ∈ vs := br_slots br fun q hq => hp _ (bindP_slots p hl q hq)
        refine ⟨(wipe_setAll hs).trans (wipe_wipe fun _ h => h), ?_⟩
        have sl3 : RSl X.K H3 μ3 (setAll (wipeD ζ vs) l) (setAll (wipe σ vs) l') := RSl.setAll br (((rr.sl.mono nx).mono (nx2.trans nx3)).wiped vs)
        have n3 := nx2.trans nx3
        have hn3 := nx3.pre _ _ hn
        have h3 := Pst.mono h2 nx3
        refine ⟨_, M2, μ3, ⟨sl3, rh3⟩, ?_⟩
        unfold lcB at h3
        cases ht : t (setAll (wipeD ζ vs) l) M2 with
        | ex c fs M4 => rw [ht] at h3; exact h3.elim
        | no => rw [ht] at h3; exact h3.elim
        | ok b M4 =>
          rw [ht] at h3
          intro b' H4 μ4 nx4 rh4 rb
          have rb : b = b' := rb
          subst rb
          have h4 := Pst.mono h3 nx4
          cases b with
          | false =>
            rw [if_neg Bool.false_ne_true]
            exact ⟨M4, μ4, n3.trans nx4, rh4, nx4.pre _ _ hn3, h4⟩
          | true =>
            rw [if_pos rfl]
            refine ⟨_, M4, μ4, ⟨sl3.mono nx4, rh4⟩, ?_⟩
            simp only at h4
            cases hf : f (setAll (wipeD ζ vs) l) M4 with
            | ex c fs M5 => rw [hf] at h4; exact h4.elim
            | no => rw [hf] at h4; exact h4.elim
            | ok v M5 =>
              rw [hf] at h4
              intro z H5 μ5 nx5 rh5 rz
              have h5 := Pst.mono h4 nx5
              simp only at h5
              cases hput : lput M1.length v M5 with
              | ex c fs M6 => rw [hput] at h5; exact h5.elim
              | no => rw [hput] at h5; exact h5.elim
              | ok u M6 =>
                rw [hput] at h5
                have hn5 := nx5.pre _ _ (nx4.pre _ _ hn3)
                obtain ⟨acc, ha, hz, rh6, nx6⟩ := lput_ok rh5 hn5 rz hput
                exact ⟨acc, ha, hz, M6, μ5, ((n3.trans nx4).trans nx5).trans nx6, rh6, hn5, Pst.mono h5 nx6⟩
theorem ex_lc (hc : X.calm = true) (hN : X.N.Nodup) (hi : EI X Γ W tg iter s) (ok : BlkOk X.N X.env.scope scope own) (hp : ∀ i ∈ p.slots, i ∈ own.map (·.2))
    (hg : ∀ (s : Shared) (H : Hp) (C : Addr) (cl : List (Str × Addr)) (fp : List Addr), EG (X.blk s H scope (compEnvC scope cl C X.env) fp) Γ tg p) (ht : ∀ (s : Shared) (H : Hp) (C : Addr) (cl : List (Str × Addr)) (fp : List Addr), ETs (X.blk s H scope (compEnvC scope cl C X.env) fp) Γ W0 ifs t)
    (he : ∀ (s : Shared) (H : Hp) (C : Addr) (cl : List (Str × Addr)) (fp : List Addr), EX (X.blk s H scope (compEnvC scope cl C X.env) fp) Γ W0 elt f) (hs : ∀ x, foldedSetIterable iter X.env x = pure x := by intro _; rfl) :
    EX X Γ W (.ListComp elt [⟨tg, iter, ifs, 0⟩] scope pos) (xLc s (own.map (·.2)) p t f) :=
  PE.imp (pe_lc hc hN hi ok hg ht he hs) fun σ H Q h => tLc_of hp h
/-- name = [..], the name a local on one line -/
theorem es_setLc (i : Nat) {y : Str} {py spos : Pos} (hc : X.calm = true) (hN : X.N.Nodup) (hi : EI X Γ W tg iter s) (ok : BlkOk X.N X.env.scope scope own) (hp : ∀ i ∈ p.slots, i ∈ own.map (·.2))
    (hg : ∀ (s : Shared) (H : Hp) (C : Addr) (cl : List (Str × Addr)) (fp : List Addr), EG (X.blk s H scope (compEnvC scope cl C X.env) fp) Γ tg p) (ht : ∀ (s : Shared) (H : Hp) (C : Addr) (cl : List (Str × Addr)) (fp : List Addr), ETs (X.blk s H scope (compEnvC scope cl C X.env) fp) Γ W0 ifs t)
    (he : ∀ (s : Shared) (H : Hp) (C : Addr) (cl : List (Str × Addr)) (fp : List Addr), EX (X.blk s H scope (compEnvC scope cl C X.env) fp) Γ W0 elt f)
    (hsw : swapsWith (.ListComp elt [⟨tg, iter, ifs, 0⟩] scope pos) (some (.Name y py)) spos.line X.env = pure true) (hy : X.N[i]? = some y := by rfl) (hyl : X.env.scope.names.lookup y = some .local := by rfl)
    (hs : ∀ x, foldedSetIterable iter X.env x = pure x := by intro _; rfl) : ES X Γ W (.Assign [.Name y py] (.ListComp elt [⟨tg, iter, ifs, 0⟩] scope pos) spos) (sSet i (xLc s (own.map (·.2)) p t f)) :=
  PS.imp (ps_setLc hc hN hy hyl hsw hi ok hg ht he hs) fun E σ H ⟨ζ, M, μ, rr, h⟩ => tLc_of hp ⟨ζ, M, μ, rr, PstS.then h rr.sl fun v H1 d M1 μ1 nx rh rv h1 => h1 _ _ _ (Nx.refl _ _) rh ((rr.sl.mono nx).set rv i)⟩
end

def spF (P : Program) (w : World) (K : PySem.W.Frag) (Γ : Gm) (n : Nat) (F : MF) : Sp := fun vs H Q E => ∃ ds M μ, RH P w K Γ μ M H ∧ RVs K H μ ds vs ∧ ds.length = n ∧ match F ds M with
  | .ok d M' => ∀ v H' μ', Nx μ H μ' H' → RH P w K Γ μ' M' H' → RV K H' μ' d v → Q v H'
  | .ex c fs M' => ∀ cls dd H' μ', Nx μ H μ' H' → RH P w K Γ μ' M' H' → RX K Γ H' μ' c fs cls dd → E cls dd H'
  | .no => False
/-- a def of the module that does what F does -/
structure Cal (P : Program) (w : World) (K : PySem.W.Frag) (mg : Str → Option Value) (base : Heap) (Γ : Gm) (k : Nat) (x : Str) (ps : List Str) (F : MF) : Prop where
  ex : ∃ f fd, FnOk P w K mg base (L2.CX P w) k f fd ps (spF P w K Γ ps.length F) ∧ mg x = some (.ref f) ∧ PySem.W.keepIn K (.ref f) = true ∧ Binds K fd ps []
theorem Cal.mono {P : Program} {w : World} {K : PySem.W.Frag} {mg : Str → Option Value} {base : Heap} {Γ : Gm} {j k : Nat} {x : Str} {ps : List Str} {F : MF} (c : Cal P w K mg base Γ j x ps F) (h : j ≤ k) : Cal P w K mg base Γ k x ps F :=
  ⟨let ⟨f, fd, F, a, b, d⟩ := c.ex; ⟨f, fd, F.mono h, a, b, d⟩⟩
def xCall (n : Nat) (F : MF) (ga : MA) : MX := fun ζ M => (ga ζ M).bind fun ds M1 => if ds.length = n then F ds M1 else .no
section
variable {X : Cx} {Γ : Gm} {W : WX} {e : Expr} {es : List Expr} {ga : MA} {k : Nat} {x : Str} {ps : List Str} {F : MF} {p pos : Pos}
theorem spF_of {n : Nat} {σ : L2.St} {μ : List Addr} {H : Hp} {ds : List D} {vs : List V} {M : Hs} {Q : VK} (rh : RH X.prog X.w X.K Γ μ M H) (r : RVs X.K H μ ds vs) (h : Pst X.prog X.w X.K Γ (relV X.K) W σ μ H (if ds.length = n then F ds M else .no) Q) :
    spF X.prog X.w X.K Γ n F vs H Q (WE W σ) := by
  split at h
  · rename_i hl
    refine ⟨ds, M, μ, rh, r, hl, ?_⟩
    cases hF : F ds M with
    | ok d M' => rw [hF] at h; exact h
    | ex c fs M' => rw [hF] at h; exact h
    | no => rw [hF] at h; exact h
  · exact h.elim
theorem ex_call (c : Cal X.prog X.w X.K X.mg X.base Γ k x ps F) (hr : Room k X.A) (tk : Takes X W) (ha : EA X Γ W (e :: es) ga) (hg : Gl X x := by rfl) (hdb : (x == ("__debug__" : Str)) = false := by decide)
    (he : starEach (e :: es) X.env = (false, eval e X.env) :: starEach es X.env := by rfl) (hpl : (backTo pos (starEach es X.env)).any (·.1) = false := by rfl) : EX X Γ W (.Call (.Name x p) (e :: es) [] pos) (xCall ps.length F ga) := by
  obtain ⟨f, fd, F', hm, hk, hb⟩ := c.ex
  exact PE.imp (pe_callSD (E := WE W) F' hr hg hm hk hb .nil (fun σ => passAt tk σ) ha hdb he hpl) fun σ H Q ⟨ζ, M, μ, rr, h⟩ => ⟨ζ, M, μ, rr, Pst.then h fun vs H1 ds M1 μ1 nx rh rv h1 => by
    rw [List.append_nil]
    exact spF_of rh rv h1⟩
theorem ex_call0 (c : Cal X.prog X.w X.K X.mg X.base Γ k x ps F) (hr : Room k X.A) (tk : Takes X W) (hg : Gl X x := by rfl) (hdb : (x == ("__debug__" : Str)) = false := by decide) : EX X Γ W (.Call (.Name x p) [] [] pos) (xCall ps.length F aNil) := by
  obtain ⟨f, fd, F', hm, hk, hb⟩ := c.ex
  refine ⟨fun pins s σ H Q I h => ?_⟩
  obtain ⟨ζ, M, μ, rr, h⟩ := h
  refine wpAny_Call_Name_kw (ld_glob I hg hm ?_ hdb)
  exact PySem.W.callWith_K0 I.kIn hk (run_fnSD (us := []) (E := WE W) F' hr hb .nil (passAt tk σ) I .nil (spF_of rr.hp .nil h))
end
/-- a def by its body: np parameters, nl names -/
def fnS (np nl : Nat) (b : MS) : MF := fun ds M => match b (ds.map some ++ List.replicate (nl - np) none) M with
  | .nx _ M' => .ok .non M'
  | .rt d M' => .ok d M'
  | .ex c fs _ M' => .ex c fs M'
  | _ => .no
section
variable {P : Program} {w : World} {K : PySem.W.Frag} {mg : Str → Option Value} {base : Heap} {Γ : Gm}
theorem rsl_start {H : Hp} {μ : List Addr} {ds : List D} {vs : List V} {N : List Str} {n : Nat} (r : RVs K H μ ds vs) (hn : ds.length = n) : RSl K H μ (ds.map some ++ List.replicate (N.length - n) none) (L2.start N vs) := by
  have hl := r.length
  refine ⟨by unfold L2.start; simp only [List.length_append, List.length_map, List.length_replicate]; omega, fun i d h => ?_⟩
  by_cases hi : i < ds.length
  · rw [List.getElem?_append_left (by simpa using hi), List.getElem?_map] at h
    cases e : ds[i]? with
    | none => rw [e] at h; cases h
    | some d' =>
      rw [e] at h
      cases h
      obtain ⟨v, h1, h2⟩ := r.get e
      refine ⟨v, ?_, h2⟩
      unfold L2.start
      rw [List.getElem?_append_left (by simpa using (List.getElem?_eq_some_iff.mp h1).1), List.getElem?_map, h1]
      rfl
  · rw [List.getElem?_append_right (by simpa using hi), List.getElem?_replicate] at h
    split at h <;> cases h
theorem fn_mk {qual : Str} {params : Arguments} {body : List Stmt} {scope : Scope} {f : Addr} {fd : FuncData} {x : Str} {N ps : List Str} {k : Nat} {b : MS} (F : FunD K x qual params body scope [] [] f fd) (S : FnScope N ps scope)
    (hbody : ∀ (cdv : Value) (A : Around) (outer : List Env) (s : Shared) (H : Hp) (E : XK), Room k (A.deeper (envOfC qual scope s.heap.objs.size f cdv)) →
      ESs (cxOf (L2.CX P w) P w K mg base N qual scope f cdv A outer s H E) Γ (fun cls d _ H => E cls d H) body b) : FnOk P w K mg base (L2.CX P w) (k + 1) f fd ps (spF P w K Γ ps.length (fnS ps.length N.length b)) := by
  refine F.ok S (fun vs H Q E ⟨ds, M, μ, rh, r, hl, _⟩ => by rw [← r.length]; exact hl) fun cdv A outer s H vs Q E hr h => ?_
  obtain ⟨ds, M, μ, rh, r, hl, h⟩ := h
  refine ⟨_, hbody cdv A outer s H E hr, _, M, μ, ⟨rsl_start (N := N) r hl, rh⟩, ?_⟩
  unfold fnS at h
  cases hb : b (ds.map some ++ List.replicate (N.length - ps.length) none) M with
  | nx ζ M' => rw [hb] at h; exact fun σ' H' μ' a c _ => h _ _ _ a c .non
  | rt d M' => rw [hb] at h; exact h
  | bk ζ M' => rw [hb] at h; exact h.elim
  | ct ζ M' => rw [hb] at h; exact h.elim
  | ex c fs ζ M' => rw [hb] at h; exact fun cls dd σ' H' μ' a c _ e => h cls dd H' μ' a c e
  | no => rw [hb] at h; exact h.elim
end
end Mi
end
section
set_option maxRecDepth 100000
set_option maxHeartbeats 2000000
set_option autoImplicit false
namespace Mi
open PySem PySem.Spec PyProof.Rows L2

def isTupD : D → Bool
  | .tup _ => true
  | _ => false
/-- the key of a dict's look-up -/
def keyOf (d : D) : Option NestedKey := if isTupD d = true then match nkey d with
  | some k => if k.depth ≤ 8 then some k else none
  | none => none else none
def dGet (kvs : List (D × D)) (k : NestedKey) : Option D := (kvs.find? fun p => decide (nkey p.1 = some k)).map (·.2)
def dPut (kvs : List (D × D)) (k : NestedKey) (d v : D) : List (D × D) := if (dGet kvs k).isSome then kvs.map fun p => if nkey p.1 = some k then (p.1, v) else p else kvs ++ [(d, v)]
section
variable {X : Cx} {pins : List (Addr × Obj)} {σ : L2.St} {H : Hp} {s : Shared} {μ : List Addr}
mutual
theorem nest_of (I : Inv X pins σ H s) : ∀ {d : D} {v : V} {u : Value} {k : NestedKey}, RV X.K H μ d v → RelV v u → nkey d = some k → NestedIs s.heap k u
  | _, _, _, _, .non, r, h => by cases r; simp only [nkey] at h; cases h; exact .none
  | _, _, _, _, .bl b, r, h => by cases r; simp only [nkey] at h; cases h; exact .bool rfl
  | _, _, _, _, .int i, r, h => by obtain ⟨t, rfl⟩ := r; simp only [nkey] at h; cases h; exact .int i t
  | _, _, _, _, .str x, r, h => by obtain ⟨t, rfl⟩ := r; simp only [nkey] at h; cases h; exact .text x t
  | _, _, _, _, .tup g rs, r, h => by
    cases r
    simp only [nkey] at h
    obtain ⟨its, rv, ⟨o, ho, hc, n, hd⟩, _⟩ := I.tuple g
    cases e : nkeys _ with
    | none => rw [e] at h; cases h
    | some ks =>
      rw [e] at h
      cases h
      exact .tup ho hc hd (nests_of I rs (by simpa using rv) e)
  | _, _, _, _, .ref _, _, h => by simp [nkey] at h
  | _, _, _, _, .kls _ _, _, h => by simp [nkey] at h
  | _, _, _, _, .excN, _, h => by simp [nkey] at h
  | _, _, _, _, .excD _ _ _, _, h => by simp [nkey] at h
theorem nests_of (I : Inv X pins σ H s) : ∀ {ds : List D} {vs : List V} {us : List Value} {ks : List NestedKey}, RVs X.K H μ ds vs → Vals vs us → nkeys ds = some ks → NestedAll s.heap ks us
  | _, _, _, _, .nil, r, h => by cases r; simp only [nkeys] at h; cases h; exact .nil
  | _, _, _, _, .cons a b, r, h => by
    cases r with
    | cons r1 r2 =>
      simp only [nkeys] at h
      split at h
      · rename_i k ks h1 h2
        cases h
        exact .cons (nest_of I a r1 h1) (nests_of I b r2 h2)
      · cases h
end
theorem keyOf_ok {d : D} {k : NestedKey} (h : keyOf d = some k) : nkey d = some k ∧ k.depth ≤ 8 ∧ isTupD d = true := by
  unfold keyOf at h
  split at h
  · rename_i ht
    split at h
    · rename_i k' hk
      split at h
      · rename_i hd
        cases h
        exact ⟨hk, hd, ht⟩
      · cases h
    · cases h
  · cases h
theorem key_is (I : Inv X pins σ H s) {d : D} {v : V} {u : Value} {k : NestedKey} (h : keyOf d = some k) (r : RV X.K H μ d v) (ru : RelV v u) : ∃ a, v = .ref a ∧ u = .ref a ∧ (nestedKind X.prog X.w).is s.heap k a := by
  obtain ⟨h1, h2, h3⟩ := keyOf_ok h
  have n := nest_of I r ru h1
  cases r with
  | tup g rs => cases ru; exact ⟨_, rfl, rfl, n, h2⟩
  | _ => cases h3
theorem entries (I : Inv X pins σ H s) {kvs : List (D × D)} {es : List (NestedKey × Addr × V)} (r : Paired (REn X.K H μ) kvs es) : ∀ {xs : List (NestedKey × Addr × Value)}, Paired (fun (p : NestedKey × Addr × V) (q : NestedKey × Addr × Value) => p.1 = q.1 ∧ p.2.1 = q.2.1 ∧ RelV p.2.2 q.2.2) es xs → ∀ x ∈ xs, (nestedKind X.prog X.w).is s.heap x.1 x.2.1 := by
  induction r with
  | nil => intro xs h x hx; cases h; cases hx
  | cons r1 r2 ih =>
    intro xs h x hx
    cases h with
    | cons q1 q2 =>
      rcases List.mem_cons.mp hx with e | hx
      · subst e
        obtain ⟨h1, h2, h3, _⟩ := r1
        obtain ⟨e1, e2, _⟩ := q1
        rw [← e1, ← e2]
        exact ⟨nest_of (u := .ref _) I h3 rfl h1, h2⟩
      · exact ih q2 x hx
theorem dict_at (I : Inv X pins σ H s) {kvs : List (D × D)} {es : List (NestedKey × Addr × V)} {a : Addr} (r : Paired (REn X.K H μ) kvs es) (g : Rd H a (dHO X.prog X.w a es)) : ∃ xs, Paired (fun (p : NestedKey × Addr × V) (q : NestedKey × Addr × Value) => p.1 = q.1 ∧ p.2.1 = q.2.1 ∧ RelV p.2.2 q.2.2) es xs ∧
    s.heap.DictOfH (nestedKind X.prog X.w) a xs ∧ (a == sysModules) = false ∧ xs.length ≤ sizeLine := by
  obtain ⟨⟨xs, p, o, ds, ep, ho, hx, hd, he, hn, hs, hl⟩, _⟩ := g.ok I.hok
  exact ⟨xs, p, ⟨o, ds, ep, ho, hx, hd, he, entries I r p, hn⟩, hs, hl⟩
theorem atKey_of {K : PySem.W.Frag} {k : NestedKey} : ∀ {kvs : List (D × D)} {es : List (NestedKey × Addr × V)} {xs : List (NestedKey × Addr × Value)}, Paired (REn K H μ) kvs es → Paired (fun (p : NestedKey × Addr × V) (q : NestedKey × Addr × Value) => p.1 = q.1 ∧ p.2.1 = q.2.1 ∧ RelV p.2.2 q.2.2) es xs →
    (match dGet kvs k with
      | some d => ∃ p v, atKey xs k = some p ∧ RelV v p.2 ∧ RV K H μ d v
      | none => atKey xs k = none)
  | _, _, _, .nil, .nil => rfl
  | (d, v) :: kvs, (k', a, z) :: es, (k'', a', u) :: xs, .cons ⟨h1, h2, h3, h4⟩ r, .cons ⟨e1, e2, e3⟩ q => by
    have e1 : k' = k'' := e1
    have e2 : a = a' := e2
    subst e1 e2
    have h1 : nkey d = some k' := h1
    unfold dGet atKey
    rw [List.find?_cons, List.find?_cons]
    by_cases hk : k' = k
    · subst hk
      have c1 : decide (nkey d = some k') = true := decide_eq_true h1
      simp only [c1]
      simp only [decide_eq_true_eq, decide_true, Option.map_some]
      exact ⟨_, z, rfl, e3, h4⟩
    · have c1 : decide (nkey d = some k) = false := decide_eq_false (by rw [h1]; exact fun e => hk (Option.some.inj e))
      have c2 : decide (k' = k) = false := decide_eq_false hk
      simp only [c1, c2]
      exact atKey_of r q
theorem puts_of {K : PySem.W.Frag} {k : NestedKey} {d : D} {a : Addr} {v : V} {w' : D} {u : Value} (hk : nkey d = some k) (hd : k.depth ≤ 8) (rk : RV K H μ d (.ref a)) (rv : RV K H μ w' v) (ru : RelV v u) {kvs : List (D × D)} {es : List (NestedKey × Addr × V)} {xs : List (NestedKey × Addr × Value)} (r : Paired (REn K H μ) kvs es)
    (q : Paired (fun (p : NestedKey × Addr × V) (q : NestedKey × Addr × Value) => p.1 = q.1 ∧ p.2.1 = q.2.1 ∧ RelV p.2.2 q.2.2) es xs) :
    ∃ es', Paired (REn K H μ) (dPut kvs k d w') es' ∧ Paired (fun (p : NestedKey × Addr × V) (q : NestedKey × Addr × Value) => p.1 = q.1 ∧ p.2.1 = q.2.1 ∧ RelV p.2.2 q.2.2) es' (storedH xs k a u) := by
  have ha := atKey_of (k := k) r q
  unfold dPut storedH
  cases hg : dGet kvs k with
  | none =>
    rw [hg] at ha
    simp only at ha
    rw [ha]
    exact ⟨es ++ [(k, a, v)], paired_app r (.cons ⟨hk, hd, rk, rv⟩ .nil), paired_app q (.cons ⟨rfl, rfl, ru⟩ .nil)⟩
  | some d0 =>
    rw [hg] at ha
    simp only at ha
    obtain ⟨p, v0, e, _, _⟩ := ha
    rw [e]
    simp only [Option.isSome_some, if_true]
    refine ⟨es.map fun p => if p.1 = k then (p.1, p.2.1, v) else p, ?_, ?_⟩
    · clear q hg e
      induction r with
      | nil => exact .nil
      | @cons p1 q1 _ _ h t ih =>
        refine .cons ?_ ih
        obtain ⟨h1, h2, h3, h4⟩ := h
        dsimp only
        by_cases hk' : q1.1 = k
        · rw [if_pos hk', if_pos (by rw [h1, hk'])]
          exact ⟨h1, h2, h3, rv⟩
        · rw [if_neg hk', if_neg (by rw [h1]; exact fun e => hk' (Option.some.inj e))]
          exact ⟨h1, h2, h3, h4⟩
    · clear r hg e
      induction q with
      | nil => exact .nil
      | @cons p1 q1 _ _ h t ih =>
        refine .cons ?_ ih
        obtain ⟨h1, h2, h3⟩ := h
        unfold putAt
        dsimp only
        by_cases hk' : p1.1 = k
        · rw [if_pos hk', if_pos (by rw [← h1]; exact hk')]
          exact ⟨h1, h2, ru⟩
        · rw [if_neg hk', if_neg (by rw [← h1]; exact hk')]
          exact ⟨h1, h2, h3⟩
end

def hDct (M : Hs) (n : Nat) : Option (List (D × D)) := match M[n]? with
  | some (.dct kvs) => some kvs
  | _ => none
theorem hDct_ok {M : Hs} {n : Nat} {kvs : List (D × D)} (h : hDct M n = some kvs) : M[n]? = some (.dct kvs) := by
  unfold hDct at h
  split at h
  · cases h
    assumption
  · cases h
def xDict : MX := fun _ M => .ok (.ref M.length) (M ++ [.dct []])
def gInA (k : Bool → Bool) (x y : D) (M : Hs) : Option (D × Hs) := match y with
  | .ref n => match hDct M n with
    | some kvs => match keyOf x with
      | some q => some (.bl (k (dGet kvs q).isSome), M)
      | none => none
    | none => gInB k x y M
  | _ => gInB k x y M
def gIxA (x y : D) (M : Hs) : Option (D × Hs) := match x with
  | .ref n => match hDct M n with
    | some kvs => match keyOf y with
      | some q => match dGet kvs q with
        | some d => some (d, M)
        | none => none
      | none => none
    | none => gIx x y M
  | _ => gIx x y M
def gPutA (o i v : D) (M : Hs) : Option Hs := match o with
  | .ref n => match hDct M n with
    | some kvs => match keyOf i with
      | some q => if kvs.length < sizeLine then some (M.set n (.dct (dPut kvs q i v))) else none
      | none => none
    | none => gPutL o i v M
  | _ => gPutL o i v M
section
variable {X : Cx} {Γ : Gm} {W : WX} {a b : Expr} {fa fb : MX} {pos : Pos}
theorem ex_dict : EX X Γ W (.Dict [] [] pos) xDict := ⟨fun pins s σ H Q I ⟨ζ, M, μ, rr, h⟩ => by
  have hp := I.hok.fresh (Nat.le_refl s.heap.objs.size)
  refine wpAny_Dict_empty ⟨.ref s.heap.objs.size, _, I.laid (a := s.heap.objs.size) (o := dHO X.prog X.w s.heap.objs.size []) (t' := s.toks) (fun _ _ q => Heap.get?_push_of_some _ q) (Nat.le_refl _) ?_, rfl,
    h _ _ _ (Nx.fresh hp [_]) (rr.hp.alloc hp ⟨[], upd_same, .nil⟩) (.ref rr.hp.last)⟩
  have ho := Heap.get?_push_size s.heap (o := { cls := .type "dict", data := .dict #[] }) rfl
  refine ⟨⟨[], .nil, _, #[], 0, ho, ⟨rfl, rfl, rfl⟩, rfl, rfl, List.nodup_nil, beq_eq_false_iff_ne.mpr (Ne.symm (Nat.ne_of_lt I.big)), Nat.zero_le _⟩, ⟨_, ho⟩, ?_⟩
  rintro h1 h2 ⟨xs, p, o, ds, ep, ho, r⟩ k
  exact ⟨xs, p, o, ds, ep, k _ ho, r⟩⟩
theorem dExt {P : Program} {w : World} {d : Addr} {es : List (NestedKey × Addr × V)} : ∀ h1 h2 : Heap, dObj P w d es h1 → (∀ o, h1.get? d = some o → h2.get? d = some o) → dObj P w d es h2 := by
  rintro h1 h2 ⟨xs, p, o, ds, ep, ho, r⟩ k
  exact ⟨xs, p, o, ds, ep, k _ ho, r⟩
theorem ndct {P : Program} {w : World} {K : PySem.W.Frag} {μ : List Addr} {H : Hp} {M : Hs} (rh : RH P w K Γ μ M H) {n : Nat} {a : Addr} {kvs : List (D × D)} (h : hDct M n = some kvs) (e : μ[n]? = some a) : ∃ es, H a = some (dHO P w a es) ∧ Paired (REn K H μ) kvs es := rh.at_ n _ a (hDct_ok h) e
theorem m_inA (hr : Room 1 X.A) : Op2 X Γ (compareOp .In) (gInA id) := by
  have hu := hr.un
  intro pins s σ H x y v u Q I rx ry hq
  obtain ⟨d, e, M, μ, rh, rd, re, hq⟩ := hq
  unfold gInA at hq
  split at hq
  · split at hq
    · rename_i n kvs hk
      split at hq
      · rename_i q hq'
        obtain ⟨b, rfl, e1⟩ := ref_rel re
        cases ry
        obtain ⟨es, g, r⟩ := ndct rh hk e1
        obtain ⟨xs, p, hd, hs, _⟩ := dict_at I r (.inl g)
        obtain ⟨c, rfl, rfl, hi⟩ := key_is I hq' rd rx
        have ha := atKey_of (k := q) r p
        refine wpAny_in_heap (by show X.A.units + 1 + 8 < cLine; omega) hi hs hd ?_
        cases hg : dGet kvs q with
        | none =>
          rw [hg] at ha hq
          have ha : atKey xs q = none := ha
          rw [ha]
          exact ⟨.bl false, H, I.tok _, rfl, Pk.here rh hq (.bl _)⟩
        | some d0 =>
          rw [hg] at ha hq
          obtain ⟨p0, v0, e0, _, _⟩ := ha
          rw [e0]
          exact ⟨.bl true, H, I.tok _, rfl, Pk.here rh hq (.bl _)⟩
      · exact hq.elim
    · exact m_in (by omega) pins s σ H x y v u Q I rx ry ⟨_, _, M, μ, rh, rd, re, hq⟩
  · exact m_in (by omega) pins s σ H x y v u Q I rx ry ⟨_, _, M, μ, rh, rd, re, hq⟩
theorem wpAny_notIn_heap {prog : Program} {w : World} {K : Type} [DecidableEq K] {knd : HeapKind prog w K} {A : Around} {E : Value → Shared → Prop} {s : Shared} {d a : Addr} {k : K} {xs : List (K × Addr × Value)} {Q : Value → Shared → Prop} (hu : knd.room A.in1) (hkey : knd.is s.heap k a) (hd : (d == sysModules) = false) (hm : s.heap.DictOfH knd d xs)
    (h : Q (.bool (!(atKey xs k).isSome)) { s with toks := s.toks + knd.draws k }) : wpAny (model prog w) A (compareOp .NotIn (.ref a) (.ref d)) Q E s :=
  notIn_keyed (kvs := pairsH xs) hu hkey hd ⟨xs, hm, rfl⟩ (by rw [valueAt_pairsH]; simpa using h)
theorem m_notInA (hr : Room 1 X.A) : Op2 X Γ (compareOp .NotIn) (gInA not) := by
  have hu := hr.un
  intro pins s σ H x y v u Q I rx ry hq
  obtain ⟨d, e, M, μ, rh, rd, re, hq⟩ := hq
  unfold gInA at hq
  split at hq
  · split at hq
    · rename_i n kvs hk
      split at hq
      · rename_i q hq'
        obtain ⟨b, rfl, e1⟩ := ref_rel re
        cases ry
        obtain ⟨es, g, r⟩ := ndct rh hk e1
        obtain ⟨xs, p, hd, hs, _⟩ := dict_at I r (.inl g)
        obtain ⟨c, rfl, rfl, hi⟩ := key_is I hq' rd rx
        have ha := atKey_of (k := q) r p
        refine wpAny_notIn_heap (by show X.A.units + 1 + 8 < cLine; omega) hi hs hd ?_
        cases hg : dGet kvs q with
        | none =>
          rw [hg] at ha hq
          have ha : atKey xs q = none := ha
          rw [ha]
          exact ⟨.bl true, H, I.tok _, rfl, Pk.here rh hq (.bl _)⟩
        | some d0 =>
          rw [hg] at ha hq
          obtain ⟨p0, v0, e0, _, _⟩ := ha
          rw [e0]
          exact ⟨.bl false, H, I.tok _, rfl, Pk.here rh hq (.bl _)⟩
      · exact hq.elim
    · exact m_notIn (by omega) pins s σ H x y v u Q I rx ry ⟨_, _, M, μ, rh, rd, re, hq⟩
  · exact m_notIn (by omega) pins s σ H x y v u Q I rx ry ⟨_, _, M, μ, rh, rd, re, hq⟩
theorem put_any (hr : Room 1 X.A) : PSet X (rPut X.prog X.w X.K Γ gPutA) := by
  have hu := hr.un
  intro pins s σ H o i v ov iv u Q I ro ri rv ⟨d, e, f, M, μ, rh, rd, re, rf, h⟩
  unfold gPutA at h
  split at h
  · rename_i M' hg
    split at hg
    · split at hg
      · rename_i n kvs hk
        split at hg
        · rename_i q hq'
          split at hg
          · rename_i hl
            cases hg
            obtain ⟨b, rfl, e1⟩ := ref_rel rd
            cases ro
            obtain ⟨es, g, r⟩ := ndct rh hk e1
            obtain ⟨xs, p, hd, hs, hz⟩ := dict_at I r (.inl g)
            obtain ⟨c, rfl, rfl, hi⟩ := key_is I hq' re ri
            obtain ⟨k1, k2, k3⟩ := keyOf_ok hq'
            have hlen : xs.length < sizeLine := by
              have l1 := Paired.length r
              have l2 := Paired.length p
              omega
            obtain ⟨es', r', p'⟩ := puts_of k1 k2 re rf rv r p
            have hm : Mut (H b) := by rw [g]; trivial
            refine wpAny_setItem_heap (by show X.A.units + 1 + 8 < cLine; omega) hi hd (fun h' hd' sb => ?_) hz
            have new : ObjOk X.prog X.w (upd H b (dHO X.prog X.w b es')) h' b (dHO X.prog X.w b es') := by
              obtain ⟨o', ds', ep', ho', hx', hdt', he', _, hn'⟩ := hd'
              refine ⟨⟨_, p', o', ds', ep', ho', hx', hdt', he', hn', hs, ?_⟩, ⟨_, ho'⟩, dExt⟩
              unfold storedH
              split
              · simp; omega
              · simp; omega
            have hex : ∃ u, h'.get? b = some u := by obtain ⟨o', _, _, ho', _⟩ := hd'; exact ⟨o', ho'⟩
            refine ⟨_, I.write (x := b) (e := b) (o := dHO X.prog X.w b es') (t' := s.toks + (nestedKind X.prog X.w).draws q) hm (.inl rfl) (fun c ob hc hb => (sb.2 c hc).trans hb) hex new, h _ _ (Nx.write hm) (rh.write e1 hm ⟨es', upd_same, Paired.imp r' fun _ _ => REn.mono (Nx.write hm)⟩)⟩
          · cases hg
        · cases hg
      · exact put_list pins s σ H o i v ov iv u Q I ro ri rv ⟨_, _, _, M, μ, rh, rd, re, rf, by rw [hg]; exact h⟩
    · exact put_list pins s σ H o i v ov iv u Q I ro ri rv ⟨_, _, _, M, μ, rh, rd, re, rf, by rw [hg]; exact h⟩
  · exact h.elim
def rIxA (P : Program) (w : World) (K : PySem.W.Frag) (Γ : Gm) : R2 := r2 P w K Γ gIxA
theorem ix_all (hr : Room 1 X.A) : IxR X (rIxA X.prog X.w X.K Γ) := by
  have hu := hr.un
  intro value slice pins s σ H x y v u Q I rx ry ⟨d, e, M, μ, rh, rd, re, hq⟩ hs'
  have plain : Pk X.prog X.w X.K Γ (relV X.K) μ H (gIx d e M) Q → wpAny (model X.prog X.w) X.A (subscriptTail value slice v u) (EP X pins σ Q) X.xe s := by
    clear hq
    intro hq
    unfold gIx at hq
    split at hq
    · rename_i xs i hx
      cases re
      split at hq
      · rename_i z hz
        obtain ⟨a, vs, rfl, hs, r⟩ := hSeq_ok rh hx rd
        obtain ⟨u', g1, g2⟩ := atI_rel r hz
        refine ix_any value slice pins s σ H _ _ v u Q I rx ry ?_ hs'
        rcases hs with hs | hs
        · exact .inl ⟨_, _, _, _, rfl, rfl, hs, g1, Pk.here rh hq g2⟩
        · exact .inr ⟨_, _, _, _, rfl, rfl, hs, g1, Pk.here rh hq g2⟩
      · exact hq.elim
    · exact hq.elim
  unfold gIxA at hq
  split at hq
  · split at hq
    · rename_i n kvs hk
      split at hq
      · rename_i q hq'
        obtain ⟨b, rfl, e1⟩ := ref_rel rd
        cases rx
        obtain ⟨es, g, r⟩ := ndct rh hk e1
        obtain ⟨xs, p, hd, hs, _⟩ := dict_at I r (.inl g)
        obtain ⟨c, rfl, rfl, hi⟩ := key_is I hq' re ry
        have ha := atKey_of (k := q) r p
        cases hg : dGet kvs q with
        | none => rw [hg] at hq; exact hq.elim
        | some d0 =>
          rw [hg] at ha hq
          obtain ⟨p0, v0, e0, r0, r1⟩ := ha
          refine subscriptTail_builtinR (x := p0.2) hd.typeIs F.slot_dict_getitem.lookup (wpAny_getItem_heap (by show X.A.units + 1 + 8 < cLine; omega) hi hd e0 ⟨rfl, ?_⟩) hs'
          exact ⟨v0, H, I.tok _, r0, Pk.here rh hq r1⟩
      · exact hq.elim
    · exact plain hq
  · exact plain hq
theorem ex_ixA (hr : Room 1 X.A) (ha : EX X Γ W a fa) (hb : EX X Γ W b fb) (hs : PlainIx b := by intro _ _; rfl) : EX X Γ W (.Subscript a b pos) (x2 gIxA fa fb) :=
  PE.imp (pe_ix (ix_all hr) ha hb hs) fun _ _ _ h => tOp_of h
end
end Mi
end
section
set_option maxRecDepth 100000
set_option maxHeartbeats 2000000
set_option autoImplicit false
namespace Mi
open PySem PySem.Spec PyProof.Rows L2

section
variable {X : Cx} {Γ : Gm} {W : WX} {C : Addr} {x : Str} {p pos pos2 : Pos} {c n k : Nat} {e : Expr} {es : List Expr} {ga : MA}
/-- of a class without own __init__, with nothing -/
theorem pmk_bare {bmB : List Value} {B newId initId : String} (F : ExcBaseFacts B newId initId bmB) (q : PySem.W.excIn X.K C bmB newId = true) (gC : X.mg x = some (.ref C)) (kC : PySem.W.keepIn X.K (.ref C) = true) (r : Raises X (.ref C)) (hg : Gl X x)
    (hdb : (x == ("__debug__" : Str)) = false := by decide) : PMk X (.Call (.Name x p) [] [] pos) (fun _ H Q => Q (.ref C) none H) := by
  intro pins s σ H Q I h
  refine wpAny_Call_Name_kw (ld_glob I hg gC ?_ hdb)
  refine PySem.W.callWith_K0 I.kIn kC ?_
  obtain ⟨bm, N, nm, qn, bs, hdct, sn, sub, ab, col, dd, k0, k1, k2, k3, k5, mN, hC, hN, hni, T⟩ := exc_obj I.kIn q
  refine wpAny_call_exc_subT F T hC hN hni (fun h' e hm => ?_) (Nat.zero_le _)
  exact mk_of I hm r h (I.hok.gone hm.new)
/-- what the written part says of a class without __init__ -/
structure Rz0 (K : PySem.W.Frag) (mg : Str → Option Value) (C : Addr) (x : Str) : Prop where
  q : PySem.W.excIn K C [.type "ValueError", .type "Exception", .type "BaseException", .type "object"] "ValueError.__new__" = true
  g : mg x = some (.ref C)
  kp : PySem.W.keepIn K (.ref C) = true
  sb : PySem.W.subIn K (.ref C) (.type "BaseException") = some true
  ty : PySem.W.typeIn K (.ref C) = some (.type "type")
def sRaise0 (c : Nat) : MS := fun ζ M => .ex c [] ζ M
theorem es_raise0 (T : Rz0 X.K X.mg (Γ.cA c) x) (hc : X.calm = true) (tk : Takes X W) (hg : Gl X x := by rfl) (hdb : (x == ("__debug__" : Str)) = false := by decide) : ES X Γ W (.Raise (some (.Call (.Name x p) [] [] pos)) none pos2) (sRaise0 c) :=
  PS.imp (ps_raise hc tk (pmk_bare F.excBase_ValueError T.q T.g T.kp (raises_own T.sb T.ty) hg hdb)) fun E σ H ⟨ζ, M, μ, rr, h⟩ => h _ _ _ _ _ (Nx.refl _ _) rr.hp rr.sl ⟨rfl, .inl ⟨rfl, rfl⟩⟩
/-- __init__ puts all it is handed into fields; ns: the fields' names, the last one first -/
def spInit (C : Addr) (ns : List Str) : Sp := fun vs H Q _ => ∃ (a : Addr) (ys : List V), vs = .ref a :: ys ∧ ys.length = ns.length ∧ H a = some (exo a C none) ∧
  ∀ (dx : Addr) (H' : Hp), H dx = none → dx ≠ a → H' a = some (exo a C (some dx)) → H' dx = some (exd dx (ns.zip ys.reverse)) → (∀ b, b ≠ a → b ≠ dx → H' b = H b) → Q .non H'
structure RzI (P : Program) (w : World) (K : PySem.W.Frag) (mg : Str → Option Value) (base : Heap) (k : Nat) (C : Addr) (x : Str) (ns : List Str) : Prop where
  o : OexC K C
  i : ∃ f fd ps, PySem.W.findIn K (.ref C) "__init__" = some (some (.ref f)) ∧ PySem.W.typeIn K (.ref f) = some (.type "function") ∧ FnOk P w K mg base (L2.CX P w) k f fd ps (spInit C ns) ∧ Binds K fd ps []
  g : mg x = some (.ref C)
def sRaise (c n : Nat) (ga : MA) : MS := fun ζ M => RS.of ζ (ga ζ M) fun ds M1 => if ds.length = n then .ex c ds.reverse ζ M1 else .no
theorem es_raise (T : RzI X.prog X.w X.K X.mg X.base k (Γ.cA c) x (Γ.cN c)) (hl : (Γ.cN c).length = n) (hn : 0 < n ∧ n ≤ 900) (hr : Room (k + 1) X.A) (hc : X.calm = true) (tk : Takes X W) (ha : EA X Γ W (e :: es) ga) (hg : Gl X x := by rfl)
    (hdb : (x == ("__debug__" : Str)) = false := by decide) (he : starEach (e :: es) X.env = (false, eval e X.env) :: starEach es X.env := by rfl) (hpl : (backTo pos (starEach es X.env)).any (·.1) = false := by rfl) :
    ES X Γ W (.Raise (some (.Call (.Name x p) (e :: es) [] pos)) none pos2) (sRaise c n ga) := by
  obtain ⟨f, fd, ps, h1, h2, F1, hb⟩ := T.i
  refine PS.imp (ps_raise hc tk (pmk_oex T.o h1 h2 F1 hr hb .nil (fun pins σ H s e s' I hx => passAt (W := fun _ _ _ _ => False) (fun u s' hx => (by obtain ⟨_, _, _, _, _, _, _, _, _, _, _, _, _, _, _, _, z⟩ := hx; exact z.elim)) σ pins H s e s' I hx) hg T.g ha hdb he hpl)) fun E σ H ⟨ζ, M, μ, rr, h⟩ => ⟨ζ, M, μ, rr, PstS.then h rr.sl fun vs H1 ds M1 μ1 nx rh rv h1 => ?_⟩
  replace rv : RVs X.K H1 μ1 ds vs := rv
  split at h1
  · rename_i hd
    have hv : vs.length = (Γ.cN c).length := by rw [← rv.length, hd, hl]
    refine ⟨by omega, fun a hna => ⟨a, vs, by rw [List.append_nil], hv, upd_same, fun dx H2 hdx hne ea ed oth => ⟨rfl, dx, _, ea, ed, ?_, ?_⟩⟩⟩
    · rw [upd_ne hne] at hdx; exact hdx
    · rw [upd_ne hne] at hdx
      have eH : upd (del H2 a) dx (.xd ((Γ.cN c).zip vs.reverse)) = upd H1 dx (.xd ((Γ.cN c).zip vs.reverse)) := by
        funext b
        by_cases hb : b = dx
        · rw [hb, upd_same, upd_same]
        · rw [upd_ne hb, upd_ne hb]
          by_cases hb2 : b = a
          · rw [hb2, del_same, hna]
          · rw [del_ne hb2, oth b hb2 hb, upd_ne hb2]
      rw [eH]
      have nx1 := Nx.fresh0 (μ := μ1) (u := HO.xd ((Γ.cN c).zip vs.reverse)) hdx
      refine h1 _ _ _ _ _ nx1 (rh.fresh hdx) ((rr.sl.mono nx).mono nx1) ⟨rfl, ?_⟩
      exact .inr ⟨fun hz => by rw [List.reverse_eq_nil_iff] at hz; rw [hz] at hd; simp at hd; omega, _, _, rfl, upd_same, by rw [List.length_reverse, hd, hl], (rv.mono nx1).reverse⟩
  · exact h1.elim
def bInit1 (K : PySem.W.Frag) (f : Str) : TS := tOst K f (tVar 0) (tVar 1)
def bInit2 (K : PySem.W.Frag) (f g : Str) : TS := tSeq (tOst K f (tVar 0) (tVar 1)) (tOst K g (tVar 0) (tVar 2))
end
section
variable {P : Program} {w : World} {K : PySem.W.Frag} {mg : Str → Option Value} {base : Heap} {qual : Str} {params : Arguments} {body : List Stmt} {scope : Scope} {i : Addr} {fd : FuncData} {x : Str} {N : List Str} {C : Addr} {f g : Str}
theorem init_mk1 (F : FunD K x qual params body scope [] [] i fd) {a b : Str} (S : FnScope [a, b] [a, b] scope) (T : OexC K C) (hf : PySem.W.findIn K (.ref C) f = some none)
    (hbody : ∀ (cdv : Value) (A : Around) (outer : List Env) (s : Shared) (H : Hp) (E : XK), PSs (cxOf (L2.CX P w) P w K mg base [a, b] qual scope i cdv A outer s H E) body (bInit1 K f)) : FnOk P w K mg base (L2.CX P w) 1 i fd [a, b] (spInit C [f]) := by
  refine F.ok S (fun vs H Q E ⟨o, ys, e, hl, _⟩ => by rw [e]; simp at hl; simp [hl]) fun cdv A outer s H vs Q E hr h => ⟨_, hbody cdv A outer s H E, ?_⟩
  obtain ⟨o, ys, rfl, hl, ho, q⟩ := h
  match ys, hl with
  | [y], _ =>
    refine ⟨y, rfl, .ref o, rfl, o, C, rfl, T, hf, .inl ⟨ho, fun dx h1 h2 => q dx _ h1 h2 upd_same (by rw [upd_ne h2, upd_same]; rfl) fun b h3 h4 => by rw [upd_ne h3, upd_ne h4]⟩⟩
theorem init_mk2 (F : FunD K x qual params body scope [] [] i fd) {a b c : Str} (S : FnScope [a, b, c] [a, b, c] scope) (T : OexC K C) (hf : PySem.W.findIn K (.ref C) f = some none) (hg : PySem.W.findIn K (.ref C) g = some none)
    (hbody : ∀ (cdv : Value) (A : Around) (outer : List Env) (s : Shared) (H : Hp) (E : XK), PSs (cxOf (L2.CX P w) P w K mg base [a, b, c] qual scope i cdv A outer s H E) body (bInit2 K f g)) : FnOk P w K mg base (L2.CX P w) 1 i fd [a, b, c] (spInit C [g, f]) := by
  refine F.ok S (fun vs H Q E ⟨o, ys, e, hl, _⟩ => by rw [e]; simp at hl; simp [hl]) fun cdv A outer s H vs Q E hr h => ⟨_, hbody cdv A outer s H E, ?_⟩
  obtain ⟨o, ys, rfl, hl, ho, q⟩ := h
  match ys, hl with
  | [y, z], _ =>
    refine ⟨y, rfl, .ref o, rfl, o, C, rfl, T, hf, .inl ⟨ho, fun dx h1 h2 => ⟨z, rfl, .ref o, rfl, o, C, rfl, T, hg, .inr ⟨dx, [(f, y)], upd_same, by rw [upd_ne h2, upd_same], by simp, ?_⟩⟩⟩⟩
    exact q dx _ h1 h2 (by rw [upd_ne (Ne.symm h2), upd_same]) (by rw [upd_same]; rfl) fun b h3 h4 => by rw [upd_ne h4, upd_ne h3, upd_ne h4]
end
end Mi
end
section
set_option maxRecDepth 100000
set_option maxHeartbeats 2000000
set_option autoImplicit false
namespace Mi
open PySem PySem.Spec PyProof.Rows L2

/-- a clause, as the layer below takes it: its class, its name's slot, its suite -/
structure VC where
  c : Value
  sl : Option Nat
  ts : Addr → Value → Option Addr → TS
def ungo (sl : Option Nat) (σ : L2.St) : L2.St := match sl with
  | none => σ
  | some i => σ.set i none
def offE (sl : Option Nat) (D : Ends) : Ends := { nx := fun σ H => D.nx (ungo sl σ) H, rt := D.rt, bk := fun σ H => D.bk (ungo sl σ) H, ct := fun σ H => D.ct (ungo sl σ) H }
def onE (sl : Option Nat) (a : Addr) (σ : L2.St) : L2.St := match sl with
  | none => σ
  | some i => σ.set i (some (.ref a))
def wVC (K : PySem.W.Frag) (Wo : WX) (D : Ends) : List VC → WX
  | [] => Wo
  | v :: r => fun cls d σ H => ∃ b, PySem.W.exmOne K cls v.c = some b ∧ (b = true → ∀ a, H a = none → v.ts a cls d (offE v.sl D) (onE v.sl a σ) H) ∧ (b = false → wVC K Wo D r cls d σ H)
def suOk (X : Cx) (su : List Stmt) (ts : Addr → Value → Option Addr → TS) : Prop := ∀ (a : Addr) (oe : Obj) (cls : Value) (d : Option Addr) (pn : List (Addr × Obj)), Zc cls d oe → (∃ vs, oe.data = .fields vs) → PSs (X.suite a ((a, oe) :: pn)) su (ts a cls d)
inductive VCs (X : Cx) : List ExceptHandler → List VC → Prop
  | nil : VCs X [] []
  | bare {x : Str} {v : VC} {b : Stmt} {su : List Stmt} {np pos : Pos} {hds : List ExceptHandler} {l : List VC} (hc : Names X x v.c) (hs : v.sl = none) (hu : suOk X (b :: su) v.ts) (r : VCs X hds l) : VCs X (.ExceptHandler (some (.Name x np)) none (b :: su) pos :: hds) (v :: l)
  | named {x n : Str} {i : Nat} {v : VC} {b : Stmt} {su : List Stmt} {np pos : Pos} {hds : List ExceptHandler} {l : List VC} (hc : Names X x v.c) (hs : v.sl = some i) (hi : X.N[i]? = some n) (hl : X.env.kindOf n = some .local) (hu : suOk X (b :: su) v.ts) (r : VCs X hds l) :
      VCs X (.ExceptHandler (some (.Name x np)) (some n) (b :: su) pos :: hds) (v :: l)
section
variable {X : Cx} {body : List Stmt} {h₀ : ExceptHandler} {hds : List ExceptHandler} {l : List VC} {pos : Pos} {tb : WX → TS} {Wo : WX}
theorem not_frame {h B : Heap} {l : List Env} {a : Addr} {o : Obj} {vs : Array Value} (ff : h.FunFrames B l) (e : h.get? a = some o) (dd : o.data = .fields vs) : a ∉ frs l := fun hm => by
  obtain ⟨_, o', e', hnf⟩ := ff.mem hm
  rw [e] at e'
  cases e'
  exact hnf _ dd
theorem handled (hs : X.stack = X.env :: X.outer) (hf : X.env.frame = some X.env.locals) (hN : X.N.Nodup) (tk : Takes X Wo) {pins : List (Addr × Obj)} {σ : L2.St} {H : Hp} {D : Ends} {a : Addr} {B h3 : Heap} {sI s' : Shared} {cls : Value} {d : Option Addr}
    (J : Inv X pins σ H sI) (nb : ∀ b o, sI.heap.get? b = some o → b ∉ frs X.stack → B.get? b = some o) (up : sI.heap.UpToSlots h3) (na : H a = none) (os : s'.os = sI.os) (ag : AllBare s'.gens)
    (fl : HandSPX.FlyingZ B (X.env :: X.outer) a (Zc cls d) h3) {hds : List ExceptHandler} {l : List VC} (hk : VCs X hds l) : wVC X.K Wo D l cls d σ H → wpAny (model X.prog X.w) X.A (handleBy (.ref a) X.env hds) (SP X pins D) X.xe { s' with heap := h3 } := by
  have ok := J.ok
  have J3 : Inv X pins σ H { s' with heap := h3 } := J.landed nb fl.1 up os ag
  obtain ⟨oe3, vs3, he3, hz3, hd3⟩ := fl.there
  have nfr := not_frame fl.2.2.1 he3 hd3
  have nL : a ≠ X.env.locals := fun z => nfr (List.mem_filterMap.mpr ⟨X.env, List.mem_cons_self, by rw [hf, z]⟩)
  have nF : a ∉ X.fs := fun hm => by
    obtain ⟨e, he, q⟩ := List.mem_filterMap.mp hm
    exact nfr (List.mem_filterMap.mpr ⟨e, List.mem_cons_of_mem _ he, q⟩)
  have S3 := J3.suite he3 hd3 na nL nF
  have LT : PySem.W.Looks (model X.prog X.w) h3 (typeOf (.ref a)) cls := fun A Q E s k q => wpAny_typeOf_ref (k _ _ he3) (by rw [hz3.1]; exact q)
  have test : ∀ {x : Str} {c : Value} {np : Pos} {Q : Value → Shared → Prop} {E : Value → Shared → Prop}, Names X x c → Q c { s' with heap := h3 } → wpAny (model X.prog X.w) (X.A.mark (some (.ref a))) (eval (.Name x np) X.env) Q E { s' with heap := h3 } := fun hc q => by
    obtain ⟨hg, hdbg, hm | ⟨hm, hv, hnn⟩⟩ := hc
    · exact ld_glob (X := X.suite a ((a, oe3) :: (X.pn ++ pins))) S3 hg hm q hdbg
    · exact ld_blt (X := X.suite a ((a, oe3) :: (X.pn ++ pins))) S3 hg hm hv q hnn hdbg
  have land : ∀ {h4' : Heap}, HandSPX.FlyingZ B (X.env :: X.outer) a (Zc cls d) h4' → h3.UpToSlots h4' → ∃ oe4, (∃ vs, oe4.data = .fields vs) ∧ Zc cls d oe4 ∧ Inv (X.suite a ((a, oe4) :: (X.pn ++ pins))) [] σ H { s' with heap := h4' } := fun {h4'} fl4 up4 => by
    obtain ⟨oe4, vs4, he4, hz4, hd4⟩ := fl4.there
    exact ⟨oe4, ⟨_, hd4⟩, hz4, Inv.suite (s := { s' with heap := h4' }) (J.landed (s' := { s' with heap := h4' }) nb fl4.1 (up.trans up4) os ag) he4 hd4 na nL nF⟩
  induction hk with
  | nil =>
    intro w
    refine wpAny_handleBy_nil ?_
    obtain ⟨k1, k2, k3, oe, vs, T, oT, ts', he, hz, hd, h1, hr⟩ := id fl
    unfold PySem.passOn
    refine wpAny_bind (wpAny_field he hd h1 ?_)
    rw [if_neg (show ¬ ((Value.ref T == Value.none) = true) from by simp)]
    have fin : wpAny (model X.prog X.w) X.A (setFlight (.ref a) X.env.frame) (fun _ s4 => wpAny (model X.prog X.w) X.A (throw (.ref a) : Sem Flow) (SP X pins D) X.xe s4) X.xe { s' with heap := h3 } := by
      rw [hf]
      refine HandSPX.setFlight_upZ fl fun h4 hh4 up4 => wpAny_throw (tk _ _ ⟨a, B, sI, pins, σ, H, cls, d, rfl, J, nb, up.trans up4, .inr (.inr (by rw [hs]; exact hh4)), na, os, ag, w⟩)
    first
      | exact wpAny_bind (wpAny_pure (wpAny_bind fin))
      | exact wpAny_bind fin
  | @bare x v b₀ su np pos' hds2 l2 hc hsl hu r ih =>
    rintro ⟨b, hb1, hyes, hno⟩
    have LM := PySem.W.exm_one (M := model X.prog X.w) J3.kIn LT hb1
    refine wpAny_handleBy_cons (codeAny_handlers_test (test hc (LM.here ?_))) (by intro q; cases q)
    cases b with
    | false => exact ih (hno rfl)
    | true =>
      refine codeAny_handlers_suite (HandSPX.lands_againZ fl fun h4 fl4 up4 => ?_)
      obtain ⟨oe4, hv4, hz4, S4⟩ := land fl4 up4
      have hy := hyes rfl a na
      rw [hsl] at hy
      refine wpAny_mono ((hu a oe4 cls d (X.pn ++ pins) hz4 hv4).run [] _ _ H _ S4 hy) (fun f s6 hsp => ?_) (fun _ _ z => False.elim z)
      cases f with
      | next => obtain ⟨σ6, H6, S6, q6⟩ := hsp; exact ⟨_, _, S6.unsuite ok, q6⟩
      | brk => obtain ⟨σ6, H6, S6, q6⟩ := hsp; exact ⟨_, _, S6.unsuite ok, q6⟩
      | cont => obtain ⟨σ6, H6, S6, q6⟩ := hsp; exact ⟨_, _, S6.unsuite ok, q6⟩
      | ret u => obtain ⟨v6, σ6, H6, S6, r6, q6⟩ := hsp; exact ⟨_, _, _, S6.unsuite ok, r6, q6⟩
  | @named x n i v b₀ su np pos' hds2 l2 hc hsl hi hln hu r ih =>
    rintro ⟨b, hb1, hyes, hno⟩
    have LM := PySem.W.exm_one (M := model X.prog X.w) J3.kIn LT hb1
    refine wpAny_handleBy_cons (codeAny_handlers_test (test hc (LM.here ?_))) (by intro q; cases q)
    cases b with
    | false => exact ih (hno rfl)
    | true =>
      refine codeAny_handlers_suite_as (HandSPX.lands_againZ fl fun h4 fl4 up4 => ?_)
      obtain ⟨oe4, hv4, hz4, S4⟩ := land fl4 up4
      have hy := hyes rfl a na
      rw [hsl] at hy
      refine store_ok (X := X.suite a ((a, oe4) :: (X.pn ++ pins))) (v := .ref a) S4 hN hi (.inl hln) rfl (fun s5 S5 => ?_) (.inr hln)
      refine wpAny_mono ((hu a oe4 cls d (X.pn ++ pins) hz4 hv4).run [] s5 _ H _ S5 hy) (fun f s6 hsp => ?_) (fun _ _ z => False.elim z)
      have last : ∀ {σ6 : L2.St} {H6 : Hp} {Q : Shared → Prop}, Inv (X.suite a ((a, oe4) :: (X.pn ++ pins))) [] σ6 H6 s6 → (∀ s7, Inv X pins (σ6.set i none) H6 s7 → Q s7) →
          wpAny (model X.prog X.w) X.A (do bindName X.env n .none; unbindBehindTheSuite X.env n pos') (fun _ s7 => Q s7) X.xe s6 := fun S6 hq => gone_ok (S6.unsuite ok) hN hi hln hq
      cases f with
      | next => obtain ⟨σ6, H6, S6, q6⟩ := hsp; exact last S6 fun s7 J7 => ⟨_, _, J7, q6⟩
      | brk => obtain ⟨σ6, H6, S6, q6⟩ := hsp; exact last S6 fun s7 J7 => ⟨_, _, J7, q6⟩
      | cont => obtain ⟨σ6, H6, S6, q6⟩ := hsp; exact last S6 fun s7 J7 => ⟨_, _, J7, q6⟩
      | ret u => obtain ⟨v6, σ6, H6, S6, r6, q6⟩ := hsp; exact last S6 fun s7 J7 => ⟨_, _, _, J7, r6, q6⟩
theorem ps_tries (hs : X.stack = X.env :: X.outer) (hf : X.env.frame = some X.env.locals) (hN : X.N.Nodup) (tk : Takes X Wo)
    (hb : ∀ (W : WX) (pn : List (Addr × Obj)) (xe : Value → Shared → Prop), Takes (X.tr pn xe) W → PassesOwn (model X.prog X.w) X.A X.env xe → PSs (X.tr pn xe) body (tb W))
    (hh : VCs X (h₀ :: hds) l) : PS X (.Try body (h₀ :: hds) [] [] pos) (fun D σ H => tb (wVC X.K Wo D l) D σ H) := by
  refine ⟨fun pins s σ H D I h => ?_⟩
  have ok := I.ok
  have hfr : X.A.frames = some (X.env :: X.outer) := by rw [ok.frames, hs]
  refine wpAny_Try_except ?_
  refine wpAny_mono ((hb (wVC X.K Wo D l) (X.pn ++ pins) (fun e s₁ => wpAny (model X.prog X.w) X.A (noteFrame e X.env) (fun _ s₂ => wpAny (model X.prog X.w) X.A (setFlight e none) (fun _ s₃ =>
    wpAny (model X.prog X.w) X.A (handleBy e X.env (h₀ :: hds)) (SP X pins D) X.xe s₃) X.xe s₂) X.xe s₁) (fun u s' xx => ?_) PassesOwn.looking).run [] s σ H D (I.toTry _) h) (fun f s1 hsp => ?_) (fun e s1 he => he)
  · obtain ⟨a, B, sI, pins', σ', H', cls, d, rfl, J', nb, up, sky, na, os, ag, w⟩ := xx
    have J : Inv X pins σ' H' sI := J'.ofTry ok
    have sky' : Sky B (X.env :: X.outer) a (Zc cls d) X.env.locals s'.heap := by rw [← hs]; exact sky
    show wpAny (model X.prog X.w) X.A (noteFrame (.ref a) X.env) _ _ _
    exact Sky.land Zc.steady hfr hf sky' fun h3 fl3 up3 => handled hs hf hN tk J nb (up.trans up3) na os ag fl3 hh w
  · cases f with
    | next => obtain ⟨σ', H', J', q⟩ := hsp; exact wpAny_execs_nil ⟨σ', H', J'.ofTry ok, q⟩
    | brk => obtain ⟨σ', H', J', q⟩ := hsp; exact ⟨σ', H', J'.ofTry ok, q⟩
    | cont => obtain ⟨σ', H', J', q⟩ := hsp; exact ⟨σ', H', J'.ofTry ok, q⟩
    | ret u => obtain ⟨v, σ', H', J', r, q⟩ := hsp; exact ⟨v, σ', H', J'.ofTry ok, r, q⟩
end
end Mi
end
section
set_option maxRecDepth 100000
set_option maxHeartbeats 2000000
set_option autoImplicit false
namespace Mi
open PySem PySem.Spec PyProof.Rows L2

/-- a clause: which classes it takes, its name's slot, its suite -/
structure CL where
  ma : Nat → Option Bool
  sl : Option Nat
  f : Addr → Option Addr → Nat → List D → MS
def offS (sl : Option Nat) (ζ : Sl) : Sl := match sl with
  | none => ζ
  | some i => ζ.set i none
def onS (sl : Option Nat) (d : D) (ζ : Sl) : Sl := match sl with
  | none => ζ
  | some i => ζ.set i (some d)
def sEnd (sl : Option Nat) : RS → RS
  | .nx ζ M => .nx (offS sl ζ) M
  | .bk ζ M => .bk (offS sl ζ) M
  | .ct ζ M => .ct (offS sl ζ) M
  | .rt d M => .rt d M
  | _ => .no
open Classical in
noncomputable def uni (f : Addr → Addr → RS) : RS := if h : ∃ r, ∀ a d, f a d = r then h.choose else .no
theorem uni_eq {f : Addr → Addr → RS} {r : RS} (h : ∀ a d, f a d = r) : uni f = r := by
  have hh : ∃ r, ∀ a d, f a d = r := ⟨r, h⟩
  unfold uni
  rw [dif_pos hh]
  exact (hh.choose_spec 0 0).symm.trans (h 0 0)
theorem uni_at {f : Addr → Addr → RS} (hn : uni f ≠ .no) (a d : Addr) : f a d = uni f := by
  unfold uni at hn ⊢
  split
  · rename_i hh
    exact hh.choose_spec a d
  · rename_i hh
    rw [dif_neg hh] at hn
    exact absurd rfl hn
def dOf (fs : List D) (d : Addr) : Option Addr := if fs.isEmpty = true then none else some d
def suR (nm : Nat → List Str) (h : CL) (c : Nat) (fs : List D) (ζ : Sl) (M : Hs) (a d : Addr) : RS := sEnd h.sl (h.f a (dOf fs d) c fs (onS h.sl (.exc a (dOf fs d) c (nm c) fs) ζ) M)
noncomputable def tryR (nm : Nat → List Str) : List CL → Nat → List D → Sl → Hs → RS
  | [], c, fs, ζ, M => .ex c fs ζ M
  | h :: r, c, fs, ζ, M => match h.ma c with
    | none => .no
    | some true => uni (suR nm h c fs ζ M)
    | some false => tryR nm r c fs ζ M
noncomputable def sTry (nm : Nat → List Str) (b : MS) (l : List CL) : MS := fun ζ M => match b ζ M with
  | .ex c fs ζ' M' => tryR nm l c fs ζ' M'
  | r => r
def suD (X : Cx) (Γ : Gm) (su : List Stmt) (f : Addr → Option Addr → Nat → List D → MS) : Prop := ∀ (a : Addr) (oe : Obj) (c : Nat) (d : Option Addr) (fs : List D) (pn : List (Addr × Obj)), Zc (.ref (Γ.cA c)) d oe → (∃ vs, oe.data = .fields vs) → ESs (X.suite a ((a, oe) :: pn)) Γ W0 su (f a d c fs)
inductive CLs (X : Cx) (Γ : Gm) : List ExceptHandler → List CL → Prop
  | nil : CLs X Γ [] []
  | bare {x : Str} {cv : Value} {v : CL} {b : Stmt} {su : List Stmt} {np pos : Pos} {hds : List ExceptHandler} {l : List CL} (hc : Names X x cv) (hm : ∀ c b, v.ma c = some b → PySem.W.exmOne X.K (.ref (Γ.cA c)) cv = some b) (hs : v.sl = none) (hu : suD X Γ (b :: su) v.f) (r : CLs X Γ hds l) :
      CLs X Γ (.ExceptHandler (some (.Name x np)) none (b :: su) pos :: hds) (v :: l)
  | named {x n : Str} {i : Nat} {cv : Value} {v : CL} {b : Stmt} {su : List Stmt} {np pos : Pos} {hds : List ExceptHandler} {l : List CL} (hc : Names X x cv) (hm : ∀ c b, v.ma c = some b → PySem.W.exmOne X.K (.ref (Γ.cA c)) cv = some b) (hs : v.sl = some i) (hi : X.N[i]? = some n)
      (hl : X.env.kindOf n = some .local) (hu : suD X Γ (b :: su) v.f) (r : CLs X Γ hds l) : CLs X Γ (.ExceptHandler (some (.Name x np)) (some n) (b :: su) pos :: hds) (v :: l)
def tsOf (X : Cx) (Γ : Gm) (v : CL) : Addr → Value → Option Addr → TS := fun a cls d E σ H => ∃ c fs, cls = .ref (Γ.cA c) ∧ tS X.prog X.w X.K Γ W0 (v.f a d c fs) E σ H
theorem suD_ok {X : Cx} {Γ : Gm} {su : List Stmt} {v : CL} (h : suD X Γ su v.f) : suOk X su (tsOf X Γ v) := by
  intro a oe cls d pn hz hf
  refine ⟨fun pins s σ H E I ⟨c, fs, e, t⟩ => ?_⟩
  subst e
  exact (h a oe c d fs pn hz hf).run pins s σ H E I t
/-- the clauses below -/
theorem CLs.under {X : Cx} {Γ : Gm} {hds : List ExceptHandler} {l : List CL} (h : CLs X Γ hds l) : ∃ vl, VCs X hds vl ∧ Paired (fun (v : VC) (u : CL) => v.sl = u.sl ∧ v.ts = tsOf X Γ u ∧ ∀ c b, u.ma c = some b → PySem.W.exmOne X.K (.ref (Γ.cA c)) v.c = some b) vl l := by
  induction h with
  | nil => exact ⟨[], .nil, .nil⟩
  | @bare x cv v b su np pos hds l hc hm hs hu r ih =>
    obtain ⟨vl, h1, h2⟩ := ih
    exact ⟨⟨cv, v.sl, tsOf X Γ v⟩ :: vl, .bare hc hs (suD_ok hu) h1, .cons ⟨rfl, rfl, hm⟩ h2⟩
  | @named x n i cv v b su np pos hds l hc hm hs hi hl hu r ih =>
    obtain ⟨vl, h1, h2⟩ := ih
    exact ⟨⟨cv, v.sl, tsOf X Γ v⟩ :: vl, .named hc hs hi hl (suD_ok hu) h1, .cons ⟨rfl, rfl, hm⟩ h2⟩
theorem RSl.off {K : PySem.W.Frag} {H : Hp} {μ : List Addr} {ζ : Sl} {σ : L2.St} (r : RSl K H μ ζ σ) (sl : Option Nat) : RSl K H μ (offS sl ζ) (ungo sl σ) := by
  cases sl with
  | none => exact r
  | some i => exact r.wiped [i]
theorem RSl.on {K : PySem.W.Frag} {H : Hp} {μ : List Addr} {ζ : Sl} {σ : L2.St} {d : D} {a : Addr} (r : RSl K H μ ζ σ) (rv : RV K H μ d (.ref a)) (sl : Option Nat) : RSl K H μ (onS sl d ζ) (onE sl a σ) := by
  cases sl with
  | none => exact r
  | some i => exact r.set rv i
section
variable {P : Program} {w : World} {K : PySem.W.Frag} {Γ : Gm} {W : WX} {μ : List Addr} {H : Hp}
theorem PstS.suited {sl : Option Nat} {r : RS} {E : Ends} (h : PstS P w K Γ W μ H (sEnd sl r) E) : PstS P w K Γ W0 μ H r (offE sl E) := by
  cases r with
  | nx ζ M => exact fun σ' H' μ' a b c => h _ _ _ a b (c.off sl)
  | bk ζ M => exact fun σ' H' μ' a b c => h _ _ _ a b (c.off sl)
  | ct ζ M => exact fun σ' H' μ' a b c => h _ _ _ a b (c.off sl)
  | rt d M => exact h
  | ex c fs ζ M => exact h.elim
  | no => exact h.elim
theorem RX.exc {c : Nat} {fs : List D} {cls : Value} {dd : Option Addr} (x : RX K Γ H μ c fs cls dd) (a : Addr) : (∃ d, dd = dOf fs d) ∧ cls = .ref (Γ.cA c) ∧ RV K H μ (.exc a dd c (Γ.cN c) fs) (.ref a) := by
  obtain ⟨h1, ⟨h2, h3⟩ | ⟨h2, d, vs, h3, h4, h5, h6⟩⟩ := x
  · subst h2 h3
    exact ⟨⟨0, rfl⟩, h1, .excN⟩
  · subst h3
    refine ⟨⟨d, ?_⟩, h1, .excD h4 h5 h6⟩
    unfold dOf
    rw [if_neg (by rw [List.isEmpty_iff]; exact h2)]
theorem caught {X : Cx} {Γ : Gm} {W : WX} {μ : List Addr} {H : Hp} {E : Ends} {vl : List VC} {l : List CL} (hp : Paired (fun (v : VC) (u : CL) => v.sl = u.sl ∧ v.ts = tsOf X Γ u ∧ ∀ c b, u.ma c = some b → PySem.W.exmOne X.K (.ref (Γ.cA c)) v.c = some b) vl l) {c : Nat} {fs : List D} {ζ : Sl} {M : Hs}
    (h : PstS X.prog X.w X.K Γ W μ H (tryR Γ.cN l c fs ζ M) E) {cls : Value} {dd : Option Addr} {σ : L2.St} (rh : RH X.prog X.w X.K Γ μ M H) (sl : RSl X.K H μ ζ σ) (rx : RX X.K Γ H μ c fs cls dd) : wVC X.K W E vl cls dd σ H := by
  induction hp with
  | nil => exact h _ _ _ _ _ (Nx.refl _ _) rh sl rx
  | @cons v u vl l hv t ih =>
    obtain ⟨e1, e2, hm⟩ := hv
    simp only [tryR] at h
    obtain ⟨⟨d, hd⟩, hc, rv⟩ := rx.exc 0
    cases hma : u.ma c with
    | none => rw [hma] at h; exact h.elim
    | some b =>
      rw [hma] at h
      refine ⟨b, by rw [hc]; exact hm c b hma, fun hb a hna => ?_, fun hb => ?_⟩
      · subst hb
        have h : PstS X.prog X.w X.K Γ W μ H (uni (suR Γ.cN u c fs ζ M)) E := h
        have hu : uni (suR Γ.cN u c fs ζ M) ≠ .no := fun z => by rw [z] at h; exact h
        rw [← uni_at hu a d] at h
        rw [e2, e1]
        refine ⟨c, fs, hc, _, M, μ, ⟨sl.on (rx.exc a).2.2 u.sl, rh⟩, ?_⟩
        unfold suR at h
        rw [← hd] at h
        exact h.suited
      · subst hb
        exact ih h
end
section
variable {X : Cx} {Γ : Gm} {W : WX} {body : List Stmt} {h₀ : ExceptHandler} {hds : List ExceptHandler} {l : List CL} {pos : Pos} {mb : MS}
theorem es_try (hs : X.stack = X.env :: X.outer) (hf : X.env.frame = some X.env.locals) (hN : X.N.Nodup) (tk : Takes X W)
    (hb : ∀ (W : WX) (pn : List (Addr × Obj)) (xe : Value → Shared → Prop), Takes (X.tr pn xe) W → PassesOwn (model X.prog X.w) X.A X.env xe → ESs (X.tr pn xe) Γ W body mb)
    (hh : CLs X Γ (h₀ :: hds) l) : ES X Γ W (.Try body (h₀ :: hds) [] [] pos) (sTry Γ.cN mb l) := by
  obtain ⟨vl, h1, h2⟩ := hh.under
  refine PS.imp (ps_tries hs hf hN tk (tb := fun W => tS X.prog X.w X.K Γ W mb) (fun W pn xe t p => hb W pn xe t p) h1) fun E σ H ⟨ζ, M, μ, rr, h⟩ => ⟨ζ, M, μ, rr, ?_⟩
  unfold sTry at h
  cases hr : mb ζ M with
  | nx ζ1 M1 => rw [hr] at h; exact h
  | rt d M1 => rw [hr] at h; exact h
  | bk ζ1 M1 => rw [hr] at h; exact h
  | ct ζ1 M1 => rw [hr] at h; exact h
  | no => rw [hr] at h; exact h
  | ex c fs ζ1 M1 =>
    rw [hr] at h
    exact fun cls dd σ' H' μ' nx rh sl rx => caught h2 (PstS.mono h nx) rh sl rx
end

/-- what a class must say for isinstance -/
structure XcC (K : PySem.W.Frag) (C : Addr) : Prop where
  cl : (PySem.W.clsIn K C).isSome = true
  ga : PySem.W.findIn K (.ref C) "__getattribute__" = some (some (.builtin "BaseException.__getattribute__"))
  gg : PySem.W.findIn K (.ref C) "__getattr__" = some none
  sb : PySem.W.subIn K (.ref C) (.type "BaseException") = some true
  hd : PySem.W.hasDictIn K C = true
  ca : PySem.W.findIn K (.ref C) "__class__" = some (some (.builtin "object.__class__"))
  cn : PySem.W.specialIn K (.builtin "object.__class__") "__get__" = some (some (.builtin "getset_descriptor.__get__"))
  ct : PySem.W.takesIn K (.builtin "object.__class__") = some true
  cm : PySem.W.mroIn K C (.type "object") = some true
def xIsE (a : Addr) (d : Option Addr) (c : Nat) (ma : Nat → Option Bool) (f : MX) : MX := fun ζ M => (f ζ M).bind fun y M1 => match y with
  | .exc a' d' c' _ _ => if a' = a ∧ c' = c ∧ d' = d then match ma c with
    | some b => .ok (.bl b) M1
    | none => .no else .no
  | _ => .no
def xXf (a : Addr) (d : Option Addr) (c i : Nat) (f : MX) : MX := fun ζ M => (f ζ M).bind fun y M1 => match y with
  | .exc a' d' c' _ fs => if a' = a ∧ c' = c ∧ d' = d then match d, fs[i]? with
    | some _, some z => .ok z M1
    | _, _ => .no else .no
  | _ => .no
def rXi (P : Program) (w : World) (K : PySem.W.Frag) (Γ : Gm) (a : Addr) (d : Option Addr) (C : Addr) (cv : Value) : List V → Hp → VK → Prop := fun xs H Q => XcC K C ∧ ∃ (cx : V) (b : Bool), xs = [.ref a, cx] ∧ (∀ u, RelV cx u → u = cv) ∧ PySem.W.kitOne K (.ref C) cv = some b ∧ (∀ dd, d = some dd → ∃ fs, H dd = some (.xd fs)) ∧ Q (.bl b) H
theorem call_xi {X : Cx} {Γ : Gm} {a C : Addr} {oe : Obj} {d : Option Addr} {cv : Value} {pn : List (Addr × Obj)} (hz : Zc (.ref C) d oe) (hf : ∃ vs, oe.data = .fields vs) : CallR (X.suite a ((a, oe) :: pn)) (.builtin "isinstance") (rXi X.prog X.w X.K Γ a d C cv) := by
  intro pins s σ H xs us Q I r h
  obtain ⟨T, cx, b, rfl, hcv, e, hd, q⟩ := h
  cases r with
  | cons rx rr =>
    cases rr with
    | cons rt rr =>
      cases rr
      cases rx
      have ec := hcv _ rt
      subst ec
      obtain ⟨hget, _⟩ := I.pin (a, oe) (List.mem_append.mpr (.inl List.mem_cons_self))
      obtain ⟨vs, hv⟩ := hf
      have J : ∃ od, PySem.W.InstAt s.heap a oe C od := by
        obtain ⟨oc, odi, oda, osl⟩ := oe
        obtain ⟨h1, h2⟩ := hz
        dsimp only at h1 h2 hv
        subst h1 h2 hv
        cases odi with
        | none => exact ⟨none, hget, rfl, rfl, trivial⟩
        | some dd =>
          obtain ⟨fs, hx⟩ := hd dd rfl
          have ho : ObjOk X.prog X.w H s.heap dd (.xd fs) := I.hok dd _ hx
          obtain ⟨mA, hns, _⟩ := ho
          obtain ⟨od, ho, _⟩ := lookIn_ns hns
          exact ⟨some od, hget, rfl, rfl, ho⟩
      obtain ⟨od, J⟩ := J
      exact PySem.W.kia_one (PySem.W.kitx_exc T.cl T.ga T.gg T.sb T.ca T.cn T.ct T.cm) I.kIn J e (fun z => nomatch z) fun tk => ⟨.bl b, H, I.kept (t' := tk) fun _ _ z => z, rfl, q⟩
section
variable {X : Cx} {Γ : Gm} {W : WX} {a : Addr} {oe : Obj} {c : Nat} {d : Option Addr} {pn : List (Addr × Obj)} {e : Expr} {fe : MX} {x f : Str} {p p2 pos : Pos} {cv : Value} {cx : V} {ma : Nat → Option Bool}
theorem exc_dict {K : PySem.W.Frag} {H : Hp} {μ : List Addr} {a' : Addr} {d' : Option Addr} {c' : Nat} {ns : List Str} {fs : List D} {v : V} (r : RV K H μ (.exc a' d' c' ns fs) v) : v = .ref a' ∧ ∀ dd, d' = some dd → ∃ vs, H dd = some (.xd (ns.zip vs)) ∧ fs.length = ns.length ∧ RVs K H μ fs vs := by
  cases r with
  | excN => exact ⟨rfl, fun dd h => nomatch h⟩
  | excD h l r => exact ⟨rfl, fun dd h' => by cases h'; exact ⟨_, h, l, r⟩⟩
theorem ex_isE (hz : Zc (.ref (Γ.cA c)) d oe) (hf : ∃ vs, oe.data = .fields vs) (hma : ∀ b, ma c = some b → XcC X.K (Γ.cA c) ∧ PySem.W.kitOne X.K (.ref (Γ.cA c)) cv = some b) (he : EX (X.suite a ((a, oe) :: pn)) Γ W e fe)
    (hC : PE (X.suite a ((a, oe) :: pn)) (.Name x p2) (tC cx)) (hcx : ∀ u, RelV cx u → u = cv) (hm : X.mg "isinstance" = none) (hg : Gl X "isinstance" := by rfl)
    (he1 : starEach [e, .Name x p2] X.env = (false, eval e X.env) :: starEach [.Name x p2] X.env := by rfl) : EX (X.suite a ((a, oe) :: pn)) Γ W (.Call (.Name "isinstance" p) [e, .Name x p2] [] pos) (xIsE a d c ma fe) :=
  PE.imp (pe_callB (call_xi (Γ := Γ) (cv := cv) hz hf) hg hm boot_isinstance (pa_cons he (pa_cons hC pa_nil) he1) (by decide) (by decide) he1) fun σ H Q ⟨ζ, M, μ, rr, h⟩ => ⟨ζ, M, μ, rr, Pst.then h fun v H1 y M1 μ1 nx rh rv h1 => by
    dsimp only at h1
    split at h1
    · rename_i a' d' c' ns fs
      split at h1
      · rename_i hh
        obtain ⟨rfl, rfl, rfl⟩ := hh
        split at h1
        · rename_i b hb
          obtain ⟨rfl, hd⟩ := exc_dict rv
          exact ⟨(hma b hb).1, cx, b, rfl, hcx, (hma b hb).2, fun dd h => let ⟨vs, h1, _⟩ := hd dd h; ⟨_, h1⟩, h1 _ _ _ (Nx.refl _ _) rh (.bl _)⟩
        · exact h1.elim
      · exact h1.elim
    · exact h1.elim⟩
end
end Mi
end
section
set_option maxRecDepth 100000
set_option maxHeartbeats 2000000
set_option autoImplicit false
namespace Mi
open PySem PySem.Spec PyProof.Rows L2

def slAt (c : Nat) (x : D) (M : Hs) : Option (Nat × List (Option D)) := match x with
  | .ref n => match M[n]? with
    | some (.slo c' fs) => if c' = c then some (n, fs) else none
    | _ => none
  | _ => none
theorem slAt_ok {c n : Nat} {x : D} {M : Hs} {fs : List (Option D)} (h : slAt c x M = some (n, fs)) : x = .ref n ∧ M[n]? = some (.slo c fs) := by
  unfold slAt at h
  split at h
  · split at h
    · split at h
      · rename_i e hc
        cases h
        subst hc
        exact ⟨rfl, e⟩
      · cases h
    · cases h
  · cases h
def putD (i : Nat) (d : D) (fs : List (Option D)) : List (Option D) := (fs ++ List.replicate (i + 1 - fs.length) none).set i (some d)
def xFld (c i : Nat) (f : MX) : MX := fun ζ M => (f ζ M).bind fun x M1 => match slAt c x M1 with
  | some (_, fs) => match fs[i]? with
    | some (some d) => .ok d M1
    | _ => .no
  | none => .no
def sFld (c i : Nat) (fo fv : MX) : MS := fun ζ M => RS.of ζ (fv ζ M) fun y M1 => RS.of ζ (fo ζ M1) fun x M2 => match slAt c x M2 with
  | some (n, fs) => .nx ζ (M2.set n (.slo c (putD i y fs)))
  | none => .no
structure SlF (K : PySem.W.Frag) (C : Addr) (f : Str) (i : Nat) : Prop where
  s : SlX.SCls K C
  t : ∃ p, SlX.Slot1 K C f p i
section
variable {P : Program} {w : World} {K : PySem.W.Frag} {Γ : Gm} {μ : List Addr} {H : Hp} {M : Hs}
theorem putD_get {i j : Nat} {d e : D} {fs : List (Option D)} : (putD i d fs)[j]? = some (some e) → j = i ∧ e = d ∨ j ≠ i ∧ fs[j]? = some (some e) := by
  intro h
  unfold putD at h
  by_cases hj : i = j
  · subst hj
    rw [List.getElem?_set_self (by simp only [List.length_append, List.length_replicate]; omega)] at h
    cases h
    exact .inl ⟨rfl, rfl⟩
  · rw [List.getElem?_set_ne hj] at h
    refine .inr ⟨Ne.symm hj, ?_⟩
    by_cases hl : j < fs.length
    · rw [List.getElem?_append_left hl] at h; exact h
    · rw [List.getElem?_append_right (by omega), List.getElem?_replicate] at h
      split at h <;> cases h
/-- what stands at an address of ours is no dict of an instance's own -/
theorem RO.notOwn {a : Addr} {o : MO} (h : RO P w K Γ H μ a o) : (∀ b : Addr, H a ≠ Option.some (HO.own b)) ∧ ∀ fs : List (Str × V), H a ≠ Option.some (HO.xd fs) := by
  cases o with
  | lst xs => obtain ⟨vs, h1, r⟩ := h; rw [h1]; exact ⟨fun _ z => (nomatch z), fun _ z => (nomatch z)⟩
  | ro xs => obtain ⟨vs, ⟨o, h1⟩, r⟩ := h; rw [h1]; exact ⟨fun _ z => (nomatch z), fun _ z => (nomatch z)⟩
  | dct kvs => obtain ⟨es, h1, r⟩ := h; rw [h1]; exact ⟨fun _ z => (by unfold dHO at z; cases z), fun _ z => (by unfold dHO at z; cases z)⟩
  | dks kvs => obtain ⟨vs, h1, r, nd⟩ := h; rw [h1]; exact ⟨fun _ z => (nomatch z), fun _ z => (nomatch z)⟩
  | ins c fs => obtain ⟨dx, vs, r, h1, h2⟩ := h; rw [h1]; exact ⟨fun _ z => (nomatch z), fun _ z => (nomatch z)⟩
  | slo c fs =>
    obtain ⟨dx, vs, h1 | h1, h2⟩ := h
    · rw [h1.1]; exact ⟨fun _ z => (nomatch z), fun _ z => (nomatch z)⟩
    · rw [h1.1]; exact ⟨fun _ z => (by unfold SlX.SlO at z; cases z), fun _ z => (by unfold SlX.SlO at z; cases z)⟩
theorem slo_store {n c i : Nat} {fs : List (Option D)} {y : D} {v : V} {a dx : Addr} {vs : List (Option V)} (rh : RH P w K Γ μ M H) (hn : μ[n]? = some a) (hs : SlX.Slt H a (Γ.cA c) dx vs) (hd : dx ≠ a) (ho : H dx = some (.own a) ∨ H dx = some (.xd []))
    (hv : ∀ (i : Nat) (d : D), fs[i]? = some (some d) → ∃ v, vs[i]? = some (some v) ∧ RV K H μ d v) (rv : RV K H μ y v) :
    Nx μ H μ (SlX.slH H a (Γ.cA c) dx (SlX.putS i v vs)) ∧ RH P w K Γ μ (M.set n (.slo c (putD i y fs))) (SlX.slH H a (Γ.cA c) dx (SlX.putS i v vs)) := by
  have ha : ∃ u, H a = some u ∧ (∀ xs, u ≠ .tup xs) ∧ (∀ o x, u ≠ .frz o x) ∧ (∀ y, u ≠ .own y) ∧ ∀ y, u ≠ .xd y := by
    rcases hs with ⟨h1, _⟩ | ⟨h1, _⟩
    · exact ⟨_, h1, fun _ z => (nomatch z), fun _ _ z => (nomatch z), fun _ z => (nomatch z), fun _ z => (nomatch z)⟩
    · refine ⟨_, h1, fun _ z => ?_, fun _ _ z => ?_, fun _ z => ?_, fun _ z => ?_⟩ <;> (unfold SlX.SlO at z; cases z)
  obtain ⟨ua, ha, a1, a2, a3, a4⟩ := ha
  have ne : ∀ {b : Addr} {u : HO}, H b = some u → u ≠ ua → b ≠ a := fun e h z => by rw [z, ha] at e; exact h (Option.some.inj e).symm
  have keep : ∀ {b : Addr} {u : HO}, H b = some u → u ≠ ua → (∀ y, u ≠ .own y) → u ≠ .xd [] → SlX.slH H a (Γ.cA c) dx (SlX.putS i v vs) b = some u := fun {b u} e h1 h2 h3 => by
    rw [SlX.slH_ne (ne e h1) fun z => ?_]
    · exact e
    · rw [z] at e
      rcases ho with ho | ho
      · rw [ho] at e; exact h2 _ (Option.some.inj e).symm
      · rw [ho] at e; exact h3 (Option.some.inj e).symm
  have xdk : ∀ b, H b = some (.xd []) → SlX.slH H a (Γ.cA c) dx (SlX.putS i v vs) b = some (.xd []) := fun b e => by
    have hb : b ≠ a := ne e fun z => a4 _ z.symm
    by_cases hb2 : b = dx
    · subst hb2
      unfold SlX.slH
      rw [upd_ne hb, upd_same]
    · rw [SlX.slH_ne hb hb2]; exact e
  have nx : Nx μ H μ (SlX.slH H a (Γ.cA c) dx (SlX.putS i v vs)) := by
    refine ⟨fun _ _ e => e, fun b xs e => ?_, fun b o u e => keep e (fun z => a2 _ _ z.symm) (fun _ z => nomatch z) (fun z => nomatch z), fun b fs e => ?_⟩
    · rcases e with e | ⟨o, e⟩
      · exact .inl (keep e (fun z => a1 _ z.symm) (fun _ z => nomatch z) (fun z => nomatch z))
      · exact .inr ⟨o, keep e (fun z => a2 _ _ z.symm) (fun _ z => nomatch z) (fun z => nomatch z)⟩
    · by_cases hf : fs = []
      · subst hf; exact xdk b e
      · exact keep e (fun z => a4 _ z.symm) (fun _ z => nomatch z) (fun z => by cases z; exact hf rfl)
  refine ⟨nx, by simp [rh.len], rh.nd, fun m o' b h1 h2 => ?_⟩
  by_cases hmn : n = m
  · subst hmn
    rw [hn] at h2; cases h2
    by_cases hl : n < M.length
    · rw [List.getElem?_set_self hl] at h1; cases h1
      refine ⟨dx, SlX.putS i v vs, SlX.slH_slt hd, hd, .inr (SlX.slH_slt (H := H) hd |>.elim (fun z => absurd z.1 (by unfold SlX.slH; rw [upd_same]; intro z; unfold SlX.SlO at z; cases z)) fun z => z.2), fun j d hj => ?_⟩
      rcases putD_get hj with ⟨rfl, rfl⟩ | ⟨hne, hj⟩
      · exact ⟨v, SlX.putS_get _ _ _, rv.mono nx⟩
      · obtain ⟨v', q1, q2⟩ := hv j d hj
        exact ⟨v', (SlX.putS_ne hne).mpr q1, q2.mono nx⟩
    · rw [List.getElem?_eq_none (by simpa using hl)] at h1; cases h1
  · rw [List.getElem?_set_ne hmn] at h1
    have hba : b ≠ a := fun z => by
      subst z
      exact hmn ((List.getElem?_inj (List.getElem?_eq_some_iff.mp hn).1 rh.nd).mp (hn.trans h2.symm))
    have rb := rh.at_ m o' b h1 h2
    obtain ⟨nb1, nb2⟩ := RO.notOwn rb
    refine RO.keep rb nx (fun u e => ?_) (fun b' e => ?_) xdk
    · rw [SlX.slH_ne hba fun z => ?_]
      · exact e
      · rw [z] at nb1 nb2
        rcases ho with ho | ho
        · exact nb1 _ ho
        · exact nb2 _ ho
    · rw [SlX.slH_ne (ne e fun z => a3 _ z.symm) fun z => ?_]
      · exact e
      · rw [z] at e
        rcases ho with ho | ho
        · rw [ho] at e; cases e; exact hba rfl
        · rw [ho] at e; cases e
end
section
variable {X : Cx} {Γ : Gm} {W : WX} {e o v : Expr} {fe fo fv : MX} {f x : Str} {c i k n : Nat} {pos pos' p : Pos} {es : List Expr} {ga : MA}
theorem ex_fld (T : SlF X.K (Γ.cA c) f i) (he : EX X Γ W e fe) (hb : attributeBase e f X.env (eval e X.env) = eval e X.env := by rfl) : EX X Γ W (.Attribute e f pos) (xFld c i fe) :=
  PE.imp (SlX.pe_sl he hb) fun σ H Q ⟨ζ, M, μ, rr, h⟩ => ⟨ζ, M, μ, rr, Pst.then h fun v H1 d M1 μ1 nx rh rv h1 => by
    split at h1
    · rename_i n fs hs
      obtain ⟨rfl, hm⟩ := slAt_ok hs
      cases rv with
      | ref ea =>
        obtain ⟨dx, vs, h2, h3, h4, h5⟩ := rh.at_ _ _ _ hm ea
        split at h1
        · rename_i d hd
          obtain ⟨z, q1, q2⟩ := h5 i d hd
          obtain ⟨pp, T2⟩ := T.t
          exact ⟨_, _, dx, pp, vs, i, z, rfl, h2, T.s, T2, q1, h1 _ _ _ (Nx.refl _ _) rh q2⟩
        · exact h1.elim
    · exact h1.elim⟩
theorem es_fld (T : SlF X.K (Γ.cA c) f i) (ho : EX X Γ W o fo) (hv : EX X Γ W v fv) (hs : swapsWith v (some (.Attribute o f pos')) pos.line X.env = pure false := by rfl) : ES X Γ W (.Assign [.Attribute o f pos'] v pos) (sFld c i fo fv) :=
  PS.imp (SlX.ps_sl ho hv hs) fun E σ H ⟨ζ, M, μ, rr, h⟩ => ⟨ζ, M, μ, rr, PstS.then h rr.sl fun y H1 d M1 μ1 nx rh rv h1 => ⟨ζ, M1, μ1, ⟨rr.sl.mono nx, rh⟩, PstS.then h1 (rr.sl.mono nx) fun u H2 k M2 μ2 nx2 rh2 ru h2 => by
    split at h2
    · rename_i n fs hs
      obtain ⟨rfl, hm⟩ := slAt_ok hs
      cases ru with
      | ref ea =>
        obtain ⟨dx, vs, q1, q2, q3, q4⟩ := rh2.at_ _ _ _ hm ea
        obtain ⟨pp, T2⟩ := T.t
        obtain ⟨nx3, rh3⟩ := slo_store (i := i) (y := d) (v := y) rh2 ea q1 q2 q3 q4 (RV.mono nx2 rv)
        exact ⟨_, _, dx, pp, vs, i, rfl, q1, T.s, T2, h2 _ _ _ nx3 rh3 (((rr.sl.mono nx).mono nx2).mono nx3)⟩
    · exact h2.elim⟩⟩
theorem run_makeAt {CX : CXT} {f C : Addr} {fd : FuncData} {ps : List Str} {sp : Sp} {E : XK} {pins : List (Addr × Obj)} {σ : L2.St} {H : Hp} {s : Shared} {Q : VK} {us : List Value} {vs : List V} (Mc : Mk X.K C f) (F : FnOk X.prog X.w X.K X.mg X.base CX k f fd ps sp) (hr : Room (k + 1) X.A) (hb : Binds X.K fd ps [])
    (hx : PassesAt CX X σ E) (I : Inv X pins σ H s) (r : Vals vs us)
    (h : ∀ x dx, H x = none → H dx = none → dx ≠ x → sp (.ref x :: vs) (upd (upd H dx (.own x)) x (.ins C dx [])) (fun v H2 => v = .non ∧ Q (.ref x) H2) E) : wpAny (model X.prog X.w) X.A (call (.ref C) us) (EP X pins σ Q) X.xe s := by
  have hq := h (s.heap.objs.size + 1) s.heap.objs.size (I.hok.fresh (Nat.le_succ _)) (I.hok.fresh (Nat.le_refl _)) (Nat.ne_of_lt (Nat.lt_succ_self _))
  have J := Inv.made (C := C) I
  have r2 : Vals (V.ref (s.heap.objs.size + 1) :: vs) (Value.ref (s.heap.objs.size + 1) :: us) := .cons rfl r
  have hl : (Value.ref (s.heap.objs.size + 1) :: us ++ []).length = ps.length := by
    rw [List.append_nil, ← r2.length]
    exact F.len _ _ _ _ hq
  have bt := hb _ (Value.ref (s.heap.objs.size + 1) :: us) J.kIn hl
  rw [List.append_nil] at bt
  refine wpAny_call (make_map (f := f) I.kIn Mc.makes Mc.init (beq_iff_eq.mp Mc.fn) (codeAny_mono (F.run _ X.stack _ _ ⟨Value.ref (s.heap.objs.size + 1) :: us, []⟩ (Value.ref (s.heap.objs.size + 1) :: us) _ _ E (hr.make C us [])
    (J.env0.make C us []) bt r2 hq) fun r s' z => ?_))
  cases r with
  | error e => exact hx pins _ _ e s' J z
  | ok fl =>
    cases fl with
    | ret u =>
      obtain ⟨v, H', I3, rv, ev, q3⟩ := J.after z
      subst ev
      exact ⟨rv, ⟨V.ref (s.heap.objs.size + 1), H', I3, rfl, q3⟩⟩
    | next => exact z.elim
    | brk => exact z.elim
    | cont => exact z.elim
/-- the class c is made by __init__ that does what F does -/
structure Mkd (P : Program) (w : World) (K : PySem.W.Frag) (mg : Str → Option Value) (base : Heap) (Γ : Gm) (k c : Nat) (x : Str) (n : Nat) (F : MF) : Prop where
  g : mg x = some (.ref (Γ.cA c))
  i : ∃ f fd ps, Mk K (Γ.cA c) f ∧ FnOk P w K mg base (L2.CX P w) k f fd ps (spF P w K Γ n F) ∧ Binds K fd ps []
def xMake (o : MO) (n : Nat) (F : MF) (ga : MA) : MX := fun ζ M => (ga ζ M).bind fun ds M1 => if ds.length + 1 = n then (F (.ref M1.length :: ds) (M1 ++ [o])).bind fun v M2 => match v with
  | .non => .ok (.ref M1.length) M2
  | _ => .no else .no
theorem made_slo {P : Program} {w : World} {K : PySem.W.Frag} {Γ : Gm} {μ : List Addr} {M : Hs} {H : Hp} {x dx : Addr} (rh : RH P w K Γ μ M H) (h1 : H x = none) (h2 : H dx = none) (h3 : dx ≠ x) :
    Nx μ H (μ ++ [x]) (upd (upd H dx (.own x)) x (.ins (Γ.cA c) dx [])) ∧ RH P w K Γ (μ ++ [x]) (M ++ [.slo c []]) (upd (upd H dx (.own x)) x (.ins (Γ.cA c) dx [])) := by
  have h4 : upd H dx (.own x) x = none := by rw [upd_ne (Ne.symm h3)]; exact h1
  refine ⟨(Nx.fresh0 h2).trans (Nx.fresh h4 [x]), (rh.fresh h2).alloc h4 ⟨dx, [], .inl ⟨upd_same, rfl⟩, h3, .inl (by rw [upd_ne h3, upd_same]), fun i d h => by simp at h⟩⟩
theorem ex_make {F : MF} (T : Mkd X.prog X.w X.K X.mg X.base Γ k c x n F) (hr : Room (k + 1) X.A) (tk : Takes X W) (ha : EA X Γ W (e :: es) ga) (hg : Gl X x := by rfl) (hdb : (x == ("__debug__" : Str)) = false := by decide)
    (he : starEach (e :: es) X.env = (false, eval e X.env) :: starEach es X.env := by rfl) (hpl : (backTo pos (starEach es X.env)).any (·.1) = false := by rfl) : EX X Γ W (.Call (.Name x p) (e :: es) [] pos) (xMake (.slo c []) n F ga) := by
  obtain ⟨f, fd, ps, Mc, F1, hb⟩ := T.i
  refine ⟨fun pins s σ H Q I ⟨ζ, M, μ, rr, h⟩ => ?_⟩
  refine wpAny_Call_Name_kw (ld_glob I hg T.g ?_ hdb)
  have h' : tA X.prog X.w X.K Γ W ga σ H fun vs H1 => ∀ x dx, H1 x = none → H1 dx = none → dx ≠ x → spF X.prog X.w X.K Γ n F (.ref x :: vs) (upd (upd H1 dx (.own x)) x (.ins (Γ.cA c) dx [])) (fun v H2 => v = .non ∧ Q (.ref x) H2) (WE W σ) :=
    ⟨ζ, M, μ, rr, Pst.then h fun vs H1 ds M1 μ1 nx rh rv h1 => fun x dx h2 h3 h4 => by
      replace rv : RVs X.K H1 μ1 ds vs := rv
      obtain ⟨nx2, rh2⟩ := made_slo (c := c) rh h2 h3 h4
      have hx : (μ1 ++ [x])[M1.length]? = some x := rh.last
      split at h1
      · rename_i hl
        refine ⟨_, _, _, rh2, .cons (.ref hx) (rv.mono nx2), hl, ?_⟩
        have h5 := Pst.mono h1 nx2
        cases hF : F (.ref M1.length :: ds) (M1 ++ [.slo c []]) with
        | ok d M' =>
          rw [hF] at h5
          intro v H' μ' nx3 rh3 rv3
          have h6 := Pst.mono h5 nx3
          cases d with
          | non => cases rv3; exact ⟨rfl, h6 _ _ _ (Nx.refl _ _) rh3 (.ref (nx3.pre _ _ hx))⟩
          | _ => exact h6.elim
        | ex c' fs M' => rw [hF] at h5; exact h5
        | no => rw [hF] at h5; exact h5
      · exact h1.elim⟩
  refine PySem.W.callWith_K (h₀ := X.base) I.ok.mod.kin Mc.kp (thn (ha.run pos pins s σ H _ I h') fun us s1 ⟨vs, H1, I1, r, q⟩ => ⟨I1.kIn, ?_⟩) he hpl
  exact run_makeAt Mc F1 hr hb (passAt tk σ) I1 r q
end
end Mi
end
section
set_option maxRecDepth 100000
set_option maxHeartbeats 2000000
set_option autoImplicit false
namespace SrtO
open PySem PyProof.Rows
theorem collect_listK {prog : Program} {w : World} {A : Around} {E : Value → Shared → Prop} {s : Shared} {l : Addr} {vs : List Value} {Q : List Value → Shared → Prop} (hl : s.heap.IsList l vs.toArray) (hz : vs.length ≤ sizeLine)
    (h : ∀ (h' : Heap) (tk : Nat), (∀ b o, s.heap.get? b = some o → h'.get? b = some o) → Q vs { s with heap := h', toks := tk }) : wpAny (model prog w) A (collect (.ref l)) Q E s := by
  refine collect_list hl (h _ s.toks fun b o q => ?_) hz
  have hlt : b < s.heap.objs.size := Heap.lt_size q
  rw [Heap.get?_update_ne _ _ _ _ (Nat.ne_of_lt hlt)]
  exact Heap.get?_push_of_some _ q
end SrtO
namespace Mi
open PySem PySem.Spec PyProof.Rows L2

section
variable {α β : Type}
def insB (lt : α → α → Bool) (x : α) : List α → List α
  | [] => [x]
  | y :: r => if lt y x = true then y :: insB lt x r else x :: y :: r
def srtB (lt : α → α → Bool) : List α → List α
  | [] => []
  | x :: r => insB lt x (srtB lt r)
theorem insB_perm (lt : α → α → Bool) (x : α) : ∀ l : List α, (insB lt x l).Perm (x :: l)
  | [] => .refl _
  | y :: r => by
    unfold insB
    split
    · exact ((insB_perm lt x r).cons y).trans (.swap x y r)
    · exact .refl _
theorem srtB_perm (lt : α → α → Bool) : ∀ l : List α, (srtB lt l).Perm l
  | [] => .refl _
  | x :: r => (insB_perm lt x _).trans ((srtB_perm lt r).cons x)
theorem insB_srtd {lt : α → α → Bool} (O : SrtO.Swo lt) (x : α) : ∀ {l : List α}, SrtO.Srtd lt l → SrtO.Srtd lt (insB lt x l)
  | [], _ => SrtO.srtd_one x
  | y :: r, h => by
    obtain ⟨h1, h2⟩ := List.pairwise_cons.mp h
    unfold insB
    split
    · rename_i hl
      refine List.pairwise_cons.mpr ⟨fun z hz => ?_, insB_srtd O x h2⟩
      rcases List.mem_cons.mp ((insB_perm lt x r).mem_iff.mp hz) with e | hz
      · rw [e]; exact O.asym _ _ hl
      · exact h1 z hz
    · rename_i hl
      have hl : lt y x = false := by cases e : lt y x with
        | true => exact absurd e hl
        | false => rfl
      refine List.pairwise_cons.mpr ⟨fun z hz => ?_, h⟩
      rcases List.mem_cons.mp hz with e | hz
      · rw [e]; exact hl
      · exact O.tr x y z hl (h1 z hz)
theorem srtB_srtd {lt : α → α → Bool} (O : SrtO.Swo lt) : ∀ l : List α, SrtO.Srtd lt (srtB lt l)
  | [] => .nil
  | x :: r => insB_srtd O x (srtB_srtd O r)
theorem stb_perm {lt : α → α → Bool} (hE : ∀ x y, SrtO.eqv lt x y = true → y = x) {l m : List α} (p : l.Perm m) : SrtO.Stb lt l m := ⟨p, fun x => by
  have h1 : ∀ k : List α, k.filter (SrtO.eqv lt x) = List.replicate (k.filter (SrtO.eqv lt x)).length x := fun k => List.eq_replicate_iff.mpr ⟨rfl, fun b hb => hE x b (List.mem_filter.mp hb).2⟩
  rw [h1 l, h1 m, (p.filter _).length_eq]⟩
/-- what the sort leaves, seen by its keys -/
theorem srt_keys {lt : β → β → Bool} (O : SrtO.Swo lt) (hE : ∀ x y, SrtO.eqv lt x y = true → y = x) {k : α → β} {out vs : List α} (h1 : SrtO.Srtd (fun x y => lt (k x) (k y)) out) (h2 : out.Perm vs) : out.map k = srtB lt (vs.map k) :=
  SrtO.stb_uniq O (SrtO.srtd_map h1) (srtB_srtd O _) (stb_perm hE ((h2.map k).trans (srtB_perm lt _).symm))
end
def ltI (x y : Int) : Bool := decide (x < y)
theorem swo_I : SrtO.Swo ltI := ⟨fun x y h => by unfold ltI at *; have := of_decide_eq_true h; exact decide_eq_false (by omega), fun x y z h1 h2 => by
  unfold ltI at *
  have := of_decide_eq_false h1
  have := of_decide_eq_false h2
  exact decide_eq_false (by omega)⟩
theorem eq_I (x y : Int) (h : SrtO.eqv ltI x y = true) : y = x := by
  obtain ⟨h1, h2⟩ := SrtO.eqv_iff.mp h
  unfold ltI at h1 h2
  have := of_decide_eq_false h1
  have := of_decide_eq_false h2
  omega
theorem swo_P : SrtO.Swo SrtO.lexB := by
  refine ⟨fun x y h => ?_, fun x y z h1 h2 => ?_⟩
  · have a := SrtO.lexB_iff.mp h
    refine SrtO.lexB_no.mpr ?_
    omega
  · have a := SrtO.lexB_no.mp h1
    have b := SrtO.lexB_no.mp h2
    refine SrtO.lexB_no.mpr ?_
    omega
theorem eq_P (x y : Int × Int) (h : SrtO.eqv SrtO.lexB x y = true) : y = x := by
  obtain ⟨h1, h2⟩ := SrtO.eqv_iff.mp h
  have a := SrtO.lexB_no.mp h1
  have b := SrtO.lexB_no.mp h2
  obtain ⟨x1, x2⟩ := x
  obtain ⟨y1, y2⟩ := y
  dsimp only at a b
  rw [Prod.mk.injEq]
  omega

def itemsA (M : Hs) (d : D) : Option (List D) := match hSeq M d with
  | some xs => some xs
  | none => match d with
    | .ref n => match hDct M n with
      | some kvs => some (kvs.map (·.1))
      | none => none
    | _ => none
section
variable {X : Cx} {Γ : Gm} {pins : List (Addr × Obj)} {σ : L2.St} {H : Hp} {s : Shared} {μ : List Addr} {M : Hs}
/-- the values us show the data ds at the heap -/
def Shows (K : PySem.W.Frag) (H : Hp) (μ : List Addr) (ds : List D) (us : List Value) : Prop := ∃ vs, RVs K H μ ds vs ∧ Vals vs us
theorem keys_rv {K : PySem.W.Frag} : ∀ {kvs : List (D × D)} {es : List (NestedKey × Addr × V)}, Paired (REn K H μ) kvs es → RVs K H μ (kvs.map (·.1)) (es.map fun e => V.ref e.2.1)
  | _, _, .nil => .nil
  | _, _, .cons q t => .cons q.2.2.1 (keys_rv t)
theorem vals_refs : ∀ as : List Addr, Vals (as.map V.ref) (as.map Value.ref)
  | [] => .nil
  | _ :: as => .cons rfl (vals_refs as)
theorem keys_adr {es : List (NestedKey × Addr × V)} {xs : List (NestedKey × Addr × Value)} (p : Paired (fun (p : NestedKey × Addr × V) (q : NestedKey × Addr × Value) => p.1 = q.1 ∧ p.2.1 = q.2.1 ∧ RelV p.2.2 q.2.2) es xs) : es.map (fun e => e.2.1) = xs.map (fun e => e.2.1) := by
  induction p with
  | nil => rfl
  | cons h t ih => rw [List.map_cons, List.map_cons, ih, h.2.1]
theorem dict_keys (I : Inv X pins σ H s) {kvs : List (D × D)} {es : List (NestedKey × Addr × V)} {a : Addr} (r : Paired (REn X.K H μ) kvs es) (g : Rd H a (dHO X.prog X.w a es)) : ∃ ds ep, s.heap.DictRaw a ds ep ∧ (a == sysModules) = false ∧ ds.size ≤ sizeLine ∧
    ∀ acc : Array Value, ItemsOf (fun i v => ∃ hi : i < ds.size, v = ds[i].key) acc ds.size → Shows X.K H μ (kvs.map (·.1)) acc.toList := by
  obtain ⟨⟨xs, p, o, ds, ep, ho, hx, hd, he, hn, hs, hl⟩, _⟩ := g.ok I.hok
  have l1 : ds.size = xs.length := by rw [← Array.length_toList, he, List.length_map]
  refine ⟨ds, ep, ⟨o, ho, hx, hd⟩, hs, by omega, fun acc ⟨h1, h2⟩ => ⟨_, keys_rv r, ?_⟩⟩
  have e : acc.toList = (es.map fun e => e.2.1).map Value.ref := by
    rw [keys_adr p]
    apply List.ext_getElem
    · rw [Array.length_toList, List.length_map, List.length_map, h1, l1]
    · intro i hi1 hi2
      have ha : acc[i]? = some acc.toList[i] := by rw [← Array.getElem?_toList, List.getElem?_eq_getElem hi1]
      obtain ⟨hi, e⟩ := h2 i _ ha
      rw [e]
      have e2 : ds.toList[i]? = some ds[i] := by rw [Array.getElem?_toList, Array.getElem?_eq_getElem hi]
      rw [he, List.getElem?_map] at e2
      have hx : i < xs.length := by omega
      rw [List.getElem?_eq_getElem hx] at e2
      have e3 := Option.some.inj e2
      rw [← e3]
      simp [entryOfKey]
  rw [e]
  have := vals_refs (es.map fun e => e.2.1)
  rw [List.map_map] at this
  exact this
/-- a list or a dict is collected -/
theorem collect_A {A : Around} {R : List Value → Shared → Prop} {E : Value → Shared → Prop} (hh : A.handled = none) (I : Inv X pins σ H s) (rh : RH X.prog X.w X.K Γ μ M H) {n : Nat} {a : Addr} {ds : List D} (h : itemsA M (.ref n) = some ds) (ea : μ[n]? = some a)
    (hq : ∀ (h' : Heap) (tk : Nat) (acc : List Value), (∀ b o, s.heap.get? b = some o → h'.get? b = some o) → Shows X.K H μ ds acc → acc.length ≤ sizeLine → R acc { s with heap := h', toks := tk }) : wpAny (model X.prog X.w) A (collect (.ref a)) R E s := by
  unfold itemsA at h
  cases hs : hSeq M (.ref n) with
  | some xs =>
    rw [hs] at h
    cases h
    obtain ⟨b, vs, e, hs2, r⟩ := hRef_ok rh hs (.ref ea)
    cases e
    obtain ⟨its, rv, hl, hz⟩ := I.list hs2
    have hz' : its.length ≤ sizeLine := by rw [← Paired.length rv]; exact hz
    refine SrtO.collect_listK hl.isList hz' fun h' tk k => ?_
    exact hq h' tk its k ⟨vs, r, rv⟩ hz'
  | none =>
    rw [hs] at h
    dsimp only at h
    cases hd : hDct M n with
    | none => rw [hd] at h; cases h
    | some kvs =>
      rw [hd] at h
      cases h
      obtain ⟨es, g, r⟩ := ndct rh hd ea
      obtain ⟨xs, ep, h1, h2, h3, h4⟩ := dict_keys I r (.inl g)
      exact PySem.W.kdu_collect (KdlSrc.rawDict h2) hh h1 h3 fun h' tk acc k ia => hq h' tk acc.toList k (h4 acc ia) (by rw [Array.length_toList, ia.1]; exact h3)
theorem sorted_go {κ : Type} {lt : κ → κ → Bool} (O : SrtO.Swo lt) (hE : ∀ x y, SrtO.eqv lt x y = true → y = x) (f : κ → D) {E : Value → Shared → Prop} {Q : VK} (hc : X.calm = true) (I : Inv X pins σ H s) (rh : RH X.prog X.w X.K Γ μ M H) {n : Nat} {a : Addr} {ks : List κ}
    (h : itemsA M (.ref n) = some (ks.map f)) (ea : μ[n]? = some a) (hS : ∀ (h' : Heap) (tk : Nat) (us : List Value), Inv X pins σ H { s with heap := h', toks := tk } → Shows X.K H μ (ks.map f) us → ∃ k : Value → κ, us.map k = ks ∧
      (2 ≤ us.length → ∀ (h₁ : Heap) (l : Addr), h₁.get? l = some (PyProof.Rows.seqObj "list" us.toArray 0) → (∀ b o, h'.get? b = some o → b ≠ l ∧ h₁.get? b = some o) → SrtO.SortableO X.prog X.w X.A.in1.in1 { s with heap := h₁, toks := tk } l us fun v u => lt (k v) (k u)))
    (hq : ∀ p, H p = none → ∀ vs, RVs X.K H μ ((srtB lt ks).map f) vs → Q (.ref p) (upd H p (.lst vs))) : wpAny (model X.prog X.w) X.A (call (.builtin "sorted") [.ref a]) (EP X pins σ Q) E s := by
  refine Calls.call_function_entry kind_sorted plain_sorted entry_sorted (args_sorted1 _) ?_
  unfold Builtin.«sorted»
  refine wpAny_bind (m := checkCount "sorted" 1 1 _) (wpAny_pure ?_)
  refine wpAny_bind (collect_A (A := X.A.in1) (I.ok.hd hc) I rh h ea fun h' tk us kp sh hz => ?_)
  have I1 : Inv X pins σ H { s with heap := h', toks := tk } := I.kept kp
  obtain ⟨k, ek, hs⟩ := hS h' tk us I1 sh
  refine wpAny_bind (wpAny_newList ?_ hz)
  have hoL : (h'.push (PyProof.Rows.seqObj "list" us.toArray 0)).get? h'.objs.size = some (PyProof.Rows.seqObj "list" us.toArray 0) := Heap.get?_push_size _ rfl
  show wpAny _ _ _ _ _ { s with heap := h'.push (PyProof.Rows.seqObj "list" us.toArray 0), toks := tk }
  have O2 : SrtO.Swo fun v u => lt (k v) (k u) := ⟨fun x y => O.asym (k x) (k y), fun x y z => O.tr (k x) (k y) (k z)⟩
  refine wpAny_bind (wpAny_holding (wpAny_call_entry slot_list_sort ⟨_, hoL, rfl⟩ entry_list_sort (SrtO.list_sort_ord (s := { s with heap := h'.push (PyProof.Rows.seqObj "list" us.toArray 0), toks := tk }) O2 hoL hz
    (fun h2 => hs h2 _ _ hoL fun b o q => ⟨Nat.ne_of_lt (Heap.lt_size q), Heap.get?_push_of_some _ q⟩) fun out h1 h2 => ⟨_, rfl, ?_⟩) (args_list_sort _)))
  have e1 : out.map k = srtB lt ks := by rw [srt_keys O hE h1 h2.perm, ek]
  obtain ⟨vs, rv, rs⟩ := sh
  have each : ∀ u ∈ us, ∃ v, RelV v u ∧ RV X.K H μ (f (k u)) v := by
    have go : ∀ {us : List Value} {ks : List κ} {vs : List V}, us.map k = ks → RVs X.K H μ (ks.map f) vs → Vals vs us → ∀ u ∈ us, ∃ v, RelV v u ∧ RV X.K H μ (f (k u)) v := by
      intro us
      induction us with
      | nil => intro _ _ _ _ _ u hu; cases hu
      | cons u0 us ih =>
        intro ks vs e r t u hu
        subst e
        cases t with
        | cons t1 t2 =>
          cases r with
          | cons r1 r2 =>
            rcases List.mem_cons.mp hu with e | hu
            · subst e; exact ⟨_, t1, r1⟩
            · exact ih rfl r2 t2 u hu
    exact go ek rv rs
  have outs : ∃ ws, RVs X.K H μ ((srtB lt ks).map f) ws ∧ Vals ws out := by
    rw [← e1, List.map_map]
    have go : ∀ {out : List Value}, (∀ u ∈ out, u ∈ us) → ∃ ws, RVs X.K H μ (out.map (f ∘ k)) ws ∧ Vals ws out := by
      intro out
      induction out with
      | nil => intro _; exact ⟨[], .nil, .nil⟩
      | cons u out ih =>
        intro hm
        obtain ⟨ws, r1, r2⟩ := ih fun u hu => hm u (List.mem_cons_of_mem _ hu)
        obtain ⟨v, t1, t2⟩ := each u (hm u List.mem_cons_self)
        exact ⟨v :: ws, .cons t2 r1, .cons t1 r2⟩
    exact go fun u hu => h2.perm.mem_iff.mp hu
  obtain ⟨ws, w1, w2⟩ := outs
  obtain ⟨e', he'⟩ := PyProof.Rows.sortedHeap_at (vs := us) (out := out.toArray) hoL
  refine wpAny_pure ⟨_, rfl, .ref h'.objs.size, upd H h'.objs.size (.lst ws), I1.laid (t' := tk) (fun b u e => ?_) (Nat.le_refl _)
    (show ObjOk X.prog X.w _ _ _ (.lst ws) from ⟨by rw [Paired.length w2, h2.len]; exact hz, out, e', w2, he'⟩), rfl, hq _ (I1.hok.fresh (Nat.le_refl _)) ws w1⟩
  have hb : b < h'.objs.size := Heap.lt_size e
  rw [PyProof.Rows.sortedHeap_old (Nat.ne_of_lt hb) (by rw [size_push']; exact Nat.lt_succ_of_lt hb)]
  exact Heap.get?_push_of_some _ e
def prD (p : Int × Int) : D := .tup [.int p.1, .int p.2]
theorem shows_ints {K : PySem.W.Frag} {ns : List Int} {us : List Value} (h : Shows K H μ (ns.map D.int) us) : IntsAre us ns := by
  obtain ⟨vs, r, t⟩ := h
  induction ns generalizing us vs with
  | nil => cases r; cases t; exact .nil
  | cons n ns ih =>
    cases r with
    | cons r1 r2 =>
      cases r1
      cases t with
      | cons t1 t2 =>
        obtain ⟨t, rfl⟩ := t1
        exact .cons _ _ (ih _ r2 t2)
theorem shows_pairs (I : Inv X pins σ H s) {ps : List (Int × Int)} {us : List Value} (h : Shows X.K H μ (ps.map prD) us) : Paired (fun u (p : Int × Int) => Srt.IsPair s.heap u p.1 p.2) us ps := by
  obtain ⟨vs, r, t⟩ := h
  induction ps generalizing us vs with
  | nil => cases r; cases t; exact .nil
  | cons p ps ih =>
    cases r with
    | cons r1 r2 =>
      cases t with
      | cons t1 t2 =>
        refine .cons ?_ (ih _ r2 t2)
        cases r1 with
        | tup g rs =>
          cases t1
          obtain ⟨its, rv, ⟨o, ho, hc, n, hd⟩, _⟩ := I.tuple g
          obtain ⟨v1, v2, rfl, q1, q2⟩ := two_rel rs
          cases q1; cases q2
          obtain ⟨u1, u2, rfl, z1, z2⟩ := Vals.two rv
          obtain ⟨t1, rfl⟩ := z1
          obtain ⟨t2, rfl⟩ := z2
          exact ⟨_, o, t1, t2, n, rfl, ho, hc, hd⟩
theorem pairs_key : ∀ {us : List Value} {ps : List (Int × Int)} {h : Heap}, Paired (fun u (p : Int × Int) => Srt.IsPair h u p.1 p.2) us ps → ∃ k : Value → Int × Int, us.map k = ps ∧ ∀ u ∈ us, Srt.IsPair h u (k u).1 (k u).2 := by
  intro us ps h r
  classical
  have one : ∀ {u : Value} {p q : Int × Int}, Srt.IsPair h u p.1 p.2 → Srt.IsPair h u q.1 q.2 → p = q := by
    rintro u p q ⟨a, o, t, v, n, e, ho, hc, hd⟩ ⟨a', o', t', v', n', e', ho', hc', hd'⟩
    rw [e] at e'
    cases e'
    rw [ho] at ho'
    cases ho'
    rw [hd] at hd'
    simp at hd'
    exact Prod.ext hd'.1.1.1 hd'.1.2.1
  refine ⟨fun u => if x : ∃ p : Int × Int, Srt.IsPair h u p.1 p.2 then x.choose else (0, 0), ?_, ?_⟩
  · induction r with
    | nil => rfl
    | @cons u p us ps h1 t ih =>
      have x : ∃ p : Int × Int, Srt.IsPair h u p.1 p.2 := ⟨p, h1⟩
      rw [List.map_cons, ih, dif_pos x, one x.choose_spec h1]
  · intro u hu
    have x : ∃ p : Int × Int, Srt.IsPair h u p.1 p.2 := by
      induction r with
      | nil => cases hu
      | @cons u' p us ps h1 t ih =>
        rcases List.mem_cons.mp hu with e | hu
        · subst e; exact ⟨p, h1⟩
        · exact ih hu
    dsimp only
    rw [dif_pos x]
    exact x.choose_spec
end
def pairsD : List D → Option (List (Int × Int))
  | [] => some []
  | .tup [.int i, .int j] :: r => match pairsD r with
    | some ps => some ((i, j) :: ps)
    | none => none
  | _ => none
theorem pairsD_ok : ∀ {xs : List D} {ps : List (Int × Int)}, pairsD xs = some ps → xs = ps.map prD
  | [], ps, h => by cases h; rfl
  | x :: xs, ps, h => by
    unfold pairsD at h
    split at h
    · rename_i e; cases e
    · rename_i i j r e
      cases e
      split at h
      · rename_i qs hq
        cases h
        rw [pairsD_ok hq]
        rfl
      · cases h
    · cases h
theorem intsD_ok : ∀ {xs : List D} {ps : List Int}, intsOf xs = some ps → xs = ps.map D.int
  | [], ps, h => by cases h; rfl
  | x :: xs, ps, h => by
    cases x with
    | int i =>
      simp only [intsOf] at h
      split at h
      · rename_i qs hq
        cases h
        rw [intsD_ok hq]
        rfl
      · cases h
    | _ => cases h
def gSorted : GL := fun ds M => match ds with
  | [.ref n] => match itemsA M (.ref n) with
    | some xs => match intsOf xs with
      | some is => some (.ref M.length, M ++ [.lst ((srtB ltI is).map D.int)])
      | none => match pairsD xs with
        | some ps => some (.ref M.length, M ++ [.lst ((srtB SrtO.lexB ps).map prD)])
        | none => none
    | none => none
  | _ => none
def gListA : GL := fun ds M => match ds with
  | [.ref n] => match hDct M n with
    | some kvs => some (.ref M.length, M ++ [.lst (kvs.map (·.1))])
    | none => gList ds M
  | _ => gList ds M
section
variable {X : Cx} {Γ : Gm}
theorem b_sorted (hc : X.calm = true) : CB X Γ (.builtin "sorted") gSorted := by
  intro pins s σ H xs us Q I r ⟨ds, M, μ, rh, rv, hq⟩
  unfold gSorted at hq
  split at hq
  · obtain ⟨v, rfl, r1⟩ := one_rel rv
    obtain ⟨a, rfl, ea⟩ := ref_rel r1
    obtain ⟨u, rfl, ru⟩ := Vals.one r
    cases ru
    split at hq
    · rename_i xs hx
      split at hq
      · rename_i is hi
        have e := intsD_ok hi
        subst e
        refine sorted_go swo_I eq_I D.int hc I rh hx ea (fun h' tk us I1 sh => ?_) fun p hp vs rv => Pk.new rh hq hp ⟨_, upd_same, rv.mono (Nx.fresh hp _)⟩
        have hI := shows_ints sh
        refine ⟨SrtO.iv, SrtO.iv_ints hI, fun h2 h₁ l hl kp => ?_⟩
        exact SrtO.ints_sortable (s := { s with heap := h₁, toks := tk }) hI h2
      · split at hq
        · rename_i ps hp
          have e := pairsD_ok hp
          subst e
          refine sorted_go swo_P eq_P prD hc I rh hx ea (fun h' tk us I1 sh => ?_) fun p hp vs rv => Pk.new rh hq hp ⟨_, upd_same, rv.mono (Nx.fresh hp _)⟩
          obtain ⟨k, e1, e2⟩ := pairs_key (shows_pairs I1 sh)
          refine ⟨k, e1, fun h2 h₁ l hl kp => SrtO.pairs_sortableO (s := { s with heap := h₁, toks := tk }) (by omega) (fun v hv => (e2 v hv).keeps fun b o e _ => (kp b o e).2) fun o e => ?_⟩
          have e' : some o = some (PyProof.Rows.seqObj "list" us.toArray 0) := e.symm.trans hl
          cases e'
          intro c
          exact absurd (Value.type.inj c) (by decide)
        · exact hq.elim
    · exact hq.elim
  · exact hq.elim
theorem b_listA (hc : X.calm = true) : CB X Γ (.type "list") gListA := by
  intro pins s σ H xs us Q I r ⟨ds, M, μ, rh, rv, hq⟩
  unfold gListA at hq
  split at hq
  · split at hq
    · rename_i n kvs hd
      obtain ⟨v, rfl, r1⟩ := one_rel rv
      obtain ⟨a, rfl, ea⟩ := ref_rel r1
      obtain ⟨u, rfl, ru⟩ := Vals.one r
      cases ru
      obtain ⟨es, g, rr⟩ := ndct rh hd ea
      obtain ⟨xs, ep, h1, h2, h3, h4⟩ := dict_keys I rr (.inl g)
      refine PySem.W.kdl_call (KdlSrc.rawDict h2) (I.ok.hd hc) h1 h3 fun h' tk acc c' hk hD hacc => ?_
      obtain ⟨ws, w1, w2⟩ := h4 acc hacc
      refine ⟨.ref s.heap.objs.size, upd H s.heap.objs.size (.lst ws), I.laid (t' := tk) hk (Nat.le_refl _) (show ObjOk X.prog X.w _ _ _ (.lst ws) from ⟨by rw [Paired.length w2, Array.length_toList, hacc.1]; exact h3, acc.toList, c', w2, by rw [Array.toArray_toList]; exact hD⟩), rfl, ?_⟩
      have hp := I.hok.fresh (Nat.le_refl s.heap.objs.size)
      exact Pk.new rh hq hp ⟨_, upd_same, w1.mono (Nx.fresh hp _)⟩
    · exact b_list pins s σ H xs us Q I r ⟨_, M, μ, rh, rv, hq⟩
  · exact b_list pins s σ H xs us Q I r ⟨_, M, μ, rh, rv, hq⟩
end
end Mi
end
section
set_option maxRecDepth 100000
set_option maxHeartbeats 2000000
set_option autoImplicit false
namespace Mi
open PySem PySem.Spec PyProof.Rows L2

mutual
def cstB (K : PySem.W.Frag) : D → Value → Bool
  | .non, .none => true
  | .bl b, .bool c => b == c
  | .int i, .int j _ => decide (i = j)
  | .str x, .str y _ => decide (x = y)
  | .tup ds, .ref a => match K.lookup a with
    | some ⟨.type c, _, .seq its _, _⟩ => decide (c = "tuple") && (decide (its.size ≤ sizeLine) && cstsB K ds its.toList)
    | _ => false
  | _, _ => false
def cstsB (K : PySem.W.Frag) : List D → List Value → Bool
  | [], [] => true
  | d :: ds, u :: us => cstB K d u && cstsB K ds us
  | _, _ => false
end
mutual
theorem cstB_ok {K : PySem.W.Frag} : ∀ (d : D) (u : Value), cstB K d u = true → ∃ v, RelV v u ∧ ∀ H μ, RV K H μ d v
  | .non, u, h => by
    cases u with
    | none => exact ⟨.non, rfl, fun _ _ => .non⟩
    | _ => simp [cstB] at h
  | .bl b, u, h => by
    cases u with
    | bool c =>
      simp only [cstB, beq_iff_eq] at h
      exact ⟨.bl b, by subst h; rfl, fun _ _ => .bl b⟩
    | _ => simp [cstB] at h
  | .int i, u, h => by
    cases u with
    | int j t =>
      simp only [cstB, decide_eq_true_eq] at h
      exact ⟨.int i, by subst h; exact ⟨t, rfl⟩, fun _ _ => .int i⟩
    | _ => simp [cstB] at h
  | .str x, u, h => by
    cases u with
    | str y t =>
      simp only [cstB, decide_eq_true_eq] at h
      exact ⟨.str x, by subst h; exact ⟨t, rfl⟩, fun _ _ => .str x⟩
    | _ => simp [cstB] at h
  | .tup ds, u, h => by
    cases u with
    | ref a =>
      simp only [cstB] at h
      split at h
      · rename_i c dd its n sl q
        rw [Bool.and_eq_true, Bool.and_eq_true, decide_eq_true_eq, decide_eq_true_eq] at h
        obtain ⟨vs, h1, h2⟩ := cstsB_ok ds its.toList h.2.2
        exact ⟨.ref a, rfl, fun H μ => .tup (.inr ⟨_, its, n, q, congrArg Value.type h.1, rfl, h.2.1, h1⟩) (h2 H μ)⟩
      · cases h
    | _ => simp [cstB] at h
  | .ref n, u, h => by cases u <;> simp [cstB] at h
  | .klst _, u, h => by cases u <;> simp [cstB] at h
  | .exc .., u, h => by cases u <;> simp [cstB] at h
theorem cstsB_ok {K : PySem.W.Frag} : ∀ (ds : List D) (us : List Value), cstsB K ds us = true → ∃ vs, Vals vs us ∧ ∀ H μ, RVs K H μ ds vs
  | [], [], _ => ⟨[], .nil, fun _ _ => .nil⟩
  | [], _ :: _, h => by simp [cstsB] at h
  | _ :: _, [], h => by simp [cstsB] at h
  | d :: ds, u :: us, h => by
    simp only [cstsB, Bool.and_eq_true] at h
    obtain ⟨v, h1, h2⟩ := cstB_ok d u h.1
    obtain ⟨vs, h3, h4⟩ := cstsB_ok ds us h.2
    exact ⟨v :: vs, .cons h1 h3, fun H μ => .cons (h2 H μ) (h4 H μ)⟩
end

def oexB (K : PySem.W.Frag) (C : Addr) : Bool := match K.lookup C with
  | some ⟨.type "type", _, .cls cd, sl⟩ => (match cd.mro, sl.toList with
    | .ref C' :: bm, [_, _, _, _, some (.builtin n), _] => C' == C && n == "ValueError.__new__" && !cd.hasDel && cd.hasDict && HandSPX.refsVE bm
    | _, _ => false)
  | _ => false
inductive Fx where
  | he (f : He.Fa)
  | cst (x : Str) (d : D)
  | oex (x : Str) (fs : List Str)
  | kit (x y : Str) (b : Bool)
  | kitT (x : Str) (T : String) (b : Bool)
  | exmT (x : Str) (T : String) (b : Bool)
  | xcc (x : Str)
  | slc (x : Str)
  | slt (x f : Str) (i : Nat)
def slotP (K : PySem.W.Frag) (C : Addr) (f : Str) : Addr := He.ma K C f
def Fx.ok (K : PySem.W.Frag) : Fx → Bool
  | .he f => f.ok K
  | .cst x d => (match PySem.W.nsIn K mainGlobals x with
    | some (some u) => cstB K d u
    | _ => false)
  | .oex x fs => oexB K (He.ga K x) && (He.eqO (PySem.W.findIn K (.ref (He.ga K x)) "__setattr__") (some (some (.builtin "object.__setattr__"))) && (decide (PySem.W.subIn K (.ref (He.ga K x)) (.type "BaseException") = some true) && (decide (PySem.W.typeIn K (.ref (He.ga K x)) = some (.type "type")) &&
    (PySem.W.keepIn K (.ref (He.ga K x)) && (He.eqO (PySem.W.findIn K (.ref (He.ga K x)) "__init__") (some (some (.ref (He.ma K (He.ga K x) "__init__")))) && (decide (PySem.W.typeIn K (.ref (He.ma K (He.ga K x) "__init__")) = some (.type "function")) &&
    fs.all fun f => He.eqO (PySem.W.findIn K (.ref (He.ga K x)) f) (some none)))))))
  | .kit x y b => decide (PySem.W.kitOne K (.ref (He.ga K x)) (.ref (He.ga K y)) = some b)
  | .kitT x T b => decide (PySem.W.kitOne K (.ref (He.ga K x)) (.type T) = some b)
  | .exmT x T b => decide (PySem.W.exmOne K (.ref (He.ga K x)) (.type T) = some b)
  | .xcc x => (PySem.W.clsIn K (He.ga K x)).isSome && (He.eqO (PySem.W.findIn K (.ref (He.ga K x)) "__getattribute__") (some (some (.builtin "BaseException.__getattribute__"))) && (He.eqO (PySem.W.findIn K (.ref (He.ga K x)) "__getattr__") (some none) &&
    (decide (PySem.W.subIn K (.ref (He.ga K x)) (.type "BaseException") = some true) && (PySem.W.hasDictIn K (He.ga K x) && (He.eqO (PySem.W.findIn K (.ref (He.ga K x)) "__class__") (some (some (.builtin "object.__class__"))) &&
    (He.eqO (PySem.W.specialIn K (.builtin "object.__class__") "__get__") (some (some (.builtin "getset_descriptor.__get__"))) && (decide (PySem.W.takesIn K (.builtin "object.__class__") = some true) && decide (PySem.W.mroIn K (He.ga K x) (.type "object") = some true))))))))
  | .slc x => PySem.W.plainGet K (He.ga K x) Str.empty && (PySem.W.isClsIn K (He.ga K x) && (PySem.W.plainOver K (He.ga K x) && He.eqO (PySem.W.findIn K (.ref (He.ga K x)) "__setattr__") (some (some (.builtin "object.__setattr__")))))
  | .slt x f i => He.eqO (PySem.W.findIn K (.ref (He.ga K x)) f) (some (some (.ref (slotP K (He.ga K x) f)))) && (He.eqO (PySem.W.specialIn K (.ref (slotP K (He.ga K x) f)) "__get__") (some (some (.builtin "member_descriptor.__get__"))) &&
    (decide (PySem.W.takesIn K (.ref (slotP K (He.ga K x) f)) = some true) && (decide (PySem.W.typeIn K (.ref (slotP K (He.ga K x) f)) = some (.type "member_descriptor")) && (decide (PySem.W.slotIn K (slotP K (He.ga K x) f) (He.ga K x) = some i) && decide (i < 1000)))))
section
variable {K : PySem.W.Frag} {h : Heap} {mg : Str → Option Value}
theorem fx_cst (X : K.In h) (G : h.Ns mainGlobals mg) {x : Str} {d : D} (c : (Fx.cst x d).ok K = true) : CstOk K mg x d := by
  have c2 : (match PySem.W.nsIn K mainGlobals x with
    | some (some u) => cstB K d u
    | _ => false) = true := c
  split at c2
  · rename_i u q
    obtain ⟨v, h1, h2⟩ := cstB_ok d u c2
    exact ⟨u, v, PySem.W.mg_of X G q, h1, h2⟩
  · cases c2
theorem oexB_ok {C : Addr} (q : oexB K C = true) : ∃ nm qn N bs bm sn sub ab col dd k0 k1 k2 k3 k5, K.lookup C = some (excClassObj nm qn C N bs bm true sn sub ab col dd k0 k1 k2 k3 k5 "ValueError.__new__") ∧ PySem.HandSPX.refsVE bm = true := by
  unfold oexB at q
  split at q
  · rename_i dd cd sl ho
    split at q
    · rename_i C' bm k0 k1 k2 k3 n k5 hm hs
      simp only [Bool.and_eq_true, beq_iff_eq, Bool.not_eq_true'] at q
      obtain ⟨⟨⟨⟨rfl, rfl⟩, hdel⟩, hd⟩, hr⟩ := q
      obtain ⟨nm, bs, mro, ns, qn, hdi, sn, sub, ab, col, del⟩ := cd
      dsimp only at hm hdel hd
      subst hm hdel hd
      have hsl : sl = #[k0, k1, k2, k3, some (.builtin "ValueError.__new__"), k5] := by
        obtain ⟨l⟩ := sl
        simp only at hs
        rw [hs]
      subst hsl
      exact ⟨nm, qn, ns, bs, bm, sn, sub, ab, col, dd, k0, k1, k2, k3, k5, ho, hr⟩
    · cases q
  · cases q
theorem fx_oex {x : Str} {fs : List Str} (c : (Fx.oex x fs).ok K = true) : OexC K (He.ga K x) ∧ PySem.W.findIn K (.ref (He.ga K x)) "__init__" = some (some (.ref (He.ma K (He.ga K x) "__init__"))) ∧ PySem.W.typeIn K (.ref (He.ma K (He.ga K x) "__init__")) = some (.type "function") ∧
    ∀ f ∈ fs, PySem.W.findIn K (.ref (He.ga K x)) f = some none := by
  obtain ⟨c1, c⟩ := He.ba c
  obtain ⟨c2, c⟩ := He.ba c
  obtain ⟨c3, c⟩ := He.ba c
  obtain ⟨c4, c⟩ := He.ba c
  obtain ⟨c5, c⟩ := He.ba c
  obtain ⟨c6, c⟩ := He.ba c
  obtain ⟨c7, c8⟩ := He.ba c
  exact ⟨⟨oexB_ok c1, He.eqO_ok c2, of_decide_eq_true c3, of_decide_eq_true c4, c5⟩, He.eqO_ok c6, of_decide_eq_true c7, fun f hf => He.eqO_ok (List.all_eq_true.mp c8 f hf)⟩
theorem fx_exc (X : K.In h) (G : h.Ns mainGlobals mg) {x : Str} (g : (Fx.he (.glo x)).ok K = true) (c : (Fx.he (.exc x)).ok K = true) : Rz0 K mg (He.ga K x) x := by
  obtain ⟨c1, c2, c3, c4⟩ := He.exc_ok c
  exact ⟨c1, He.glo_ok X G g, c2, c3, c4⟩
theorem fx_xcc {x : Str} (c : (Fx.xcc x).ok K = true) : XcC K (He.ga K x) := by
  obtain ⟨c1, c⟩ := He.ba c
  obtain ⟨c2, c⟩ := He.ba c
  obtain ⟨c3, c⟩ := He.ba c
  obtain ⟨c4, c⟩ := He.ba c
  obtain ⟨c5, c⟩ := He.ba c
  obtain ⟨c6, c⟩ := He.ba c
  obtain ⟨c7, c⟩ := He.ba c
  obtain ⟨c8, c9⟩ := He.ba c
  exact ⟨c1, He.eqO_ok c2, He.eqO_ok c3, of_decide_eq_true c4, c5, He.eqO_ok c6, He.eqO_ok c7, of_decide_eq_true c8, of_decide_eq_true c9⟩
theorem fx_slt {x f : Str} {i : Nat} (c : (Fx.slc x).ok K = true) (d : (Fx.slt x f i).ok K = true) : SlF K (He.ga K x) f i := by
  obtain ⟨c1, c⟩ := He.ba c
  obtain ⟨c2, c⟩ := He.ba c
  obtain ⟨c3, c4⟩ := He.ba c
  obtain ⟨d1, d⟩ := He.ba d
  obtain ⟨d2, d⟩ := He.ba d
  obtain ⟨d3, d⟩ := He.ba d
  obtain ⟨d4, d⟩ := He.ba d
  obtain ⟨d5, d6⟩ := He.ba d
  exact ⟨⟨c1, c2, c3, He.eqO_ok c4⟩, ⟨_, He.eqO_ok d1, He.eqO_ok d2, of_decide_eq_true d3, of_decide_eq_true d4, of_decide_eq_true d5, of_decide_eq_true d6⟩⟩
theorem fx_free (X : K.In h) (G : h.Ns mainGlobals mg) {x : Str} (c : (Fx.he (.free x)).ok K = true) : mg x = none := He.free_ok X G c
theorem fx_glo (X : K.In h) (G : h.Ns mainGlobals mg) {x : Str} (c : (Fx.he (.glo x)).ok K = true) : mg x = some (.ref (He.ga K x)) := He.glo_ok X G c
end
def obsM (fa : List Fx) (fn : List He.DefD) (K : PySem.W.Frag) : He.AlD := ((fa.all fun f => f.ok K) && fn.all fun d => d.ok K, fn.map fun d => He.fnW K d.at_)
def SaysM (fa : List Fx) (fn : List He.DefD) (K : PySem.W.Frag) : Prop := obsM fa fn K = He.valD fn
def obsMG (n : Nat) (fa : List Fx) (fn : List He.DefD) (g : Addr → Option Obj) : He.AlD := obsM fa fn (He.frG g (He.asD g n))
def hookM (n : Nat) (fa : List Fx) (fn : List He.DefD) : PySem.W.Hook where
  α := He.AlD
  obs := fun s => obsMG n fa fn s.heap.get?
  val := fun _ => He.valD fn
  says := fun _ h => ∃ K : PySem.W.Frag, K.In h ∧ SaysM fa fn K
  of := fun _ _ e => ⟨_, He.frG_in, e⟩
  keeps := fun _ _ _ ⟨K, hK, c⟩ k => ⟨K, PySem.W.Frag.In.keeps hK k, c⟩
theorem obsMG_eq {n : Nat} {fa : List Fx} {fn : List He.DefD} {g : Addr → Option Obj} {s : Shared} (h : ∀ a, g a = s.heap.get? a) : obsMG n fa fn g = (hookM n fa fn).obs s := by
  have e : g = s.heap.get? := funext h
  rw [e] <;> rfl
section
variable {fa : List Fx} {fn : List He.DefD} {K : PySem.W.Frag}
theorem SaysM.fact (c : SaysM fa fn K) (i : Nat) {f : Fx} (h : fa[i]? = some f := by rfl) : f.ok K = true := by
  have c1 := (He.ba (show ((fa.all fun f => f.ok K) && fn.all fun d => d.ok K) = true from congrArg (fun z : He.AlD => z.1) c)).1
  exact List.all_eq_true.mp c1 f (List.mem_of_getElem? h)
theorem SaysM.def_ (c : SaysM fa fn K) (i : Nat) {d : He.DefD} (h : fn[i]? = some d := by rfl) : ∃ fd, FunD K d.name d.qual d.params d.body d.scope (d.dvs K) (d.kws K) (He.fAd K d.at_) fd := by
  have c2 := (He.ba (show ((fa.all fun f => f.ok K) && fn.all fun d => d.ok K) = true from congrArg (fun z : He.AlD => z.1) c)).2
  have e : fn.map (fun d => He.fnW K d.at_) = fn.map He.DefD.val := congrArg (fun z : He.AlD => z.2) c
  have e2 : (fn.map fun d => He.fnW K d.at_)[i]? = (fn.map He.DefD.val)[i]? := by rw [e]
  rw [List.getElem?_map, List.getElem?_map, h] at e2
  exact He.DefD.funD (Option.some.inj e2) (List.all_eq_true.mp c2 d (List.mem_of_getElem? h))
end
section
variable {P : Program} {w : World} {K : PySem.W.Frag} {mg : Str → Option Value} {base : Heap} {N : List Str} {qual : Str} {scope : Scope} {i : Addr} {cdv : Value} {A : Around} {outer : List Env} {s : Shared} {H : Hp} {E : XK}
theorem takes_cx : Takes (cxOf (L2.CX P w) P w K mg base N qual scope i cdv A outer s H E) (fun cls d _ H => E cls d H) := takes_of rfl rfl rfl rfl
theorem passes_cx : PassesOwn (model P w) (cxOf (L2.CX P w) P w K mg base N qual scope i cdv A outer s H E).A (cxOf (L2.CX P w) P w K mg base N qual scope i cdv A outer s H E).env (cxOf (L2.CX P w) P w K mg base N qual scope i cdv A outer s H E).xe := passes_of rfl
end
theorem takes_W0 {X : Cx} : Takes X W0 := takes_none5
theorem cx_never {P : Program} {w : World} (H : Hp) (s : Shared) (e : Value) (s' : Shared) : L2.CX P w [] H s (fun _ _ _ => False) e s' → False := fun ⟨_, _, _, _, _, _, _, _, _, _, _, _, z⟩ => z
/-- the end of a law whose defs may raise: the promise at each world -/
theorem walk_at {l : PySem.W.OpenLaw} {n k : Nat} {q : Program} {loose : List Str} {XP : (Str → Option Value) → Heap → Prop} {YP : World → Heap → Prop} {d : DefRec} {x : Str} (hn : l.most = some n) (hn2 : n ≤ sizeLine) (hdf : d.params.defaults = []) (hr : Room k callerA)
    (T : ∀ (w : World) (mg : Str → Option Value) (fa : Addr) (h : Heap), YP w h → h.Ns mainGlobals mg → mg d.name = some (.ref fa) → ∃ (K : PySem.W.Frag) (fd : FuncData) (sp : Sp), K.In h ∧ (∀ (s : Shared) (u : Value), BindsTo s fd ⟨[u], []⟩ [(x, u)]) ∧
      (∀ (H : Hp) (a : Addr) (ns : List Int), ns.length ≤ n → Only H → SqL K H a (ns.map V.int) → sp [.ref a] H (fun v _ => v = .bl true) fun _ _ _ => False) ∧ ∀ base : Heap, FnOk l.prog w K mg base (L2.CX l.prog w) k fa fd [x] sp) :
    PySem.W.WalkO q loose XP YP l.row.toRowW d [] (fun f vs => PySem.call f vs) := by
  refine Att.attach_call hn hdf fun w s₀ s₁ mg mb fa o pm cd doc a vs ns G Y ho hd hcd hmg hobj hints hlen hg => ?_
  obtain ⟨K, fd, sp, h1, h2, h3, h4⟩ := T w mg fa _ Y G.T.g hmg
  refine law_call h1 G.T.g G.T.b G.T.builtins G.T.nolimit hg hobj hints (Nat.le_trans hlen hn2) hr (fun base _ _ => h4 base) h2 (fun H hO hS => h3 H a ns hlen hO hS) fun H e s' => cx_never H s₁ e s'
end Mi
end
section
set_option maxRecDepth 100000
set_option maxHeartbeats 2000000
set_option autoImplicit false
namespace Mi
open PySem

def wX {α : Type} (r : R α) (Q : α → Hs → Prop) : Prop := match r with
  | .ok a M => Q a M
  | _ => False
def wO {α : Type} (r : Option (α × Hs)) (Q : α → Hs → Prop) : Prop := match r with
  | some (a, M) => Q a M
  | none => False
def wS (r : RS) (N : Sl → Hs → Prop) (T : D → Hs → Prop) : Prop := match r with
  | .nx ζ M => N ζ M
  | .rt d M => T d M
  | _ => False
section
variable {α β : Type} {Q Q' : α → Hs → Prop} {ζ : Sl} {M : Hs} {N N' : Sl → Hs → Prop} {T T' : D → Hs → Prop}
theorem wX_ok {a : α} : wX (.ok a M) Q = Q a M := rfl
theorem wX_no : wX (.no : R α) Q = False := rfl
theorem wX_mono {r : R α} (h : wX r Q) (i : ∀ a M, Q a M → Q' a M) : wX r Q' := by
  cases r with
  | ok a M => exact i a M h
  | _ => exact h
theorem wS_mono {r : RS} (h : wS r N T) (i : ∀ a M, N a M → N' a M) (j : ∀ a M, T a M → T' a M) : wS r N' T' := by
  cases r with
  | nx a M => exact i a M h
  | rt a M => exact j a M h
  | _ => exact h
theorem wX_get {r : R α} (h : wX r Q) : ∃ a M, r = .ok a M ∧ Q a M := by
  cases r with
  | ok a M => exact ⟨a, M, rfl, h⟩
  | _ => exact h.elim
theorem wX_eq {r : R α} {a : α} (h : r = .ok a M) (q : Q a M) : wX r Q := by rw [h]; exact q
theorem wX_bind {r : R α} {k : α → Hs → R β} {Q : β → Hs → Prop} : wX (r.bind k) Q = wX r fun a M => wX (k a M) Q := by cases r <;> rfl
theorem wX_of {r : Option (α × Hs)} : wX (R.of r) Q = wO r Q := by
  cases r with
  | none => rfl
  | some p => rfl
theorem wO_some {a : α} : wO (some (a, M)) Q = Q a M := rfl
theorem wO_none : wO (none : Option (α × Hs)) Q = False := rfl
theorem wS_nx : wS (.nx ζ M) N T = N ζ M := rfl
theorem wS_rt {d : D} : wS (.rt d M) N T = T d M := rfl
theorem wS_of {r : R α} {k : α → Hs → RS} : wS (RS.of ζ r k) N T = wX r fun a M => wS (k a M) N T := by cases r <;> rfl
variable {a b : MS} {f g fo fi fv : MX} {t : MT} {i : Nat} {ga : MA}
theorem wS_seq : wS (sSeq a b ζ M) N T = wS (a ζ M) (fun ζ M => wS (b ζ M) N T) T := by
  unfold sSeq
  cases a ζ M <;> rfl
theorem wS_set : wS (sSet i f ζ M) N T = wX (f ζ M) fun d M => N (ζ.set i (some d)) M := wS_of
theorem wS_ret : wS (sRet f ζ M) N T = wX (f ζ M) T := wS_of
theorem wS_expr : wS (sExpr f ζ M) N T = wX (f ζ M) fun _ M => N ζ M := wS_of
theorem wS_pass : wS (sPass ζ M) N T = N ζ M := rfl
theorem wS_if : wS (sIf t a b ζ M) N T = wX (t ζ M) fun c M => if c = true then wS (a ζ M) N T else wS (b ζ M) N T := by
  unfold sIf
  rw [wS_of]
  congr
  funext c M
  split <;> rfl
theorem wS_put {p : D → D → D → Hs → Option Hs} : wS (sPut p fo fi fv ζ M) N T = wX (fv ζ M) fun v M => wX (fo ζ M) fun o M => wX (fi ζ M) fun i M => match p o i v M with
  | some M => N ζ M
  | none => False := by
  unfold sPut
  rw [wS_of]
  congr
  funext v M1
  rw [wS_of]
  congr
  funext o M2
  rw [wS_of]
  congr
  funext i M3
  cases p o i v M3 <;> rfl
variable {Qd : D → Hs → Prop}
theorem wX_var : wX (xVar i ζ M) Qd = match ζ[i]? with
  | some (some d) => Qd d M
  | _ => False := by
  unfold xVar
  cases ζ[i]? with
  | none => rfl
  | some o => cases o <;> rfl
theorem wX_c {d : D} : wX (xC d ζ M) Qd = Qd d M := rfl
theorem wX_2 {p : D → D → Hs → Option (D × Hs)} : wX (x2 p f g ζ M) Qd = wX (f ζ M) fun x M => wX (g ζ M) fun y M => wO (p x y M) Qd := by
  unfold x2
  simp only [wX_bind, wX_of]
theorem wX_3 {p p' : D → D → Hs → Option (D × Hs)} : wX (x3 p p' f g fo ζ M) Qd = wX (f ζ M) fun x M => wX (g ζ M) fun y M => wO (p x y M) fun z M => match z with
  | .bl true => wX (fo ζ M) fun u M => wO (p' y u M) Qd
  | .bl false => Qd (.bl false) M
  | _ => False := by
  unfold x3
  simp only [wX_bind, wX_of]
  congr
  funext x M1
  congr
  funext y M2
  congr
  funext z M3
  split
  · rw [wX_bind]
    simp only [wX_of]
  · rfl
  · rename_i h1 h2
    first
      | rfl
      | (split
         · exact absurd rfl h1
         · exact absurd rfl h2
         · rfl)
theorem wX_anil {Q : List D → Hs → Prop} : wX (aNil ζ M) Q = Q [] M := rfl
theorem wX_acons {Q : List D → Hs → Prop} : wX (aCons f ga ζ M) Q = wX (f ζ M) fun x M => wX (ga ζ M) fun xs M => Q (x :: xs) M := by
  unfold aCons
  simp only [wX_bind, wX_ok]
theorem wX_tup : wX (xTup ga ζ M) Qd = wX (ga ζ M) fun ds M => if ds.length ≤ sizeLine then Qd (.tup ds) M else False := by
  unfold xTup
  simp only [wX_bind]
  congr
  funext ds M
  split <;> rfl
theorem wX_lst : wX (xLst ga ζ M) Qd = wX (ga ζ M) fun ds M => if ds.length ≤ sizeLine then Qd (.ref M.length) (M ++ [.lst ds]) else False := by
  unfold xLst newL
  simp only [wX_bind, wX_of]
  congr
  funext ds M
  split <;> rfl
theorem wX_dict : wX (xDict ζ M) Qd = Qd (.ref M.length) (M ++ [.dct []]) := rfl
theorem wX_b {p : GL} : wX (xB p ga ζ M) Qd = wX (ga ζ M) fun ds M => wO (p ds M) Qd := by
  unfold xB
  simp only [wX_bind, wX_of]
theorem wX_meth {ok : D → Hs → Bool} {p : GM} : wX (xMeth ok p f ga ζ M) Qd = wX (f ζ M) fun x M => if ok x M = true then wX (ga ζ M) fun ds M => wO (p x ds M) Qd else False := by
  unfold xMeth
  rw [wX_bind]
  congr
  funext x M
  split
  · simp only [wX_bind, wX_of]
  · rfl
theorem wX_call {n : Nat} {F : MF} : wX (xCall n F ga ζ M) Qd = wX (ga ζ M) fun ds M => if ds.length = n then wX (F ds M) Qd else False := by
  unfold xCall
  rw [wX_bind]
  congr
  funext ds M
  split <;> rfl
theorem wX_fn {np nl : Nat} {ds : List D} : wX (fnS np nl a ds M) Qd = wS (a (ds.map some ++ List.replicate (nl - np) none) M) (fun _ M => Qd .non M) Qd := by
  unfold fnS
  cases a (ds.map some ++ List.replicate (nl - np) none) M <;> rfl
theorem wX_if : wX (xIf t f g ζ M) Qd = wX (t ζ M) fun c M => if c = true then wX (f ζ M) Qd else wX (g ζ M) Qd := by
  unfold xIf
  rw [wX_bind]
  congr
  funext c M
  split <;> rfl
theorem wX_t1 {Q : Bool → Hs → Prop} : wX (tB1 f ζ M) Q = wX (f ζ M) fun x M => match x with
  | .bl k => Q k M
  | _ => False := by
  unfold tB1
  rw [wX_bind]
  congr
  funext x M
  cases x <;> rfl
variable {t2 : MT} {Qb : Bool → Hs → Prop}
theorem wX_and2 : wX (tAnd2 t t2 ζ M) Qb = wX (t ζ M) fun c M => if c = true then wX (t2 ζ M) Qb else Qb false M := by
  unfold tAnd2
  rw [wX_bind]
  congr
  funext c M
  split <;> rfl
theorem wX_or2 : wX (tOr2 t t2 ζ M) Qb = wX (t ζ M) fun c M => if c = true then Qb true M else wX (t2 ζ M) Qb := by
  unfold tOr2
  rw [wX_bind]
  congr
  funext c M
  split <;> rfl
theorem wX_not1 : wX (tNot1 t ζ M) Qb = wX (t ζ M) fun c M => Qb (!c) M := by
  unfold tNot1
  rw [wX_bind]
  rfl
theorem wX_true : wX (tTrue ζ M) Qb = Qb true M := rfl
theorem wX_neg : wX (xNeg f ζ M) Qd = wX (f ζ M) fun x M => match x with
  | .int i => Qd (.int (-i)) M
  | _ => False := by
  unfold xNeg
  rw [wX_bind]
  congr
  funext x M
  cases x <;> rfl
theorem wX_oN {Q : Option Int → Hs → Prop} : wX (oNone ζ M) Q = Q none M := rfl
theorem wX_oS {Q : Option Int → Hs → Prop} : wX (oSome f ζ M) Q = wX (f ζ M) fun x M => match x with
  | .int i => Q (some i) M
  | _ => False := by
  unfold oSome
  rw [wX_bind]
  congr
  funext x M
  cases x <;> rfl
theorem wX_not : wX (xNot f ζ M) Qd = wX (f ζ M) fun x M => match x with
  | .bl k => Qd (.bl (!k)) M
  | _ => False := by
  unfold xNot
  rw [wX_bind]
  congr
  funext x M
  cases x <;> rfl
theorem wX_and : wX (xAnd f g ζ M) Qd = wX (f ζ M) fun x M => match x with
  | .bl true => wX (g ζ M) Qd
  | .bl false => Qd (.bl false) M
  | _ => False := by
  unfold xAnd
  rw [wX_bind]
  congr
  funext x M
  split <;> first | rfl | (rename_i h1 h2; split <;> first | exact absurd rfl h1 | exact absurd rfl h2 | rfl)
theorem wX_or : wX (xOr f g ζ M) Qd = wX (f ζ M) fun x M => match x with
  | .bl true => Qd (.bl true) M
  | .bl false => wX (g ζ M) Qd
  | _ => False := by
  unfold xOr
  rw [wX_bind]
  congr
  funext x M
  split <;> first | rfl | (rename_i h1 h2; split <;> first | exact absurd rfl h1 | exact absurd rfl h2 | rfl)
theorem wX_is {T : String} : wX (xIs T f ζ M) Qd = wX (f ζ M) fun x M => match kindOf x M with
  | some k => Qd (.bl (isKind k T)) M
  | none => False := by
  unfold xIs
  rw [wX_bind]
  congr
  funext x M
  cases kindOf x M <;> rfl
theorem wX_cut {l h : MO'} : wX (xCut f l h ζ M) Qd = wX (f ζ M) fun x M => wX (l ζ M) fun i M => wX (h ζ M) fun j M => wO (gCut x i j M) Qd := by
  unfold xCut
  simp only [wX_bind, wX_of]
theorem wX_fld {c k : Nat} : wX (xFld c k f ζ M) Qd = wX (f ζ M) fun x M => match slAt c x M with
  | some (_, fs) => match fs[k]? with
    | some (some d) => Qd d M
    | _ => False
  | none => False := by
  unfold xFld
  rw [wX_bind]
  congr
  funext x M
  cases slAt c x M with
  | none => rfl
  | some q =>
    obtain ⟨n, fs⟩ := q
    dsimp only
    cases fs[k]? with
    | none => rfl
    | some o => cases o <;> rfl
theorem wS_for {s : MY} {p : Pt} : wS (sFor s p a ζ M) N T = wX (s ζ M) fun yd M => wS (forN yd.y p a yd.fuel 0 ζ M) N T := wS_of
theorem wS_forN {y : Nat → Hs → Option (Option D)} {p : Pt} (I : Nat → Sl → Hs → Prop) (e : Nat) (go : ∀ i ζ M, i < e → I i ζ M → ∃ d l, y i M = some (some d) ∧ bindP p d = some l ∧ wS (a (setAll ζ l) M) (I (i + 1)) T) (fin : ∀ ζ M, I e ζ M → y e M = some none ∧ N ζ M) :
    ∀ (m i : Nat) (ζ : Sl) (M : Hs), e - i < m → i ≤ e → I i ζ M → wS (forN y p a m i ζ M) N T
  | 0, _, _, _, h, _, _ => by omega
  | m + 1, i, ζ, M, h, hi, q => by
    unfold forN
    by_cases hie : i = e
    · subst hie
      obtain ⟨h1, h2⟩ := fin ζ M q
      rw [h1]
      exact h2
    · obtain ⟨d, l, h1, h2, h3⟩ := go i ζ M (by omega) q
      rw [h1]
      dsimp only
      rw [h2]
      dsimp only
      cases hr : a (setAll ζ l) M with
      | nx ζ1 M1 => rw [hr] at h3; exact wS_forN I e go fin m (i + 1) ζ1 M1 (by omega) (by omega) h3
      | rt d M1 => rw [hr] at h3; exact h3
      | bk ζ1 M1 => rw [hr] at h3; exact h3.elim
      | ct ζ1 M1 => rw [hr] at h3; exact h3.elim
      | ex c fs ζ1 M1 => rw [hr] at h3; exact h3.elim
      | no => rw [hr] at h3; exact h3.elim
theorem wS_whileN (I : Nat → Sl → Hs → Prop) (go : ∀ n ζ M, I n ζ M → wX (t ζ M) fun c M => if c = true then wS (a ζ M) (fun ζ M => ∃ m, m < n ∧ I m ζ M) T else N ζ M) : ∀ (m n : Nat) (ζ : Sl) (M : Hs), n < m → I n ζ M → wS (whileN t a m ζ M) N T
  | 0, _, _, _, h, _ => by omega
  | m + 1, n, ζ, M, h, q => by
    have g := go n ζ M q
    unfold whileN
    rw [wS_of]
    refine wX_mono g fun c M1 h1 => ?_
    cases c with
    | false => exact h1
    | true =>
      rw [if_pos rfl] at h1 ⊢
      cases hr : a ζ M1 with
      | nx ζ1 M2 =>
        rw [hr] at h1
        obtain ⟨k, hk, hi⟩ := h1
        exact wS_whileN I go m k ζ1 M2 (by omega) hi
      | rt d M2 => rw [hr] at h1; exact h1
      | bk ζ1 M2 => rw [hr] at h1; exact h1.elim
      | ct ζ1 M2 => rw [hr] at h1; exact h1.elim
      | ex c fs ζ1 M2 => rw [hr] at h1; exact h1.elim
      | no => rw [hr] at h1; exact h1.elim
theorem wS_while (I : Nat → Sl → Hs → Prop) (n : Nat) (h : n < 10 ^ 30) (q : I n ζ M) (go : ∀ n ζ M, I n ζ M → wX (t ζ M) fun c M => if c = true then wS (a ζ M) (fun ζ M => ∃ m, m < n ∧ I m ζ M) T else N ζ M) : wS (sWhile t a ζ M) N T :=
  wS_whileN I go far n ζ M h q
/-- a comprehension's loop -/
theorem wX_lcN {y : Nat → Hs → Option (Option D)} {p : Pt} {k : Sl → Hs → R Unit} {Q : Hs → Prop} (I : Nat → Hs → Prop) (e : Nat) (go : ∀ i M, i < e → I i M → ∃ d l, y i M = some (some d) ∧ bindP p d = some l ∧ wX (k (setAll ζ l) M) fun _ M => I (i + 1) M)
    (fin : ∀ M, I e M → y e M = some none ∧ Q M) : ∀ (m i : Nat) (M : Hs), e - i < m → i ≤ e → I i M → wX (lcN y p k ζ m i M) fun _ M => Q M
  | 0, _, _, h, _, _ => by omega
  | m + 1, i, M, h, hi, q => by
    unfold lcN
    by_cases hie : i = e
    · subst hie
      obtain ⟨h1, h2⟩ := fin M q
      rw [h1]
      exact h2
    · obtain ⟨d, l, h1, h2, h3⟩ := go i M (by omega) q
      rw [h1]
      dsimp only
      rw [h2]
      dsimp only
      cases hr : k (setAll ζ l) M with
      | ok u M1 => rw [hr] at h3; exact wX_lcN I e go fin m (i + 1) M1 (by omega) (by omega) h3
      | ex c fs M1 => rw [hr] at h3; exact h3.elim
      | no => rw [hr] at h3; exact h3.elim
theorem wX_lc {s : MY} {vs : List Nat} {p : Pt} : wX (xLc s vs p t f ζ M) Qd = wX (s ζ M) fun yd M1 => wX (lcN yd.y p (lcB t f M1.length) (wipeD ζ vs) yd.fuel 0 (M1 ++ [.lst []])) fun _ M2 => Qd (.ref M1.length) M2 := by
  unfold xLc
  simp only [wX_bind, wX_ok]
/-- a comprehension over known items whose test and item only allocate: p i is put in where c i -/
theorem wX_lcB {n : Nat} {c : Bool} {v : D} {acc : List D} {Q : Unit → Hs → Prop} (ht : wX (t ζ M) fun b M1 => b = c ∧ (if c = true then wX (f ζ M1) fun z M2 => z = v ∧ hLst M2 n = some acc ∧ acc.length < sizeLine ∧ Q () (M2.set n (.lst (acc ++ [v]))) else Q () M1)) : wX (lcB t f n ζ M) Q := by
  unfold lcB
  obtain ⟨b, M1, h1, rfl, h2⟩ := wX_get ht
  rw [h1]
  cases b with
  | false => exact h2
  | true =>
    rw [if_pos rfl] at h2
    obtain ⟨z, M2, h3, rfl, h4, h5, h6⟩ := wX_get h2
    dsimp only
    rw [h3]
    dsimp only
    unfold lput
    rw [h4]
    dsimp only
    rw [if_pos h5]
    exact h6
end
end Mi
end
section
set_option maxRecDepth 100000
set_option maxHeartbeats 2000000
set_option autoImplicit false
namespace Mi
open PySem
def optD : Option Int → D
  | some i => .int i
  | none => .non
/-- where a key leads -/
def ledP (p s t o : Int) : Option Int :=
  let f := p + s
  let f := if 0 < o ∧ f < 0 then f + o else if 0 < o ∧ t < f then f - o else f
  if 0 ≤ f ∧ f ≤ t then some f else none
theorem g_add {i j : Int} {M : Hs} : gAdd (.int i) (.int j) M = some (.int (i + j), M) := rfl
theorem g_sub {i j : Int} {M : Hs} : gSub (.int i) (.int j) M = some (.int (i - j), M) := rfl
theorem g_lt {i j : Int} {M : Hs} : gLt (.int i) (.int j) M = some (.bl (decide (i < j)), M) := rfl
theorem g_le {i j : Int} {M : Hs} : gLe (.int i) (.int j) M = some (.bl (decide (i ≤ j)), M) := rfl
theorem g_gt {i j : Int} {M : Hs} : gGt (.int i) (.int j) M = some (.bl (decide (j < i)), M) := rfl
theorem g_ge {i j : Int} {M : Hs} : gGe (.int i) (.int j) M = some (.bl (decide (j ≤ i)), M) := rfl
theorem g_mod {i j : Int} {M : Hs} (h : 0 < j) : gMod (.int i) (.int j) M = some (.int (i % j), M) := by unfold gMod gI; simp [h]
theorem g_div {i j : Int} {M : Hs} (h : 0 < j) (h2 : j < 1073741824) : gDiv (.int i) (.int j) M = some (.int (i / j), M) := by unfold gDiv gI; simp [h, h2]
theorem g_mul {i j : Int} {M : Hs} (h : inW j = true) : gMul (.int i) (.int j) M = some (.int (i * j), M) := by unfold gMul gI; simp [h]
theorem g_int {i : Int} {M : Hs} : gInt [.int i] M = some (.int i, M) := rfl
theorem g_intb {b : Bool} {M : Hs} : gInt [.bl b] M = some (.int (if b then 1 else 0), M) := rfl
theorem g_max {i j : Int} {M : Hs} : gMax2 [.int i, .int j] M = some (.int (if j > i then j else i), M) := rfl
theorem atI_nat {xs : List D} {i : Nat} {k : Int} {d : D} (hd : xs[i]? = some d) (hk : k = (i : Int)) : L2.atI xs k = some d := by
  have hl := (List.getElem?_eq_some_iff.mp hd).1
  subst hk
  unfold L2.atI L2.ixN
  rw [if_pos (by omega), if_pos (by omega)]
  simpa using hd
theorem g_ixL {M : Hs} {n : Nat} {xs : List D} {i : Nat} {k : Int} {d : D} (h : M[n]? = some (.lst xs)) (hd : xs[i]? = some d) (hk : k = (i : Int) := by rfl) : gIxA (.ref n) (.int k) M = some (d, M) := by
  have e : gIxA (.ref n) (.int k) M = gIx (.ref n) (.int k) M := by simp [gIxA, hDct, h]
  rw [e]
  unfold gIx
  have e2 : hSeq M (.ref n) = some xs := by simp [hSeq, h]
  rw [e2]
  dsimp only
  rw [atI_nat hd hk]
theorem g_ixT {M : Hs} {xs : List D} {i : Nat} {k : Int} {d : D} (hd : xs[i]? = some d) (hk : k = (i : Int) := by rfl) : gIxA (.tup xs) (.int k) M = some (d, M) := by
  show gIx (.tup xs) (.int k) M = _
  unfold gIx
  have e2 : hSeq M (.tup xs) = some xs := rfl
  rw [e2]
  dsimp only
  rw [atI_nat hd hk]
end Mi
end
section
set_option maxRecDepth 100000
set_option maxHeartbeats 2000000
set_option autoImplicit false
namespace Mi
open PySem

abbrev Sp2 := Int × Int
abbrev Tr3 := Int × Int × Int
def trD (t : Tr3) : D := .tup [.int t.1, .int t.2.1, .int t.2.2]
def setD (xs : List Sp2) : List (D × D) := xs.map fun p => (prD p, .bl true)
def kyP (p : Sp2) : NestedKey := .tup [.num p.1, .num p.2]
def addS (xs : List Sp2) (p : Sp2) : List Sp2 := if p ∈ xs then xs else xs ++ [p]
theorem nkey_prD (p : Sp2) : nkey (prD p) = some (kyP p) := by simp [prD, nkey, nkeys, kyP]
theorem kyP_inj {p q : Sp2} (h : kyP p = kyP q) : p = q := by
  unfold kyP at h
  simp at h
  exact Prod.ext h.1 h.2
theorem keyOf_prD (p : Sp2) : keyOf (prD p) = some (kyP p) := by
  have h1 : isTupD (prD p) = true := rfl
  have h2 : (kyP p).depth ≤ 8 := by simp [kyP, NestedKey.depth, NestedKey.depthAll]
  unfold keyOf
  rw [if_pos h1, nkey_prD]
  dsimp only
  rw [if_pos h2]
theorem dGet_setD (xs : List Sp2) (p : Sp2) : (dGet (setD xs) (kyP p)).isSome = decide (p ∈ xs) := by
  unfold dGet setD
  induction xs with
  | nil => rfl
  | cons x xs ih =>
    rw [List.map_cons, List.find?_cons]
    by_cases h : x = p
    · subst h
      simp [nkey_prD]
    · have h2 : decide (nkey (prD x) = some (kyP p)) = false := decide_eq_false (by rw [nkey_prD]; exact fun e => h (kyP_inj (Option.some.inj e)))
      simp only [h2]
      rw [ih]
      have h3 : p ≠ x := Ne.symm h
      simp [h3]
theorem dPut_setD (xs : List Sp2) (p : Sp2) : dPut (setD xs) (kyP p) (prD p) (.bl true) = setD (addS xs p) := by
  unfold dPut addS
  rw [dGet_setD]
  by_cases h : p ∈ xs
  · rw [if_pos (by simpa using h), if_pos h]
    unfold setD
    rw [List.map_map]
    apply List.map_congr_left
    intro q _
    simp only [Function.comp]
    split <;> rfl
  · rw [if_neg (by simpa using h), if_neg h]
    simp [setD]
theorem g_inS {k : Bool → Bool} {n : Nat} {p : Sp2} {xs : List Sp2} {M : Hs} (h : M[n]? = some (.dct (setD xs))) : gInA k (prD p) (.ref n) M = some (.bl (k (decide (p ∈ xs))), M) := by
  have e : hDct M n = some (setD xs) := by unfold hDct; rw [h]
  unfold gInA
  dsimp only
  rw [e]
  dsimp only
  rw [keyOf_prD]
  dsimp only
  rw [dGet_setD]
theorem g_putS {n : Nat} {p : Sp2} {xs : List Sp2} {M : Hs} (h : M[n]? = some (.dct (setD xs))) (hl : xs.length < sizeLine) : gPutA (.ref n) (prD p) (.bl true) M = some (M.set n (.dct (setD (addS xs p)))) := by
  have e : hDct M n = some (setD xs) := by unfold hDct; rw [h]
  unfold gPutA
  dsimp only
  rw [e]
  dsimp only
  rw [keyOf_prD]
  dsimp only
  rw [if_pos (by unfold setD; rw [List.length_map]; exact hl), dPut_setD]
theorem mem_addS {xs : List Sp2} {p q : Sp2} : q ∈ addS xs p ↔ q ∈ xs ∨ q = p := by
  unfold addS
  split
  · rename_i h
    constructor
    · exact .inl
    · rintro (h1 | rfl)
      · exact h1
      · exact h
  · simp
theorem nodup_addS {xs : List Sp2} {p : Sp2} (h : xs.Nodup) : (addS xs p).Nodup := by
  unfold addS
  split
  · exact h
  · rename_i hp
    rw [List.nodup_append]
    exact ⟨h, by simp, fun a ha b hb e => by simp at hb; subst hb; subst e; exact hp ha⟩
def Fr (S : Nat → Prop) (M M' : Hs) : Prop := M.length ≤ M'.length ∧ ∀ n, n < M.length → ¬ S n → M'[n]? = M[n]?
def No : Nat → Prop := fun _ => False
theorem Fr.refl (S : Nat → Prop) (M : Hs) : Fr S M M := ⟨Nat.le_refl _, fun _ _ _ => rfl⟩
theorem Fr.trans {S : Nat → Prop} {M M1 M2 : Hs} (a : Fr S M M1) (b : Fr S M1 M2) : Fr S M M2 := ⟨Nat.le_trans a.1 b.1, fun n h s => (b.2 n (Nat.lt_of_lt_of_le h a.1) s).trans (a.2 n h s)⟩
theorem Fr.imp {S T : Nat → Prop} {M M' : Hs} (a : Fr S M M') (h : ∀ n, n < M.length → S n → T n) : Fr T M M' := ⟨a.1, fun n hl t => a.2 n hl fun s => t (h n hl s)⟩
theorem Fr.push {S : Nat → Prop} (M : Hs) (o : List MO) : Fr S M (M ++ o) := ⟨by simp, fun n h _ => List.getElem?_append_left h⟩
theorem Fr.set {S : Nat → Prop} {M : Hs} {n : Nat} {o : MO} (h : S n) : Fr S M (M.set n o) := ⟨by simp, fun m _ s => List.getElem?_set_ne fun e => s (by rw [← e]; exact h)⟩
theorem Fr.setHi {S : Nat → Prop} {M M' : Hs} {n : Nat} {o : MO} (a : Fr S M M') (h : M.length ≤ n) : Fr S M (M'.set n o) := ⟨by simpa using a.1, fun m hl s => by rw [List.getElem?_set_ne (by omega)]; exact a.2 m hl s⟩
theorem Fr.pushHi {S : Nat → Prop} {M M' : Hs} {o : List MO} (a : Fr S M M') : Fr S M (M' ++ o) := a.trans (Fr.push M' o)
theorem Fr.get {S : Nat → Prop} {M M' : Hs} (a : Fr S M M') {n : Nat} {o : MO} (h : M[n]? = some o) (s : ¬ S n) : M'[n]? = some o := (a.2 n (List.getElem?_eq_some_iff.mp h).1 s).trans h
theorem lt_of_get {M : Hs} {n : Nat} {o : MO} (h : M[n]? = some o) : n < M.length := (List.getElem?_eq_some_iff.mp h).1
theorem get_push {M : Hs} {o : MO} : (M ++ [o])[M.length]? = some o := by simp
theorem set_get {M : Hs} {n : Nat} {o u : MO} (h : M[n]? = some u) : (M.set n o)[n]? = some o := List.getElem?_set_self (lt_of_get h)
theorem srt_ext {xs ys : List Sp2} (h1 : xs.Nodup) (h2 : ys.Nodup) (h : ∀ p, p ∈ xs ↔ p ∈ ys) : srtB SrtO.lexB xs = srtB SrtO.lexB ys := by
  have p : xs.Perm ys := (List.perm_ext_iff_of_nodup h1 h2).mpr h
  exact SrtO.stb_uniq swo_P (srtB_srtd swo_P _) (srtB_srtd swo_P _) (stb_perm eq_P ((srtB_perm _ xs).trans (p.trans (srtB_perm _ ys).symm)))
theorem srt_mem {xs : List Sp2} {p : Sp2} : p ∈ srtB SrtO.lexB xs ↔ p ∈ xs := (srtB_perm _ xs).mem_iff
theorem pd_prD (M : Hs) (n : Nat) (p : Sp2) : toPD M (n + 2) (prD p) = some (.tuple [.int p.1, .int p.2]) := by simp [prD, toPD, mapO]
def pdP (p : Sp2) : PyData := .tuple [.int p.1, .int p.2]
theorem pd_prDs (M : Hs) (n : Nat) : ∀ xs : List Sp2, mapO (toPD M (n + 2)) (xs.map prD) = some (xs.map pdP)
  | [] => rfl
  | x :: xs => by
    rw [List.map_cons, List.map_cons]
    unfold mapO
    rw [pd_prD, pd_prDs M n xs]
    rfl
theorem pd_ref (M : Hs) (n m : Nat) (xs : List D) (h : M[m]? = some (.lst xs)) : toPD M (n + 1) (.ref m) = (match mapO (toPD M n) xs with
    | some ps => some (.list ps)
    | none => none) := by
  have e : toPD M (n + 1) (.ref m) = (match M[m]? with
    | some (.lst xs) => (match mapO (toPD M n) xs with
      | some ps => some (.list ps)
      | none => none)
    | some (.ro xs) => (match mapO (toPD M n) xs with
      | some ps => some (.list ps)
      | none => none)
    | _ => none) := rfl
  rw [e, h]
theorem pd_lstP {M : Hs} {n : Nat} {xs : List Sp2} (h : M[n]? = some (.lst (xs.map prD))) : toPD M deep (.ref n) = some (.list (xs.map pdP)) := by
  have e : deep = 11 + 1 := rfl
  rw [e, pd_ref M 11 n _ h, pd_prDs M 9 xs]
theorem shaped_ps (xs : List Sp2) : SeqAt.shaped (.list (xs.map pdP)) = true := by
  have h1 : PyData.canLayAll0 (xs.map pdP) = true := by
    induction xs with
    | nil => rfl
    | cons x xs ih => simp [PyData.canLayAll0, PyData.canLay0, pdP, ih]
  have h2 : PyData.depthAll (xs.map pdP) ≤ 3 := by
    induction xs with
    | nil => simp [PyData.depthAll]
    | cons x xs ih =>
      have h1' : PyData.canLayAll0 (xs.map pdP) = true := by
        simp [PyData.canLayAll0, PyData.canLay0, pdP] at h1
        exact h1
      have := ih h1'
      simp [PyData.depthAll, PyData.depth, pdP]
      omega
  unfold SeqAt.shaped
  simp [PyData.canLay0, PyData.depth, h1]
  omega
theorem eqv_ps : ∀ (xs ys : List Sp2), PyData.eqv (.list (xs.map pdP)) (.list (ys.map pdP)) = decide (xs = ys) := by
  have key : ∀ (xs ys : List Sp2), PyData.eqvAll (xs.map pdP) (ys.map pdP) = decide (xs = ys) := by
    intro xs
    induction xs with
    | nil => intro ys; cases ys <;> simp [PyData.eqvAll]
    | cons x xs ih =>
      intro ys
      cases ys with
      | nil => simp [PyData.eqvAll]
      | cons y ys =>
        obtain ⟨x1, x2⟩ := x
        obtain ⟨y1, y2⟩ := y
        simp [PyData.eqvAll, PyData.eqv, pdP, ih]
        by_cases h1 : x1 = y1 <;> by_cases h2 : x2 = y2 <;> by_cases h3 : xs = ys <;> simp [h1, h2, h3]
  intro xs ys
  simp only [PyData.eqv]
  exact key xs ys
theorem g_neP {m n : Nat} {xs ys : List Sp2} {M : Hs} (h1 : M[m]? = some (.lst (xs.map prD))) (h2 : M[n]? = some (.lst (ys.map prD))) : gNe (.ref m) (.ref n) M = some (.bl (!decide (xs = ys)), M) := by
  unfold gNe gEqB
  rw [pd_lstP h1, pd_lstP h2]
  dsimp only
  rw [shaped_ps, shaped_ps, eqv_ps]
  rfl
theorem pairsD_map : ∀ xs : List Sp2, pairsD (xs.map prD) = some xs
  | [] => rfl
  | (a, b) :: xs => by
    rw [List.map_cons]
    show (match pairsD (xs.map prD) with | some ps => some ((a, b) :: ps) | none => none) = _
    rw [pairsD_map xs]
theorem intsOf_prD {xs : List Sp2} (h : xs ≠ []) : intsOf (xs.map prD) = none := by
  cases xs with
  | nil => exact absurd rfl h
  | cons x xs => rfl
theorem g_sortedP {n : Nat} {xs : List Sp2} {M : Hs} (h : itemsA M (.ref n) = some (xs.map prD)) : gSorted [.ref n] M = some (.ref M.length, M ++ [.lst ((srtB SrtO.lexB xs).map prD)]) := by
  unfold gSorted
  dsimp only
  rw [h]
  dsimp only
  cases xs with
  | nil => rfl
  | cons x xs =>
    rw [intsOf_prD (by simp)]
    dsimp only
    rw [pairsD_map]
theorem items_lst {n : Nat} {xs : List D} {M : Hs} (h : M[n]? = some (.lst xs)) : itemsA M (.ref n) = some xs := by
  have e : hSeq M (.ref n) = some xs := by simp [hSeq, h]
  unfold itemsA
  rw [e]
theorem items_set {n : Nat} {xs : List Sp2} {M : Hs} (h : M[n]? = some (.dct (setD xs))) : itemsA M (.ref n) = some (xs.map prD) := by
  have e : hSeq M (.ref n) = none := by simp [hSeq, h]
  have e2 : hDct M n = some (setD xs) := by unfold hDct; rw [h]
  unfold itemsA
  rw [e]
  dsimp only
  rw [e2]
  simp [setD]
end Mi
end
section
set_option maxRecDepth 1000000
set_option maxHeartbeats 4000000
set_option autoImplicit false
namespace Wk_k01
open PySem PySem.Spec PyProof.Rows L2 Mi
def top (i : Nat) : Stmt := PySem.Challenge.pw_couplerreach_k01_whole_keys.main.body.getD i (.Pass ⟨0, 0, 0, 0⟩)
def inCls (st : Stmt) (j : Nat) : Stmt := match st with
  | .ClassDef (body := b) .. => b.getD j (.Pass ⟨0, 0, 0, 0⟩)
  | _ => .Pass ⟨0, 0, 0, 0⟩
def clsN : List Str := ["Organ", "Console", "Line", "OrganError", "InvalidManuals", "InvalidCoupler", "InvalidStop", "InvalidChain", "InvalidOctave", "InvalidTop", "InvalidKey", "InvalidPipe", "InvalidRank", "InvalidManual", "NotComparable", "InvalidMove", "UnknownKnob", "UnknownIndex", "InvalidText"]
def cN (n : Nat) : List Str := ([[], [], [], [], [], ["index"], ["index"], [], [], [], [], [], [], [], [], [], [], [], []] : List (List Str)).getD n []
def GmK (K : PySem.W.Frag) : Gm := ⟨fun n => He.ga K (clsN.getD n ""), cN⟩
def mt_InvalidKey (n : Nat) : Option Bool := ([none, none, none, none, some false, some false, some false, some false, some false, some false, some true, none, none, none, none, none, none, none, none] : List (Option Bool)).getD n none
def mt_InvalidTop (n : Nat) : Option Bool := ([none, none, none, none, some false, some false, some false, some false, some false, some true, some false, none, none, none, none, none, none, none, none] : List (Option Bool)).getD n none
def kt_OrganError (n : Nat) : Option Bool := ([none, none, none, none, some true, some true, some true, some true, some true, some true, some true, none, none, none, none, none, none, none, none] : List (Option Bool)).getD n none
/-- _law_mix: _law_script, _law_seed, _law_state, _law_cell -/
def f__law_mix : MF := fnS 2 4 (sSeq (sSet 2 (xVar 1))
  (sSeq (sFor (ySeq (xVar 0)) (.n 3) (sSet 2 (x2 gMod (xB gInt (aCons (x2 gAdd (x2 gAdd (x2 gMul (xVar 2) (xC (.int 48271))) (x2 gMod (xB gInt (aCons (xVar 3) (aNil))) (xC (.int 2147483629)))) (xC (.int 1))) (aNil))) (xC (.int 2147483647)))))
  (sRet (xLst (aCons (xVar 2) (aCons (xB gListA (aCons (xVar 0) (aNil))) (aCons (xC (.int 0)) (aCons (xC (.int 14)) (aNil)))))))))
/-- _law_next: _law_h, _law_bound, _law_cell -/
def f__law_next : MF := fnS 2 3 (sSeq (sSet 2 (x2 gIxA (x2 gAdd (x2 gIxA (xVar 0) (xC (.int 1))) (xLst (aCons (xC (.int 0)) (aNil)))) (x2 gMod (xB gInt (aCons (x2 gIxA (xVar 0) (xC (.int 2))) (aNil))) (xB gMax2 (aCons (xC (.int 1)) (aCons (xB gLen (aCons (x2 gIxA (xVar 0) (xC (.int 1))) (aNil))) (aNil)))))))
  (sSeq (sIf (tB1 (x2 gGe (xVar 2) (x2 gPow (xC (.int 10)) (xC (.int 18))))) (sSeq (sPut gPutA (x2 gIxA (xVar 0) (xC (.int 1))) (x2 gMod (xB gInt (aCons (x2 gIxA (xVar 0) (xC (.int 2))) (aNil))) (xB gLen (aCons (x2 gIxA (xVar 0) (xC (.int 1))) (aNil)))) (x2 gDiv (xVar 2) (xVar 1)))
  (sRet (x2 gMod (xB gInt (aCons (xVar 2) (aNil))) (xVar 1)))) (sPass))
  (sSeq (sPut gPutA (xVar 0) (xC (.int 0)) (x2 gMod (xB gInt (aCons (x2 gAdd (x2 gAdd (x2 gMul (x2 gIxA (xVar 0) (xC (.int 0))) (xC (.int 48271))) (x2 gMul (xVar 2) (xC (.int 69621)))) (xC (.int 11))) (aNil))) (xC (.int 2147483647))))
  (sSeq (sPut gPutA (xVar 0) (xC (.int 2)) (x2 gAdd (x2 gIxA (xVar 0) (xC (.int 2))) (xC (.int 1))))
  (sRet (x2 gMod (xB gInt (aCons (x2 gDiv (x2 gIxA (xVar 0) (xC (.int 0))) (xC (.int 7))) (aNil))) (xVar 1)))))))
/-- _law_some: _law_h, _law_things, _law_many, _law_left, _law_found, _law_k -/
def f__law_some : MF := fnS 3 6 (sSeq (sSet 3 (xB gListA (aCons (xVar 1) (aNil))))
  (sSeq (sSet 4 (xLst (aNil)))
  (sSeq (sFor (yRg1 (xVar 2)) (.n 5) (sIf (tB1 (x2 gNe (xVar 3) (xLst (aNil)))) (sExpr (xMeth isLst gAppend (xVar 4) (aCons (xMeth isLst gPopAt (xVar 3) (aCons (xCall 2 f__law_next (aCons (xVar 0) (aCons (xB gLen (aCons (xVar 3) (aNil))) (aNil)))) (aNil))) (aNil)))) (sPass)))
  (sRet (xB gTuple (aCons (xVar 4) (aNil)))))))
/-- _law_couplers: _law_many, _law_found, _law_first, _law_second, _law_shift -/
def f__law_couplers : MF := fnS 1 5 (sSeq (sSet 1 (xLst (aNil)))
  (sSeq (sFor (yRg1 (xVar 0)) (.n 2) (sFor (yRg1 (xVar 0)) (.n 3) (sSet 1 (x2 gAdd (xVar 1) (xLc (yRg2 (xNeg (xC (.int 2))) (xC (.int 3))) [4] (.n 4) (tOr2 (tB1 (x2 gNe (xVar 4) (xC (.int 0)))) (tB1 (x2 gNe (xVar 2) (xVar 3)))) (xTup (aCons (xVar 2) (aCons (xVar 3) (aCons (xVar 4) (aNil))))))))))
  (sRet (xVar 1))))
/-- _law_stops: _law_many, _law_ranks, _law_found, _law_manual, _law_rank, _law_shift -/
def f__law_stops : MF := fnS 2 6 (sSeq (sSet 2 (xLst (aNil)))
  (sSeq (sFor (yRg1 (xVar 0)) (.n 3) (sFor (yRg1 (xVar 1)) (.n 4) (sSet 2 (x2 gAdd (xVar 2) (xLc (yRg2 (xNeg (xC (.int 2))) (xC (.int 3))) [5] (.n 5) (tTrue) (xTup (aCons (xVar 3) (aCons (xVar 4) (aCons (xVar 5) (aNil))))))))))
  (sRet (xVar 2))))
/-- _law_organ: _law_h, _law_links, _law_stops_here, _law_ranks, _law_many, _law_chain, _law_octave, _law_couplers_here -/
def f__law_organ : MF := fnS 4 8 (sSeq (sSet 4 (x2 gAdd (xC (.int 1)) (xB gInt (aCons (x2 gGt (xCall 2 f__law_next (aCons (xVar 0) (aCons (xC (.int 3)) (aNil)))) (xC (.int 0))) (aNil)))))
  (sSeq (sSet 5 (x2 gIxA (xLst (aCons (xC (.str "all")) (aCons (xC (.str "all")) (aCons (xC (.str "pressed")) (aNil))))) (xCall 2 f__law_next (aCons (xVar 0) (aCons (xC (.int 3)) (aNil))))))
  (sSeq (sSet 6 (x2 gIxA (xLst (aCons (xC (.int 0)) (aCons (xC (.int 0)) (aCons (xC (.int 2)) (aCons (xC (.int 3)) (aNil)))))) (xCall 2 f__law_next (aCons (xVar 0) (aCons (xC (.int 4)) (aNil))))))
  (sSeq (sSet 7 (xCall 3 f__law_some (aCons (xVar 0) (aCons (xCall 1 f__law_couplers (aCons (xVar 4) (aNil))) (aCons (xCall 2 f__law_next (aCons (xVar 0) (aCons (x2 gAdd (xVar 1) (xC (.int 1))) (aNil)))) (aNil))))))
  (sRet (xLst (aCons (xVar 4) (aCons (xVar 7) (aCons (xCall 3 f__law_some (aCons (xVar 0) (aCons (xCall 2 f__law_stops (aCons (xVar 4) (aCons (xVar 3) (aNil)))) (aCons (x2 gAdd (xC (.int 1)) (xCall 2 f__law_next (aCons (xVar 0) (aCons (xVar 2) (aNil))))) (aNil))))) (aCons (xVar 5) (aCons (xVar 6) (aNil))))))))))))
/-- is_integer: value, least, most -/
def f_is_integer : MF := fnS 3 3 (sRet (xAnd (xIs "int" (xVar 0)) (xAnd (xNot (xIs "bool" (xVar 0))) (x3 gLe gLe (xVar 1) (xVar 0) (xVar 2)))))
/-- is_coupler: value, many, own -/
def f_is_coupler : MF := fnS 2 3 (sSeq (sIf (tOr2 (tNot1 (tB1 (xIs "tuple" (xVar 0)))) (tOr2 (tB1 (x2 gNe (xB gLen (aCons (xVar 0) (aNil))) (xC (.int 3)))) (tNot1 (tB1 (xB gAll (aCons (xLc (ySeq (xCut (xVar 0) (oNone) (oSome (xC (.int 2))))) [2] (.n 2) (tTrue) (xCall 3 f_is_integer (aCons (xVar 2) (aCons (xC (.int 0)) (aCons (x2 gSub (xVar 1) (xC (.int 1))) (aNil)))))) (aNil))))))) (sRet (xC (.bl false))) (sPass))
  (sRet (xAnd (xCall 3 f_is_integer (aCons (x2 gIxA (xVar 0) (xC (.int 2))) (aCons (xNeg (xC (.int 2))) (aCons (xC (.int 2)) (aNil))))) (xOr (x2 gNe (x2 gIxA (xVar 0) (xC (.int 0))) (x2 gIxA (xVar 0) (xC (.int 1)))) (x2 gNe (x2 gIxA (xVar 0) (xC (.int 2))) (xC (.int 0)))))))
/-- look_at_couplers: value, many, index, one -/
def f_look_at_couplers : MF := fnS 2 4 (sSeq (sIf (tOr2 (tNot1 (tB1 (xIs "tuple" (xVar 0)))) (tB1 (x2 gGt (xB gLen (aCons (xVar 0) (aNil))) (xC (.int 5))))) (sRaise 5 1 (aCons (xC .non) (aNil))) (sPass))
  (sFor (yEnum (xVar 0)) (.t [.n 2, .n 3]) (sIf (tOr2 (tNot1 (tB1 (xCall 2 f_is_coupler (aCons (xVar 3) (aCons (xVar 1) (aNil)))))) (tB1 (x2 (gInA id) (xVar 3) (xCut (xVar 0) (oNone) (oSome (xVar 2)))))) (sRaise 5 1 (aCons (xVar 2) (aNil))) (sPass))))
/-- is_stop: value, many -/
def f_is_stop : MF := fnS 2 2 (sSeq (sIf (tOr2 (tNot1 (tB1 (xIs "tuple" (xVar 0)))) (tOr2 (tB1 (x2 gNe (xB gLen (aCons (xVar 0) (aNil))) (xC (.int 3)))) (tNot1 (tB1 (xCall 3 f_is_integer (aCons (x2 gIxA (xVar 0) (xC (.int 0))) (aCons (xC (.int 0)) (aCons (x2 gSub (xVar 1) (xC (.int 1))) (aNil))))))))) (sRet (xC (.bl false))) (sPass))
  (sRet (xAnd (xCall 3 f_is_integer (aCons (x2 gIxA (xVar 0) (xC (.int 1))) (aCons (xC (.int 0)) (aCons (xC (.int 2)) (aNil))))) (xCall 3 f_is_integer (aCons (x2 gIxA (xVar 0) (xC (.int 2))) (aCons (xNeg (xC (.int 2))) (aCons (xC (.int 2)) (aNil))))))))
/-- look_at_stops: value, many, index, one -/
def f_look_at_stops : MF := fnS 2 4 (sSeq (sIf (tOr2 (tNot1 (tB1 (xIs "tuple" (xVar 0)))) (tNot1 (tB1 (x3 gLe gLe (xC (.int 1)) (xB gLen (aCons (xVar 0) (aNil))) (xC (.int 4)))))) (sRaise 6 1 (aCons (xC .non) (aNil))) (sPass))
  (sFor (yEnum (xVar 0)) (.t [.n 2, .n 3]) (sIf (tOr2 (tNot1 (tB1 (xCall 2 f_is_stop (aCons (xVar 3) (aCons (xVar 1) (aNil)))))) (tB1 (x2 (gInA id) (xVar 3) (xCut (xVar 0) (oNone) (oSome (xVar 2)))))) (sRaise 6 1 (aCons (xVar 2) (aNil))) (sPass))))
/-- Organ.__init__: self, manuals, couplers, stops, chain, octave -/
def f_Organ_init : MF := fnS 6 6 (sSeq (sIf (tNot1 (tB1 (xCall 3 f_is_integer (aCons (xVar 1) (aCons (xC (.int 1)) (aCons (xC (.int 2)) (aNil))))))) (sRaise0 4) (sPass))
  (sSeq (sExpr (xCall 2 f_look_at_couplers (aCons (xVar 2) (aCons (xVar 1) (aNil)))))
  (sSeq (sExpr (xCall 2 f_look_at_stops (aCons (xVar 3) (aCons (xVar 1) (aNil)))))
  (sSeq (sIf (tOr2 (tNot1 (tB1 (xIs "str" (xVar 4)))) (tB1 (x2 (gInA not) (xVar 4) (xC (.tup [(.str "all"), (.str "pressed")]))))) (sRaise0 7) (sPass))
  (sSeq (sIf (tOr2 (tNot1 (tB1 (xCall 3 f_is_integer (aCons (xVar 5) (aCons (xC (.int 0)) (aCons (xC (.int 3)) (aNil))))))) (tB1 (x2 (gInA not) (xVar 5) (xC (.tup [(.int 0), (.int 2), (.int 3)]))))) (sRaise0 8) (sPass))
  (sSeq (sFld 0 2 (xVar 0) (xVar 1))
  (sSeq (sFld 0 1 (xVar 0) (xVar 2))
  (sSeq (sFld 0 4 (xVar 0) (xVar 3))
  (sSeq (sFld 0 3 (xVar 0) (xVar 4))
  (sFld 0 0 (xVar 0) (xVar 5)))))))))))
/-- _law_built: _law_t -/
def f__law_built : MF := fnS 1 1 (sRet (xMake (.slo 0 []) 6 f_Organ_init (aCons (x2 gIxA (xVar 0) (xC (.int 0))) (aCons (x2 gIxA (xVar 0) (xC (.int 1))) (aCons (x2 gIxA (xVar 0) (xC (.int 2))) (aCons (x2 gIxA (xVar 0) (xC (.int 3))) (aCons (x2 gIxA (xVar 0) (xC (.int 4))) (aNil))))))))
/-- look_at_top: top, most -/
def f_look_at_top : MF := fnS 2 2 (sIf (tNot1 (tB1 (xCall 3 f_is_integer (aCons (xVar 0) (aCons (xC (.int 0)) (aCons (xVar 1) (aNil))))))) (sRaise0 9) (sPass))
/-- look_at_key: organ, top, manual, key -/
def f_look_at_key : MF := fnS 4 4 (sIf (tOr2 (tNot1 (tB1 (xCall 3 f_is_integer (aCons (xVar 2) (aCons (xC (.int 0)) (aCons (x2 gSub (xFld 0 2 (xVar 0)) (xC (.int 1))) (aNil))))))) (tNot1 (tB1 (xCall 3 f_is_integer (aCons (xVar 3) (aCons (xC (.int 0)) (aCons (xVar 1) (aNil)))))))) (sRaise0 10) (sPass))
/-- led_to: place, shift, top, octave, found -/
def f_led_to : MF := fnS 4 5 (sSeq (sSet 4 (x2 gAdd (xVar 0) (xVar 1)))
  (sSeq (sIf (tAnd2 (tB1 (x2 gGt (xVar 3) (xC (.int 0)))) (tB1 (x2 gLt (xVar 4) (xC (.int 0))))) (sSet 4 (x2 gAdd (xVar 4) (xVar 3))) (sIf (tAnd2 (tB1 (x2 gGt (xVar 3) (xC (.int 0)))) (tB1 (x2 gGt (xVar 4) (xVar 2)))) (sSet 4 (x2 gSub (xVar 4) (xVar 3))) (sPass)))
  (sRet (xIf (tB1 (x3 gLe gLe (xC (.int 0)) (xVar 4) (xVar 2))) (xVar 4) (xC .non)))))
/-- led_keys: organ, links, top, spot, found, first, second, shift, key -/
def f_led_keys : MF := fnS 4 9 (sSeq (sSet 4 (xLst (aNil)))
  (sSeq (sFor (ySeq (xVar 1)) (.t [.n 5, .n 6, .n 7]) (sIf (tB1 (x2 gEq (xVar 5) (x2 gIxA (xVar 3) (xC (.int 0))))) (sSeq (sSet 8 (xCall 4 f_led_to (aCons (x2 gIxA (xVar 3) (xC (.int 1))) (aCons (xVar 7) (aCons (xVar 2) (aCons (xFld 0 0 (xVar 0)) (aNil)))))))
  (sIf (tB1 (x2 gIsNot (xVar 8) (xC .non))) (sExpr (xMeth isLst gAppend (xVar 4) (aCons (xTup (aCons (xVar 6) (aCons (xVar 8) (aNil)))) (aNil)))) (sPass))) (sPass)))
  (sRet (xVar 4))))
/-- all_on: organ, links, top, pressed, found, spot, waiting, later -/
def f_all_on : MF := fnS 4 8 (sSeq (sSet 4 (xDict))
  (sSeq (sFor (ySeq (xVar 3)) (.n 5) (sPut gPutA (xVar 4) (xVar 5) (xC (.bl true))))
  (sSeq (sSet 6 (xB gListA (aCons (xVar 3) (aNil))))
  (sSeq (sWhile (tB1 (x2 gNe (xVar 6) (xLst (aNil)))) (sSeq (sSet 5 (xMeth isLst gPop (xVar 6) aNil))
  (sFor (ySeq (xCall 4 f_led_keys (aCons (xVar 0) (aCons (xVar 1) (aCons (xVar 2) (aCons (xVar 5) (aNil))))))) (.n 7) (sIf (tB1 (x2 (gInA not) (xVar 7) (xVar 4))) (sSeq (sPut gPutA (xVar 4) (xVar 7) (xC (.bl true)))
  (sIf (tB1 (x2 gEq (xFld 0 3 (xVar 0)) (xC (.str "all")))) (sExpr (xMeth isLst gAppend (xVar 6) (aCons (xVar 7) (aNil)))) (sPass))) (sPass)))))
  (sRet (xB gSorted (aCons (xVar 4) (aNil))))))))
/-- keys_on: organ, top, manual, key -/
def f_keys_on : MF := fnS 4 4 (sSeq (sExpr (xCall 2 f_look_at_top (aCons (xVar 1) (aCons (xC (.int 200)) (aNil)))))
  (sSeq (sExpr (xCall 4 f_look_at_key (aCons (xVar 0) (aCons (xVar 1) (aCons (xVar 2) (aCons (xVar 3) (aNil)))))))
  (sRet (xCall 4 f_all_on (aCons (xVar 0) (aCons (xFld 0 1 (xVar 0)) (aCons (xVar 1) (aCons (xLst (aCons (xTup (aCons (xVar 2) (aCons (xVar 3) (aNil)))) (aNil))) (aNil)))))))))
/-- _law_led: _law_t, _law_top, _law_place, _law_shift, _law_found -/
def f__law_led : MF := fnS 4 5 (sSeq (sSet 4 (x2 gAdd (xVar 2) (xVar 3)))
  (sSeq (sIf (tAnd2 (tB1 (x2 gGt (x2 gIxA (xVar 0) (xC (.int 4))) (xC (.int 0)))) (tB1 (x2 gLt (xVar 4) (xC (.int 0))))) (sSet 4 (x2 gAdd (xVar 4) (x2 gIxA (xVar 0) (xC (.int 4))))) (sIf (tAnd2 (tB1 (x2 gGt (x2 gIxA (xVar 0) (xC (.int 4))) (xC (.int 0)))) (tB1 (x2 gGt (xVar 4) (xVar 1)))) (sSet 4 (x2 gSub (xVar 4) (x2 gIxA (xVar 0) (xC (.int 4))))) (sPass)))
  (sRet (xIf (tB1 (x3 gLe gLe (xC (.int 0)) (xVar 4) (xVar 1))) (xVar 4) (xC .non)))))
/-- _law_on: _law_t, _law_top, _law_pressed, _law_known, _law_queue, _law_spot, _law_first, _law_second, _law_shift, _law_key -/
def f__law_on : MF := fnS 3 10 (sSeq (sSet 3 (xDict))
  (sSeq (sSet 4 (xLst (aNil)))
  (sSeq (sFor (ySeq (xVar 2)) (.n 5) (sSeq (sPut gPutA (xVar 3) (xVar 5) (xC (.bl true)))
  (sExpr (xMeth isLst gAppend (xVar 4) (aCons (xVar 5) (aNil))))))
  (sSeq (sWhile (tB1 (x2 gNe (xVar 4) (xLst (aNil)))) (sSeq (sSet 5 (x2 gIxA (xVar 4) (xNeg (xC (.int 1)))))
  (sSeq (sSet 4 (xCut (xVar 4) (oNone) (oSome (xNeg (xC (.int 1))))))
  (sFor (ySeq (x2 gIxA (xVar 0) (xC (.int 1)))) (.t [.n 6, .n 7, .n 8]) (sSeq (sSet 9 (xIf (tB1 (x2 gEq (xVar 6) (x2 gIxA (xVar 5) (xC (.int 0))))) (xCall 4 f__law_led (aCons (xVar 0) (aCons (xVar 1) (aCons (x2 gIxA (xVar 5) (xC (.int 1))) (aCons (xVar 8) (aNil)))))) (xC .non)))
  (sIf (tAnd2 (tB1 (x2 gIsNot (xVar 9) (xC .non))) (tB1 (x2 (gInA not) (xTup (aCons (xVar 7) (aCons (xVar 9) (aNil)))) (xVar 3)))) (sSeq (sPut gPutA (xVar 3) (xTup (aCons (xVar 7) (aCons (xVar 9) (aNil)))) (xC (.bl true)))
  (sIf (tB1 (x2 gEq (x2 gIxA (xVar 0) (xC (.int 3))) (xC (.str "all")))) (sExpr (xMeth isLst gAppend (xVar 4) (aCons (xTup (aCons (xVar 7) (aCons (xVar 9) (aNil)))) (aNil)))) (sPass))) (sPass)))))))
  (sRet (xB gSorted (aCons (xB gListA (aCons (xVar 3) (aNil))) (aNil))))))))
/-- all_pipes: organ, ranks, top, spots, found, manual, key, own, rank, shift, pipe -/
def f_all_pipes : MF := fnS 4 11 (sSeq (sSet 4 (xDict))
  (sSeq (sFor (ySeq (xVar 3)) (.t [.n 5, .n 6]) (sFor (ySeq (xVar 1)) (.t [.n 7, .n 8, .n 9]) (sSeq (sSet 10 (xIf (tB1 (x2 gEq (xVar 7) (xVar 5))) (xCall 4 f_led_to (aCons (xVar 6) (aCons (xVar 9) (aCons (xVar 2) (aCons (xFld 0 0 (xVar 0)) (aNil)))))) (xC .non)))
  (sIf (tB1 (x2 gIsNot (xVar 10) (xC .non))) (sPut gPutA (xVar 4) (xTup (aCons (xVar 8) (aCons (xVar 10) (aNil)))) (xC (.bl true))) (sPass)))))
  (sRet (xB gSorted (aCons (xVar 4) (aNil))))))
/-- pipes_by: organ, top, manual, key -/
def f_pipes_by : MF := fnS 4 4 (sRet (xCall 4 f_all_pipes (aCons (xVar 0) (aCons (xFld 0 4 (xVar 0)) (aCons (xVar 1) (aCons (xCall 4 f_all_on (aCons (xVar 0) (aCons (xFld 0 1 (xVar 0)) (aCons (xVar 1) (aCons (xLst (aCons (xTup (aCons (xVar 2) (aCons (xVar 3) (aNil)))) (aNil))) (aNil)))))) (aNil)))))))
/-- pipes: organ, top, manual, key -/
def f_pipes : MF := fnS 4 4 (sSeq (sExpr (xCall 2 f_look_at_top (aCons (xVar 1) (aCons (xC (.int 200)) (aNil)))))
  (sSeq (sExpr (xCall 4 f_look_at_key (aCons (xVar 0) (aCons (xVar 1) (aCons (xVar 2) (aCons (xVar 3) (aNil)))))))
  (sRet (xCall 4 f_pipes_by (aCons (xVar 0) (aCons (xVar 1) (aCons (xVar 2) (aCons (xVar 3) (aNil)))))))))
/-- _law_heard: _law_t, _law_top, _law_pressed, _law_found, _law_manual, _law_key, _law_own, _law_rank, _law_shift, _law_pipe -/
def f__law_heard : MF := fnS 3 10 (sSeq (sSet 3 (xDict))
  (sSeq (sFor (ySeq (xCall 3 f__law_on (aCons (xVar 0) (aCons (xVar 1) (aCons (xVar 2) (aNil)))))) (.t [.n 4, .n 5]) (sFor (ySeq (x2 gIxA (xVar 0) (xC (.int 2)))) (.t [.n 6, .n 7, .n 8]) (sSeq (sSet 9 (xIf (tB1 (x2 gEq (xVar 6) (xVar 4))) (xCall 4 f__law_led (aCons (xVar 0) (aCons (xVar 1) (aCons (xVar 5) (aCons (xVar 8) (aNil)))))) (xC .non)))
  (sIf (tB1 (x2 gIsNot (xVar 9) (xC .non))) (sPut gPutA (xVar 3) (xTup (aCons (xVar 7) (aCons (xVar 9) (aNil)))) (xC (.bl true))) (sPass)))))
  (sRet (xB gSorted (aCons (xB gListA (aCons (xVar 3) (aNil))) (aNil))))))
/-- _law_refused: _law_organ_here, _law_top, _law_manual, _law_key, _law_kind, _law_told, e -/
noncomputable def f__law_refused : MF := fnS 5 7 (sSeq (sSet 5 (xC .non))
  (sSeq (sTry cN (sIf (tB1 (x2 gEq (xVar 4) (xC (.int 0)))) (sExpr (xCall 4 f_keys_on (aCons (xVar 0) (aCons (xVar 1) (aCons (xVar 2) (aCons (xVar 3) (aNil))))))) (sExpr (xCall 4 f_pipes (aCons (xVar 0) (aCons (xVar 1) (aCons (xVar 2) (aCons (xVar 3) (aNil)))))))) [⟨mt_InvalidTop, some 6, fun a d c fs => sSet 5 (xIf (tB1 (xIsE a d c kt_OrganError (xVar 6))) (xC (.str "top")) (xC (.str "class")))⟩, ⟨mt_InvalidKey, none, fun a d c fs => sSet 5 (xC (.str "key"))⟩])
  (sRet (xVar 5))))
/-- law: _law_script, _law_h, _law_t, _law_organ_here, _law_top, _law_manual, _law_key, _law_kind, _law_odd -/
noncomputable def f_law : MF := fnS 1 9 (sSeq (sSet 1 (xCall 2 f__law_mix (aCons (xVar 0) (aCons (xC (.int 1)) (aNil)))))
  (sSeq (sSet 2 (xCall 4 f__law_organ (aCons (xVar 1) (aCons (xC (.int 5)) (aCons (xC (.int 4)) (aCons (xC (.int 3)) (aNil)))))))
  (sSeq (sSet 3 (xCall 1 f__law_built (aCons (xVar 2) (aNil))))
  (sSeq (sSet 4 (xCall 2 f__law_next (aCons (xVar 1) (aCons (xC (.int 13)) (aNil)))))
  (sSeq (sFor (yRg1 (x2 gIxA (xVar 2) (xC (.int 0)))) (.n 5) (sFor (yRg1 (x2 gAdd (xVar 4) (xC (.int 1)))) (.n 6) (sSeq (sIf (tB1 (x2 gNe (xCall 4 f_keys_on (aCons (xVar 3) (aCons (xVar 4) (aCons (xVar 5) (aCons (xVar 6) (aNil)))))) (xCall 3 f__law_on (aCons (xVar 2) (aCons (xVar 4) (aCons (xLst (aCons (xTup (aCons (xVar 5) (aCons (xVar 6) (aNil)))) (aNil))) (aNil))))))) (sRet (xC (.bl false))) (sPass))
  (sIf (tB1 (x2 gNe (xCall 4 f_pipes (aCons (xVar 3) (aCons (xVar 4) (aCons (xVar 5) (aCons (xVar 6) (aNil)))))) (xCall 3 f__law_heard (aCons (xVar 2) (aCons (xVar 4) (aCons (xLst (aCons (xTup (aCons (xVar 5) (aCons (xVar 6) (aNil)))) (aNil))) (aNil))))))) (sRet (xC (.bl false))) (sPass)))))
  (sSeq (sSet 7 (xCall 2 f__law_next (aCons (xVar 1) (aCons (xC (.int 2)) (aNil)))))
  (sSeq (sSet 8 (x2 gIxA (xLst (aCons (xNeg (xC (.int 1))) (aCons (xC (.int 201)) (aCons (xC (.bl true)) (aCons (xC .non) (aCons (xC (.str "3")) (aCons (xTup (aCons (xC (.int 1)) (aNil))) (aNil)))))))) (xCall 2 f__law_next (aCons (xVar 1) (aCons (xC (.int 6)) (aNil))))))
  (sSeq (sIf (tOr2 (tB1 (x2 gNe (xCall 5 f__law_refused (aCons (xVar 3) (aCons (xVar 8) (aCons (xC .non) (aCons (xC .non) (aCons (xVar 7) (aNil))))))) (xC (.str "top")))) (tB1 (x2 gIsNot (xCall 5 f__law_refused (aCons (xVar 3) (aCons (xC (.int 200)) (aCons (xC (.int 0)) (aCons (xC (.int 200)) (aCons (xVar 7) (aNil))))))) (xC .non)))) (sRet (xC (.bl false))) (sPass))
  (sSeq (sSet 8 (x2 gIxA (xLst (aCons (xTup (aCons (xNeg (xC (.int 1))) (aCons (xC (.int 0)) (aNil)))) (aCons (xTup (aCons (x2 gIxA (xVar 2) (xC (.int 0))) (aCons (xC (.int 0)) (aNil)))) (aCons (xTup (aCons (xC (.bl true)) (aCons (xC (.int 0)) (aNil)))) (aCons (xTup (aCons (xC .non) (aCons (xC (.int 0)) (aNil)))) (aCons (xTup (aCons (xC (.int 0)) (aCons (xNeg (xC (.int 1))) (aNil)))) (aCons (xTup (aCons (xC (.int 0)) (aCons (x2 gAdd (xVar 4) (xC (.int 1))) (aNil)))) (aCons (xTup (aCons (xC (.int 0)) (aCons (xC (.bl true)) (aNil)))) (aCons (xTup (aCons (xC (.int 0)) (aCons (xC (.str "0")) (aNil)))) (aNil)))))))))) (xCall 2 f__law_next (aCons (xVar 1) (aCons (xC (.int 8)) (aNil))))))
  (sRet (x2 gEq (xCall 5 f__law_refused (aCons (xVar 3) (aCons (xVar 4) (aCons (x2 gIxA (xVar 8) (xC (.int 0))) (aCons (x2 gIxA (xVar 8) (xC (.int 1))) (aCons (xVar 7) (aNil))))))) (xC (.str "key")))))))))))))
def d__law_mix : He.DefD := ⟨("_law_mix", none), "_law_mix", "_law_mix", defArgs (top 36), defBody (top 36), defScope (top 36), [], []⟩
def d__law_next : He.DefD := ⟨("_law_next", none), "_law_next", "_law_next", defArgs (top 37), defBody (top 37), defScope (top 37), [], []⟩
def d__law_some : He.DefD := ⟨("_law_some", none), "_law_some", "_law_some", defArgs (top 38), defBody (top 38), defScope (top 38), [], []⟩
def d__law_couplers : He.DefD := ⟨("_law_couplers", none), "_law_couplers", "_law_couplers", defArgs (top 39), defBody (top 39), defScope (top 39), [], []⟩
def d__law_stops : He.DefD := ⟨("_law_stops", none), "_law_stops", "_law_stops", defArgs (top 40), defBody (top 40), defScope (top 40), [], []⟩
def d__law_organ : He.DefD := ⟨("_law_organ", none), "_law_organ", "_law_organ", defArgs (top 41), defBody (top 41), defScope (top 41), [], []⟩
def d_is_integer : He.DefD := ⟨("is_integer", none), "is_integer", "is_integer", defArgs (top 17), defBody (top 17), defScope (top 17), [], []⟩
def d_InvalidCoupler_init : He.DefD := ⟨("InvalidCoupler", some "__init__"), "__init__", "InvalidCoupler.__init__", defArgs (inCls (top 4) 0), defBody (inCls (top 4) 0), defScope (inCls (top 4) 0), [], []⟩
def d_is_coupler : He.DefD := ⟨("is_coupler", none), "is_coupler", "is_coupler", defArgs (top 18), defBody (top 18), defScope (top 18), [], []⟩
def d_look_at_couplers : He.DefD := ⟨("look_at_couplers", none), "look_at_couplers", "look_at_couplers", defArgs (top 20), defBody (top 20), defScope (top 20), [], []⟩
def d_InvalidStop_init : He.DefD := ⟨("InvalidStop", some "__init__"), "__init__", "InvalidStop.__init__", defArgs (inCls (top 5) 0), defBody (inCls (top 5) 0), defScope (inCls (top 5) 0), [], []⟩
def d_is_stop : He.DefD := ⟨("is_stop", none), "is_stop", "is_stop", defArgs (top 19), defBody (top 19), defScope (top 19), [], []⟩
def d_look_at_stops : He.DefD := ⟨("look_at_stops", none), "look_at_stops", "look_at_stops", defArgs (top 21), defBody (top 21), defScope (top 21), [], []⟩
def d_Organ_init : He.DefD := ⟨("Organ", some "__init__"), "__init__", "Organ.__init__", defArgs (inCls (top 22) 1), defBody (inCls (top 22) 1), defScope (inCls (top 22) 1), [], []⟩
def d__law_built : He.DefD := ⟨("_law_built", none), "_law_built", "_law_built", defArgs (top 42), defBody (top 42), defScope (top 42), [], []⟩
def d_look_at_top : He.DefD := ⟨("look_at_top", none), "look_at_top", "look_at_top", defArgs (top 27), defBody (top 27), defScope (top 27), [], []⟩
def d_look_at_key : He.DefD := ⟨("look_at_key", none), "look_at_key", "look_at_key", defArgs (top 28), defBody (top 28), defScope (top 28), [], []⟩
def d_led_to : He.DefD := ⟨("led_to", none), "led_to", "led_to", defArgs (top 24), defBody (top 24), defScope (top 24), [], []⟩
def d_led_keys : He.DefD := ⟨("led_keys", none), "led_keys", "led_keys", defArgs (top 29), defBody (top 29), defScope (top 29), [], []⟩
def d_all_on : He.DefD := ⟨("all_on", none), "all_on", "all_on", defArgs (top 30), defBody (top 30), defScope (top 30), [], []⟩
def d_keys_on : He.DefD := ⟨("keys_on", none), "keys_on", "keys_on", defArgs (top 32), defBody (top 32), defScope (top 32), [], []⟩
def d__law_led : He.DefD := ⟨("_law_led", none), "_law_led", "_law_led", defArgs (top 43), defBody (top 43), defScope (top 43), [], []⟩
def d__law_on : He.DefD := ⟨("_law_on", none), "_law_on", "_law_on", defArgs (top 44), defBody (top 44), defScope (top 44), [], []⟩
def d_all_pipes : He.DefD := ⟨("all_pipes", none), "all_pipes", "all_pipes", defArgs (top 31), defBody (top 31), defScope (top 31), [], []⟩
def d_pipes_by : He.DefD := ⟨("pipes_by", none), "pipes_by", "pipes_by", defArgs (top 33), defBody (top 33), defScope (top 33), [], []⟩
def d_pipes : He.DefD := ⟨("pipes", none), "pipes", "pipes", defArgs (top 34), defBody (top 34), defScope (top 34), [], []⟩
def d__law_heard : He.DefD := ⟨("_law_heard", none), "_law_heard", "_law_heard", defArgs (top 45), defBody (top 45), defScope (top 45), [], []⟩
def d__law_refused : He.DefD := ⟨("_law_refused", none), "_law_refused", "_law_refused", defArgs (top 46), defBody (top 46), defScope (top 46), [], []⟩
def d_law : He.DefD := ⟨("law", none), "law", "law", defArgs (top 47), defBody (top 47), defScope (top 47), [], []⟩
def fn : List He.DefD := [d__law_mix, d__law_next, d__law_some, d__law_couplers, d__law_stops, d__law_organ, d_is_integer, d_InvalidCoupler_init, d_is_coupler, d_look_at_couplers, d_InvalidStop_init, d_is_stop, d_look_at_stops, d_Organ_init, d__law_built, d_look_at_top, d_look_at_key, d_led_to, d_led_keys, d_all_on, d_keys_on, d__law_led, d__law_on, d_all_pipes, d_pipes_by, d_pipes, d__law_heard, d__law_refused, d_law]
def fa : List Fx := [.he (.free "int"),
  .he (.free "list"),
  .he (.free "len"),
  .he (.free "max"),
  .he (.free "range"),
  .he (.free "tuple"),
  .he (.free "isinstance"),
  .he (.free "bool"),
  .he (.glo "InvalidManuals"),
  .he (.exc "InvalidManuals"),
  .cst "MOST_COUPLERS" (.int 5),
  .he (.glo "InvalidCoupler"),
  .oex "InvalidCoupler" ["index"],
  .he (.free "enumerate"),
  .he (.free "all"),
  .cst "MOST_SHIFT" (.int 2),
  .cst "MOST_STOPS" (.int 4),
  .he (.glo "InvalidStop"),
  .oex "InvalidStop" ["index"],
  .cst "MOST_RANK" (.int 2),
  .he (.free "str"),
  .cst "CHAINS" (.tup [(.str "all"), (.str "pressed")]),
  .he (.glo "InvalidChain"),
  .he (.exc "InvalidChain"),
  .cst "OCTAVES" (.tup [(.int 0), (.int 2), (.int 3)]),
  .he (.glo "InvalidOctave"),
  .he (.exc "InvalidOctave"),
  .slc "Organ",
  .slt "Organ" "many" 2,
  .slt "Organ" "links" 1,
  .slt "Organ" "ranks" 4,
  .slt "Organ" "passing" 3,
  .slt "Organ" "by" 0,
  .he (.glo "Organ"),
  .he (.mkr "Organ"),
  .he (.glo "InvalidTop"),
  .he (.exc "InvalidTop"),
  .cst "MOST_TOP" (.int 200),
  .he (.glo "InvalidKey"),
  .he (.exc "InvalidKey"),
  .he (.free "sorted"),
  .he (.glo "OrganError"),
  .he (.exm "InvalidManuals" "InvalidKey" false),
  .he (.exm "InvalidCoupler" "InvalidKey" false),
  .he (.exm "InvalidStop" "InvalidKey" false),
  .he (.exm "InvalidChain" "InvalidKey" false),
  .he (.exm "InvalidOctave" "InvalidKey" false),
  .he (.exm "InvalidTop" "InvalidKey" false),
  .he (.exm "InvalidKey" "InvalidKey" true),
  .he (.exm "InvalidManuals" "InvalidTop" false),
  .he (.exm "InvalidCoupler" "InvalidTop" false),
  .he (.exm "InvalidStop" "InvalidTop" false),
  .he (.exm "InvalidChain" "InvalidTop" false),
  .he (.exm "InvalidOctave" "InvalidTop" false),
  .he (.exm "InvalidTop" "InvalidTop" true),
  .he (.exm "InvalidKey" "InvalidTop" false),
  .kit "InvalidManuals" "OrganError" true,
  .kit "InvalidCoupler" "OrganError" true,
  .kit "InvalidStop" "OrganError" true,
  .kit "InvalidChain" "OrganError" true,
  .kit "InvalidOctave" "OrganError" true,
  .kit "InvalidTop" "OrganError" true,
  .kit "InvalidKey" "OrganError" true,
  .xcc "InvalidManuals",
  .xcc "InvalidCoupler",
  .xcc "InvalidStop",
  .xcc "InvalidChain",
  .xcc "InvalidOctave",
  .xcc "InvalidTop",
  .xcc "InvalidKey",
  .he (.glo "_law_mix"),
  .he (.glo "_law_next"),
  .he (.glo "_law_some"),
  .he (.glo "_law_couplers"),
  .he (.glo "_law_stops"),
  .he (.glo "_law_organ"),
  .he (.glo "is_integer"),
  .he (.glo "is_coupler"),
  .he (.glo "look_at_couplers"),
  .he (.glo "is_stop"),
  .he (.glo "look_at_stops"),
  .he (.glo "_law_built"),
  .he (.glo "look_at_top"),
  .he (.glo "look_at_key"),
  .he (.glo "led_to"),
  .he (.glo "led_keys"),
  .he (.glo "all_on"),
  .he (.glo "keys_on"),
  .he (.glo "_law_led"),
  .he (.glo "_law_on"),
  .he (.glo "all_pipes"),
  .he (.glo "pipes_by"),
  .he (.glo "pipes"),
  .he (.glo "_law_heard"),
  .he (.glo "_law_refused"),
  .he (.glo "law")]
structure Fct (K : PySem.W.Frag) (mg : Str → Option Value) : Prop where
  h : ∃ h : Heap, K.In h ∧ h.Ns mainGlobals mg
  c : SaysM fa fn K
theorem u64 {k : Nat} {A : Around} (hr : Room k A) : A.units + 64 < cLine := by have := hr.un; omega
section
variable {K : PySem.W.Frag} {mg : Str → Option Value} {x f : Str} {d : D} {i : Nat}
theorem Fct.free (T : Fct K mg) (n : Nat) (e : fa[n]? = some (.he (.free x)) := by rfl) : mg x = none := let ⟨_, X, G⟩ := T.h; fx_free X G (T.c.fact n e)
theorem Fct.glo (T : Fct K mg) (n : Nat) (e : fa[n]? = some (.he (.glo x)) := by rfl) : mg x = some (.ref (He.ga K x)) := let ⟨_, X, G⟩ := T.h; fx_glo X G (T.c.fact n e)
theorem Fct.cst (T : Fct K mg) (n : Nat) (e : fa[n]? = some (.cst x d) := by rfl) : CstOk K mg x d := let ⟨_, X, G⟩ := T.h; fx_cst X G (T.c.fact n e)
theorem Fct.exc (T : Fct K mg) (n m : Nat) (e : fa[n]? = some (.he (.glo x)) := by rfl) (e2 : fa[m]? = some (.he (.exc x)) := by rfl) : Rz0 K mg (He.ga K x) x := let ⟨_, X, G⟩ := T.h; fx_exc X G (T.c.fact n e) (T.c.fact m e2)
theorem Fct.slt (T : Fct K mg) (n m : Nat) (e : fa[n]? = some (.slc x) := by rfl) (e2 : fa[m]? = some (.slt x f i) := by rfl) : SlF K (He.ga K x) f i := fx_slt (T.c.fact n e) (T.c.fact m e2)
theorem Fct.mx_InvalidKey (T : Fct K mg) (c : Nat) (b : Bool) (h : mt_InvalidKey c = some b) : PySem.W.exmOne K (.ref ((GmK K).cA c)) (.ref (He.ga K "InvalidKey")) = some b := by
  unfold mt_InvalidKey at h
  match c, h with
  | 0, h => cases h
  | 1, h => cases h
  | 2, h => cases h
  | 3, h => cases h
  | 4, h => cases h; exact He.exm_ok (T.c.fact 42 (f := .he (.exm "InvalidManuals" "InvalidKey" false)))
  | 5, h => cases h; exact He.exm_ok (T.c.fact 43 (f := .he (.exm "InvalidCoupler" "InvalidKey" false)))
  | 6, h => cases h; exact He.exm_ok (T.c.fact 44 (f := .he (.exm "InvalidStop" "InvalidKey" false)))
  | 7, h => cases h; exact He.exm_ok (T.c.fact 45 (f := .he (.exm "InvalidChain" "InvalidKey" false)))
  | 8, h => cases h; exact He.exm_ok (T.c.fact 46 (f := .he (.exm "InvalidOctave" "InvalidKey" false)))
  | 9, h => cases h; exact He.exm_ok (T.c.fact 47 (f := .he (.exm "InvalidTop" "InvalidKey" false)))
  | 10, h => cases h; exact He.exm_ok (T.c.fact 48 (f := .he (.exm "InvalidKey" "InvalidKey" true)))
  | 11, h => cases h
  | 12, h => cases h
  | 13, h => cases h
  | 14, h => cases h
  | 15, h => cases h
  | 16, h => cases h
  | 17, h => cases h
  | 18, h => cases h
  | n + 19, h => simp at h
theorem Fct.mx_InvalidTop (T : Fct K mg) (c : Nat) (b : Bool) (h : mt_InvalidTop c = some b) : PySem.W.exmOne K (.ref ((GmK K).cA c)) (.ref (He.ga K "InvalidTop")) = some b := by
  unfold mt_InvalidTop at h
  match c, h with
  | 0, h => cases h
  | 1, h => cases h
  | 2, h => cases h
  | 3, h => cases h
  | 4, h => cases h; exact He.exm_ok (T.c.fact 49 (f := .he (.exm "InvalidManuals" "InvalidTop" false)))
  | 5, h => cases h; exact He.exm_ok (T.c.fact 50 (f := .he (.exm "InvalidCoupler" "InvalidTop" false)))
  | 6, h => cases h; exact He.exm_ok (T.c.fact 51 (f := .he (.exm "InvalidStop" "InvalidTop" false)))
  | 7, h => cases h; exact He.exm_ok (T.c.fact 52 (f := .he (.exm "InvalidChain" "InvalidTop" false)))
  | 8, h => cases h; exact He.exm_ok (T.c.fact 53 (f := .he (.exm "InvalidOctave" "InvalidTop" false)))
  | 9, h => cases h; exact He.exm_ok (T.c.fact 54 (f := .he (.exm "InvalidTop" "InvalidTop" true)))
  | 10, h => cases h; exact He.exm_ok (T.c.fact 55 (f := .he (.exm "InvalidKey" "InvalidTop" false)))
  | 11, h => cases h
  | 12, h => cases h
  | 13, h => cases h
  | 14, h => cases h
  | 15, h => cases h
  | 16, h => cases h
  | 17, h => cases h
  | 18, h => cases h
  | n + 19, h => simp at h
theorem Fct.kx_OrganError (T : Fct K mg) (c : Nat) (b : Bool) (h : kt_OrganError c = some b) : XcC K ((GmK K).cA c) ∧ PySem.W.kitOne K (.ref ((GmK K).cA c)) (.ref (He.ga K "OrganError")) = some b := by
  unfold kt_OrganError at h
  match c, h with
  | 0, h => cases h
  | 1, h => cases h
  | 2, h => cases h
  | 3, h => cases h
  | 4, h => cases h; exact ⟨fx_xcc (x := "InvalidManuals") (T.c.fact 63 (f := .xcc "InvalidManuals")), of_decide_eq_true (T.c.fact 56 (f := .kit "InvalidManuals" "OrganError" true))⟩
  | 5, h => cases h; exact ⟨fx_xcc (x := "InvalidCoupler") (T.c.fact 64 (f := .xcc "InvalidCoupler")), of_decide_eq_true (T.c.fact 57 (f := .kit "InvalidCoupler" "OrganError" true))⟩
  | 6, h => cases h; exact ⟨fx_xcc (x := "InvalidStop") (T.c.fact 65 (f := .xcc "InvalidStop")), of_decide_eq_true (T.c.fact 58 (f := .kit "InvalidStop" "OrganError" true))⟩
  | 7, h => cases h; exact ⟨fx_xcc (x := "InvalidChain") (T.c.fact 66 (f := .xcc "InvalidChain")), of_decide_eq_true (T.c.fact 59 (f := .kit "InvalidChain" "OrganError" true))⟩
  | 8, h => cases h; exact ⟨fx_xcc (x := "InvalidOctave") (T.c.fact 67 (f := .xcc "InvalidOctave")), of_decide_eq_true (T.c.fact 60 (f := .kit "InvalidOctave" "OrganError" true))⟩
  | 9, h => cases h; exact ⟨fx_xcc (x := "InvalidTop") (T.c.fact 68 (f := .xcc "InvalidTop")), of_decide_eq_true (T.c.fact 61 (f := .kit "InvalidTop" "OrganError" true))⟩
  | 10, h => cases h; exact ⟨fx_xcc (x := "InvalidKey") (T.c.fact 69 (f := .xcc "InvalidKey")), of_decide_eq_true (T.c.fact 62 (f := .kit "InvalidKey" "OrganError" true))⟩
  | 11, h => cases h
  | 12, h => cases h
  | 13, h => cases h
  | 14, h => cases h
  | 15, h => cases h
  | 16, h => cases h
  | 17, h => cases h
  | 18, h => cases h
  | n + 19, h => simp at h
end
section
variable {P : Program} {w : World} {K : PySem.W.Frag} {mg : Str → Option Value} {base : Heap}
theorem s__law_mix : FnScope ["_law_script", "_law_seed", "_law_state", "_law_cell"] ["_law_script", "_law_seed"] (defScope (top 36)) := ⟨rfl, rfl, rfl, by decide +kernel, rfl, by decide +kernel, by decide +kernel⟩
theorem k__law_mix (T : Fct K mg) {fd : FuncData} (FD : FunD K d__law_mix.name d__law_mix.qual d__law_mix.params d__law_mix.body d__law_mix.scope (d__law_mix.dvs K) (d__law_mix.kws K) (He.fAd K d__law_mix.at_) fd) : FnOk P w K mg base (L2.CX P w) 2 (He.fAd K d__law_mix.at_) fd ["_law_script", "_law_seed"] (spF P w K (GmK K) 2 f__law_mix) := by
  refine fn_mk (k := 1) (N := ["_law_script", "_law_seed", "_law_state", "_law_cell"]) (ps := ["_law_script", "_law_seed"]) FD s__law_mix fun cdv A outer s H E hr => ?_
  have hN : (["_law_script", "_law_seed", "_law_state", "_law_cell"] : List Str).Nodup := (s__law_mix).nd
  have tk := takes_cx (P := P) (w := w) (K := K) (mg := mg) (base := base) (N := ["_law_script", "_law_seed", "_law_state", "_law_cell"]) (qual := "_law_mix") (scope := defScope (top 36)) (i := He.fAd K ("_law_mix", none)) (cdv := cdv) (A := A) (outer := outer) (s := s) (H := H) (E := E)
  have hp := passes_cx (P := P) (w := w) (K := K) (mg := mg) (base := base) (N := ["_law_script", "_law_seed", "_law_state", "_law_cell"]) (qual := "_law_mix") (scope := defScope (top 36)) (i := He.fAd K ("_law_mix", none)) (cdv := cdv) (A := A) (outer := outer) (s := s) (H := H) (E := E)
  exact es_cons (es_set 2 hN (ex_var 1))
    (es_cons (es_for hp rfl (ei_seq (ex_var 0)) (eg_name 3 hN) (es_one (es_set 2 hN (ex_op m_mod (ex_callTy b_int (T.free (x := "int") 0) rfl (ea_cons (ex_op m_add (ex_op m_add (ex_op m_mul (ex_var 2) (ex_int)) (ex_op m_mod (ex_callTy b_int (T.free (x := "int") 0) rfl (ea_cons (ex_var 3) (ea_nil))) (ex_int))) (ex_int)) (ea_nil))) (ex_int)))))
    (es_one (es_ret (ex_lst (ea_cons (ex_var 2) (ea_cons (ex_callTy (b_listA rfl) (T.free (x := "list") 1) rfl (ea_cons (ex_var 0) (ea_nil))) (ea_cons (ex_int) (ea_cons (ex_int) (ea_nil)))))))))
theorem c__law_mix (T : Fct K mg) : Cal P w K mg base (GmK K) 2 "_law_mix" ["_law_script", "_law_seed"] f__law_mix := let ⟨fd, FD⟩ := T.c.def_ 0 (d := d__law_mix) rfl; ⟨⟨_, fd, k__law_mix T FD, T.glo (x := "_law_mix") 70, FD.kp, FD.bindsN fun _ _ _ _ _ _ us hl => match us, hl with | [_, _], _ => rfl⟩⟩
theorem s__law_next : FnScope ["_law_h", "_law_bound", "_law_cell"] ["_law_h", "_law_bound"] (defScope (top 37)) := ⟨rfl, rfl, rfl, by decide +kernel, rfl, by decide +kernel, by decide +kernel⟩
theorem k__law_next (T : Fct K mg) {fd : FuncData} (FD : FunD K d__law_next.name d__law_next.qual d__law_next.params d__law_next.body d__law_next.scope (d__law_next.dvs K) (d__law_next.kws K) (He.fAd K d__law_next.at_) fd) : FnOk P w K mg base (L2.CX P w) 2 (He.fAd K d__law_next.at_) fd ["_law_h", "_law_bound"] (spF P w K (GmK K) 2 f__law_next) := by
  refine fn_mk (k := 1) (N := ["_law_h", "_law_bound", "_law_cell"]) (ps := ["_law_h", "_law_bound"]) FD s__law_next fun cdv A outer s H E hr => ?_
  have hN : (["_law_h", "_law_bound", "_law_cell"] : List Str).Nodup := (s__law_next).nd
  have tk := takes_cx (P := P) (w := w) (K := K) (mg := mg) (base := base) (N := ["_law_h", "_law_bound", "_law_cell"]) (qual := "_law_next") (scope := defScope (top 37)) (i := He.fAd K ("_law_next", none)) (cdv := cdv) (A := A) (outer := outer) (s := s) (H := H) (E := E)
  have hp := passes_cx (P := P) (w := w) (K := K) (mg := mg) (base := base) (N := ["_law_h", "_law_bound", "_law_cell"]) (qual := "_law_next") (scope := defScope (top 37)) (i := He.fAd K ("_law_next", none)) (cdv := cdv) (A := A) (outer := outer) (s := s) (H := H) (E := E)
  exact es_cons (es_set 2 hN (ex_ixA (hr.mono (by decide)) (ex_op m_add (ex_ixA (hr.mono (by decide)) (ex_var 0) (ex_int)) (ex_lst (ea_cons (ex_int) (ea_nil)))) (ex_op m_mod (ex_callTy b_int (T.free (x := "int") 0) rfl (ea_cons (ex_ixA (hr.mono (by decide)) (ex_var 0) (ex_int)) (ea_nil))) (ex_callB (b_max2 rfl) (T.free (x := "max") 3) rfl (ea_cons (ex_int) (ea_cons (ex_callB b_len (T.free (x := "len") 2) rfl (ea_cons (ex_ixA (hr.mono (by decide)) (ex_var 0) (ex_int)) (ea_nil))) (ea_nil)))))))
    (es_cons (es_if (et_cmp m_ge (ex_var 2) (ex_op m_pow (ex_int) (ex_int))) (es_cons (es_put (put_any (hr.mono (by decide))) (ex_ixA (hr.mono (by decide)) (ex_var 0) (ex_int)) (ex_op m_mod (ex_callTy b_int (T.free (x := "int") 0) rfl (ea_cons (ex_ixA (hr.mono (by decide)) (ex_var 0) (ex_int)) (ea_nil))) (ex_callB b_len (T.free (x := "len") 2) rfl (ea_cons (ex_ixA (hr.mono (by decide)) (ex_var 0) (ex_int)) (ea_nil)))) (ex_op m_div (ex_var 2) (ex_var 1)))
    (es_one (es_ret (ex_op m_mod (ex_callTy b_int (T.free (x := "int") 0) rfl (ea_cons (ex_var 2) (ea_nil))) (ex_var 1))))) (es_nil))
    (es_cons (es_put (put_any (hr.mono (by decide))) (ex_var 0) (ex_int) (ex_op m_mod (ex_callTy b_int (T.free (x := "int") 0) rfl (ea_cons (ex_op m_add (ex_op m_add (ex_op m_mul (ex_ixA (hr.mono (by decide)) (ex_var 0) (ex_int)) (ex_int)) (ex_op m_mul (ex_var 2) (ex_int))) (ex_int)) (ea_nil))) (ex_int)))
    (es_cons (es_put (put_any (hr.mono (by decide))) (ex_var 0) (ex_int) (ex_op m_add (ex_ixA (hr.mono (by decide)) (ex_var 0) (ex_int)) (ex_int)))
    (es_one (es_ret (ex_op m_mod (ex_callTy b_int (T.free (x := "int") 0) rfl (ea_cons (ex_op m_div (ex_ixA (hr.mono (by decide)) (ex_var 0) (ex_int)) (ex_int)) (ea_nil))) (ex_var 1)))))))
theorem c__law_next (T : Fct K mg) : Cal P w K mg base (GmK K) 2 "_law_next" ["_law_h", "_law_bound"] f__law_next := let ⟨fd, FD⟩ := T.c.def_ 1 (d := d__law_next) rfl; ⟨⟨_, fd, k__law_next T FD, T.glo (x := "_law_next") 71, FD.kp, FD.bindsN fun _ _ _ _ _ _ us hl => match us, hl with | [_, _], _ => rfl⟩⟩
theorem s__law_some : FnScope ["_law_h", "_law_things", "_law_many", "_law_left", "_law_found", "_law_k"] ["_law_h", "_law_things", "_law_many"] (defScope (top 38)) := ⟨rfl, rfl, rfl, by decide +kernel, rfl, by decide +kernel, by decide +kernel⟩
theorem k__law_some (T : Fct K mg) {fd : FuncData} (FD : FunD K d__law_some.name d__law_some.qual d__law_some.params d__law_some.body d__law_some.scope (d__law_some.dvs K) (d__law_some.kws K) (He.fAd K d__law_some.at_) fd) : FnOk P w K mg base (L2.CX P w) 3 (He.fAd K d__law_some.at_) fd ["_law_h", "_law_things", "_law_many"] (spF P w K (GmK K) 3 f__law_some) := by
  refine fn_mk (k := 2) (N := ["_law_h", "_law_things", "_law_many", "_law_left", "_law_found", "_law_k"]) (ps := ["_law_h", "_law_things", "_law_many"]) FD s__law_some fun cdv A outer s H E hr => ?_
  have hN : (["_law_h", "_law_things", "_law_many", "_law_left", "_law_found", "_law_k"] : List Str).Nodup := (s__law_some).nd
  have tk := takes_cx (P := P) (w := w) (K := K) (mg := mg) (base := base) (N := ["_law_h", "_law_things", "_law_many", "_law_left", "_law_found", "_law_k"]) (qual := "_law_some") (scope := defScope (top 38)) (i := He.fAd K ("_law_some", none)) (cdv := cdv) (A := A) (outer := outer) (s := s) (H := H) (E := E)
  have hp := passes_cx (P := P) (w := w) (K := K) (mg := mg) (base := base) (N := ["_law_h", "_law_things", "_law_many", "_law_left", "_law_found", "_law_k"]) (qual := "_law_some") (scope := defScope (top 38)) (i := He.fAd K ("_law_some", none)) (cdv := cdv) (A := A) (outer := outer) (s := s) (H := H) (E := E)
  exact es_cons (es_set 3 hN (ex_callTy (b_listA rfl) (T.free (x := "list") 1) rfl (ea_cons (ex_var 1) (ea_nil))))
    (es_cons (es_set 4 hN (ex_lst (ea_nil)))
    (es_cons (es_for hp rfl (ei_range1 (ex_var 2) (T.free (x := "range") 4)) (eg_name 5 hN) (es_one (es_if (et_cmp (m_ne (u64 hr)) (ex_var 3) (ex_lst (ea_nil))) (es_one (es_expr (ex_meth F.plainAttrs_list F.slot_list_append F.type_list_append ty_lst l_append (ex_var 4) (ea_cons (ex_meth F.plainAttrs_list F.slot_list_pop F.type_list_pop ty_lst l_popAt (ex_var 3) (ea_cons (ex_call (c__law_next T) (hr.mono (by decide)) tk (ea_cons (ex_var 0) (ea_cons (ex_callB b_len (T.free (x := "len") 2) rfl (ea_cons (ex_var 3) (ea_nil))) (ea_nil)))) (ea_nil))) (ea_nil))))) (es_nil))))
    (es_one (es_ret (ex_callTy b_tuple (T.free (x := "tuple") 5) rfl (ea_cons (ex_var 4) (ea_nil)))))))
theorem c__law_some (T : Fct K mg) : Cal P w K mg base (GmK K) 3 "_law_some" ["_law_h", "_law_things", "_law_many"] f__law_some := let ⟨fd, FD⟩ := T.c.def_ 2 (d := d__law_some) rfl; ⟨⟨_, fd, k__law_some T FD, T.glo (x := "_law_some") 72, FD.kp, FD.bindsN fun _ _ _ _ _ _ us hl => match us, hl with | [_, _, _], _ => rfl⟩⟩
theorem s__law_couplers : FnScope ["_law_many", "_law_found", "_law_first", "_law_second", "_law_shift"] ["_law_many"] (defScope (top 39)) := ⟨rfl, rfl, rfl, by decide +kernel, rfl, by decide +kernel, by decide +kernel⟩
theorem k__law_couplers (T : Fct K mg) {fd : FuncData} (FD : FunD K d__law_couplers.name d__law_couplers.qual d__law_couplers.params d__law_couplers.body d__law_couplers.scope (d__law_couplers.dvs K) (d__law_couplers.kws K) (He.fAd K d__law_couplers.at_) fd) : FnOk P w K mg base (L2.CX P w) 2 (He.fAd K d__law_couplers.at_) fd ["_law_many"] (spF P w K (GmK K) 1 f__law_couplers) := by
  refine fn_mk (k := 1) (N := ["_law_many", "_law_found", "_law_first", "_law_second", "_law_shift"]) (ps := ["_law_many"]) FD s__law_couplers fun cdv A outer s H E hr => ?_
  have hN : (["_law_many", "_law_found", "_law_first", "_law_second", "_law_shift"] : List Str).Nodup := (s__law_couplers).nd
  have tk := takes_cx (P := P) (w := w) (K := K) (mg := mg) (base := base) (N := ["_law_many", "_law_found", "_law_first", "_law_second", "_law_shift"]) (qual := "_law_couplers") (scope := defScope (top 39)) (i := He.fAd K ("_law_couplers", none)) (cdv := cdv) (A := A) (outer := outer) (s := s) (H := H) (E := E)
  have hp := passes_cx (P := P) (w := w) (K := K) (mg := mg) (base := base) (N := ["_law_many", "_law_found", "_law_first", "_law_second", "_law_shift"]) (qual := "_law_couplers") (scope := defScope (top 39)) (i := He.fAd K ("_law_couplers", none)) (cdv := cdv) (A := A) (outer := outer) (s := s) (H := H) (E := E)
  exact es_cons (es_set 1 hN (ex_lst (ea_nil)))
    (es_cons (es_for hp rfl (ei_range1 (ex_var 0) (T.free (x := "range") 4)) (eg_name 2 hN) (es_one (es_for hp rfl (ei_range1 (ex_var 0) (T.free (x := "range") 4)) (eg_name 3 hN) (es_one (es_set 1 hN (ex_op m_add (ex_var 1) (ex_lc (own := [("_law_shift", 4)]) rfl hN (ei_range2 (ex_neg (ex_int)) (ex_int) (T.free (x := "range") 4)) (blkOk_by (N := ["_law_many", "_law_found", "_law_first", "_law_second", "_law_shift"]) (sc := defScope (top 39)) (by decide +kernel)) (by decide) (fun _ _ _ _ _ => eg_name 4 hN) (fun _ _ _ _ _ => ets_one (et_w (et_or (et_cmp (m_ne (u64 hr)) (ex_var 4) (ex_int)) (et_or1 (et_cmp (m_ne (u64 hr)) (ex_var 2) (ex_var 3)))))) (fun _ _ _ _ _ => ex_tup (ea_cons (ex_var 2) (ea_cons (ex_var 3) (ea_cons (ex_var 4) (ea_nil))))))))))))
    (es_one (es_ret (ex_var 1))))
theorem c__law_couplers (T : Fct K mg) : Cal P w K mg base (GmK K) 2 "_law_couplers" ["_law_many"] f__law_couplers := let ⟨fd, FD⟩ := T.c.def_ 3 (d := d__law_couplers) rfl; ⟨⟨_, fd, k__law_couplers T FD, T.glo (x := "_law_couplers") 73, FD.kp, FD.bindsN fun _ _ _ _ _ _ us hl => match us, hl with | [_], _ => rfl⟩⟩
theorem s__law_stops : FnScope ["_law_many", "_law_ranks", "_law_found", "_law_manual", "_law_rank", "_law_shift"] ["_law_many", "_law_ranks"] (defScope (top 40)) := ⟨rfl, rfl, rfl, by decide +kernel, rfl, by decide +kernel, by decide +kernel⟩
theorem k__law_stops (T : Fct K mg) {fd : FuncData} (FD : FunD K d__law_stops.name d__law_stops.qual d__law_stops.params d__law_stops.body d__law_stops.scope (d__law_stops.dvs K) (d__law_stops.kws K) (He.fAd K d__law_stops.at_) fd) : FnOk P w K mg base (L2.CX P w) 2 (He.fAd K d__law_stops.at_) fd ["_law_many", "_law_ranks"] (spF P w K (GmK K) 2 f__law_stops) := by
  refine fn_mk (k := 1) (N := ["_law_many", "_law_ranks", "_law_found", "_law_manual", "_law_rank", "_law_shift"]) (ps := ["_law_many", "_law_ranks"]) FD s__law_stops fun cdv A outer s H E hr => ?_
  have hN : (["_law_many", "_law_ranks", "_law_found", "_law_manual", "_law_rank", "_law_shift"] : List Str).Nodup := (s__law_stops).nd
  have tk := takes_cx (P := P) (w := w) (K := K) (mg := mg) (base := base) (N := ["_law_many", "_law_ranks", "_law_found", "_law_manual", "_law_rank", "_law_shift"]) (qual := "_law_stops") (scope := defScope (top 40)) (i := He.fAd K ("_law_stops", none)) (cdv := cdv) (A := A) (outer := outer) (s := s) (H := H) (E := E)
  have hp := passes_cx (P := P) (w := w) (K := K) (mg := mg) (base := base) (N := ["_law_many", "_law_ranks", "_law_found", "_law_manual", "_law_rank", "_law_shift"]) (qual := "_law_stops") (scope := defScope (top 40)) (i := He.fAd K ("_law_stops", none)) (cdv := cdv) (A := A) (outer := outer) (s := s) (H := H) (E := E)
  exact es_cons (es_set 2 hN (ex_lst (ea_nil)))
    (es_cons (es_for hp rfl (ei_range1 (ex_var 0) (T.free (x := "range") 4)) (eg_name 3 hN) (es_one (es_for hp rfl (ei_range1 (ex_var 1) (T.free (x := "range") 4)) (eg_name 4 hN) (es_one (es_set 2 hN (ex_op m_add (ex_var 2) (ex_lc (own := [("_law_shift", 5)]) rfl hN (ei_range2 (ex_neg (ex_int)) (ex_int) (T.free (x := "range") 4)) (blkOk_by (N := ["_law_many", "_law_ranks", "_law_found", "_law_manual", "_law_rank", "_law_shift"]) (sc := defScope (top 40)) (by decide +kernel)) (by decide) (fun _ _ _ _ _ => eg_name 5 hN) (fun _ _ _ _ _ => ets_nil) (fun _ _ _ _ _ => ex_tup (ea_cons (ex_var 3) (ea_cons (ex_var 4) (ea_cons (ex_var 5) (ea_nil))))))))))))
    (es_one (es_ret (ex_var 2))))
theorem c__law_stops (T : Fct K mg) : Cal P w K mg base (GmK K) 2 "_law_stops" ["_law_many", "_law_ranks"] f__law_stops := let ⟨fd, FD⟩ := T.c.def_ 4 (d := d__law_stops) rfl; ⟨⟨_, fd, k__law_stops T FD, T.glo (x := "_law_stops") 74, FD.kp, FD.bindsN fun _ _ _ _ _ _ us hl => match us, hl with | [_, _], _ => rfl⟩⟩
theorem s__law_organ : FnScope ["_law_h", "_law_links", "_law_stops_here", "_law_ranks", "_law_many", "_law_chain", "_law_octave", "_law_couplers_here"] ["_law_h", "_law_links", "_law_stops_here", "_law_ranks"] (defScope (top 41)) := ⟨rfl, rfl, rfl, by decide +kernel, rfl, by decide +kernel, by decide +kernel⟩
theorem k__law_organ (T : Fct K mg) {fd : FuncData} (FD : FunD K d__law_organ.name d__law_organ.qual d__law_organ.params d__law_organ.body d__law_organ.scope (d__law_organ.dvs K) (d__law_organ.kws K) (He.fAd K d__law_organ.at_) fd) : FnOk P w K mg base (L2.CX P w) 4 (He.fAd K d__law_organ.at_) fd ["_law_h", "_law_links", "_law_stops_here", "_law_ranks"] (spF P w K (GmK K) 4 f__law_organ) := by
  refine fn_mk (k := 3) (N := ["_law_h", "_law_links", "_law_stops_here", "_law_ranks", "_law_many", "_law_chain", "_law_octave", "_law_couplers_here"]) (ps := ["_law_h", "_law_links", "_law_stops_here", "_law_ranks"]) FD s__law_organ fun cdv A outer s H E hr => ?_
  have hN : (["_law_h", "_law_links", "_law_stops_here", "_law_ranks", "_law_many", "_law_chain", "_law_octave", "_law_couplers_here"] : List Str).Nodup := (s__law_organ).nd
  have tk := takes_cx (P := P) (w := w) (K := K) (mg := mg) (base := base) (N := ["_law_h", "_law_links", "_law_stops_here", "_law_ranks", "_law_many", "_law_chain", "_law_octave", "_law_couplers_here"]) (qual := "_law_organ") (scope := defScope (top 41)) (i := He.fAd K ("_law_organ", none)) (cdv := cdv) (A := A) (outer := outer) (s := s) (H := H) (E := E)
  have hp := passes_cx (P := P) (w := w) (K := K) (mg := mg) (base := base) (N := ["_law_h", "_law_links", "_law_stops_here", "_law_ranks", "_law_many", "_law_chain", "_law_octave", "_law_couplers_here"]) (qual := "_law_organ") (scope := defScope (top 41)) (i := He.fAd K ("_law_organ", none)) (cdv := cdv) (A := A) (outer := outer) (s := s) (H := H) (E := E)
  exact es_cons (es_set 4 hN (ex_op m_add (ex_int) (ex_callTy b_int (T.free (x := "int") 0) rfl (ea_cons (ex_cmp m_gt (ex_call (c__law_next T) (hr.mono (by decide)) tk (ea_cons (ex_var 0) (ea_cons (ex_int) (ea_nil)))) (ex_int)) (ea_nil)))))
    (es_cons (es_set 5 hN (ex_ixA (hr.mono (by decide)) (ex_lst (ea_cons (ex_str) (ea_cons (ex_str) (ea_cons (ex_str) (ea_nil))))) (ex_call (c__law_next T) (hr.mono (by decide)) tk (ea_cons (ex_var 0) (ea_cons (ex_int) (ea_nil))))))
    (es_cons (es_set 6 hN (ex_ixA (hr.mono (by decide)) (ex_lst (ea_cons (ex_int) (ea_cons (ex_int) (ea_cons (ex_int) (ea_cons (ex_int) (ea_nil)))))) (ex_call (c__law_next T) (hr.mono (by decide)) tk (ea_cons (ex_var 0) (ea_cons (ex_int) (ea_nil))))))
    (es_cons (es_set 7 hN (ex_call (c__law_some T) (hr.mono (by decide)) tk (ea_cons (ex_var 0) (ea_cons (ex_call (c__law_couplers T) (hr.mono (by decide)) tk (ea_cons (ex_var 4) (ea_nil))) (ea_cons (ex_call (c__law_next T) (hr.mono (by decide)) tk (ea_cons (ex_var 0) (ea_cons (ex_op m_add (ex_var 1) (ex_int)) (ea_nil)))) (ea_nil))))))
    (es_one (es_ret (ex_lst (ea_cons (ex_var 4) (ea_cons (ex_var 7) (ea_cons (ex_call (c__law_some T) (hr.mono (by decide)) tk (ea_cons (ex_var 0) (ea_cons (ex_call (c__law_stops T) (hr.mono (by decide)) tk (ea_cons (ex_var 4) (ea_cons (ex_var 3) (ea_nil)))) (ea_cons (ex_op m_add (ex_int) (ex_call (c__law_next T) (hr.mono (by decide)) tk (ea_cons (ex_var 0) (ea_cons (ex_var 2) (ea_nil))))) (ea_nil))))) (ea_cons (ex_var 5) (ea_cons (ex_var 6) (ea_nil))))))))))))
theorem c__law_organ (T : Fct K mg) : Cal P w K mg base (GmK K) 4 "_law_organ" ["_law_h", "_law_links", "_law_stops_here", "_law_ranks"] f__law_organ := let ⟨fd, FD⟩ := T.c.def_ 5 (d := d__law_organ) rfl; ⟨⟨_, fd, k__law_organ T FD, T.glo (x := "_law_organ") 75, FD.kp, FD.bindsN fun _ _ _ _ _ _ us hl => match us, hl with | [_, _, _, _], _ => rfl⟩⟩
theorem s_is_integer : FnScope ["value", "least", "most"] ["value", "least", "most"] (defScope (top 17)) := ⟨rfl, rfl, rfl, by decide +kernel, rfl, by decide +kernel, by decide +kernel⟩
theorem k_is_integer (T : Fct K mg) {fd : FuncData} (FD : FunD K d_is_integer.name d_is_integer.qual d_is_integer.params d_is_integer.body d_is_integer.scope (d_is_integer.dvs K) (d_is_integer.kws K) (He.fAd K d_is_integer.at_) fd) : FnOk P w K mg base (L2.CX P w) 2 (He.fAd K d_is_integer.at_) fd ["value", "least", "most"] (spF P w K (GmK K) 3 f_is_integer) := by
  refine fn_mk (k := 1) (N := ["value", "least", "most"]) (ps := ["value", "least", "most"]) FD s_is_integer fun cdv A outer s H E hr => ?_
  have hN : (["value", "least", "most"] : List Str).Nodup := (s_is_integer).nd
  have tk := takes_cx (P := P) (w := w) (K := K) (mg := mg) (base := base) (N := ["value", "least", "most"]) (qual := "is_integer") (scope := defScope (top 17)) (i := He.fAd K ("is_integer", none)) (cdv := cdv) (A := A) (outer := outer) (s := s) (H := H) (E := E)
  have hp := passes_cx (P := P) (w := w) (K := K) (mg := mg) (base := base) (N := ["value", "least", "most"]) (qual := "is_integer") (scope := defScope (top 17)) (i := He.fAd K ("is_integer", none)) (cdv := cdv) (A := A) (outer := outer) (s := s) (H := H) (E := E)
  exact es_one (es_ret (ex_and (ex_isTy kind_int (ex_var 0) (T.free (x := "isinstance") 6) (T.free (x := "int") 0) rfl) (ex_and (ex_not (ex_isTy kind_bool (ex_var 0) (T.free (x := "isinstance") 6) (T.free (x := "bool") 7) rfl)) (ex_one (ex_chain m_le m_le (ex_var 1) (ex_var 0) (ex_var 2))))))
theorem c_is_integer (T : Fct K mg) : Cal P w K mg base (GmK K) 2 "is_integer" ["value", "least", "most"] f_is_integer := let ⟨fd, FD⟩ := T.c.def_ 6 (d := d_is_integer) rfl; ⟨⟨_, fd, k_is_integer T FD, T.glo (x := "is_integer") 76, FD.kp, FD.bindsN fun _ _ _ _ _ _ us hl => match us, hl with | [_, _, _], _ => rfl⟩⟩
theorem s_InvalidCoupler_init : FnScope ["self", "index"] ["self", "index"] (defScope (inCls (top 4) 0)) := ⟨rfl, rfl, rfl, by decide +kernel, rfl, by decide +kernel, by decide +kernel⟩
theorem z_InvalidCoupler (T : Fct K mg) : RzI P w K mg base 1 (He.ga K "InvalidCoupler") "InvalidCoupler" (cN 5) := by
  obtain ⟨fd, FD⟩ := T.c.def_ 7 (d := d_InvalidCoupler_init) rfl
  obtain ⟨o1, o2, o3, o4⟩ := fx_oex (T.c.fact 12 (f := .oex "InvalidCoupler" ["index"]) rfl)
  refine ⟨o1, ⟨_, fd, ["self", "index"], o2, o3, ?_, FD.bindsN fun _ _ _ _ _ _ us hl => match us, hl with | [_, _], _ => rfl⟩, T.glo 11⟩
  exact init_mk1 FD s_InvalidCoupler_init o1 (o4 _ (by simp)) fun cdv A outer s H E => pss_one (ps_ost (pv 0) (pv 1))
theorem s_is_coupler : FnScope ["value", "many", "own"] ["value", "many"] (defScope (top 18)) := ⟨rfl, rfl, rfl, by decide +kernel, rfl, by decide +kernel, by decide +kernel⟩
theorem k_is_coupler (T : Fct K mg) {fd : FuncData} (FD : FunD K d_is_coupler.name d_is_coupler.qual d_is_coupler.params d_is_coupler.body d_is_coupler.scope (d_is_coupler.dvs K) (d_is_coupler.kws K) (He.fAd K d_is_coupler.at_) fd) : FnOk P w K mg base (L2.CX P w) 3 (He.fAd K d_is_coupler.at_) fd ["value", "many"] (spF P w K (GmK K) 2 f_is_coupler) := by
  refine fn_mk (k := 2) (N := ["value", "many", "own"]) (ps := ["value", "many"]) FD s_is_coupler fun cdv A outer s H E hr => ?_
  have hN : (["value", "many", "own"] : List Str).Nodup := (s_is_coupler).nd
  have tk := takes_cx (P := P) (w := w) (K := K) (mg := mg) (base := base) (N := ["value", "many", "own"]) (qual := "is_coupler") (scope := defScope (top 18)) (i := He.fAd K ("is_coupler", none)) (cdv := cdv) (A := A) (outer := outer) (s := s) (H := H) (E := E)
  have hp := passes_cx (P := P) (w := w) (K := K) (mg := mg) (base := base) (N := ["value", "many", "own"]) (qual := "is_coupler") (scope := defScope (top 18)) (i := He.fAd K ("is_coupler", none)) (cdv := cdv) (A := A) (outer := outer) (s := s) (H := H) (E := E)
  exact es_cons (es_if (et_w (et_or (et_not (et_val (ex_isTy kind_tuple (ex_var 0) (T.free (x := "isinstance") 6) (T.free (x := "tuple") 5) rfl))) (et_or (et_cmp (m_ne (u64 hr)) (ex_callB b_len (T.free (x := "len") 2) rfl (ea_cons (ex_var 0) (ea_nil))) (ex_int)) (et_or1 (et_not (et_val (ex_callB (b_all rfl) (T.free (x := "all") 14) rfl (ea_cons (ex_lc (own := [("own", 2)]) rfl hN (ei_seq (ex_cut (ex_var 0) (eo_none) (eo_some (ex_int)))) (blkOk_by (N := ["value", "many", "own"]) (sc := defScope (top 18)) (by decide +kernel)) (by decide) (fun _ _ _ _ _ => eg_name 2 hN) (fun _ _ _ _ _ => ets_nil) (fun _ _ _ _ _ => ex_call (c_is_integer T) (hr.mono (by decide)) takes_W0 (ea_cons (ex_var 2) (ea_cons (ex_int) (ea_cons (ex_op m_sub (ex_var 1) (ex_int)) (ea_nil)))))) (ea_nil))))))))) (es_one (es_ret (ex_bl))) (es_nil))
    (es_one (es_ret (ex_and (ex_call (c_is_integer T) (hr.mono (by decide)) tk (ea_cons (ex_ixA (hr.mono (by decide)) (ex_var 0) (ex_int)) (ea_cons (ex_neg (ex_glob (T.cst (x := "MOST_SHIFT") (d := (.int 2)) 15))) (ea_cons (ex_glob (T.cst (x := "MOST_SHIFT") (d := (.int 2)) 15)) (ea_nil))))) (ex_one (ex_or (ex_cmp (m_ne (u64 hr)) (ex_ixA (hr.mono (by decide)) (ex_var 0) (ex_int)) (ex_ixA (hr.mono (by decide)) (ex_var 0) (ex_int))) (ex_one (ex_cmp (m_ne (u64 hr)) (ex_ixA (hr.mono (by decide)) (ex_var 0) (ex_int)) (ex_int))))))))
theorem c_is_coupler (T : Fct K mg) : Cal P w K mg base (GmK K) 3 "is_coupler" ["value", "many"] f_is_coupler := let ⟨fd, FD⟩ := T.c.def_ 8 (d := d_is_coupler) rfl; ⟨⟨_, fd, k_is_coupler T FD, T.glo (x := "is_coupler") 77, FD.kp, FD.bindsN fun _ _ _ _ _ _ us hl => match us, hl with | [_, _], _ => rfl⟩⟩
theorem s_look_at_couplers : FnScope ["value", "many", "index", "one"] ["value", "many"] (defScope (top 20)) := ⟨rfl, rfl, rfl, by decide +kernel, rfl, by decide +kernel, by decide +kernel⟩
theorem k_look_at_couplers (T : Fct K mg) {fd : FuncData} (FD : FunD K d_look_at_couplers.name d_look_at_couplers.qual d_look_at_couplers.params d_look_at_couplers.body d_look_at_couplers.scope (d_look_at_couplers.dvs K) (d_look_at_couplers.kws K) (He.fAd K d_look_at_couplers.at_) fd) : FnOk P w K mg base (L2.CX P w) 4 (He.fAd K d_look_at_couplers.at_) fd ["value", "many"] (spF P w K (GmK K) 2 f_look_at_couplers) := by
  refine fn_mk (k := 3) (N := ["value", "many", "index", "one"]) (ps := ["value", "many"]) FD s_look_at_couplers fun cdv A outer s H E hr => ?_
  have hN : (["value", "many", "index", "one"] : List Str).Nodup := (s_look_at_couplers).nd
  have tk := takes_cx (P := P) (w := w) (K := K) (mg := mg) (base := base) (N := ["value", "many", "index", "one"]) (qual := "look_at_couplers") (scope := defScope (top 20)) (i := He.fAd K ("look_at_couplers", none)) (cdv := cdv) (A := A) (outer := outer) (s := s) (H := H) (E := E)
  have hp := passes_cx (P := P) (w := w) (K := K) (mg := mg) (base := base) (N := ["value", "many", "index", "one"]) (qual := "look_at_couplers") (scope := defScope (top 20)) (i := He.fAd K ("look_at_couplers", none)) (cdv := cdv) (A := A) (outer := outer) (s := s) (H := H) (E := E)
  exact es_cons (es_if (et_w (et_or (et_not (et_val (ex_isTy kind_tuple (ex_var 0) (T.free (x := "isinstance") 6) (T.free (x := "tuple") 5) rfl))) (et_or1 (et_cmp m_gt (ex_callB b_len (T.free (x := "len") 2) rfl (ea_cons (ex_var 0) (ea_nil))) (ex_glob (T.cst (x := "MOST_COUPLERS") (d := (.int 5)) 10)))))) (es_one (es_raise (c := 5) (z_InvalidCoupler T) rfl (by decide) (hr.mono (by decide)) rfl tk (ea_cons (ex_non) (ea_nil)))) (es_nil))
    (es_one (es_for hp rfl (ei_enum (ex_var 0) (T.free (x := "enumerate") 13)) (eg_tup rfl (egs_cons (eg_name 2 hN) (egs_cons (eg_name 3 hN) (egs_nil)))) (es_one (es_if (et_w (et_or (et_not (et_val (ex_call (c_is_coupler T) (hr.mono (by decide)) tk (ea_cons (ex_var 3) (ea_cons (ex_var 1) (ea_nil)))))) (et_or1 (et_cmp (m_inA (hr.mono (by decide))) (ex_var 3) (ex_cut (ex_var 0) (eo_none) (eo_some (ex_var 2))))))) (es_one (es_raise (c := 5) (z_InvalidCoupler T) rfl (by decide) (hr.mono (by decide)) rfl tk (ea_cons (ex_var 2) (ea_nil)))) (es_nil)))))
theorem c_look_at_couplers (T : Fct K mg) : Cal P w K mg base (GmK K) 4 "look_at_couplers" ["value", "many"] f_look_at_couplers := let ⟨fd, FD⟩ := T.c.def_ 9 (d := d_look_at_couplers) rfl; ⟨⟨_, fd, k_look_at_couplers T FD, T.glo (x := "look_at_couplers") 78, FD.kp, FD.bindsN fun _ _ _ _ _ _ us hl => match us, hl with | [_, _], _ => rfl⟩⟩
theorem s_InvalidStop_init : FnScope ["self", "index"] ["self", "index"] (defScope (inCls (top 5) 0)) := ⟨rfl, rfl, rfl, by decide +kernel, rfl, by decide +kernel, by decide +kernel⟩
theorem z_InvalidStop (T : Fct K mg) : RzI P w K mg base 1 (He.ga K "InvalidStop") "InvalidStop" (cN 6) := by
  obtain ⟨fd, FD⟩ := T.c.def_ 10 (d := d_InvalidStop_init) rfl
  obtain ⟨o1, o2, o3, o4⟩ := fx_oex (T.c.fact 18 (f := .oex "InvalidStop" ["index"]) rfl)
  refine ⟨o1, ⟨_, fd, ["self", "index"], o2, o3, ?_, FD.bindsN fun _ _ _ _ _ _ us hl => match us, hl with | [_, _], _ => rfl⟩, T.glo 17⟩
  exact init_mk1 FD s_InvalidStop_init o1 (o4 _ (by simp)) fun cdv A outer s H E => pss_one (ps_ost (pv 0) (pv 1))
theorem s_is_stop : FnScope ["value", "many"] ["value", "many"] (defScope (top 19)) := ⟨rfl, rfl, rfl, by decide +kernel, rfl, by decide +kernel, by decide +kernel⟩
theorem k_is_stop (T : Fct K mg) {fd : FuncData} (FD : FunD K d_is_stop.name d_is_stop.qual d_is_stop.params d_is_stop.body d_is_stop.scope (d_is_stop.dvs K) (d_is_stop.kws K) (He.fAd K d_is_stop.at_) fd) : FnOk P w K mg base (L2.CX P w) 3 (He.fAd K d_is_stop.at_) fd ["value", "many"] (spF P w K (GmK K) 2 f_is_stop) := by
  refine fn_mk (k := 2) (N := ["value", "many"]) (ps := ["value", "many"]) FD s_is_stop fun cdv A outer s H E hr => ?_
  have hN : (["value", "many"] : List Str).Nodup := (s_is_stop).nd
  have tk := takes_cx (P := P) (w := w) (K := K) (mg := mg) (base := base) (N := ["value", "many"]) (qual := "is_stop") (scope := defScope (top 19)) (i := He.fAd K ("is_stop", none)) (cdv := cdv) (A := A) (outer := outer) (s := s) (H := H) (E := E)
  have hp := passes_cx (P := P) (w := w) (K := K) (mg := mg) (base := base) (N := ["value", "many"]) (qual := "is_stop") (scope := defScope (top 19)) (i := He.fAd K ("is_stop", none)) (cdv := cdv) (A := A) (outer := outer) (s := s) (H := H) (E := E)
  exact es_cons (es_if (et_w (et_or (et_not (et_val (ex_isTy kind_tuple (ex_var 0) (T.free (x := "isinstance") 6) (T.free (x := "tuple") 5) rfl))) (et_or (et_cmp (m_ne (u64 hr)) (ex_callB b_len (T.free (x := "len") 2) rfl (ea_cons (ex_var 0) (ea_nil))) (ex_int)) (et_or1 (et_not (et_val (ex_call (c_is_integer T) (hr.mono (by decide)) tk (ea_cons (ex_ixA (hr.mono (by decide)) (ex_var 0) (ex_int)) (ea_cons (ex_int) (ea_cons (ex_op m_sub (ex_var 1) (ex_int)) (ea_nil))))))))))) (es_one (es_ret (ex_bl))) (es_nil))
    (es_one (es_ret (ex_and (ex_call (c_is_integer T) (hr.mono (by decide)) tk (ea_cons (ex_ixA (hr.mono (by decide)) (ex_var 0) (ex_int)) (ea_cons (ex_int) (ea_cons (ex_glob (T.cst (x := "MOST_RANK") (d := (.int 2)) 19)) (ea_nil))))) (ex_one (ex_call (c_is_integer T) (hr.mono (by decide)) tk (ea_cons (ex_ixA (hr.mono (by decide)) (ex_var 0) (ex_int)) (ea_cons (ex_neg (ex_glob (T.cst (x := "MOST_SHIFT") (d := (.int 2)) 15))) (ea_cons (ex_glob (T.cst (x := "MOST_SHIFT") (d := (.int 2)) 15)) (ea_nil)))))))))
theorem c_is_stop (T : Fct K mg) : Cal P w K mg base (GmK K) 3 "is_stop" ["value", "many"] f_is_stop := let ⟨fd, FD⟩ := T.c.def_ 11 (d := d_is_stop) rfl; ⟨⟨_, fd, k_is_stop T FD, T.glo (x := "is_stop") 79, FD.kp, FD.bindsN fun _ _ _ _ _ _ us hl => match us, hl with | [_, _], _ => rfl⟩⟩
theorem s_look_at_stops : FnScope ["value", "many", "index", "one"] ["value", "many"] (defScope (top 21)) := ⟨rfl, rfl, rfl, by decide +kernel, rfl, by decide +kernel, by decide +kernel⟩
theorem k_look_at_stops (T : Fct K mg) {fd : FuncData} (FD : FunD K d_look_at_stops.name d_look_at_stops.qual d_look_at_stops.params d_look_at_stops.body d_look_at_stops.scope (d_look_at_stops.dvs K) (d_look_at_stops.kws K) (He.fAd K d_look_at_stops.at_) fd) : FnOk P w K mg base (L2.CX P w) 4 (He.fAd K d_look_at_stops.at_) fd ["value", "many"] (spF P w K (GmK K) 2 f_look_at_stops) := by
  refine fn_mk (k := 3) (N := ["value", "many", "index", "one"]) (ps := ["value", "many"]) FD s_look_at_stops fun cdv A outer s H E hr => ?_
  have hN : (["value", "many", "index", "one"] : List Str).Nodup := (s_look_at_stops).nd
  have tk := takes_cx (P := P) (w := w) (K := K) (mg := mg) (base := base) (N := ["value", "many", "index", "one"]) (qual := "look_at_stops") (scope := defScope (top 21)) (i := He.fAd K ("look_at_stops", none)) (cdv := cdv) (A := A) (outer := outer) (s := s) (H := H) (E := E)
  have hp := passes_cx (P := P) (w := w) (K := K) (mg := mg) (base := base) (N := ["value", "many", "index", "one"]) (qual := "look_at_stops") (scope := defScope (top 21)) (i := He.fAd K ("look_at_stops", none)) (cdv := cdv) (A := A) (outer := outer) (s := s) (H := H) (E := E)
  exact es_cons (es_if (et_w (et_or (et_not (et_val (ex_isTy kind_tuple (ex_var 0) (T.free (x := "isinstance") 6) (T.free (x := "tuple") 5) rfl))) (et_or1 (et_not (et_chain m_le m_le (ex_int) (ex_callB b_len (T.free (x := "len") 2) rfl (ea_cons (ex_var 0) (ea_nil))) (ex_glob (T.cst (x := "MOST_STOPS") (d := (.int 4)) 16))))))) (es_one (es_raise (c := 6) (z_InvalidStop T) rfl (by decide) (hr.mono (by decide)) rfl tk (ea_cons (ex_non) (ea_nil)))) (es_nil))
    (es_one (es_for hp rfl (ei_enum (ex_var 0) (T.free (x := "enumerate") 13)) (eg_tup rfl (egs_cons (eg_name 2 hN) (egs_cons (eg_name 3 hN) (egs_nil)))) (es_one (es_if (et_w (et_or (et_not (et_val (ex_call (c_is_stop T) (hr.mono (by decide)) tk (ea_cons (ex_var 3) (ea_cons (ex_var 1) (ea_nil)))))) (et_or1 (et_cmp (m_inA (hr.mono (by decide))) (ex_var 3) (ex_cut (ex_var 0) (eo_none) (eo_some (ex_var 2))))))) (es_one (es_raise (c := 6) (z_InvalidStop T) rfl (by decide) (hr.mono (by decide)) rfl tk (ea_cons (ex_var 2) (ea_nil)))) (es_nil)))))
theorem c_look_at_stops (T : Fct K mg) : Cal P w K mg base (GmK K) 4 "look_at_stops" ["value", "many"] f_look_at_stops := let ⟨fd, FD⟩ := T.c.def_ 12 (d := d_look_at_stops) rfl; ⟨⟨_, fd, k_look_at_stops T FD, T.glo (x := "look_at_stops") 80, FD.kp, FD.bindsN fun _ _ _ _ _ _ us hl => match us, hl with | [_, _], _ => rfl⟩⟩
theorem s_Organ_init : FnScope ["self", "manuals", "couplers", "stops", "chain", "octave"] ["self", "manuals", "couplers", "stops", "chain", "octave"] (defScope (inCls (top 22) 1)) := ⟨rfl, rfl, rfl, by decide +kernel, rfl, by decide +kernel, by decide +kernel⟩
theorem k_Organ_init (T : Fct K mg) {fd : FuncData} (FD : FunD K d_Organ_init.name d_Organ_init.qual d_Organ_init.params d_Organ_init.body d_Organ_init.scope (d_Organ_init.dvs K) (d_Organ_init.kws K) (He.fAd K d_Organ_init.at_) fd) : FnOk P w K mg base (L2.CX P w) 5 (He.fAd K d_Organ_init.at_) fd ["self", "manuals", "couplers", "stops", "chain", "octave"] (spF P w K (GmK K) 6 f_Organ_init) := by
  refine fn_mk (k := 4) (N := ["self", "manuals", "couplers", "stops", "chain", "octave"]) (ps := ["self", "manuals", "couplers", "stops", "chain", "octave"]) FD s_Organ_init fun cdv A outer s H E hr => ?_
  have hN : (["self", "manuals", "couplers", "stops", "chain", "octave"] : List Str).Nodup := (s_Organ_init).nd
  have tk := takes_cx (P := P) (w := w) (K := K) (mg := mg) (base := base) (N := ["self", "manuals", "couplers", "stops", "chain", "octave"]) (qual := "Organ.__init__") (scope := defScope (inCls (top 22) 1)) (i := He.fAd K ("Organ", some "__init__")) (cdv := cdv) (A := A) (outer := outer) (s := s) (H := H) (E := E)
  have hp := passes_cx (P := P) (w := w) (K := K) (mg := mg) (base := base) (N := ["self", "manuals", "couplers", "stops", "chain", "octave"]) (qual := "Organ.__init__") (scope := defScope (inCls (top 22) 1)) (i := He.fAd K ("Organ", some "__init__")) (cdv := cdv) (A := A) (outer := outer) (s := s) (H := H) (E := E)
  exact es_cons (es_if (et_not (et_val (ex_call (c_is_integer T) (hr.mono (by decide)) tk (ea_cons (ex_var 1) (ea_cons (ex_int) (ea_cons (ex_int) (ea_nil))))))) (es_one (es_raise0 (c := 4) (T.exc (x := "InvalidManuals") 8 9) rfl tk)) (es_nil))
    (es_cons (es_expr (ex_call (c_look_at_couplers T) (hr.mono (by decide)) tk (ea_cons (ex_var 2) (ea_cons (ex_var 1) (ea_nil)))))
    (es_cons (es_expr (ex_call (c_look_at_stops T) (hr.mono (by decide)) tk (ea_cons (ex_var 3) (ea_cons (ex_var 1) (ea_nil)))))
    (es_cons (es_if (et_w (et_or (et_not (et_val (ex_isTy kind_str (ex_var 4) (T.free (x := "isinstance") 6) (T.free (x := "str") 20) rfl))) (et_or1 (et_cmp (m_notInA (hr.mono (by decide))) (ex_var 4) (ex_glob (T.cst (x := "CHAINS") (d := (.tup [(.str "all"), (.str "pressed")])) 21)))))) (es_one (es_raise0 (c := 7) (T.exc (x := "InvalidChain") 22 23) rfl tk)) (es_nil))
    (es_cons (es_if (et_w (et_or (et_not (et_val (ex_call (c_is_integer T) (hr.mono (by decide)) tk (ea_cons (ex_var 5) (ea_cons (ex_int) (ea_cons (ex_int) (ea_nil))))))) (et_or1 (et_cmp (m_notInA (hr.mono (by decide))) (ex_var 5) (ex_glob (T.cst (x := "OCTAVES") (d := (.tup [(.int 0), (.int 2), (.int 3)])) 24)))))) (es_one (es_raise0 (c := 8) (T.exc (x := "InvalidOctave") 25 26) rfl tk)) (es_nil))
    (es_cons (es_fld (c := 0) (i := 2) (T.slt (x := "Organ") (f := "many") (i := 2) 27 28) (ex_var 0) (ex_var 1))
    (es_cons (es_fld (c := 0) (i := 1) (T.slt (x := "Organ") (f := "links") (i := 1) 27 29) (ex_var 0) (ex_var 2))
    (es_cons (es_fld (c := 0) (i := 4) (T.slt (x := "Organ") (f := "ranks") (i := 4) 27 30) (ex_var 0) (ex_var 3))
    (es_cons (es_fld (c := 0) (i := 3) (T.slt (x := "Organ") (f := "passing") (i := 3) 27 31) (ex_var 0) (ex_var 4))
    (es_one (es_fld (c := 0) (i := 0) (T.slt (x := "Organ") (f := "by") (i := 0) 27 32) (ex_var 0) (ex_var 5)))))))))))
theorem m_Organ (T : Fct K mg) : Mkd P w K mg base (GmK K) 5 0 "Organ" 6 f_Organ_init := let ⟨fd, FD⟩ := T.c.def_ 13 (d := d_Organ_init) rfl; ⟨T.glo (x := "Organ") 33, ⟨_, fd, _, He.mkr_ok (x := "Organ") (T.c.fact 34 (f := .he (.mkr "Organ"))), k_Organ_init T FD, FD.bindsN fun _ _ _ _ _ _ us hl => match us, hl with | [_, _, _, _, _, _], _ => rfl⟩⟩
theorem s__law_built : FnScope ["_law_t"] ["_law_t"] (defScope (top 42)) := ⟨rfl, rfl, rfl, by decide +kernel, rfl, by decide +kernel, by decide +kernel⟩
theorem k__law_built (T : Fct K mg) {fd : FuncData} (FD : FunD K d__law_built.name d__law_built.qual d__law_built.params d__law_built.body d__law_built.scope (d__law_built.dvs K) (d__law_built.kws K) (He.fAd K d__law_built.at_) fd) : FnOk P w K mg base (L2.CX P w) 7 (He.fAd K d__law_built.at_) fd ["_law_t"] (spF P w K (GmK K) 1 f__law_built) := by
  refine fn_mk (k := 6) (N := ["_law_t"]) (ps := ["_law_t"]) FD s__law_built fun cdv A outer s H E hr => ?_
  have hN : (["_law_t"] : List Str).Nodup := (s__law_built).nd
  have tk := takes_cx (P := P) (w := w) (K := K) (mg := mg) (base := base) (N := ["_law_t"]) (qual := "_law_built") (scope := defScope (top 42)) (i := He.fAd K ("_law_built", none)) (cdv := cdv) (A := A) (outer := outer) (s := s) (H := H) (E := E)
  have hp := passes_cx (P := P) (w := w) (K := K) (mg := mg) (base := base) (N := ["_law_t"]) (qual := "_law_built") (scope := defScope (top 42)) (i := He.fAd K ("_law_built", none)) (cdv := cdv) (A := A) (outer := outer) (s := s) (H := H) (E := E)
  exact es_one (es_ret (ex_make (m_Organ T) (hr.mono (by decide)) tk (ea_cons (ex_ixA (hr.mono (by decide)) (ex_var 0) (ex_int)) (ea_cons (ex_ixA (hr.mono (by decide)) (ex_var 0) (ex_int)) (ea_cons (ex_ixA (hr.mono (by decide)) (ex_var 0) (ex_int)) (ea_cons (ex_ixA (hr.mono (by decide)) (ex_var 0) (ex_int)) (ea_cons (ex_ixA (hr.mono (by decide)) (ex_var 0) (ex_int)) (ea_nil))))))))
theorem c__law_built (T : Fct K mg) : Cal P w K mg base (GmK K) 7 "_law_built" ["_law_t"] f__law_built := let ⟨fd, FD⟩ := T.c.def_ 14 (d := d__law_built) rfl; ⟨⟨_, fd, k__law_built T FD, T.glo (x := "_law_built") 81, FD.kp, FD.bindsN fun _ _ _ _ _ _ us hl => match us, hl with | [_], _ => rfl⟩⟩
theorem s_look_at_top : FnScope ["top", "most"] ["top", "most"] (defScope (top 27)) := ⟨rfl, rfl, rfl, by decide +kernel, rfl, by decide +kernel, by decide +kernel⟩
theorem k_look_at_top (T : Fct K mg) {fd : FuncData} (FD : FunD K d_look_at_top.name d_look_at_top.qual d_look_at_top.params d_look_at_top.body d_look_at_top.scope (d_look_at_top.dvs K) (d_look_at_top.kws K) (He.fAd K d_look_at_top.at_) fd) : FnOk P w K mg base (L2.CX P w) 3 (He.fAd K d_look_at_top.at_) fd ["top", "most"] (spF P w K (GmK K) 2 f_look_at_top) := by
  refine fn_mk (k := 2) (N := ["top", "most"]) (ps := ["top", "most"]) FD s_look_at_top fun cdv A outer s H E hr => ?_
  have hN : (["top", "most"] : List Str).Nodup := (s_look_at_top).nd
  have tk := takes_cx (P := P) (w := w) (K := K) (mg := mg) (base := base) (N := ["top", "most"]) (qual := "look_at_top") (scope := defScope (top 27)) (i := He.fAd K ("look_at_top", none)) (cdv := cdv) (A := A) (outer := outer) (s := s) (H := H) (E := E)
  have hp := passes_cx (P := P) (w := w) (K := K) (mg := mg) (base := base) (N := ["top", "most"]) (qual := "look_at_top") (scope := defScope (top 27)) (i := He.fAd K ("look_at_top", none)) (cdv := cdv) (A := A) (outer := outer) (s := s) (H := H) (E := E)
  exact es_one (es_if (et_not (et_val (ex_call (c_is_integer T) (hr.mono (by decide)) tk (ea_cons (ex_var 0) (ea_cons (ex_int) (ea_cons (ex_var 1) (ea_nil))))))) (es_one (es_raise0 (c := 9) (T.exc (x := "InvalidTop") 35 36) rfl tk)) (es_nil))
theorem c_look_at_top (T : Fct K mg) : Cal P w K mg base (GmK K) 3 "look_at_top" ["top", "most"] f_look_at_top := let ⟨fd, FD⟩ := T.c.def_ 15 (d := d_look_at_top) rfl; ⟨⟨_, fd, k_look_at_top T FD, T.glo (x := "look_at_top") 82, FD.kp, FD.bindsN fun _ _ _ _ _ _ us hl => match us, hl with | [_, _], _ => rfl⟩⟩
theorem s_look_at_key : FnScope ["organ", "top", "manual", "key"] ["organ", "top", "manual", "key"] (defScope (top 28)) := ⟨rfl, rfl, rfl, by decide +kernel, rfl, by decide +kernel, by decide +kernel⟩
theorem k_look_at_key (T : Fct K mg) {fd : FuncData} (FD : FunD K d_look_at_key.name d_look_at_key.qual d_look_at_key.params d_look_at_key.body d_look_at_key.scope (d_look_at_key.dvs K) (d_look_at_key.kws K) (He.fAd K d_look_at_key.at_) fd) : FnOk P w K mg base (L2.CX P w) 3 (He.fAd K d_look_at_key.at_) fd ["organ", "top", "manual", "key"] (spF P w K (GmK K) 4 f_look_at_key) := by
  refine fn_mk (k := 2) (N := ["organ", "top", "manual", "key"]) (ps := ["organ", "top", "manual", "key"]) FD s_look_at_key fun cdv A outer s H E hr => ?_
  have hN : (["organ", "top", "manual", "key"] : List Str).Nodup := (s_look_at_key).nd
  have tk := takes_cx (P := P) (w := w) (K := K) (mg := mg) (base := base) (N := ["organ", "top", "manual", "key"]) (qual := "look_at_key") (scope := defScope (top 28)) (i := He.fAd K ("look_at_key", none)) (cdv := cdv) (A := A) (outer := outer) (s := s) (H := H) (E := E)
  have hp := passes_cx (P := P) (w := w) (K := K) (mg := mg) (base := base) (N := ["organ", "top", "manual", "key"]) (qual := "look_at_key") (scope := defScope (top 28)) (i := He.fAd K ("look_at_key", none)) (cdv := cdv) (A := A) (outer := outer) (s := s) (H := H) (E := E)
  exact es_one (es_if (et_w (et_or (et_not (et_val (ex_call (c_is_integer T) (hr.mono (by decide)) tk (ea_cons (ex_var 2) (ea_cons (ex_int) (ea_cons (ex_op m_sub (ex_fld (c := 0) (i := 2) (T.slt (x := "Organ") (f := "many") (i := 2) 27 28) (ex_var 0)) (ex_int)) (ea_nil))))))) (et_or1 (et_not (et_val (ex_call (c_is_integer T) (hr.mono (by decide)) tk (ea_cons (ex_var 3) (ea_cons (ex_int) (ea_cons (ex_var 1) (ea_nil)))))))))) (es_one (es_raise0 (c := 10) (T.exc (x := "InvalidKey") 38 39) rfl tk)) (es_nil))
theorem c_look_at_key (T : Fct K mg) : Cal P w K mg base (GmK K) 3 "look_at_key" ["organ", "top", "manual", "key"] f_look_at_key := let ⟨fd, FD⟩ := T.c.def_ 16 (d := d_look_at_key) rfl; ⟨⟨_, fd, k_look_at_key T FD, T.glo (x := "look_at_key") 83, FD.kp, FD.bindsN fun _ _ _ _ _ _ us hl => match us, hl with | [_, _, _, _], _ => rfl⟩⟩
theorem s_led_to : FnScope ["place", "shift", "top", "octave", "found"] ["place", "shift", "top", "octave"] (defScope (top 24)) := ⟨rfl, rfl, rfl, by decide +kernel, rfl, by decide +kernel, by decide +kernel⟩
theorem k_led_to (T : Fct K mg) {fd : FuncData} (FD : FunD K d_led_to.name d_led_to.qual d_led_to.params d_led_to.body d_led_to.scope (d_led_to.dvs K) (d_led_to.kws K) (He.fAd K d_led_to.at_) fd) : FnOk P w K mg base (L2.CX P w) 2 (He.fAd K d_led_to.at_) fd ["place", "shift", "top", "octave"] (spF P w K (GmK K) 4 f_led_to) := by
  refine fn_mk (k := 1) (N := ["place", "shift", "top", "octave", "found"]) (ps := ["place", "shift", "top", "octave"]) FD s_led_to fun cdv A outer s H E hr => ?_
  have hN : (["place", "shift", "top", "octave", "found"] : List Str).Nodup := (s_led_to).nd
  have tk := takes_cx (P := P) (w := w) (K := K) (mg := mg) (base := base) (N := ["place", "shift", "top", "octave", "found"]) (qual := "led_to") (scope := defScope (top 24)) (i := He.fAd K ("led_to", none)) (cdv := cdv) (A := A) (outer := outer) (s := s) (H := H) (E := E)
  have hp := passes_cx (P := P) (w := w) (K := K) (mg := mg) (base := base) (N := ["place", "shift", "top", "octave", "found"]) (qual := "led_to") (scope := defScope (top 24)) (i := He.fAd K ("led_to", none)) (cdv := cdv) (A := A) (outer := outer) (s := s) (H := H) (E := E)
  exact es_cons (es_set 4 hN (ex_op m_add (ex_var 0) (ex_var 1)))
    (es_cons (es_if (et_w (et_and (et_cmp m_gt (ex_var 3) (ex_int)) (et_and1 (et_cmp m_lt (ex_var 4) (ex_int))))) (es_one (es_set 4 hN (ex_op m_add (ex_var 4) (ex_var 3)))) (es_one (es_if (et_w (et_and (et_cmp m_gt (ex_var 3) (ex_int)) (et_and1 (et_cmp m_gt (ex_var 4) (ex_var 2))))) (es_one (es_set 4 hN (ex_op m_sub (ex_var 4) (ex_var 3)))) (es_nil))))
    (es_one (es_ret (ex_if (et_chain m_le m_le (ex_int) (ex_var 4) (ex_var 2)) (ex_var 4) (ex_non)))))
theorem c_led_to (T : Fct K mg) : Cal P w K mg base (GmK K) 2 "led_to" ["place", "shift", "top", "octave"] f_led_to := let ⟨fd, FD⟩ := T.c.def_ 17 (d := d_led_to) rfl; ⟨⟨_, fd, k_led_to T FD, T.glo (x := "led_to") 84, FD.kp, FD.bindsN fun _ _ _ _ _ _ us hl => match us, hl with | [_, _, _, _], _ => rfl⟩⟩
theorem s_led_keys : FnScope ["organ", "links", "top", "spot", "found", "first", "second", "shift", "key"] ["organ", "links", "top", "spot"] (defScope (top 29)) := ⟨rfl, rfl, rfl, by decide +kernel, rfl, by decide +kernel, by decide +kernel⟩
theorem k_led_keys (T : Fct K mg) {fd : FuncData} (FD : FunD K d_led_keys.name d_led_keys.qual d_led_keys.params d_led_keys.body d_led_keys.scope (d_led_keys.dvs K) (d_led_keys.kws K) (He.fAd K d_led_keys.at_) fd) : FnOk P w K mg base (L2.CX P w) 3 (He.fAd K d_led_keys.at_) fd ["organ", "links", "top", "spot"] (spF P w K (GmK K) 4 f_led_keys) := by
  refine fn_mk (k := 2) (N := ["organ", "links", "top", "spot", "found", "first", "second", "shift", "key"]) (ps := ["organ", "links", "top", "spot"]) FD s_led_keys fun cdv A outer s H E hr => ?_
  have hN : (["organ", "links", "top", "spot", "found", "first", "second", "shift", "key"] : List Str).Nodup := (s_led_keys).nd
  have tk := takes_cx (P := P) (w := w) (K := K) (mg := mg) (base := base) (N := ["organ", "links", "top", "spot", "found", "first", "second", "shift", "key"]) (qual := "led_keys") (scope := defScope (top 29)) (i := He.fAd K ("led_keys", none)) (cdv := cdv) (A := A) (outer := outer) (s := s) (H := H) (E := E)
  have hp := passes_cx (P := P) (w := w) (K := K) (mg := mg) (base := base) (N := ["organ", "links", "top", "spot", "found", "first", "second", "shift", "key"]) (qual := "led_keys") (scope := defScope (top 29)) (i := He.fAd K ("led_keys", none)) (cdv := cdv) (A := A) (outer := outer) (s := s) (H := H) (E := E)
  exact es_cons (es_set 4 hN (ex_lst (ea_nil)))
    (es_cons (es_for hp rfl (ei_seq (ex_var 1)) (eg_tup rfl (egs_cons (eg_name 5 hN) (egs_cons (eg_name 6 hN) (egs_cons (eg_name 7 hN) (egs_nil))))) (es_one (es_if (et_cmp (m_eq (u64 hr)) (ex_var 5) (ex_ixA (hr.mono (by decide)) (ex_var 3) (ex_int))) (es_cons (es_set 8 hN (ex_call (c_led_to T) (hr.mono (by decide)) tk (ea_cons (ex_ixA (hr.mono (by decide)) (ex_var 3) (ex_int)) (ea_cons (ex_var 7) (ea_cons (ex_var 2) (ea_cons (ex_fld (c := 0) (i := 0) (T.slt (x := "Organ") (f := "by") (i := 0) 27 32) (ex_var 0)) (ea_nil)))))))
    (es_one (es_if (et_cmp m_isNot (ex_var 8) (ex_non)) (es_one (es_expr (ex_meth F.plainAttrs_list F.slot_list_append F.type_list_append ty_lst l_append (ex_var 4) (ea_cons (ex_tup (ea_cons (ex_var 6) (ea_cons (ex_var 8) (ea_nil)))) (ea_nil))))) (es_nil)))) (es_nil))))
    (es_one (es_ret (ex_var 4))))
theorem c_led_keys (T : Fct K mg) : Cal P w K mg base (GmK K) 3 "led_keys" ["organ", "links", "top", "spot"] f_led_keys := let ⟨fd, FD⟩ := T.c.def_ 18 (d := d_led_keys) rfl; ⟨⟨_, fd, k_led_keys T FD, T.glo (x := "led_keys") 85, FD.kp, FD.bindsN fun _ _ _ _ _ _ us hl => match us, hl with | [_, _, _, _], _ => rfl⟩⟩
theorem s_all_on : FnScope ["organ", "links", "top", "pressed", "found", "spot", "waiting", "later"] ["organ", "links", "top", "pressed"] (defScope (top 30)) := ⟨rfl, rfl, rfl, by decide +kernel, rfl, by decide +kernel, by decide +kernel⟩
theorem k_all_on (T : Fct K mg) {fd : FuncData} (FD : FunD K d_all_on.name d_all_on.qual d_all_on.params d_all_on.body d_all_on.scope (d_all_on.dvs K) (d_all_on.kws K) (He.fAd K d_all_on.at_) fd) : FnOk P w K mg base (L2.CX P w) 4 (He.fAd K d_all_on.at_) fd ["organ", "links", "top", "pressed"] (spF P w K (GmK K) 4 f_all_on) := by
  refine fn_mk (k := 3) (N := ["organ", "links", "top", "pressed", "found", "spot", "waiting", "later"]) (ps := ["organ", "links", "top", "pressed"]) FD s_all_on fun cdv A outer s H E hr => ?_
  have hN : (["organ", "links", "top", "pressed", "found", "spot", "waiting", "later"] : List Str).Nodup := (s_all_on).nd
  have tk := takes_cx (P := P) (w := w) (K := K) (mg := mg) (base := base) (N := ["organ", "links", "top", "pressed", "found", "spot", "waiting", "later"]) (qual := "all_on") (scope := defScope (top 30)) (i := He.fAd K ("all_on", none)) (cdv := cdv) (A := A) (outer := outer) (s := s) (H := H) (E := E)
  have hp := passes_cx (P := P) (w := w) (K := K) (mg := mg) (base := base) (N := ["organ", "links", "top", "pressed", "found", "spot", "waiting", "later"]) (qual := "all_on") (scope := defScope (top 30)) (i := He.fAd K ("all_on", none)) (cdv := cdv) (A := A) (outer := outer) (s := s) (H := H) (E := E)
  exact es_cons (es_set 4 hN (ex_dict))
    (es_cons (es_for hp rfl (ei_seq (ex_var 3)) (eg_name 5 hN) (es_one (es_put (put_any (hr.mono (by decide))) (ex_var 4) (ex_var 5) (ex_bl))))
    (es_cons (es_set 6 hN (ex_callTy (b_listA rfl) (T.free (x := "list") 1) rfl (ea_cons (ex_var 3) (ea_nil))))
    (es_cons (es_while hp (et_cmp (m_ne (u64 hr)) (ex_var 6) (ex_lst (ea_nil))) (es_cons (es_set 5 hN (ex_meth0 F.plainAttrs_list F.slot_list_pop F.type_list_pop ty_lst l_pop (ex_var 6)))
    (es_one (es_for hp rfl (ei_seq (ex_call (c_led_keys T) (hr.mono (by decide)) tk (ea_cons (ex_var 0) (ea_cons (ex_var 1) (ea_cons (ex_var 2) (ea_cons (ex_var 5) (ea_nil))))))) (eg_name 7 hN) (es_one (es_if (et_cmp (m_notInA (hr.mono (by decide))) (ex_var 7) (ex_var 4)) (es_cons (es_put (put_any (hr.mono (by decide))) (ex_var 4) (ex_var 7) (ex_bl))
    (es_one (es_if (et_cmp (m_eq (u64 hr)) (ex_fld (c := 0) (i := 3) (T.slt (x := "Organ") (f := "passing") (i := 3) 27 31) (ex_var 0)) (ex_str)) (es_one (es_expr (ex_meth F.plainAttrs_list F.slot_list_append F.type_list_append ty_lst l_append (ex_var 6) (ea_cons (ex_var 7) (ea_nil))))) (es_nil)))) (es_nil)))))))
    (es_one (es_ret (ex_callB (b_sorted rfl) (T.free (x := "sorted") 40) rfl (ea_cons (ex_var 4) (ea_nil))))))))
theorem c_all_on (T : Fct K mg) : Cal P w K mg base (GmK K) 4 "all_on" ["organ", "links", "top", "pressed"] f_all_on := let ⟨fd, FD⟩ := T.c.def_ 19 (d := d_all_on) rfl; ⟨⟨_, fd, k_all_on T FD, T.glo (x := "all_on") 86, FD.kp, FD.bindsN fun _ _ _ _ _ _ us hl => match us, hl with | [_, _, _, _], _ => rfl⟩⟩
theorem s_keys_on : FnScope ["organ", "top", "manual", "key"] ["organ", "top", "manual", "key"] (defScope (top 32)) := ⟨rfl, rfl, rfl, by decide +kernel, rfl, by decide +kernel, by decide +kernel⟩
theorem k_keys_on (T : Fct K mg) {fd : FuncData} (FD : FunD K d_keys_on.name d_keys_on.qual d_keys_on.params d_keys_on.body d_keys_on.scope (d_keys_on.dvs K) (d_keys_on.kws K) (He.fAd K d_keys_on.at_) fd) : FnOk P w K mg base (L2.CX P w) 5 (He.fAd K d_keys_on.at_) fd ["organ", "top", "manual", "key"] (spF P w K (GmK K) 4 f_keys_on) := by
  refine fn_mk (k := 4) (N := ["organ", "top", "manual", "key"]) (ps := ["organ", "top", "manual", "key"]) FD s_keys_on fun cdv A outer s H E hr => ?_
  have hN : (["organ", "top", "manual", "key"] : List Str).Nodup := (s_keys_on).nd
  have tk := takes_cx (P := P) (w := w) (K := K) (mg := mg) (base := base) (N := ["organ", "top", "manual", "key"]) (qual := "keys_on") (scope := defScope (top 32)) (i := He.fAd K ("keys_on", none)) (cdv := cdv) (A := A) (outer := outer) (s := s) (H := H) (E := E)
  have hp := passes_cx (P := P) (w := w) (K := K) (mg := mg) (base := base) (N := ["organ", "top", "manual", "key"]) (qual := "keys_on") (scope := defScope (top 32)) (i := He.fAd K ("keys_on", none)) (cdv := cdv) (A := A) (outer := outer) (s := s) (H := H) (E := E)
  exact es_cons (es_expr (ex_call (c_look_at_top T) (hr.mono (by decide)) tk (ea_cons (ex_var 1) (ea_cons (ex_glob (T.cst (x := "MOST_TOP") (d := (.int 200)) 37)) (ea_nil)))))
    (es_cons (es_expr (ex_call (c_look_at_key T) (hr.mono (by decide)) tk (ea_cons (ex_var 0) (ea_cons (ex_var 1) (ea_cons (ex_var 2) (ea_cons (ex_var 3) (ea_nil)))))))
    (es_one (es_ret (ex_call (c_all_on T) (hr.mono (by decide)) tk (ea_cons (ex_var 0) (ea_cons (ex_fld (c := 0) (i := 1) (T.slt (x := "Organ") (f := "links") (i := 1) 27 29) (ex_var 0)) (ea_cons (ex_var 1) (ea_cons (ex_lst (ea_cons (ex_tup (ea_cons (ex_var 2) (ea_cons (ex_var 3) (ea_nil)))) (ea_nil))) (ea_nil)))))))))
theorem c_keys_on (T : Fct K mg) : Cal P w K mg base (GmK K) 5 "keys_on" ["organ", "top", "manual", "key"] f_keys_on := let ⟨fd, FD⟩ := T.c.def_ 20 (d := d_keys_on) rfl; ⟨⟨_, fd, k_keys_on T FD, T.glo (x := "keys_on") 87, FD.kp, FD.bindsN fun _ _ _ _ _ _ us hl => match us, hl with | [_, _, _, _], _ => rfl⟩⟩
theorem s__law_led : FnScope ["_law_t", "_law_top", "_law_place", "_law_shift", "_law_found"] ["_law_t", "_law_top", "_law_place", "_law_shift"] (defScope (top 43)) := ⟨rfl, rfl, rfl, by decide +kernel, rfl, by decide +kernel, by decide +kernel⟩
theorem k__law_led (T : Fct K mg) {fd : FuncData} (FD : FunD K d__law_led.name d__law_led.qual d__law_led.params d__law_led.body d__law_led.scope (d__law_led.dvs K) (d__law_led.kws K) (He.fAd K d__law_led.at_) fd) : FnOk P w K mg base (L2.CX P w) 2 (He.fAd K d__law_led.at_) fd ["_law_t", "_law_top", "_law_place", "_law_shift"] (spF P w K (GmK K) 4 f__law_led) := by
  refine fn_mk (k := 1) (N := ["_law_t", "_law_top", "_law_place", "_law_shift", "_law_found"]) (ps := ["_law_t", "_law_top", "_law_place", "_law_shift"]) FD s__law_led fun cdv A outer s H E hr => ?_
  have hN : (["_law_t", "_law_top", "_law_place", "_law_shift", "_law_found"] : List Str).Nodup := (s__law_led).nd
  have tk := takes_cx (P := P) (w := w) (K := K) (mg := mg) (base := base) (N := ["_law_t", "_law_top", "_law_place", "_law_shift", "_law_found"]) (qual := "_law_led") (scope := defScope (top 43)) (i := He.fAd K ("_law_led", none)) (cdv := cdv) (A := A) (outer := outer) (s := s) (H := H) (E := E)
  have hp := passes_cx (P := P) (w := w) (K := K) (mg := mg) (base := base) (N := ["_law_t", "_law_top", "_law_place", "_law_shift", "_law_found"]) (qual := "_law_led") (scope := defScope (top 43)) (i := He.fAd K ("_law_led", none)) (cdv := cdv) (A := A) (outer := outer) (s := s) (H := H) (E := E)
  exact es_cons (es_set 4 hN (ex_op m_add (ex_var 2) (ex_var 3)))
    (es_cons (es_if (et_w (et_and (et_cmp m_gt (ex_ixA (hr.mono (by decide)) (ex_var 0) (ex_int)) (ex_int)) (et_and1 (et_cmp m_lt (ex_var 4) (ex_int))))) (es_one (es_set 4 hN (ex_op m_add (ex_var 4) (ex_ixA (hr.mono (by decide)) (ex_var 0) (ex_int))))) (es_one (es_if (et_w (et_and (et_cmp m_gt (ex_ixA (hr.mono (by decide)) (ex_var 0) (ex_int)) (ex_int)) (et_and1 (et_cmp m_gt (ex_var 4) (ex_var 1))))) (es_one (es_set 4 hN (ex_op m_sub (ex_var 4) (ex_ixA (hr.mono (by decide)) (ex_var 0) (ex_int))))) (es_nil))))
    (es_one (es_ret (ex_if (et_chain m_le m_le (ex_int) (ex_var 4) (ex_var 1)) (ex_var 4) (ex_non)))))
theorem c__law_led (T : Fct K mg) : Cal P w K mg base (GmK K) 2 "_law_led" ["_law_t", "_law_top", "_law_place", "_law_shift"] f__law_led := let ⟨fd, FD⟩ := T.c.def_ 21 (d := d__law_led) rfl; ⟨⟨_, fd, k__law_led T FD, T.glo (x := "_law_led") 88, FD.kp, FD.bindsN fun _ _ _ _ _ _ us hl => match us, hl with | [_, _, _, _], _ => rfl⟩⟩
theorem s__law_on : FnScope ["_law_t", "_law_top", "_law_pressed", "_law_known", "_law_queue", "_law_spot", "_law_first", "_law_second", "_law_shift", "_law_key"] ["_law_t", "_law_top", "_law_pressed"] (defScope (top 44)) := ⟨rfl, rfl, rfl, by decide +kernel, rfl, by decide +kernel, by decide +kernel⟩
theorem k__law_on (T : Fct K mg) {fd : FuncData} (FD : FunD K d__law_on.name d__law_on.qual d__law_on.params d__law_on.body d__law_on.scope (d__law_on.dvs K) (d__law_on.kws K) (He.fAd K d__law_on.at_) fd) : FnOk P w K mg base (L2.CX P w) 3 (He.fAd K d__law_on.at_) fd ["_law_t", "_law_top", "_law_pressed"] (spF P w K (GmK K) 3 f__law_on) := by
  refine fn_mk (k := 2) (N := ["_law_t", "_law_top", "_law_pressed", "_law_known", "_law_queue", "_law_spot", "_law_first", "_law_second", "_law_shift", "_law_key"]) (ps := ["_law_t", "_law_top", "_law_pressed"]) FD s__law_on fun cdv A outer s H E hr => ?_
  have hN : (["_law_t", "_law_top", "_law_pressed", "_law_known", "_law_queue", "_law_spot", "_law_first", "_law_second", "_law_shift", "_law_key"] : List Str).Nodup := (s__law_on).nd
  have tk := takes_cx (P := P) (w := w) (K := K) (mg := mg) (base := base) (N := ["_law_t", "_law_top", "_law_pressed", "_law_known", "_law_queue", "_law_spot", "_law_first", "_law_second", "_law_shift", "_law_key"]) (qual := "_law_on") (scope := defScope (top 44)) (i := He.fAd K ("_law_on", none)) (cdv := cdv) (A := A) (outer := outer) (s := s) (H := H) (E := E)
  have hp := passes_cx (P := P) (w := w) (K := K) (mg := mg) (base := base) (N := ["_law_t", "_law_top", "_law_pressed", "_law_known", "_law_queue", "_law_spot", "_law_first", "_law_second", "_law_shift", "_law_key"]) (qual := "_law_on") (scope := defScope (top 44)) (i := He.fAd K ("_law_on", none)) (cdv := cdv) (A := A) (outer := outer) (s := s) (H := H) (E := E)
  exact es_cons (es_set 3 hN (ex_dict))
    (es_cons (es_set 4 hN (ex_lst (ea_nil)))
    (es_cons (es_for hp rfl (ei_seq (ex_var 2)) (eg_name 5 hN) (es_cons (es_put (put_any (hr.mono (by decide))) (ex_var 3) (ex_var 5) (ex_bl))
    (es_one (es_expr (ex_meth F.plainAttrs_list F.slot_list_append F.type_list_append ty_lst l_append (ex_var 4) (ea_cons (ex_var 5) (ea_nil)))))))
    (es_cons (es_while hp (et_cmp (m_ne (u64 hr)) (ex_var 4) (ex_lst (ea_nil))) (es_cons (es_set 5 hN (ex_ixA (hr.mono (by decide)) (ex_var 4) (ex_neg (ex_int))))
    (es_cons (es_set 4 hN (ex_cut (ex_var 4) (eo_none) (eo_some (ex_neg (ex_int)))))
    (es_one (es_for hp rfl (ei_seq (ex_ixA (hr.mono (by decide)) (ex_var 0) (ex_int))) (eg_tup rfl (egs_cons (eg_name 6 hN) (egs_cons (eg_name 7 hN) (egs_cons (eg_name 8 hN) (egs_nil))))) (es_cons (es_set 9 hN (ex_if (et_cmp (m_eq (u64 hr)) (ex_var 6) (ex_ixA (hr.mono (by decide)) (ex_var 5) (ex_int))) (ex_call (c__law_led T) (hr.mono (by decide)) tk (ea_cons (ex_var 0) (ea_cons (ex_var 1) (ea_cons (ex_ixA (hr.mono (by decide)) (ex_var 5) (ex_int)) (ea_cons (ex_var 8) (ea_nil)))))) (ex_non)))
    (es_one (es_if (et_w (et_and (et_cmp m_isNot (ex_var 9) (ex_non)) (et_and1 (et_cmp (m_notInA (hr.mono (by decide))) (ex_tup (ea_cons (ex_var 7) (ea_cons (ex_var 9) (ea_nil)))) (ex_var 3))))) (es_cons (es_put (put_any (hr.mono (by decide))) (ex_var 3) (ex_tup (ea_cons (ex_var 7) (ea_cons (ex_var 9) (ea_nil)))) (ex_bl))
    (es_one (es_if (et_cmp (m_eq (u64 hr)) (ex_ixA (hr.mono (by decide)) (ex_var 0) (ex_int)) (ex_str)) (es_one (es_expr (ex_meth F.plainAttrs_list F.slot_list_append F.type_list_append ty_lst l_append (ex_var 4) (ea_cons (ex_tup (ea_cons (ex_var 7) (ea_cons (ex_var 9) (ea_nil)))) (ea_nil))))) (es_nil)))) (es_nil)))))))))
    (es_one (es_ret (ex_callB (b_sorted rfl) (T.free (x := "sorted") 40) rfl (ea_cons (ex_callTy (b_listA rfl) (T.free (x := "list") 1) rfl (ea_cons (ex_var 3) (ea_nil))) (ea_nil))))))))
theorem c__law_on (T : Fct K mg) : Cal P w K mg base (GmK K) 3 "_law_on" ["_law_t", "_law_top", "_law_pressed"] f__law_on := let ⟨fd, FD⟩ := T.c.def_ 22 (d := d__law_on) rfl; ⟨⟨_, fd, k__law_on T FD, T.glo (x := "_law_on") 89, FD.kp, FD.bindsN fun _ _ _ _ _ _ us hl => match us, hl with | [_, _, _], _ => rfl⟩⟩
theorem s_all_pipes : FnScope ["organ", "ranks", "top", "spots", "found", "manual", "key", "own", "rank", "shift", "pipe"] ["organ", "ranks", "top", "spots"] (defScope (top 31)) := ⟨rfl, rfl, rfl, by decide +kernel, rfl, by decide +kernel, by decide +kernel⟩
theorem k_all_pipes (T : Fct K mg) {fd : FuncData} (FD : FunD K d_all_pipes.name d_all_pipes.qual d_all_pipes.params d_all_pipes.body d_all_pipes.scope (d_all_pipes.dvs K) (d_all_pipes.kws K) (He.fAd K d_all_pipes.at_) fd) : FnOk P w K mg base (L2.CX P w) 3 (He.fAd K d_all_pipes.at_) fd ["organ", "ranks", "top", "spots"] (spF P w K (GmK K) 4 f_all_pipes) := by
  refine fn_mk (k := 2) (N := ["organ", "ranks", "top", "spots", "found", "manual", "key", "own", "rank", "shift", "pipe"]) (ps := ["organ", "ranks", "top", "spots"]) FD s_all_pipes fun cdv A outer s H E hr => ?_
  have hN : (["organ", "ranks", "top", "spots", "found", "manual", "key", "own", "rank", "shift", "pipe"] : List Str).Nodup := (s_all_pipes).nd
  have tk := takes_cx (P := P) (w := w) (K := K) (mg := mg) (base := base) (N := ["organ", "ranks", "top", "spots", "found", "manual", "key", "own", "rank", "shift", "pipe"]) (qual := "all_pipes") (scope := defScope (top 31)) (i := He.fAd K ("all_pipes", none)) (cdv := cdv) (A := A) (outer := outer) (s := s) (H := H) (E := E)
  have hp := passes_cx (P := P) (w := w) (K := K) (mg := mg) (base := base) (N := ["organ", "ranks", "top", "spots", "found", "manual", "key", "own", "rank", "shift", "pipe"]) (qual := "all_pipes") (scope := defScope (top 31)) (i := He.fAd K ("all_pipes", none)) (cdv := cdv) (A := A) (outer := outer) (s := s) (H := H) (E := E)
  exact es_cons (es_set 4 hN (ex_dict))
    (es_cons (es_for hp rfl (ei_seq (ex_var 3)) (eg_tup rfl (egs_cons (eg_name 5 hN) (egs_cons (eg_name 6 hN) (egs_nil)))) (es_one (es_for hp rfl (ei_seq (ex_var 1)) (eg_tup rfl (egs_cons (eg_name 7 hN) (egs_cons (eg_name 8 hN) (egs_cons (eg_name 9 hN) (egs_nil))))) (es_cons (es_set 10 hN (ex_if (et_cmp (m_eq (u64 hr)) (ex_var 7) (ex_var 5)) (ex_call (c_led_to T) (hr.mono (by decide)) tk (ea_cons (ex_var 6) (ea_cons (ex_var 9) (ea_cons (ex_var 2) (ea_cons (ex_fld (c := 0) (i := 0) (T.slt (x := "Organ") (f := "by") (i := 0) 27 32) (ex_var 0)) (ea_nil)))))) (ex_non)))
    (es_one (es_if (et_cmp m_isNot (ex_var 10) (ex_non)) (es_one (es_put (put_any (hr.mono (by decide))) (ex_var 4) (ex_tup (ea_cons (ex_var 8) (ea_cons (ex_var 10) (ea_nil)))) (ex_bl))) (es_nil)))))))
    (es_one (es_ret (ex_callB (b_sorted rfl) (T.free (x := "sorted") 40) rfl (ea_cons (ex_var 4) (ea_nil))))))
theorem c_all_pipes (T : Fct K mg) : Cal P w K mg base (GmK K) 3 "all_pipes" ["organ", "ranks", "top", "spots"] f_all_pipes := let ⟨fd, FD⟩ := T.c.def_ 23 (d := d_all_pipes) rfl; ⟨⟨_, fd, k_all_pipes T FD, T.glo (x := "all_pipes") 90, FD.kp, FD.bindsN fun _ _ _ _ _ _ us hl => match us, hl with | [_, _, _, _], _ => rfl⟩⟩
theorem s_pipes_by : FnScope ["organ", "top", "manual", "key"] ["organ", "top", "manual", "key"] (defScope (top 33)) := ⟨rfl, rfl, rfl, by decide +kernel, rfl, by decide +kernel, by decide +kernel⟩
theorem k_pipes_by (T : Fct K mg) {fd : FuncData} (FD : FunD K d_pipes_by.name d_pipes_by.qual d_pipes_by.params d_pipes_by.body d_pipes_by.scope (d_pipes_by.dvs K) (d_pipes_by.kws K) (He.fAd K d_pipes_by.at_) fd) : FnOk P w K mg base (L2.CX P w) 5 (He.fAd K d_pipes_by.at_) fd ["organ", "top", "manual", "key"] (spF P w K (GmK K) 4 f_pipes_by) := by
  refine fn_mk (k := 4) (N := ["organ", "top", "manual", "key"]) (ps := ["organ", "top", "manual", "key"]) FD s_pipes_by fun cdv A outer s H E hr => ?_
  have hN : (["organ", "top", "manual", "key"] : List Str).Nodup := (s_pipes_by).nd
  have tk := takes_cx (P := P) (w := w) (K := K) (mg := mg) (base := base) (N := ["organ", "top", "manual", "key"]) (qual := "pipes_by") (scope := defScope (top 33)) (i := He.fAd K ("pipes_by", none)) (cdv := cdv) (A := A) (outer := outer) (s := s) (H := H) (E := E)
  have hp := passes_cx (P := P) (w := w) (K := K) (mg := mg) (base := base) (N := ["organ", "top", "manual", "key"]) (qual := "pipes_by") (scope := defScope (top 33)) (i := He.fAd K ("pipes_by", none)) (cdv := cdv) (A := A) (outer := outer) (s := s) (H := H) (E := E)
  exact es_one (es_ret (ex_call (c_all_pipes T) (hr.mono (by decide)) tk (ea_cons (ex_var 0) (ea_cons (ex_fld (c := 0) (i := 4) (T.slt (x := "Organ") (f := "ranks") (i := 4) 27 30) (ex_var 0)) (ea_cons (ex_var 1) (ea_cons (ex_call (c_all_on T) (hr.mono (by decide)) tk (ea_cons (ex_var 0) (ea_cons (ex_fld (c := 0) (i := 1) (T.slt (x := "Organ") (f := "links") (i := 1) 27 29) (ex_var 0)) (ea_cons (ex_var 1) (ea_cons (ex_lst (ea_cons (ex_tup (ea_cons (ex_var 2) (ea_cons (ex_var 3) (ea_nil)))) (ea_nil))) (ea_nil)))))) (ea_nil)))))))
theorem c_pipes_by (T : Fct K mg) : Cal P w K mg base (GmK K) 5 "pipes_by" ["organ", "top", "manual", "key"] f_pipes_by := let ⟨fd, FD⟩ := T.c.def_ 24 (d := d_pipes_by) rfl; ⟨⟨_, fd, k_pipes_by T FD, T.glo (x := "pipes_by") 91, FD.kp, FD.bindsN fun _ _ _ _ _ _ us hl => match us, hl with | [_, _, _, _], _ => rfl⟩⟩
theorem s_pipes : FnScope ["organ", "top", "manual", "key"] ["organ", "top", "manual", "key"] (defScope (top 34)) := ⟨rfl, rfl, rfl, by decide +kernel, rfl, by decide +kernel, by decide +kernel⟩
theorem k_pipes (T : Fct K mg) {fd : FuncData} (FD : FunD K d_pipes.name d_pipes.qual d_pipes.params d_pipes.body d_pipes.scope (d_pipes.dvs K) (d_pipes.kws K) (He.fAd K d_pipes.at_) fd) : FnOk P w K mg base (L2.CX P w) 6 (He.fAd K d_pipes.at_) fd ["organ", "top", "manual", "key"] (spF P w K (GmK K) 4 f_pipes) := by
  refine fn_mk (k := 5) (N := ["organ", "top", "manual", "key"]) (ps := ["organ", "top", "manual", "key"]) FD s_pipes fun cdv A outer s H E hr => ?_
  have hN : (["organ", "top", "manual", "key"] : List Str).Nodup := (s_pipes).nd
  have tk := takes_cx (P := P) (w := w) (K := K) (mg := mg) (base := base) (N := ["organ", "top", "manual", "key"]) (qual := "pipes") (scope := defScope (top 34)) (i := He.fAd K ("pipes", none)) (cdv := cdv) (A := A) (outer := outer) (s := s) (H := H) (E := E)
  have hp := passes_cx (P := P) (w := w) (K := K) (mg := mg) (base := base) (N := ["organ", "top", "manual", "key"]) (qual := "pipes") (scope := defScope (top 34)) (i := He.fAd K ("pipes", none)) (cdv := cdv) (A := A) (outer := outer) (s := s) (H := H) (E := E)
  exact es_cons (es_expr (ex_call (c_look_at_top T) (hr.mono (by decide)) tk (ea_cons (ex_var 1) (ea_cons (ex_glob (T.cst (x := "MOST_TOP") (d := (.int 200)) 37)) (ea_nil)))))
    (es_cons (es_expr (ex_call (c_look_at_key T) (hr.mono (by decide)) tk (ea_cons (ex_var 0) (ea_cons (ex_var 1) (ea_cons (ex_var 2) (ea_cons (ex_var 3) (ea_nil)))))))
    (es_one (es_ret (ex_call (c_pipes_by T) (hr.mono (by decide)) tk (ea_cons (ex_var 0) (ea_cons (ex_var 1) (ea_cons (ex_var 2) (ea_cons (ex_var 3) (ea_nil)))))))))
theorem c_pipes (T : Fct K mg) : Cal P w K mg base (GmK K) 6 "pipes" ["organ", "top", "manual", "key"] f_pipes := let ⟨fd, FD⟩ := T.c.def_ 25 (d := d_pipes) rfl; ⟨⟨_, fd, k_pipes T FD, T.glo (x := "pipes") 92, FD.kp, FD.bindsN fun _ _ _ _ _ _ us hl => match us, hl with | [_, _, _, _], _ => rfl⟩⟩
theorem s__law_heard : FnScope ["_law_t", "_law_top", "_law_pressed", "_law_found", "_law_manual", "_law_key", "_law_own", "_law_rank", "_law_shift", "_law_pipe"] ["_law_t", "_law_top", "_law_pressed"] (defScope (top 45)) := ⟨rfl, rfl, rfl, by decide +kernel, rfl, by decide +kernel, by decide +kernel⟩
theorem k__law_heard (T : Fct K mg) {fd : FuncData} (FD : FunD K d__law_heard.name d__law_heard.qual d__law_heard.params d__law_heard.body d__law_heard.scope (d__law_heard.dvs K) (d__law_heard.kws K) (He.fAd K d__law_heard.at_) fd) : FnOk P w K mg base (L2.CX P w) 4 (He.fAd K d__law_heard.at_) fd ["_law_t", "_law_top", "_law_pressed"] (spF P w K (GmK K) 3 f__law_heard) := by
  refine fn_mk (k := 3) (N := ["_law_t", "_law_top", "_law_pressed", "_law_found", "_law_manual", "_law_key", "_law_own", "_law_rank", "_law_shift", "_law_pipe"]) (ps := ["_law_t", "_law_top", "_law_pressed"]) FD s__law_heard fun cdv A outer s H E hr => ?_
  have hN : (["_law_t", "_law_top", "_law_pressed", "_law_found", "_law_manual", "_law_key", "_law_own", "_law_rank", "_law_shift", "_law_pipe"] : List Str).Nodup := (s__law_heard).nd
  have tk := takes_cx (P := P) (w := w) (K := K) (mg := mg) (base := base) (N := ["_law_t", "_law_top", "_law_pressed", "_law_found", "_law_manual", "_law_key", "_law_own", "_law_rank", "_law_shift", "_law_pipe"]) (qual := "_law_heard") (scope := defScope (top 45)) (i := He.fAd K ("_law_heard", none)) (cdv := cdv) (A := A) (outer := outer) (s := s) (H := H) (E := E)
  have hp := passes_cx (P := P) (w := w) (K := K) (mg := mg) (base := base) (N := ["_law_t", "_law_top", "_law_pressed", "_law_found", "_law_manual", "_law_key", "_law_own", "_law_rank", "_law_shift", "_law_pipe"]) (qual := "_law_heard") (scope := defScope (top 45)) (i := He.fAd K ("_law_heard", none)) (cdv := cdv) (A := A) (outer := outer) (s := s) (H := H) (E := E)
  exact es_cons (es_set 3 hN (ex_dict))
    (es_cons (es_for hp rfl (ei_seq (ex_call (c__law_on T) (hr.mono (by decide)) tk (ea_cons (ex_var 0) (ea_cons (ex_var 1) (ea_cons (ex_var 2) (ea_nil)))))) (eg_tup rfl (egs_cons (eg_name 4 hN) (egs_cons (eg_name 5 hN) (egs_nil)))) (es_one (es_for hp rfl (ei_seq (ex_ixA (hr.mono (by decide)) (ex_var 0) (ex_int))) (eg_tup rfl (egs_cons (eg_name 6 hN) (egs_cons (eg_name 7 hN) (egs_cons (eg_name 8 hN) (egs_nil))))) (es_cons (es_set 9 hN (ex_if (et_cmp (m_eq (u64 hr)) (ex_var 6) (ex_var 4)) (ex_call (c__law_led T) (hr.mono (by decide)) tk (ea_cons (ex_var 0) (ea_cons (ex_var 1) (ea_cons (ex_var 5) (ea_cons (ex_var 8) (ea_nil)))))) (ex_non)))
    (es_one (es_if (et_cmp m_isNot (ex_var 9) (ex_non)) (es_one (es_put (put_any (hr.mono (by decide))) (ex_var 3) (ex_tup (ea_cons (ex_var 7) (ea_cons (ex_var 9) (ea_nil)))) (ex_bl))) (es_nil)))))))
    (es_one (es_ret (ex_callB (b_sorted rfl) (T.free (x := "sorted") 40) rfl (ea_cons (ex_callTy (b_listA rfl) (T.free (x := "list") 1) rfl (ea_cons (ex_var 3) (ea_nil))) (ea_nil))))))
theorem c__law_heard (T : Fct K mg) : Cal P w K mg base (GmK K) 4 "_law_heard" ["_law_t", "_law_top", "_law_pressed"] f__law_heard := let ⟨fd, FD⟩ := T.c.def_ 26 (d := d__law_heard) rfl; ⟨⟨_, fd, k__law_heard T FD, T.glo (x := "_law_heard") 93, FD.kp, FD.bindsN fun _ _ _ _ _ _ us hl => match us, hl with | [_, _, _], _ => rfl⟩⟩
theorem s__law_refused : FnScope ["_law_organ_here", "_law_top", "_law_manual", "_law_key", "_law_kind", "_law_told", "e"] ["_law_organ_here", "_law_top", "_law_manual", "_law_key", "_law_kind"] (defScope (top 46)) := ⟨rfl, rfl, rfl, by decide +kernel, rfl, by decide +kernel, by decide +kernel⟩
theorem k__law_refused (T : Fct K mg) {fd : FuncData} (FD : FunD K d__law_refused.name d__law_refused.qual d__law_refused.params d__law_refused.body d__law_refused.scope (d__law_refused.dvs K) (d__law_refused.kws K) (He.fAd K d__law_refused.at_) fd) : FnOk P w K mg base (L2.CX P w) 7 (He.fAd K d__law_refused.at_) fd ["_law_organ_here", "_law_top", "_law_manual", "_law_key", "_law_kind"] (spF P w K (GmK K) 5 f__law_refused) := by
  refine fn_mk (k := 6) (N := ["_law_organ_here", "_law_top", "_law_manual", "_law_key", "_law_kind", "_law_told", "e"]) (ps := ["_law_organ_here", "_law_top", "_law_manual", "_law_key", "_law_kind"]) FD s__law_refused fun cdv A outer s H E hr => ?_
  have hN : (["_law_organ_here", "_law_top", "_law_manual", "_law_key", "_law_kind", "_law_told", "e"] : List Str).Nodup := (s__law_refused).nd
  have tk := takes_cx (P := P) (w := w) (K := K) (mg := mg) (base := base) (N := ["_law_organ_here", "_law_top", "_law_manual", "_law_key", "_law_kind", "_law_told", "e"]) (qual := "_law_refused") (scope := defScope (top 46)) (i := He.fAd K ("_law_refused", none)) (cdv := cdv) (A := A) (outer := outer) (s := s) (H := H) (E := E)
  have hp := passes_cx (P := P) (w := w) (K := K) (mg := mg) (base := base) (N := ["_law_organ_here", "_law_top", "_law_manual", "_law_key", "_law_kind", "_law_told", "e"]) (qual := "_law_refused") (scope := defScope (top 46)) (i := He.fAd K ("_law_refused", none)) (cdv := cdv) (A := A) (outer := outer) (s := s) (H := H) (E := E)
  exact es_cons (es_set 5 hN (ex_non))
    (es_cons (es_try rfl rfl hN tk (fun W' pn xe tk' hp' => es_one (es_if (et_cmp (m_eq (u64 hr)) (ex_var 4) (ex_int)) (es_one (es_expr (ex_call (c_keys_on T) (hr.mono (by decide)) tk' (ea_cons (ex_var 0) (ea_cons (ex_var 1) (ea_cons (ex_var 2) (ea_cons (ex_var 3) (ea_nil)))))))) (es_one (es_expr (ex_call (c_pipes T) (hr.mono (by decide)) tk' (ea_cons (ex_var 0) (ea_cons (ex_var 1) (ea_cons (ex_var 2) (ea_cons (ex_var 3) (ea_nil)))))))))) (CLs.named (i := 6) (v := ⟨mt_InvalidTop, some 6, fun a d c fs => sSet 5 (xIf (tB1 (xIsE a d c kt_OrganError (xVar 6))) (xC (.str "top")) (xC (.str "class")))⟩) ⟨rfl, by decide, .inl (T.glo (x := "InvalidTop") 35)⟩ (T.mx_InvalidTop) rfl rfl rfl (fun a oe c d fs pn hz hf => es_one (es_set 5 hN (ex_if (et_val (ex_isE (cv := .ref (He.ga K "OrganError")) (cx := .ref (He.ga K "OrganError")) (ma := kt_OrganError) hz hf (T.kx_OrganError c) (ex_var 6) (pe_glob (v := .ref (He.ga K "OrganError")) rfl (T.glo (x := "OrganError") 41) rfl) (fun u hu => hu) (T.free (x := "isinstance") 6))) (ex_str) (ex_str)))) (CLs.bare (v := ⟨mt_InvalidKey, none, fun a d c fs => sSet 5 (xC (.str "key"))⟩) ⟨rfl, by decide, .inl (T.glo (x := "InvalidKey") 38)⟩ (T.mx_InvalidKey) rfl (fun a oe c d fs pn hz hf => es_one (es_set 5 hN (ex_str))) (CLs.nil))))
    (es_one (es_ret (ex_var 5))))
theorem c__law_refused (T : Fct K mg) : Cal P w K mg base (GmK K) 7 "_law_refused" ["_law_organ_here", "_law_top", "_law_manual", "_law_key", "_law_kind"] f__law_refused := let ⟨fd, FD⟩ := T.c.def_ 27 (d := d__law_refused) rfl; ⟨⟨_, fd, k__law_refused T FD, T.glo (x := "_law_refused") 94, FD.kp, FD.bindsN fun _ _ _ _ _ _ us hl => match us, hl with | [_, _, _, _, _], _ => rfl⟩⟩
theorem s_law : FnScope ["_law_script", "_law_h", "_law_t", "_law_organ_here", "_law_top", "_law_manual", "_law_key", "_law_kind", "_law_odd"] ["_law_script"] (defScope (top 47)) := ⟨rfl, rfl, rfl, by decide +kernel, rfl, by decide +kernel, by decide +kernel⟩
theorem k_law (T : Fct K mg) {fd : FuncData} (FD : FunD K d_law.name d_law.qual d_law.params d_law.body d_law.scope (d_law.dvs K) (d_law.kws K) (He.fAd K d_law.at_) fd) : FnOk P w K mg base (L2.CX P w) 8 (He.fAd K d_law.at_) fd ["_law_script"] (spF P w K (GmK K) 1 f_law) := by
  refine fn_mk (k := 7) (N := ["_law_script", "_law_h", "_law_t", "_law_organ_here", "_law_top", "_law_manual", "_law_key", "_law_kind", "_law_odd"]) (ps := ["_law_script"]) FD s_law fun cdv A outer s H E hr => ?_
  have hN : (["_law_script", "_law_h", "_law_t", "_law_organ_here", "_law_top", "_law_manual", "_law_key", "_law_kind", "_law_odd"] : List Str).Nodup := (s_law).nd
  have tk := takes_cx (P := P) (w := w) (K := K) (mg := mg) (base := base) (N := ["_law_script", "_law_h", "_law_t", "_law_organ_here", "_law_top", "_law_manual", "_law_key", "_law_kind", "_law_odd"]) (qual := "law") (scope := defScope (top 47)) (i := He.fAd K ("law", none)) (cdv := cdv) (A := A) (outer := outer) (s := s) (H := H) (E := E)
  have hp := passes_cx (P := P) (w := w) (K := K) (mg := mg) (base := base) (N := ["_law_script", "_law_h", "_law_t", "_law_organ_here", "_law_top", "_law_manual", "_law_key", "_law_kind", "_law_odd"]) (qual := "law") (scope := defScope (top 47)) (i := He.fAd K ("law", none)) (cdv := cdv) (A := A) (outer := outer) (s := s) (H := H) (E := E)
  exact es_cons (es_set 1 hN (ex_call (c__law_mix T) (hr.mono (by decide)) tk (ea_cons (ex_var 0) (ea_cons (ex_int) (ea_nil)))))
    (es_cons (es_set 2 hN (ex_call (c__law_organ T) (hr.mono (by decide)) tk (ea_cons (ex_var 1) (ea_cons (ex_int) (ea_cons (ex_int) (ea_cons (ex_int) (ea_nil)))))))
    (es_cons (es_set 3 hN (ex_call (c__law_built T) (hr.mono (by decide)) tk (ea_cons (ex_var 2) (ea_nil))))
    (es_cons (es_set 4 hN (ex_call (c__law_next T) (hr.mono (by decide)) tk (ea_cons (ex_var 1) (ea_cons (ex_int) (ea_nil)))))
    (es_cons (es_for hp rfl (ei_range1 (ex_ixA (hr.mono (by decide)) (ex_var 2) (ex_int)) (T.free (x := "range") 4)) (eg_name 5 hN) (es_one (es_for hp rfl (ei_range1 (ex_op m_add (ex_var 4) (ex_int)) (T.free (x := "range") 4)) (eg_name 6 hN) (es_cons (es_if (et_cmp (m_ne (u64 hr)) (ex_call (c_keys_on T) (hr.mono (by decide)) tk (ea_cons (ex_var 3) (ea_cons (ex_var 4) (ea_cons (ex_var 5) (ea_cons (ex_var 6) (ea_nil)))))) (ex_call (c__law_on T) (hr.mono (by decide)) tk (ea_cons (ex_var 2) (ea_cons (ex_var 4) (ea_cons (ex_lst (ea_cons (ex_tup (ea_cons (ex_var 5) (ea_cons (ex_var 6) (ea_nil)))) (ea_nil))) (ea_nil)))))) (es_one (es_ret (ex_bl))) (es_nil))
    (es_one (es_if (et_cmp (m_ne (u64 hr)) (ex_call (c_pipes T) (hr.mono (by decide)) tk (ea_cons (ex_var 3) (ea_cons (ex_var 4) (ea_cons (ex_var 5) (ea_cons (ex_var 6) (ea_nil)))))) (ex_call (c__law_heard T) (hr.mono (by decide)) tk (ea_cons (ex_var 2) (ea_cons (ex_var 4) (ea_cons (ex_lst (ea_cons (ex_tup (ea_cons (ex_var 5) (ea_cons (ex_var 6) (ea_nil)))) (ea_nil))) (ea_nil)))))) (es_one (es_ret (ex_bl))) (es_nil)))))))
    (es_cons (es_set 7 hN (ex_call (c__law_next T) (hr.mono (by decide)) tk (ea_cons (ex_var 1) (ea_cons (ex_int) (ea_nil)))))
    (es_cons (es_set 8 hN (ex_ixA (hr.mono (by decide)) (ex_lst (ea_cons (ex_neg (ex_int)) (ea_cons (ex_int) (ea_cons (ex_bl) (ea_cons (ex_non) (ea_cons (ex_str) (ea_cons (ex_tup (ea_cons (ex_int) (ea_nil))) (ea_nil)))))))) (ex_call (c__law_next T) (hr.mono (by decide)) tk (ea_cons (ex_var 1) (ea_cons (ex_int) (ea_nil))))))
    (es_cons (es_if (et_w (et_or (et_cmp (m_ne (u64 hr)) (ex_call (c__law_refused T) (hr.mono (by decide)) tk (ea_cons (ex_var 3) (ea_cons (ex_var 8) (ea_cons (ex_non) (ea_cons (ex_non) (ea_cons (ex_var 7) (ea_nil))))))) (ex_str)) (et_or1 (et_cmp m_isNot (ex_call (c__law_refused T) (hr.mono (by decide)) tk (ea_cons (ex_var 3) (ea_cons (ex_int) (ea_cons (ex_int) (ea_cons (ex_int) (ea_cons (ex_var 7) (ea_nil))))))) (ex_non))))) (es_one (es_ret (ex_bl))) (es_nil))
    (es_cons (es_set 8 hN (ex_ixA (hr.mono (by decide)) (ex_lst (ea_cons (ex_tup (ea_cons (ex_neg (ex_int)) (ea_cons (ex_int) (ea_nil)))) (ea_cons (ex_tup (ea_cons (ex_ixA (hr.mono (by decide)) (ex_var 2) (ex_int)) (ea_cons (ex_int) (ea_nil)))) (ea_cons (ex_tup (ea_cons (ex_bl) (ea_cons (ex_int) (ea_nil)))) (ea_cons (ex_tup (ea_cons (ex_non) (ea_cons (ex_int) (ea_nil)))) (ea_cons (ex_tup (ea_cons (ex_int) (ea_cons (ex_neg (ex_int)) (ea_nil)))) (ea_cons (ex_tup (ea_cons (ex_int) (ea_cons (ex_op m_add (ex_var 4) (ex_int)) (ea_nil)))) (ea_cons (ex_tup (ea_cons (ex_int) (ea_cons (ex_bl) (ea_nil)))) (ea_cons (ex_tup (ea_cons (ex_int) (ea_cons (ex_str) (ea_nil)))) (ea_nil)))))))))) (ex_call (c__law_next T) (hr.mono (by decide)) tk (ea_cons (ex_var 1) (ea_cons (ex_int) (ea_nil))))))
    (es_one (es_ret (ex_cmp (m_eq (u64 hr)) (ex_call (c__law_refused T) (hr.mono (by decide)) tk (ea_cons (ex_var 3) (ea_cons (ex_var 4) (ea_cons (ex_ixA (hr.mono (by decide)) (ex_var 8) (ex_int)) (ea_cons (ex_ixA (hr.mono (by decide)) (ex_var 8) (ex_int)) (ea_cons (ex_var 7) (ea_nil))))))) (ex_str))))))))))))
theorem c_law (T : Fct K mg) : Cal P w K mg base (GmK K) 8 "law" ["_law_script"] f_law := let ⟨fd, FD⟩ := T.c.def_ 28 (d := d_law) rfl; ⟨⟨_, fd, k_law T FD, T.glo (x := "law") 95, FD.kp, FD.bindsN fun _ _ _ _ _ _ us hl => match us, hl with | [_], _ => rfl⟩⟩
end
end Wk_k01
end
section
set_option maxRecDepth 1000000
set_option maxHeartbeats 0
set_option autoImplicit false
namespace Wk_k01
open PySem PySem.Spec PyProof.Rows L2 Mi
abbrev Rw : PySem.W.OpenRow := PySem.W.OpenLaw.row PySem.Challenge.rw_couplerreach_k01_whole_keys
abbrev hk : PySem.W.Hook := hookM 6 fa fn
def ob (s : PySem.W.SharedT) : He.AlD := obsMG 6 fa fn (HandSHeadRun.getT s)
theorem ob_eq (s : PySem.W.SharedT) : ob s = hk.obs s.abs := obsMG_eq (HandSHeadRun.getT_eq s)
def loose0 : List Str := ["_wall", "OrganError", "InvalidManuals", "InvalidCoupler", "InvalidStop", "InvalidChain", "InvalidOctave", "InvalidTop", "InvalidKey", "CHAINS", "OCTAVES", "MOST_COUPLERS", "MOST_STOPS", "MOST_RANK", "MOST_SHIFT", "is_integer", "is_coupler", "is_stop", "look_at_couplers", "look_at_stops", "Organ", "parts_of", "led_to", "MOST_TOP", "look_at_top", "look_at_key", "led_keys", "all_on", "all_pipes", "keys_on"]
def loose1 : List Str := ["pipes_by", "pipes", "_law_mix", "_law_next", "_law_some", "_law_couplers", "_law_stops", "_law_organ", "_law_built", "_law_led", "_law_on", "_law_heard", "_law_refused"]
abbrev loose : List Str := loose0 ++ loose1
theorem run (w : World) : HandSHeadRun.RunEq Rw (PySem.W.view Rw.prog [47]) hk ob 12000 loose w := by
  intro os
  kernel_rfl
/-- the pure law -/
def Pure : Prop := ∀ ns : List Int, ns.length ≤ 63 → ∃ M, f_law [.klst (ns.map .int)] [] = .ok (.bl true) M
theorem only_rel {K : PySem.W.Frag} {H : Hp} {a : Addr} {ns : List Int} (ho : Only H) (h : SqL K H a (ns.map V.int)) : RV K H [] (.klst (ns.map D.int)) (.ref a) := by
  refine .kls (SqK.of h fun e => ?_) (RVs.ints ns)
  rcases ho a with z | ⟨o, xs, z⟩
  · rw [z] at e; cases e
  · rw [z] at e; cases e
theorem law_ok (pure : Pure) {P : Program} {w : World} {K : PySem.W.Frag} {H : Hp} {a : Addr} {ns : List Int} (hl : ns.length ≤ 63) (ho : Only H) (h : SqL K H a (ns.map V.int)) : spF P w K (GmK K) 1 f_law [.ref a] H (fun v _ => v = .bl true) fun _ _ _ => False := by
  obtain ⟨M, e⟩ := pure ns hl
  refine ⟨[.klst (ns.map D.int)], [], [], ⟨rfl, .nil, fun n o b h => by simp at h⟩, .cons (only_rel ho h) .nil, rfl, ?_⟩
  rw [e]
  intro v H' μ' _ _ r
  cases r
  rfl
end Wk_k01
open PySem PySem.W PySem.Calls PyProof.Rows
theorem holds_of (pure : Wk_k01.Pure) : PySem.Challenge.rw_couplerreach_k01_whole_keys.Holds := by
  w_on; o_law
  refine HandSHeadRun.head_any (r := OpenLaw.row PySem.Challenge.rw_couplerreach_k01_whole_keys) (q := view (OpenLaw.row PySem.Challenge.rw_couplerreach_k01_whole_keys).prog [47]) (H := Wk_k01.hk) (ob := Wk_k01.ob) (M := 12000) (loose := Wk_k01.loose) (d := HandSHeadRun.topDef (OpenLaw.row PySem.Challenge.rw_couplerreach_k01_whole_keys).prog 47) (kwd := []) Wk_k01.ob_eq
    (by kernel_rfl) (fun s => by kernel_rfl) Wk_k01.run (by kernel_rfl) (by kernel_rfl) (by kernel_rfl) (by rfl) (by first | assumption | decide +kernel) (by decide +kernel) ⟨rfl, rfl, rfl, rfl, rfl, by decide +kernel⟩ ?hw ?hc
  case hw => w_witness2
  case hc =>
    refine Mi.walk_at (l := PySem.Challenge.rw_couplerreach_k01_whole_keys) (n := 63) (k := 8) (x := "_law_script") rfl (by decide) (by kernel_rfl) ⟨rfl, by decide, by decide⟩ ?T
    intro w mg fa h Y G hmg0
    obtain ⟨K, KX, c⟩ := Y
    have hmg : mg ("law" : PySem.Str) = some (.ref fa) := by
      have e : (HandSHeadRun.topDef (OpenLaw.row PySem.Challenge.rw_couplerreach_k01_whole_keys).prog 47).name = ("law" : PySem.Str) := by kernel_rfl
      rw [← e]
      exact hmg0
    have FT : Wk_k01.Fct K mg := ⟨⟨h, KX, G⟩, c⟩
    have e := hmg.symm.trans (FT.glo (x := "law") 95)
    cases e
    obtain ⟨fd, FD⟩ := FT.c.def_ 28 (d := Wk_k01.d_law) rfl
    have b := L2.FunD.bindsA (ps := ["_law_script"]) FD fun _ _ _ _ _ _ us hl => match us, hl with | [_], _ => rfl
    refine ⟨K, fd, Mi.spF PySem.Challenge.rw_couplerreach_k01_whole_keys.prog w K (Wk_k01.GmK K) 1 Wk_k01.f_law, KX, fun s v => b s [v] rfl, fun H a ns hl ho hS => Wk_k01.law_ok pure hl ho hS, fun base => ?_⟩
    exact Wk_k01.k_law (P := PySem.Challenge.rw_couplerreach_k01_whole_keys.prog) (w := w) (base := base) FT FD
end
section
set_option maxRecDepth 100000
set_option maxHeartbeats 2000000
set_option autoImplicit false
namespace Wk_k01
open PySem Mi
local macro_rules | `(tactic| walk_at "mi") => `(tactic| simp only [wX_fn, wS_seq, wS_set, wS_ret, wS_expr, wS_pass, wS_if, wS_put, wX_var, wX_c, wX_2, wX_3, wX_anil, wX_acons, wX_tup, wX_lst, wX_dict, wX_b, wX_meth, wX_call, wX_if, wX_t1, wX_and2, wX_or2, wX_not1, wX_true, wX_neg, wX_oN, wX_oS, wX_not, wX_and, wX_or, wX_is, wX_cut, wX_fld, wS_for, wX_ok, wX_no, wO_some, wO_none, wS_nx, wS_rt, List.map_cons, List.map_nil, List.cons_append, List.nil_append, List.append_nil, List.replicate_succ, List.replicate_zero, List.set_cons_zero, List.set_cons_succ, List.getElem?_cons_zero, List.getElem?_cons_succ, List.getElem?_nil, List.length_cons, List.length_nil, Nat.reduceSub, Nat.reduceAdd, Nat.zero_add, Nat.add_zero, if_true, if_false, ite_true, ite_false, reduceIte, Bool.false_eq_true, Bool.not_true, Bool.not_false, ← Nat.add_assoc, reduceCtorEq, List.length_append])
theorem led_end {f t : Int} : (match D.bl (decide (0 ≤ f)) with
    | .bl true => if decide (f ≤ t) = true then D.int f = optD (if 0 ≤ f ∧ f ≤ t then some f else none) else D.non = optD (if 0 ≤ f ∧ f ≤ t then some f else none)
    | .bl false => D.non = optD (if 0 ≤ f ∧ f ≤ t then some f else none)
    | _ => False) := by
  by_cases h1 : 0 ≤ f <;> by_cases h2 : f ≤ t <;> simp [h1, h2, optD]
theorem led_to_w (p s t o : Int) (M : Hs) : wX (f_led_to [.int p, .int s, .int t, .int o] M) fun d M' => d = optD (ledP p s t o) ∧ M' = M := by
  unfold f_led_to
  walk_at "mi"
  simp only [g_add, g_sub, g_lt, g_le, g_gt, g_ge, wO_some]
  unfold ledP
  by_cases h1 : 0 < o <;> by_cases h2 : p + s < 0 <;> by_cases h3 : t < p + s <;> simp only [h1, h2, h3, decide_true, decide_false, if_true, if_false, Bool.false_eq_true, and_self, and_true, and_false, true_and, false_and] <;> exact led_end
theorem law_led_w {n : Nat} {M : Hs} {x0 x1 x2 x3 : D} (p s t o : Int) (h : M[n]? = some (.lst [x0, x1, x2, x3, .int o])) : wX (f__law_led [.ref n, .int t, .int p, .int s] M) fun d M' => d = optD (ledP p s t o) ∧ M' = M := by
  have h4 : gIxA (.ref n) (.int 4) M = some (.int o, M) := g_ixL (i := 4) h rfl
  unfold f__law_led
  walk_at "mi"
  simp only [g_add, g_sub, g_lt, g_le, g_gt, g_ge, wO_some, h4]
  unfold ledP
  by_cases h1 : 0 < o <;> by_cases h2 : p + s < 0 <;> by_cases h3 : t < p + s <;> simp only [h1, h2, h3, decide_true, decide_false, if_true, if_false, Bool.false_eq_true, and_self, and_true, and_false, true_and, false_and] <;> exact led_end
end Wk_k01
end
section
set_option maxRecDepth 100000
set_option maxHeartbeats 2000000
set_option autoImplicit false
namespace Wk_k01
open PySem Mi
local macro_rules | `(tactic| walk_at "mi") => `(tactic| simp only [wX_fn, wS_seq, wS_set, wS_ret, wS_expr, wS_pass, wS_if, wS_put, wX_var, wX_c, wX_2, wX_3, wX_anil, wX_acons, wX_tup, wX_lst, wX_dict, wX_b, wX_meth, wX_call, wX_if, wX_t1, wX_and2, wX_or2, wX_not1, wX_true, wX_neg, wX_oN, wX_oS, wX_not, wX_and, wX_or, wX_is, wX_cut, wX_fld, wS_for, wX_ok, wX_no, wO_some, wO_none, wS_nx, wS_rt, List.map_cons, List.map_nil, List.cons_append, List.nil_append, List.append_nil, List.replicate_succ, List.replicate_zero, List.set_cons_zero, List.set_cons_succ, List.getElem?_cons_zero, List.getElem?_cons_succ, List.getElem?_nil, List.length_cons, List.length_nil, Nat.reduceSub, Nat.reduceAdd, Nat.zero_add, Nat.add_zero, if_true, if_false, ite_true, ite_false, reduceIte, Bool.false_eq_true, Bool.not_true, Bool.not_false, ← Nat.add_assoc, reduceCtorEq, List.length_append])
def Og (M : Hs) (g : Nat) (many : Int) (cs rs : List Tr3) (ch : Str) (oct : Int) : Prop := M[g]? = some (.slo 0 [some (.int oct), some (.tup (cs.map trD)), some (.int many), some (.str ch), some (.tup (rs.map trD))])
theorem sl_at {M : Hs} {g : Nat} {fs : List (Option D)} (h : M[g]? = some (.slo 0 fs)) : slAt 0 (.ref g) M = some (g, fs) := by
  unfold slAt
  simp only [h, if_true]
def ledK (cs : List Tr3) (top oct : Int) (p : Sp2) : List Sp2 := cs.filterMap fun t => if t.1 = p.1 then (ledP p.2 t.2.2 top oct).map fun k => (t.2.1, k) else none
theorem ledK_snoc (cs : List Tr3) (t : Tr3) (top oct : Int) (p : Sp2) : ledK (cs ++ [t]) top oct p = ledK cs top oct p ++ ledK [t] top oct p := by unfold ledK; rw [List.filterMap_append]
theorem ledK_len (cs : List Tr3) (top oct : Int) (p : Sp2) : (ledK cs top oct p).length ≤ cs.length := List.length_filterMap_le _ _
theorem g_eqI {i j : Int} {M : Hs} : gEq (.int i) (.int j) M = some (.bl (decide (i = j)), M) := by
  rfl
theorem g_isNotI {i : Int} {M : Hs} : gIsNot (.int i) .non M = some (.bl true, M) := rfl
theorem g_isNotN {M : Hs} : gIsNot .non .non M = some (.bl false, M) := rfl
theorem isL {M : Hs} {n : Nat} {xs : List D} (h : M[n]? = some (.lst xs)) : isLst (.ref n) M = true ∧ hLst M n = some xs := by
  have e : hLst M n = some xs := by unfold hLst; rw [h]
  exact ⟨by unfold isLst; dsimp only; rw [e]; rfl, e⟩
theorem g_app {M : Hs} {n : Nat} {xs : List D} {d : D} (h : M[n]? = some (.lst xs)) (hl : xs.length < sizeLine) : gAppend (.ref n) [d] M = some (.non, M.set n (.lst (xs ++ [d]))) := by
  unfold gAppend
  simp only [(isL h).2]
  rw [if_pos hl]
theorem size1 : (1000000 : Nat) < sizeLine := by decide
theorem led_keys_w {M : Hs} {g : Nat} {many : Int} {cs0 rs : List Tr3} {ch : Str} {oct : Int} (og : Og M g many cs0 rs ch oct) (cs : List Tr3) (hc : cs.length ≤ 1000) (top : Int) (p : Sp2) :
    wX (f_led_keys [.ref g, .tup (cs.map trD), .int top, prD p] M) fun d M' => d = .ref M.length ∧ Fr No M M' ∧ M'[M.length]? = some (.lst ((ledK cs top oct p).map prD)) := by
  unfold f_led_keys
  try walk_at "mi"
  rw [if_pos (Nat.zero_le _)]
  unfold ySeq
  simp only [wX_bind, wX_var, wX_ok, List.getElem?_cons_zero, List.getElem?_cons_succ]
  refine wS_forN (I := fun i ζ M' => (∃ a b c d, ζ = [some (.ref g), some (.tup (cs.map trD)), some (.int top), some (prD p), some (.ref M.length), a, b, c, d]) ∧ Fr No M M' ∧ M'[M.length]? = some (.lst ((ledK (cs.take i) top oct p).map prD))) cs.length ?_ ?_ _ 0 _ _ (by simp) (Nat.zero_le _) ⟨⟨_, _, _, _, rfl⟩, Fr.push _ _, by simp [ledK]⟩
  · rintro i ζ M' hi ⟨⟨a, b, c, d, rfl⟩, fr, hm⟩
    have ht : (cs.map trD)[i]? = some (trD cs[i]) := by rw [List.getElem?_map, List.getElem?_eq_getElem hi]; rfl
    refine ⟨_, [(5, .int cs[i].1), (6, .int cs[i].2.1), (7, .int cs[i].2.2)], by rw [ht], rfl, ?_⟩
    simp only [setAll]
    try walk_at "mi"
    have og' : M'[g]? = some (.slo 0 _) := fr.get og id
    have e0 : gIxA (prD p) (.int 0) M' = some (.int p.1, M') := g_ixT (i := 0) rfl
    have e1 : gIxA (prD p) (.int 1) M' = some (.int p.2, M') := g_ixT (i := 1) rfl
    have hts : cs.take (i + 1) = cs.take i ++ [cs[i]] := by rw [List.take_succ, List.getElem?_eq_getElem hi]; rfl
    simp only [e0, e1, g_eqI, wO_some, sl_at og']
    try walk_at "mi"
    by_cases h1 : cs[i].1 = p.1
    · simp only [h1, decide_true, if_true]
      refine wX_mono (led_to_w p.2 cs[i].2.2 top oct M') fun z M2 ⟨hz, hM⟩ => ?_
      subst hz hM
      have hs : ledK (cs.take (i + 1)) top oct p = ledK (cs.take i) top oct p ++ ledK [cs[i]] top oct p := by rw [hts, ledK_snoc]
      cases hk : ledP p.2 cs[i].2.2 top oct with
      | none =>
        have hk2 : ledK [cs[i]] top oct p = [] := by simp [ledK, h1, hk]
        try walk_at "mi"
        simp only [optD, g_isNotN, wO_some]
        try walk_at "mi"
        refine ⟨⟨_, _, _, _, rfl⟩, fr, ?_⟩
        rw [hs, hk2, List.append_nil]
        exact hm
      | some k =>
        have hk2 : ledK [cs[i]] top oct p = [(cs[i].2.1, k)] := by simp [ledK, h1, hk]
        try walk_at "mi"
        simp only [optD, g_isNotI, wO_some]
        try walk_at "mi"
        have hl : ((ledK (cs.take i) top oct p).map prD).length < sizeLine := by
          have h3 := ledK_len (cs.take i) top oct p
          have h4 := size1
          rw [List.length_map]
          rw [List.length_take] at h3
          omega
        rw [if_pos (isL hm).1, if_pos (show 2 ≤ sizeLine by decide), g_app hm hl]
        try walk_at "mi"
        refine ⟨⟨_, _, _, _, rfl⟩, fr.setHi (Nat.le_refl _), ?_⟩
        rw [hs, hk2, List.map_append]
        exact set_get hm
    · have hk2 : ledK [cs[i]] top oct p = [] := by simp [ledK, h1]
      simp only [h1, decide_false, Bool.false_eq_true, if_false]
      try walk_at "mi"
      refine ⟨⟨_, _, _, _, rfl⟩, fr, ?_⟩
      rw [hts, ledK_snoc, hk2, List.append_nil]
      exact hm
  · rintro ζ M' ⟨⟨a, b, c, d, rfl⟩, fr, hm⟩
    refine ⟨by simp, ?_⟩
    try walk_at "mi"
    rw [List.take_length] at hm
    exact ⟨trivial, fr, hm⟩
end Wk_k01
end
section
set_option maxRecDepth 100000
set_option maxHeartbeats 2000000
set_option autoImplicit false
namespace Wk_k01
open PySem Mi
local macro_rules | `(tactic| walk_at "mi") => `(tactic| simp only [wX_fn, wS_seq, wS_set, wS_ret, wS_expr, wS_pass, wS_if, wS_put, wX_var, wX_c, wX_2, wX_3, wX_anil, wX_acons, wX_tup, wX_lst, wX_dict, wX_b, wX_meth, wX_call, wX_if, wX_t1, wX_and2, wX_or2, wX_not1, wX_true, wX_neg, wX_oN, wX_oS, wX_not, wX_and, wX_or, wX_is, wX_cut, wX_fld, wS_for, wX_ok, wX_no, wO_some, wO_none, wS_nx, wS_rt, List.map_cons, List.map_nil, List.cons_append, List.nil_append, List.append_nil, List.replicate_succ, List.replicate_zero, List.set_cons_zero, List.set_cons_succ, List.getElem?_cons_zero, List.getElem?_cons_succ, List.getElem?_nil, List.length_cons, List.length_nil, Nat.reduceSub, Nat.reduceAdd, Nat.zero_add, Nat.add_zero, if_true, if_false, ite_true, ite_false, reduceIte, Bool.false_eq_true, Bool.not_true, Bool.not_false, ← Nat.add_assoc, reduceCtorEq, List.length_append])
inductive Rch (cs : List Tr3) (top oct : Int) (st : List Sp2) : Sp2 → Prop
  | base {p : Sp2} : p ∈ st → Rch cs top oct st p
  | step {p q : Sp2} : Rch cs top oct st p → q ∈ ledK cs top oct p → Rch cs top oct st q
def OnW (cs : List Tr3) (top oct : Int) (all : Bool) (st : List Sp2) (q : Sp2) : Prop := if all = true then Rch cs top oct st q else q ∈ st ∨ ∃ p ∈ st, q ∈ ledK cs top oct p
def univ (cs : List Tr3) (top : Int) (st : List Sp2) : List Sp2 := st ++ cs.flatMap fun t => (List.range (top + 1).toNat).map fun (k : Nat) => (t.2.1, (k : Int))
theorem led_range {p s t o k : Int} (h : ledP p s t o = some k) : 0 ≤ k ∧ k ≤ t := by
  have key : ∀ f : Int, (if 0 ≤ f ∧ f ≤ t then some f else none) = some k → 0 ≤ k ∧ k ≤ t := fun f hf => by
    split at hf
    · rename_i h1
      cases hf
      exact h1
    · cases hf
  exact key _ h
theorem led_univ {cs : List Tr3} {top oct : Int} {st : List Sp2} {p q : Sp2} (h : q ∈ ledK cs top oct p) : q ∈ univ cs top st := by
  unfold ledK at h
  obtain ⟨t, ht, e⟩ := List.mem_filterMap.mp h
  split at e
  · cases hk : ledP p.2 t.2.2 top oct with
    | none => rw [hk] at e; cases e
    | some k =>
      rw [hk] at e
      cases e
      obtain ⟨h1, h2⟩ := led_range hk
      refine List.mem_append_right _ (List.mem_flatMap.mpr ⟨t, ht, List.mem_map.mpr ⟨k.toNat, List.mem_range.mpr (by omega), ?_⟩⟩)
      simp only [Prod.mk.injEq, true_and]
      omega
  · cases e
theorem nodup_le {α : Type} [DecidableEq α] : ∀ {xs ys : List α}, xs.Nodup → (∀ x ∈ xs, x ∈ ys) → xs.length ≤ ys.length
  | [], _, _, _ => Nat.zero_le _
  | x :: xs, ys, h, s => by
    obtain ⟨h1, h2⟩ := List.nodup_cons.mp h
    have hx := s x List.mem_cons_self
    have ih := nodup_le (ys := ys.erase x) h2 fun y hy => (List.mem_erase_of_ne (fun e => h1 (by rw [← e]; exact hy))).mpr (s y (List.mem_cons_of_mem _ hy))
    rw [List.length_erase_of_mem hx] at ih
    have := List.length_pos_of_mem hx
    simp only [List.length_cons]
    omega
theorem univ_len {cs : List Tr3} {top : Int} {st : List Sp2} (h0 : 0 ≤ top) (h1 : top ≤ 1000) (hc : cs.length ≤ 100) (hs : st.length ≤ 10000) : (univ cs top st).length ≤ 200000 := by
  unfold univ
  rw [List.length_append]
  have : (cs.flatMap fun t => (List.range (top + 1).toNat).map fun (k : Nat) => (t.2.1, (k : Int))).length = cs.length * (top + 1).toNat := by
    induction cs with
    | nil => simp
    | cons t cs ih =>
      simp only [List.length_cons] at hc
      rw [List.flatMap_cons, List.length_append, ih (by omega), List.length_map, List.length_range, List.length_cons, Nat.add_mul]
      omega
  rw [this]
  have h2 : (top + 1).toNat ≤ 1001 := by omega
  have h3 : cs.length * (top + 1).toNat ≤ 100 * 1001 := Nat.mul_le_mul hc h2
  omega
/-- what holds between two turns; act: the spots that have been, or still are to be, gone on from -/
structure Bet (cs : List Tr3) (top oct : Int) (all : Bool) (st fnd wt : List Sp2) : Prop where
  nd : fnd.Nodup
  un : ∀ q ∈ fnd, q ∈ univ cs top st
  b1 : ∀ q ∈ st, q ∈ fnd
  b2 : ∀ q ∈ fnd, OnW cs top oct all st q
  b3 : ∀ q ∈ wt, if all = true then q ∈ fnd else q ∈ st
/-- .. ex: but for the spot ex -/
def Clo (cs : List Tr3) (top oct : Int) (all : Bool) (st fnd wt : List Sp2) (ex : Sp2 → Prop) : Prop := ∀ p, (if all = true then p ∈ fnd else p ∈ st) → ex p ∨ p ∈ wt ∨ ∀ q ∈ ledK cs top oct p, q ∈ fnd
section
variable {cs : List Tr3} {top oct : Int} {all : Bool} {st fnd wt : List Sp2}
theorem Bet.le (b : Bet cs top oct all st fnd wt) : fnd.length ≤ (univ cs top st).length := nodup_le b.nd b.un
theorem Bet.last (b : Bet cs top oct all st fnd []) (c : Clo cs top oct all st fnd [] fun _ => False) : ∀ q, q ∈ fnd ↔ OnW cs top oct all st q := by
  intro q
  refine ⟨b.b2 q, fun h => ?_⟩
  unfold OnW at h
  unfold Clo at c
  cases all with
  | true =>
    rw [if_pos rfl] at h
    induction h with
    | base hp => exact b.b1 _ hp
    | step h1 h2 ih =>
      rcases c _ (by rw [if_pos rfl]; exact ih) with h3 | h3 | h3
      · exact h3.elim
      · cases h3
      · exact h3 _ h2
  | false =>
    rw [if_neg Bool.false_ne_true] at h
    rcases h with h | ⟨p, hp, h⟩
    · exact b.b1 _ h
    · rcases c p (by rw [if_neg Bool.false_ne_true]; exact hp) with h3 | h3 | h3
      · exact h3.elim
      · cases h3
      · exact h3 _ h
theorem OnW.base {q : Sp2} (h : q ∈ st) : OnW cs top oct all st q := by
  unfold OnW
  split
  · exact .base h
  · exact .inl h
/-- a spot led to from p is put in -/
theorem Bet.put {p q : Sp2} (b : Bet cs top oct all st fnd wt) (hp : if all = true then p ∈ fnd else p ∈ st) (hq : q ∈ ledK cs top oct p) (hn : q ∉ fnd) : Bet cs top oct all st (fnd ++ [q]) (if all = true then wt ++ [q] else wt) := by
  refine ⟨?_, ?_, fun r hr => List.mem_append_left _ (b.b1 r hr), ?_, ?_⟩
  · rw [List.nodup_append]
    exact ⟨b.nd, by simp, fun a ha c hc e => by simp at hc; subst hc; subst e; exact hn ha⟩
  · intro r hr
    rcases List.mem_append.mp hr with hr | hr
    · exact b.un r hr
    · simp at hr; subst hr; exact led_univ hq
  · intro r hr
    rcases List.mem_append.mp hr with hr | hr
    · exact b.b2 r hr
    · simp at hr; subst hr
      unfold OnW
      cases all with
      | true =>
        rw [if_pos rfl] at hp ⊢
        have := b.b2 p hp
        unfold OnW at this
        rw [if_pos rfl] at this
        exact .step this hq
      | false =>
        rw [if_neg Bool.false_ne_true] at hp ⊢
        exact .inr ⟨p, hp, hq⟩
  · intro r hr
    cases all with
    | true =>
      rw [if_pos rfl] at hr ⊢
      rcases List.mem_append.mp hr with hr | hr
      · have := b.b3 r hr
        rw [if_pos rfl] at this
        exact List.mem_append_left _ this
      · exact List.mem_append_right _ hr
    | false =>
      rw [if_neg Bool.false_ne_true] at hr ⊢
      have := b.b3 r hr
      rw [if_neg Bool.false_ne_true] at this
      exact this
theorem Clo.put {p q : Sp2} (c : Clo cs top oct all st fnd wt (· = p)) : Clo cs top oct all st (fnd ++ [q]) (if all = true then wt ++ [q] else wt) (· = p) := by
  intro r hr
  cases all with
  | true =>
    rw [if_pos rfl] at hr ⊢
    rcases List.mem_append.mp hr with hr | hr
    · rcases c r (by rw [if_pos rfl]; exact hr) with h | h | h
      · exact .inl h
      · exact .inr (.inl (List.mem_append_left _ h))
      · exact .inr (.inr fun z hz => List.mem_append_left _ (h z hz))
    · exact .inr (.inl (List.mem_append_right _ hr))
  | false =>
    rw [if_neg Bool.false_ne_true] at hr ⊢
    rcases c r (by rw [if_neg Bool.false_ne_true]; exact hr) with h | h | h
    · exact .inl h
    · exact .inr (.inl h)
    · exact .inr (.inr fun z hz => List.mem_append_left _ (h z hz))
/-- the spot p is taken off -/
theorem Bet.pop {p : Sp2} {w : List Sp2} (b : Bet cs top oct all st fnd (w ++ [p])) : Bet cs top oct all st fnd w ∧ if all = true then p ∈ fnd else p ∈ st :=
  ⟨⟨b.nd, b.un, b.b1, b.b2, fun q hq => b.b3 q (List.mem_append_left _ hq)⟩, b.b3 p (List.mem_append_right _ List.mem_cons_self)⟩
theorem Clo.pop {p : Sp2} {w : List Sp2} (c : Clo cs top oct all st fnd (w ++ [p]) fun _ => False) : Clo cs top oct all st fnd w (· = p) := by
  intro r hr
  rcases c r hr with h | h | h
  · exact h.elim
  · rcases List.mem_append.mp h with h | h
    · exact .inr (.inl h)
    · simp at h; exact .inl h
  · exact .inr (.inr h)
/-- .. all that p leads to is in -/
theorem Clo.close {p : Sp2} (c : Clo cs top oct all st fnd wt (· = p)) (h : ∀ q ∈ ledK cs top oct p, q ∈ fnd) : Clo cs top oct all st fnd wt fun _ => False := by
  intro r hr
  rcases c r hr with e | h1 | h1
  · subst e; exact .inr (.inr h)
  · exact .inr (.inl h1)
  · exact .inr (.inr h1)
end
end Wk_k01
end
section
set_option maxRecDepth 100000
set_option maxHeartbeats 4000000
set_option autoImplicit false
namespace Wk_k01
open PySem Mi
local macro_rules | `(tactic| walk_at "mi") => `(tactic| simp only [wX_fn, wS_seq, wS_set, wS_ret, wS_expr, wS_pass, wS_if, wS_put, wX_var, wX_c, wX_2, wX_3, wX_anil, wX_acons, wX_tup, wX_lst, wX_dict, wX_b, wX_meth, wX_call, wX_if, wX_t1, wX_and2, wX_or2, wX_not1, wX_true, wX_neg, wX_oN, wX_oS, wX_not, wX_and, wX_or, wX_is, wX_cut, wX_fld, wS_for, wX_ok, wX_no, wO_some, wO_none, wS_nx, wS_rt, List.map_cons, List.map_nil, List.cons_append, List.nil_append, List.append_nil, List.replicate_succ, List.replicate_zero, List.set_cons_zero, List.set_cons_succ, List.getElem?_cons_zero, List.getElem?_cons_succ, List.getElem?_nil, List.length_cons, List.length_nil, Nat.reduceSub, Nat.reduceAdd, Nat.zero_add, Nat.add_zero, if_true, if_false, ite_true, ite_false, reduceIte, Bool.false_eq_true, Bool.not_true, Bool.not_false, ← Nat.add_assoc, reduceCtorEq, List.length_append])
theorem g_list {M : Hs} {n : Nat} {xs : List D} (h : M[n]? = some (.lst xs)) : gListA [.ref n] M = some (.ref M.length, M ++ [.lst xs]) := by
  have e1 : hDct M n = none := by unfold hDct; rw [h]
  have e2 : hSeq M (.ref n) = some xs := by simp [hSeq, h]
  unfold gListA
  dsimp only
  rw [e1]
  unfold gList
  dsimp only
  rw [e2]
theorem g_pop {M : Hs} {n : Nat} {xs : List D} {d : D} (h : M[n]? = some (.lst (xs ++ [d]))) : gPop (.ref n) [] M = some (d, M.set n (.lst xs)) := by
  unfold gPop
  dsimp only
  rw [(isL h).2]
  simp
theorem g_eqS {x y : Str} (hx : SeqAt.shaped (.str x) = true) (hy : SeqAt.shaped (.str y) = true) (M : Hs) : gEq (.str x) (.str y) M = some (.bl (decide (x = y)), M) := by
  have e1 : toPD M deep (.str x) = some (.str x) := rfl
  have e2 : toPD M deep (.str y) = some (.str y) := rfl
  have e3 : PyData.eqv (.str x) (.str y) = decide (x = y) := by
    simp only [PyData.eqv]
    by_cases h : x = y <;> simp [h]
  unfold gEq gEqB
  rw [e1, e2]
  dsimp only
  rw [hx, hy, e3]
  rfl
theorem g_all {ch : Str} (h : ch = "all" ∨ ch = "pressed") (M : Hs) : gEq (.str ch) (.str "all") M = some (.bl (decide (ch = "all")), M) :=
  g_eqS (by rcases h with rfl | rfl <;> decide +kernel) (by decide +kernel) M
theorem seq_lst {M : Hs} {n : Nat} {xs : List D} (h : M[n]? = some (.lst xs)) : hSeq M (.ref n) = some xs := by simp [hSeq, h]
def addAll (st : List Sp2) : List Sp2 := st.foldl addS []
theorem addAll_snoc (st : List Sp2) (p : Sp2) : addAll (st ++ [p]) = addS (addAll st) p := by unfold addAll; rw [List.foldl_append]; rfl
theorem mem_addAll {st : List Sp2} {p : Sp2} : p ∈ addAll st ↔ p ∈ st := by
  have key : ∀ (st acc : List Sp2), p ∈ st.foldl addS acc ↔ p ∈ acc ∨ p ∈ st := by
    intro st
    induction st with
    | nil => intro acc; simp
    | cons q st ih => intro acc; rw [List.foldl_cons, ih, mem_addS, List.mem_cons, or_assoc]
  unfold addAll
  rw [key]
  simp
theorem nd_addAll (st : List Sp2) : (addAll st).Nodup := by
  have key : ∀ (st acc : List Sp2), acc.Nodup → (st.foldl addS acc).Nodup := by
    intro st
    induction st with
    | nil => intro acc h; exact h
    | cons q st ih => intro acc h; exact ih _ (nodup_addS h)
  exact key st [] List.nodup_nil
theorem len_addAll (st : List Sp2) : (addAll st).length ≤ st.length := nodup_le (nd_addAll st) fun x h => mem_addAll.mp h
theorem take_snoc {α : Type} {xs : List α} {i : Nat} (h : i < xs.length) : xs.take (i + 1) = xs.take i ++ [xs[i]] := by rw [List.take_succ, List.getElem?_eq_getElem h]; rfl
theorem bet_start {cs : List Tr3} {top oct : Int} {all : Bool} {st : List Sp2} : Bet cs top oct all st (addAll st) st ∧ Clo cs top oct all st (addAll st) st fun _ => False := by
  refine ⟨⟨nd_addAll st, fun q hq => List.mem_append_left _ (mem_addAll.mp hq), fun q hq => mem_addAll.mpr hq, fun q hq => OnW.base (mem_addAll.mp hq), fun q hq => ?_⟩, fun r hr => .inr (.inl ?_)⟩
  · split
    · exact mem_addAll.mpr hq
    · exact hq
  · split at hr
    · exact mem_addAll.mp hr
    · exact hr
theorem all_on_w {M : Hs} {g np : Nat} {many : Int} {cs0 rs : List Tr3} {ch : Str} {oct : Int} (og : Og M g many cs0 rs ch oct) (hch : ch = "all" ∨ ch = "pressed") (cs : List Tr3) (hc : cs.length ≤ 100) (top : Int) (h0 : 0 ≤ top) (h1 : top ≤ 1000) (st : List Sp2) (hst : st.length ≤ 10000)
    (hp : M[np]? = some (.lst (st.map prD))) : wX (f_all_on [.ref g, .tup (cs.map trD), .int top, .ref np] M) fun d M' => ∃ n xs, d = .ref n ∧ M'[n]? = some (.lst ((srtB SrtO.lexB xs).map prD)) ∧ xs.Nodup ∧ (∀ q, q ∈ xs ↔ OnW cs top oct (decide (ch = "all")) st q) ∧ Fr No M M' ∧ M.length ≤ n := by
  have hU := univ_len (cs := cs) (st := st) h0 h1 hc hst
  have hsz := size1
  unfold f_all_on
  try walk_at "mi"
  unfold ySeq
  simp only [wX_bind, wX_var, wX_ok, List.getElem?_cons_zero, List.getElem?_cons_succ]
  have hp1 : (M ++ [MO.dct []])[np]? = some (.lst (st.map prD)) := (Fr.push (S := No) M _).get hp id
  rw [seq_lst hp1]
  dsimp only [wX_ok]
  refine wS_forN (I := fun i ζ M' => (∃ a b c, ζ = [some (.ref g), some (.tup (cs.map trD)), some (.int top), some (.ref np), some (.ref M.length), a, b, c]) ∧ Fr No M M' ∧ M'[M.length]? = some (.dct (setD (addAll (st.take i))))) st.length ?_ ?_ _ 0 _ _ (by simp) (Nat.zero_le _) ⟨⟨_, _, _, rfl⟩, Fr.push _ _, by simp [addAll, setD]⟩
  · rintro i ζ M' hi ⟨⟨a, b, c, rfl⟩, fr, hm⟩
    have hsl : (addAll (st.take i)).length < sizeLine := by
      have h3 := len_addAll (st.take i)
      rw [List.length_take] at h3
      omega
    refine ⟨prD st[i], [(5, prD st[i])], by rw [seq_lst (fr.get hp id)]; simp [hi], rfl, ?_⟩
    simp only [setAll]
    try walk_at "mi"
    rw [g_putS hm hsl]
    exact ⟨⟨_, _, _, rfl⟩, fr.setHi (Nat.le_refl _), by rw [take_snoc hi, addAll_snoc]; exact set_get hm⟩
  · rintro ζ M' ⟨⟨a, b, c, rfl⟩, fr, hm⟩
    refine ⟨by rw [seq_lst (fr.get hp id)]; simp, ?_⟩
    rw [List.take_length] at hm
    try walk_at "mi"
    rw [g_list (fr.get hp id)]
    try walk_at "mi"
    have hnw : (M' ++ [MO.lst (st.map prD)])[M'.length]? = some (.lst (st.map prD)) := get_push
    have hnf : (M' ++ [MO.lst (st.map prD)])[M.length]? = some (.dct (setD (addAll st))) := (Fr.push (S := No) M' _).get hm id
    have hne : M.length < M'.length := lt_of_get hm
    have hb := bet_start (cs := cs) (top := top) (oct := oct) (all := decide (ch = "all")) (st := st)
    refine wS_while (I := fun n ζ M2 => ∃ fnd wt a b, ζ = [some (.ref g), some (.tup (cs.map trD)), some (.int top), some (.ref np), some (.ref M.length), a, some (.ref M'.length), b] ∧ Fr No M M2 ∧ M2[M.length]? = some (.dct (setD fnd)) ∧ M2[M'.length]? = some (.lst (wt.map prD)) ∧
      Bet cs top oct (decide (ch = "all")) st fnd wt ∧ Clo cs top oct (decide (ch = "all")) st fnd wt (fun _ => False) ∧ ((univ cs top st).length - fnd.length) + wt.length ≤ n ∧ n ≤ 300000) 300000 (by decide) ⟨addAll st, st, _, _, rfl, fr.pushHi, hnf, hnw, hb.1, hb.2, by omega, Nat.le_refl _⟩ ?_
    rintro n ζ M2 ⟨fnd, wt, a, b, rfl, fr2, hf, hw, bet, clo, hn, hN⟩
    try walk_at "mi"
    rw [if_pos (Nat.zero_le _)]
    have hw1 : (M2 ++ [MO.lst []])[M'.length]? = some (.lst (wt.map prD)) := (Fr.push (S := No) M2 _).get hw id
    have hf1 : (M2 ++ [MO.lst []])[M.length]? = some (.dct (setD fnd)) := (Fr.push (S := No) M2 _).get hf id
    have hnil : (M2 ++ [MO.lst []])[M2.length]? = some (.lst (([] : List Sp2).map prD)) := get_push
    rw [g_neP hw1 hnil]
    try walk_at "mi"
    rcases List.eq_nil_or_concat wt with hwt | ⟨w, p, hwt⟩
    · subst hwt
      simp only [decide_true, Bool.not_true, Bool.false_eq_true, if_false]
      try walk_at "mi"
      rw [g_sortedP (items_set hf1)]
      exact ⟨_, fnd, rfl, get_push, bet.nd, bet.last clo, (fr2.pushHi).pushHi, by have := fr2.1; simp; omega⟩
    · rw [List.concat_eq_append] at hwt
      subst hwt
      have hne2 : (w ++ [p] = []) = False := by simp
      simp only [hne2, decide_false, Bool.not_false, if_true]
      try walk_at "mi"
      rw [if_pos (isL hw1).1]
      have hw1' : (M2 ++ [MO.lst []])[M'.length]? = some (.lst (w.map prD ++ [prD p])) := by rw [hw1, List.map_append]; rfl
      rw [g_pop hw1']
      try walk_at "mi"
      have fr3 : Fr No M ((M2 ++ [MO.lst []]).set M'.length (.lst (w.map prD))) := (fr2.pushHi).setHi (Nat.le_of_lt hne)
      have hw3 : ((M2 ++ [MO.lst []]).set M'.length (.lst (w.map prD)))[M'.length]? = some (.lst (w.map prD)) := set_get hw1
      have hf3 : ((M2 ++ [MO.lst []]).set M'.length (.lst (w.map prD)))[M.length]? = some (.dct (setD fnd)) := by rw [List.getElem?_set_ne (by omega)]; exact hf1
      generalize ((M2 ++ [MO.lst []]).set M'.length (.lst (w.map prD))) = M3 at fr3 hw3 hf3 ⊢
      have og3 : Og M3 g many cs0 rs ch oct := fr3.get og id
      simp only [wX_bind]
      try walk_at "mi"
      refine wX_mono (led_keys_w og3 cs (by omega) top p) ?_
      rintro d M4 ⟨rfl, fr4, hl⟩
      dsimp only
      rw [seq_lst hl]
      dsimp only [wX_ok]
      have hl3 : M.length < M3.length := lt_of_get hf3
      have hl3' : M'.length < M3.length := lt_of_get hw3
      have hw4 : M4[M'.length]? = some (.lst (w.map prD)) := fr4.get hw3 id
      have hf4 : M4[M.length]? = some (.dct (setD fnd)) := fr4.get hf3 id
      obtain ⟨bet2, hact⟩ := bet.pop
      have clo2 := clo.pop
      rw [List.length_append, List.length_singleton] at hn
      try walk_at "mi"
      refine wS_forN (I := fun i ζ M5 => ∃ fnd' wt' b, ζ = [some (.ref g), some (.tup (cs.map trD)), some (.int top), some (.ref np), some (.ref M.length), some (prD p), some (.ref M'.length), b] ∧ Fr No M M5 ∧ M5[M.length]? = some (.dct (setD fnd')) ∧ M5[M'.length]? = some (.lst (wt'.map prD)) ∧
        M5[M3.length]? = some (.lst ((ledK cs top oct p).map prD)) ∧ Bet cs top oct (decide (ch = "all")) st fnd' wt' ∧ Clo cs top oct (decide (ch = "all")) st fnd' wt' (· = p) ∧ (if decide (ch = "all") = true then p ∈ fnd' else p ∈ st) ∧ (∀ q ∈ (ledK cs top oct p).take i, q ∈ fnd') ∧
        ((univ cs top st).length - fnd'.length) + wt'.length + 1 ≤ n) (ledK cs top oct p).length ?_ ?_ _ 0 _ _ (by simp) (Nat.zero_le _) ⟨fnd, w, _, rfl, fr3.trans fr4, hf4, hw4, hl, bet2, clo2, hact, by simp, by omega⟩
      · rintro i ζ M5 hi ⟨fnd', wt', b, rfl, fr5, hf5, hw5, hl5, bet5, clo5, act5, done5, hn5⟩
        refine ⟨prD (ledK cs top oct p)[i], [(7, prD (ledK cs top oct p)[i])], by rw [seq_lst hl5]; simp [hi], rfl, ?_⟩
        have hq : (ledK cs top oct p)[i] ∈ ledK cs top oct p := List.getElem_mem hi
        have htk : ∀ z, z ∈ (ledK cs top oct p).take (i + 1) ↔ z ∈ (ledK cs top oct p).take i ∨ z = (ledK cs top oct p)[i] := fun z => by rw [take_snoc hi, List.mem_append, List.mem_singleton]
        generalize (ledK cs top oct p)[i] = q at hq htk ⊢
        have hUb := bet5.le
        simp only [setAll]
        try walk_at "mi"
        rw [g_inS hf5]
        try walk_at "mi"
        by_cases hin : q ∈ fnd'
        · simp only [hin, decide_true, Bool.not_true, Bool.false_eq_true, if_false]
          try walk_at "mi"
          refine ⟨fnd', wt', _, rfl, fr5, hf5, hw5, hl5, bet5, clo5, act5, fun z hz => ?_, hn5⟩
          rcases (htk z).mp hz with h | h
          · exact done5 z h
          · subst h; exact hin
        · simp only [hin, decide_false, Bool.not_false, if_true]
          try walk_at "mi"
          have bet6 := bet5.put act5 hq hin
          have clo6 := clo5.put (q := q)
          have hU6 := bet6.le
          rw [List.length_append, List.length_singleton] at hU6
          have hadd : addS fnd' q = fnd' ++ [q] := by unfold addS; rw [if_neg hin]
          rw [g_putS hf5 (by omega), hadd]
          dsimp only
          have hf6 : (M5.set M.length (.dct (setD (fnd' ++ [q]))))[M.length]? = some (.dct (setD (fnd' ++ [q]))) := set_get hf5
          have hw6 : (M5.set M.length (.dct (setD (fnd' ++ [q]))))[M'.length]? = some (.lst (wt'.map prD)) := by rw [List.getElem?_set_ne (by omega)]; exact hw5
          have hl6 : (M5.set M.length (.dct (setD (fnd' ++ [q]))))[M3.length]? = some (.lst ((ledK cs top oct p).map prD)) := by rw [List.getElem?_set_ne (by omega)]; exact hl5
          have fr6 : Fr No M (M5.set M.length (.dct (setD (fnd' ++ [q])))) := fr5.setHi (Nat.le_refl _)
          generalize (M5.set M.length (.dct (setD (fnd' ++ [q])))) = M6 at hf6 hw6 hl6 fr6 ⊢
          have og6 : M6[g]? = some (.slo 0 _) := fr6.get og id
          have hact6 : (if decide (ch = "all") = true then p ∈ fnd' ++ [q] else p ∈ st) := by
            split at act5
            · rename_i hx; rw [if_pos hx]; exact List.mem_append_left _ act5
            · rename_i hx; rw [if_neg hx]; exact act5
          have hdone6 : ∀ z ∈ (ledK cs top oct p).take (i + 1), z ∈ fnd' ++ [q] := fun z hz => by
            rcases (htk z).mp hz with h | h
            · exact List.mem_append_left _ (done5 z h)
            · subst h; exact List.mem_append_right _ List.mem_cons_self
          rw [sl_at og6]
          try walk_at "mi"
          rw [g_all hch]
          try walk_at "mi"
          by_cases hc2 : ch = "all"
          · simp only [hc2, decide_true, if_true] at bet6 clo6 hact6 ⊢
            try walk_at "mi"
            rw [if_pos (isL hw6).1, g_app hw6 (by rw [List.length_map]; omega)]
            try walk_at "mi"
            refine ⟨fnd' ++ [q], wt' ++ [q], _, rfl, fr6.setHi (Nat.le_of_lt hne), ?_, ?_, ?_, bet6, clo6, hact6, hdone6, ?_⟩
            · rw [List.getElem?_set_ne (by omega)]; exact hf6
            · rw [List.map_append]; exact set_get hw6
            · rw [List.getElem?_set_ne (by omega)]; exact hl6
            · rw [List.length_append, List.length_append, List.length_singleton]; omega
          · simp only [hc2, decide_false, Bool.false_eq_true, if_false] at bet6 clo6 hact6 ⊢
            try walk_at "mi"
            refine ⟨fnd' ++ [q], wt', _, rfl, fr6, hf6, hw6, hl6, bet6, clo6, hact6, hdone6, ?_⟩
            rw [List.length_append, List.length_singleton]; omega
      · rintro ζ M5 ⟨fnd', wt', b, rfl, fr5, hf5, hw5, hl5, bet5, clo5, act5, done5, hn5⟩
        refine ⟨by rw [seq_lst hl5]; simp, ?_⟩
        rw [List.take_length] at done5
        exact ⟨((univ cs top st).length - fnd'.length) + wt'.length, by omega, fnd', wt', _, _, rfl, fr5, hf5, hw5, bet5, clo5.close done5, Nat.le_refl _, by omega⟩
end Wk_k01
end
section
set_option maxRecDepth 100000
set_option maxHeartbeats 4000000
set_option autoImplicit false
namespace Wk_k01
open PySem Mi
local macro_rules | `(tactic| walk_at "mi") => `(tactic| simp only [wX_fn, wS_seq, wS_set, wS_ret, wS_expr, wS_pass, wS_if, wS_put, wX_var, wX_c, wX_2, wX_3, wX_anil, wX_acons, wX_tup, wX_lst, wX_dict, wX_b, wX_meth, wX_call, wX_if, wX_t1, wX_and2, wX_or2, wX_not1, wX_true, wX_neg, wX_oN, wX_oS, wX_not, wX_and, wX_or, wX_is, wX_cut, wX_fld, wS_for, wX_ok, wX_no, wO_some, wO_none, wS_nx, wS_rt, List.map_cons, List.map_nil, List.cons_append, List.nil_append, List.append_nil, List.replicate_succ, List.replicate_zero, List.set_cons_zero, List.set_cons_succ, List.getElem?_cons_zero, List.getElem?_cons_succ, List.getElem?_nil, List.length_cons, List.length_nil, Nat.reduceSub, Nat.reduceAdd, Nat.zero_add, Nat.add_zero, if_true, if_false, ite_true, ite_false, reduceIte, Bool.false_eq_true, Bool.not_true, Bool.not_false, ← Nat.add_assoc, reduceCtorEq, List.length_append])
def Tt (M : Hs) (t : Nat) (many : Int) (cs rs : List Tr3) (ch : Str) (oct : Int) : Prop := M[t]? = some (.lst [.int many, .tup (cs.map trD), .tup (rs.map trD), .str ch, .int oct])
theorem g_last {M : Hs} {n : Nat} {xs : List D} {d : D} (h : M[n]? = some (.lst (xs ++ [d]))) : gIxA (.ref n) (.int (-1)) M = some (d, M) := by
  have e : gIxA (.ref n) (.int (-1)) M = gIx (.ref n) (.int (-1)) M := by simp [gIxA, hDct, h]
  have e3 : L2.atI (xs ++ [d]) (-1) = some d := by
    have e1 : (-1 + ((xs ++ [d]).length : Int)).toNat = xs.length := by rw [List.length_append, List.length_singleton]; omega
    unfold L2.atI L2.ixN
    rw [if_neg (by omega), if_pos (by rw [List.length_append, List.length_singleton]; omega), e1]
    simp
  rw [e]
  unfold gIx
  rw [seq_lst h]
  dsimp only
  rw [e3]
theorem g_cutL {M : Hs} {n : Nat} {xs : List D} {d : D} (h : M[n]? = some (.lst (xs ++ [d]))) : gCut (.ref n) none (some (-1)) M = some (.ref M.length, M ++ [.lst xs]) := by
  have e : cutD (xs ++ [d]) none (some (-1)) = xs := by
    unfold cutD HT.sIx
    dsimp only
    rw [if_pos (by omega)]
    have e1 : (-1 + ((xs ++ [d]).length : Int)).toNat = xs.length := by rw [List.length_append, List.length_singleton]; omega
    rw [e1]
    simp
  unfold gCut
  dsimp only
  rw [seq_lst h]
  dsimp only
  rw [e]
theorem law_on_w {M : Hs} {t np : Nat} {many : Int} {cs rs : List Tr3} {ch : Str} {oct : Int} (tt : Tt M t many cs rs ch oct) (hch : ch = "all" ∨ ch = "pressed") (hc : cs.length ≤ 100) (top : Int) (h0 : 0 ≤ top) (h1 : top ≤ 1000) (st : List Sp2) (hst : st.length ≤ 10000)
    (hp : M[np]? = some (.lst (st.map prD))) : wX (f__law_on [.ref t, .int top, .ref np] M) fun d M' => ∃ n xs, d = .ref n ∧ M'[n]? = some (.lst ((srtB SrtO.lexB xs).map prD)) ∧ xs.Nodup ∧ (∀ q, q ∈ xs ↔ OnW cs top oct (decide (ch = "all")) st q) ∧ Fr No M M' ∧ M.length ≤ n := by
  have hU := univ_len (cs := cs) (st := st) h0 h1 hc hst
  have hsz := size1
  unfold f__law_on
  try walk_at "mi"
  rw [if_pos (Nat.zero_le _)]
  unfold ySeq
  simp only [wX_bind, wX_var, wX_ok, List.getElem?_cons_zero, List.getElem?_cons_succ]
  have fr0 : Fr No M (M ++ [MO.dct []] ++ [MO.lst []]) := (Fr.push M _).pushHi
  rw [seq_lst (fr0.get hp id)]
  dsimp only [wX_ok]
  try walk_at "mi"
  refine wS_forN (I := fun i ζ M' => (∃ a b c d e, ζ = [some (.ref t), some (.int top), some (.ref np), some (.ref M.length), some (.ref (M.length + 1)), a, b, c, d, e]) ∧ Fr No M M' ∧ M'[M.length]? = some (.dct (setD (addAll (st.take i)))) ∧ M'[M.length + 1]? = some (.lst ((st.take i).map prD))) st.length ?_ ?_ _ 0 _ _ (by simp) (Nat.zero_le _) ⟨⟨_, _, _, _, _, rfl⟩, fr0, by simp [addAll, setD], by simp⟩
  · rintro i ζ M' hi ⟨⟨a, b, c, d, e, rfl⟩, fr, hm, hq⟩
    have hsl : (addAll (st.take i)).length < sizeLine := by
      have h3 := len_addAll (st.take i)
      rw [List.length_take] at h3
      omega
    refine ⟨prD st[i], [(5, prD st[i])], by rw [seq_lst (fr.get hp id)]; simp [hi], rfl, ?_⟩
    simp only [setAll]
    try walk_at "mi"
    rw [g_putS hm hsl]
    dsimp only
    have hq2 : (M'.set M.length (.dct (setD (addS (addAll (st.take i)) st[i]))))[M.length + 1]? = some (.lst ((st.take i).map prD)) := by rw [List.getElem?_set_ne (by omega)]; exact hq
    rw [if_pos (isL hq2).1, g_app hq2 (by rw [List.length_map, List.length_take]; omega)]
    try walk_at "mi"
    refine ⟨⟨_, _, _, _, _, rfl⟩, (fr.setHi (Nat.le_refl _)).setHi (Nat.le_succ _), ?_, ?_⟩
    · rw [List.getElem?_set_ne (by omega), take_snoc hi, addAll_snoc]; exact set_get hm
    · rw [take_snoc hi, List.map_append]; exact set_get hq2
  · rintro ζ M' ⟨⟨a, b, c, d, e, rfl⟩, fr, hm, hq⟩
    refine ⟨by rw [seq_lst (fr.get hp id)]; simp, ?_⟩
    rw [List.take_length] at hm hq
    try walk_at "mi"
    have hb := bet_start (cs := cs) (top := top) (oct := oct) (all := decide (ch = "all")) (st := st)
    refine wS_while (I := fun n ζ M2 => ∃ fnd wt nq a b c d e, ζ = [some (.ref t), some (.int top), some (.ref np), some (.ref M.length), some (.ref nq), a, b, c, d, e] ∧ Fr No M M2 ∧ M2[M.length]? = some (.dct (setD fnd)) ∧ M2[nq]? = some (.lst (wt.map prD)) ∧ M.length < nq ∧
      Bet cs top oct (decide (ch = "all")) st fnd wt ∧ Clo cs top oct (decide (ch = "all")) st fnd wt (fun _ => False) ∧ ((univ cs top st).length - fnd.length) + wt.length ≤ n ∧ n ≤ 300000) 300000 (by decide) ⟨addAll st, st, _, _, _, _, _, _, rfl, fr, hm, hq, Nat.lt_succ_self _, hb.1, hb.2, by omega, Nat.le_refl _⟩ ?_
    rintro n ζ M2 ⟨fnd, wt, nq, a, b, c, d, e, rfl, fr2, hf, hw, hnq, bet, clo, hn, hN⟩
    try walk_at "mi"
    rw [if_pos (Nat.zero_le _)]
    have hw1 : (M2 ++ [MO.lst []])[nq]? = some (.lst (wt.map prD)) := (Fr.push (S := No) M2 _).get hw id
    have hf1 : (M2 ++ [MO.lst []])[M.length]? = some (.dct (setD fnd)) := (Fr.push (S := No) M2 _).get hf id
    have hnil : (M2 ++ [MO.lst []])[M2.length]? = some (.lst (([] : List Sp2).map prD)) := get_push
    rw [g_neP hw1 hnil]
    try walk_at "mi"
    rcases List.eq_nil_or_concat wt with hwt | ⟨w, p, hwt⟩
    · subst hwt
      simp only [decide_true, Bool.not_true, Bool.false_eq_true, if_false]
      try walk_at "mi"
      have hl : gListA [.ref M.length] (M2 ++ [MO.lst []]) = some (.ref (M2 ++ [MO.lst []]).length, (M2 ++ [MO.lst []]) ++ [.lst (fnd.map prD)]) := by
        have e : hDct (M2 ++ [MO.lst []]) M.length = some (setD fnd) := by unfold hDct; rw [hf1]
        unfold gListA
        dsimp only
        rw [e]
        simp [setD]
      rw [hl]
      try walk_at "mi"
      have hg : (M2 ++ [MO.lst []] ++ [MO.lst (fnd.map prD)])[(M2 ++ [MO.lst []]).length]? = some (.lst (fnd.map prD)) := get_push
      rw [List.length_append, List.length_singleton] at hg
      rw [g_sortedP (items_lst hg)]
      exact ⟨_, fnd, rfl, get_push, bet.nd, bet.last clo, ((fr2.pushHi).pushHi).pushHi, by have := fr2.1; simp; omega⟩
    · rw [List.concat_eq_append] at hwt
      subst hwt
      have hne2 : (w ++ [p] = []) = False := by simp
      simp only [hne2, decide_false, Bool.not_false, if_true]
      have hw1' : (M2 ++ [MO.lst []])[nq]? = some (.lst (w.map prD ++ [prD p])) := by rw [hw1, List.map_append]; rfl
      try walk_at "mi"
      rw [g_last hw1']
      try walk_at "mi"
      rw [g_cutL hw1']
      try walk_at "mi"
      have fr3 : Fr No M (M2 ++ [MO.lst []] ++ [MO.lst (w.map prD)]) := (fr2.pushHi).pushHi
      have hw3 : (M2 ++ [MO.lst []] ++ [MO.lst (w.map prD)])[(M2 ++ [MO.lst []]).length]? = some (.lst (w.map prD)) := get_push
      have hf3 : (M2 ++ [MO.lst []] ++ [MO.lst (w.map prD)])[M.length]? = some (.dct (setD fnd)) := (Fr.push (S := No) _ _).get hf1 id
      have hnq3 : M.length < (M2 ++ [MO.lst []]).length := lt_of_get hf1
      rw [List.length_append, List.length_singleton] at hw3 hnq3
      generalize (M2 ++ [MO.lst []] ++ [MO.lst (w.map prD)]) = M3 at fr3 hw3 hf3 ⊢
      generalize M2.length + 1 = nw at hw3 hnq3 ⊢
      have tt3 : Tt M3 t many cs rs ch oct := fr3.get tt id
      simp only [wX_bind]
      try walk_at "mi"
      rw [g_ixL (i := 1) tt3 rfl]
      try walk_at "mi"
      obtain ⟨bet2, hact⟩ := bet.pop
      have clo2 := clo.pop
      rw [List.length_append, List.length_singleton] at hn
      refine wS_forN (I := fun i ζ M5 => ∃ fnd' wt' b c d e, ζ = [some (.ref t), some (.int top), some (.ref np), some (.ref M.length), some (.ref nw), some (prD p), b, c, d, e] ∧ Fr No M M5 ∧ M5[M.length]? = some (.dct (setD fnd')) ∧ M5[nw]? = some (.lst (wt'.map prD)) ∧
        Bet cs top oct (decide (ch = "all")) st fnd' wt' ∧ Clo cs top oct (decide (ch = "all")) st fnd' wt' (· = p) ∧ (if decide (ch = "all") = true then p ∈ fnd' else p ∈ st) ∧ (∀ q ∈ ledK (cs.take i) top oct p, q ∈ fnd') ∧
        ((univ cs top st).length - fnd'.length) + wt'.length + 1 ≤ n) cs.length ?_ ?_ _ 0 _ _ (by simp) (Nat.zero_le _) ⟨fnd, w, _, _, _, _, rfl, fr3, hf3, hw3, bet2, clo2, hact, by simp [ledK], by omega⟩
      · rintro i ζ M5 hi ⟨fnd', wt', b, c, d, e, rfl, fr5, hf5, hw5, bet5, clo5, act5, done5, hn5⟩
        have ht : (cs.map trD)[i]? = some (trD cs[i]) := by rw [List.getElem?_map, List.getElem?_eq_getElem hi]; rfl
        refine ⟨_, [(6, .int cs[i].1), (7, .int cs[i].2.1), (8, .int cs[i].2.2)], by rw [ht], rfl, ?_⟩
        have hts : ledK (cs.take (i + 1)) top oct p = ledK (cs.take i) top oct p ++ ledK [cs[i]] top oct p := by rw [take_snoc hi, ledK_snoc]
        have hmem : ∀ q ∈ ledK [cs[i]] top oct p, q ∈ ledK cs top oct p := fun q hq => by
          unfold ledK at hq ⊢
          obtain ⟨x, hx, e⟩ := List.mem_filterMap.mp hq
          simp at hx
          subst hx
          exact List.mem_filterMap.mpr ⟨_, List.getElem_mem hi, e⟩
        simp only [setAll]
        have e0 : gIxA (prD p) (.int 0) M5 = some (.int p.1, M5) := g_ixT (i := 0) rfl
        have e1 : gIxA (prD p) (.int 1) M5 = some (.int p.2, M5) := g_ixT (i := 1) rfl
        have tt5 : Tt M5 t many cs rs ch oct := fr5.get tt id
        try walk_at "mi"
        simp only [e0, e1, g_eqI, wO_some]
        try walk_at "mi"
        have hUb := bet5.le
        have skip : (∀ q ∈ ledK [cs[i]] top oct p, q ∈ fnd') → ∀ q ∈ ledK (cs.take (i + 1)) top oct p, q ∈ fnd' := fun h q hq => by
          rw [hts] at hq
          rcases List.mem_append.mp hq with hq | hq
          · exact done5 q hq
          · exact h q hq
        by_cases h1 : cs[i].1 = p.1
        · simp only [h1, decide_true, if_true]
          refine wX_mono (law_led_w p.2 cs[i].2.2 top oct tt5) fun z M6 ⟨hz, hM⟩ => ?_
          have hM2 := hM.symm
          subst hz
          subst hM2
          cases hk : ledP p.2 cs[i].2.2 top oct with
          | none =>
            have hk2 : ledK [cs[i]] top oct p = [] := by simp [ledK, h1, hk]
            simp only [optD, g_isNotN, wO_some]
            try walk_at "mi"
            exact ⟨fnd', wt', _, _, _, _, rfl, fr5, hf5, hw5, bet5, clo5, act5, skip (by rw [hk2]; simp), hn5⟩
          | some k =>
            have hk2 : ledK [cs[i]] top oct p = [(cs[i].2.1, k)] := by simp [ledK, h1, hk]
            have hq : (cs[i].2.1, k) ∈ ledK cs top oct p := hmem _ (by rw [hk2]; simp)
            simp only [optD, g_isNotI, wO_some]
            try walk_at "mi"
            rw [if_pos (show 2 ≤ sizeLine by decide)]
            have hpr : D.tup [D.int cs[i].2.1, D.int k] = prD (cs[i].2.1, k) := rfl
            rw [hpr, g_inS hf5]
            try walk_at "mi"
            generalize (cs[i].2.1, k) = q at hq hk2 hpr ⊢
            by_cases hin : q ∈ fnd'
            · simp only [hin, decide_true, Bool.not_true, Bool.false_eq_true, if_false]
              try walk_at "mi"
              exact ⟨fnd', wt', _, _, _, _, rfl, fr5, hf5, hw5, bet5, clo5, act5, skip (by rw [hk2]; intro z hz; simp at hz; subst hz; exact hin), hn5⟩
            · simp only [hin, decide_false, Bool.not_false, if_true]
              try walk_at "mi"
              rw [if_pos (show 2 ≤ sizeLine by decide)]
              have bet6 := bet5.put act5 hq hin
              have clo6 := clo5.put (q := q)
              have hU6 := bet6.le
              rw [List.length_append, List.length_singleton] at hU6
              have hadd : addS fnd' q = fnd' ++ [q] := by unfold addS; rw [if_neg hin]
              rw [g_putS hf5 (by omega), hadd]
              dsimp only
              have hf6 : (M5.set M.length (.dct (setD (fnd' ++ [q]))))[M.length]? = some (.dct (setD (fnd' ++ [q]))) := set_get hf5
              have hw6 : (M5.set M.length (.dct (setD (fnd' ++ [q]))))[nw]? = some (.lst (wt'.map prD)) := by rw [List.getElem?_set_ne (by omega)]; exact hw5
              have fr6 : Fr No M (M5.set M.length (.dct (setD (fnd' ++ [q])))) := fr5.setHi (Nat.le_refl _)
              generalize (M5.set M.length (.dct (setD (fnd' ++ [q])))) = M6 at hf6 hw6 fr6 ⊢
              have tt6 : Tt M6 t many cs rs ch oct := fr6.get tt id
              have hact6 : (if decide (ch = "all") = true then p ∈ fnd' ++ [q] else p ∈ st) := by
                split at act5
                · rename_i hx; rw [if_pos hx]; exact List.mem_append_left _ act5
                · rename_i hx; rw [if_neg hx]; exact act5
              have hdone6 : ∀ z ∈ ledK (cs.take (i + 1)) top oct p, z ∈ fnd' ++ [q] := fun z hz => by
                rw [hts] at hz
                rcases List.mem_append.mp hz with hz | hz
                · exact List.mem_append_left _ (done5 z hz)
                · rw [hk2] at hz; exact List.mem_append_right _ hz
              rw [g_ixL (i := 3) tt6 rfl]
              try walk_at "mi"
              rw [g_all hch]
              try walk_at "mi"
              by_cases hc2 : ch = "all"
              · simp only [hc2, decide_true, if_true] at bet6 clo6 hact6 ⊢
                try walk_at "mi"
                rw [if_pos (isL hw6).1, if_pos (show 2 ≤ sizeLine by decide), g_app hw6 (by rw [List.length_map]; omega)]
                try walk_at "mi"
                refine ⟨fnd' ++ [q], wt' ++ [q], _, _, _, _, rfl, fr6.setHi (Nat.le_of_lt hnq3), ?_, ?_, bet6, clo6, hact6, hdone6, ?_⟩
                · rw [List.getElem?_set_ne (by omega)]; exact hf6
                · rw [List.map_append]; exact set_get hw6
                · rw [List.length_append, List.length_append, List.length_singleton]; omega
              · simp only [hc2, decide_false, Bool.false_eq_true, if_false] at bet6 clo6 hact6 ⊢
                try walk_at "mi"
                refine ⟨fnd' ++ [q], wt', _, _, _, _, rfl, fr6, hf6, hw6, bet6, clo6, hact6, hdone6, ?_⟩
                rw [List.length_append, List.length_singleton]; omega
        · have hk2 : ledK [cs[i]] top oct p = [] := by simp [ledK, h1]
          simp only [h1, decide_false, Bool.false_eq_true, if_false]
          simp only [g_isNotN, wO_some]
          try walk_at "mi"
          exact ⟨fnd', wt', _, _, _, _, rfl, fr5, hf5, hw5, bet5, clo5, act5, skip (by rw [hk2]; simp), hn5⟩
      · rintro ζ M5 ⟨fnd', wt', b, c, d, e, rfl, fr5, hf5, hw5, bet5, clo5, act5, done5, hn5⟩
        refine ⟨by simp, ?_⟩
        rw [List.take_length] at done5
        exact ⟨((univ cs top st).length - fnd'.length) + wt'.length, by omega, fnd', wt', _, _, _, _, _, _, rfl, fr5, hf5, hw5, hnq3, bet5, clo5.close done5, Nat.le_refl _, by omega⟩
end Wk_k01
end
section
set_option maxRecDepth 100000
set_option maxHeartbeats 4000000
set_option autoImplicit false
namespace Wk_k01
open PySem Mi
local macro_rules | `(tactic| walk_at "mi") => `(tactic| simp only [wX_fn, wS_seq, wS_set, wS_ret, wS_expr, wS_pass, wS_if, wS_put, wX_var, wX_c, wX_2, wX_3, wX_anil, wX_acons, wX_tup, wX_lst, wX_dict, wX_b, wX_meth, wX_call, wX_if, wX_t1, wX_and2, wX_or2, wX_not1, wX_true, wX_neg, wX_oN, wX_oS, wX_not, wX_and, wX_or, wX_is, wX_cut, wX_fld, wS_for, wX_ok, wX_no, wO_some, wO_none, wS_nx, wS_rt, List.map_cons, List.map_nil, List.cons_append, List.nil_append, List.append_nil, List.replicate_succ, List.replicate_zero, List.set_cons_zero, List.set_cons_succ, List.getElem?_cons_zero, List.getElem?_cons_succ, List.getElem?_nil, List.length_cons, List.length_nil, Nat.reduceSub, Nat.reduceAdd, Nat.zero_add, Nat.add_zero, if_true, if_false, ite_true, ite_false, reduceIte, Bool.false_eq_true, Bool.not_true, Bool.not_false, ← Nat.add_assoc, reduceCtorEq, List.length_append])
theorem size16 : (10000100 : Nat) < sizeLine := by decide
theorem onW_univ {cs : List Tr3} {top oct : Int} {all : Bool} {st : List Sp2} {q : Sp2} (h : OnW cs top oct all st q) : q ∈ univ cs top st := by
  unfold OnW at h
  split at h
  · cases h with
    | base hp => exact List.mem_append_left _ hp
    | step _ h2 => exact led_univ h2
  · rcases h with h | ⟨p, _, h⟩
    · exact List.mem_append_left _ h
    · exact led_univ h
theorem on_len {cs : List Tr3} {top oct : Int} {all : Bool} {st xs : List Sp2} (h0 : 0 ≤ top) (h1 : top ≤ 1000) (hc : cs.length ≤ 100) (hst : st.length ≤ 10000) (nd : xs.Nodup) (hx : ∀ q, q ∈ xs ↔ OnW cs top oct all st q) : (srtB SrtO.lexB xs).length ≤ 200000 := by
  rw [(srtB_perm _ xs).length_eq]
  exact Nat.le_trans (nodup_le nd fun q hq => onW_univ ((hx q).mp hq)) (univ_len h0 h1 hc hst)
theorem len_addS {xs : List Sp2} {p : Sp2} : (addS xs p).length ≤ xs.length + 1 := by
  unfold addS
  split
  · omega
  · simp
theorem ledK_one {cs : List Tr3} {t : Tr3} {top oct : Int} {p : Sp2} : ledK [t] top oct p = if t.1 = p.1 then (match ledP p.2 t.2.2 top oct with
    | some k => [(t.2.1, k)]
    | none => []) else [] := by
  unfold ledK
  by_cases h : t.1 = p.1
  · cases hk : ledP p.2 t.2.2 top oct <;> simp [h, hk]
  · simp [h]
theorem all_pipes_w {M : Hs} {g ns : Nat} {many : Int} {cs0 rs0 : List Tr3} {ch : Str} {oct : Int} (og : Og M g many cs0 rs0 ch oct) (rs : List Tr3) (hr : rs.length ≤ 50) (top : Int) (sp : List Sp2) (hsp : sp.length ≤ 200000) (hs : M[ns]? = some (.lst (sp.map prD))) :
    wX (f_all_pipes [.ref g, .tup (rs.map trD), .int top, .ref ns] M) fun d M' => ∃ n xs, d = .ref n ∧ M'[n]? = some (.lst ((srtB SrtO.lexB xs).map prD)) ∧ xs.Nodup ∧ (∀ q, q ∈ xs ↔ ∃ p ∈ sp, q ∈ ledK rs top oct p) ∧ Fr No M M' ∧ M.length ≤ n := by
  have hsz := size16
  unfold f_all_pipes
  try walk_at "mi"
  unfold ySeq
  simp only [wX_bind]
  try walk_at "mi"
  have fr0 : Fr No M (M ++ [MO.dct []]) := Fr.push M _
  rw [seq_lst (fr0.get hs id)]
  dsimp only [wX_ok]
  try walk_at "mi"
  refine wS_forN (I := fun i ζ M' => ∃ fnd a b c d e f, ζ = [some (.ref g), some (.tup (rs.map trD)), some (.int top), some (.ref ns), some (.ref M.length), a, b, c, d, e, f] ∧ Fr No M M' ∧ M'[M.length]? = some (.dct (setD fnd)) ∧ fnd.Nodup ∧ fnd.length ≤ 50 * i ∧
    (∀ q, q ∈ fnd ↔ ∃ p ∈ sp.take i, q ∈ ledK rs top oct p)) sp.length ?_ ?_ _ 0 _ _ (by simp) (Nat.zero_le _) ⟨[], _, _, _, _, _, _, rfl, fr0, by simp [setD], List.nodup_nil, by simp, by simp⟩
  · rintro i ζ M1 hi ⟨fnd, a, b, c, d, e, f, rfl, fr1, hm1, nd1, ln1, me1⟩
    refine ⟨prD sp[i], [(5, .int sp[i].1), (6, .int sp[i].2)], by rw [seq_lst (fr1.get hs id)]; simp [hi], rfl, ?_⟩
    have htk : ∀ z, z ∈ sp.take (i + 1) ↔ z ∈ sp.take i ∨ z = sp[i] := fun z => by rw [take_snoc hi, List.mem_append, List.mem_singleton]
    generalize sp[i] = p at htk ⊢
    simp only [setAll]
    try walk_at "mi"
    refine wS_forN (I := fun j ζ M' => ∃ fnd' c d e f, ζ = [some (.ref g), some (.tup (rs.map trD)), some (.int top), some (.ref ns), some (.ref M.length), some (.int p.1), some (.int p.2), c, d, e, f] ∧ Fr No M M' ∧ M'[M.length]? = some (.dct (setD fnd')) ∧ fnd'.Nodup ∧ fnd'.length ≤ 50 * i + j ∧
      (∀ q, q ∈ fnd' ↔ (∃ p ∈ sp.take i, q ∈ ledK rs top oct p) ∨ q ∈ ledK (rs.take j) top oct p)) rs.length ?_ ?_ _ 0 _ _ (by simp) (Nat.zero_le _) ⟨fnd, _, _, _, _, rfl, fr1, hm1, nd1, by omega, fun q => by rw [me1]; simp [ledK]⟩
    · rintro j ζ M2 hj ⟨fnd', c, d, e, f, rfl, fr2, hm2, nd2, ln2, me2⟩
      have ht : (rs.map trD)[j]? = some (trD rs[j]) := by rw [List.getElem?_map, List.getElem?_eq_getElem hj]; rfl
      refine ⟨_, [(7, .int rs[j].1), (8, .int rs[j].2.1), (9, .int rs[j].2.2)], by dsimp only; rw [ht], rfl, ?_⟩
      have hone := ledK_one (cs := rs) (t := rs[j]) (top := top) (oct := oct) (p := p)
      have hts : ledK (rs.take (j + 1)) top oct p = ledK (rs.take j) top oct p ++ ledK [rs[j]] top oct p := by rw [take_snoc hj, ledK_snoc]
      have og2 : M2[g]? = some (.slo 0 _) := fr2.get og id
      simp only [setAll]
      try walk_at "mi"
      simp only [g_eqI, wO_some, sl_at og2]
      try walk_at "mi"
      by_cases h1 : rs[j].1 = p.1
      · simp only [h1, decide_true, if_true]
        rw [if_pos h1] at hone
        refine wX_mono (led_to_w p.2 rs[j].2.2 top oct M2) fun z M6 ⟨hz, hM⟩ => ?_
        have hM2 := hM.symm
        subst hz
        subst hM2
        cases hk : ledP p.2 rs[j].2.2 top oct with
        | none =>
          rw [hk] at hone
          simp only [optD, g_isNotN, wO_some]
          try walk_at "mi"
          exact ⟨fnd', _, _, _, _, rfl, fr2, hm2, nd2, by omega, fun q => by rw [me2, hts, hone]; simp⟩
        | some k =>
          rw [hk] at hone
          simp only [optD, g_isNotI, wO_some]
          try walk_at "mi"
          have hpr : D.tup [D.int rs[j].2.1, D.int k] = prD (rs[j].2.1, k) := rfl
          rw [if_pos (show 2 ≤ sizeLine by decide), hpr, g_putS hm2 (by omega)]
          refine ⟨addS fnd' (rs[j].2.1, k), _, _, _, _, rfl, fr2.setHi (Nat.le_refl _), set_get hm2, nodup_addS nd2, ?_, fun q => ?_⟩
          · have := len_addS (xs := fnd') (p := (rs[j].2.1, k))
            omega
          · rw [mem_addS, me2, hts, hone, List.mem_append, or_assoc]
            simp
      · simp only [h1, decide_false, Bool.false_eq_true, if_false]
        rw [if_neg h1] at hone
        simp only [g_isNotN, wO_some]
        try walk_at "mi"
        exact ⟨fnd', _, _, _, _, rfl, fr2, hm2, nd2, by omega, fun q => by rw [me2, hts, hone]; simp⟩
    · rintro ζ M2 ⟨fnd', c, d, e, f, rfl, fr2, hm2, nd2, ln2, me2⟩
      refine ⟨by simp, ?_⟩
      rw [List.take_length] at me2
      refine ⟨fnd', _, _, _, _, _, _, rfl, fr2, hm2, nd2, by omega, fun q => ?_⟩
      rw [me2]
      constructor
      · rintro (⟨z, hz, h⟩ | h)
        · exact ⟨z, (htk z).mpr (.inl hz), h⟩
        · exact ⟨p, (htk p).mpr (.inr rfl), h⟩
      · rintro ⟨z, hz, h⟩
        rcases (htk z).mp hz with h2 | h2
        · exact .inl ⟨z, h2, h⟩
        · subst h2; exact .inr h
  · rintro ζ M1 ⟨fnd, a, b, c, d, e, f, rfl, fr1, hm1, nd1, ln1, me1⟩
    refine ⟨by rw [seq_lst (fr1.get hs id)]; simp, ?_⟩
    rw [List.take_length] at me1
    try walk_at "mi"
    rw [g_sortedP (items_set hm1)]
    exact ⟨_, fnd, rfl, get_push, nd1, me1, fr1.pushHi, fr1.1⟩
theorem law_heard_w {M : Hs} {t np : Nat} {many : Int} {cs rs : List Tr3} {ch : Str} {oct : Int} (tt : Tt M t many cs rs ch oct) (hch : ch = "all" ∨ ch = "pressed") (hc : cs.length ≤ 100) (hr : rs.length ≤ 50) (top : Int) (h0 : 0 ≤ top) (h1 : top ≤ 1000) (st : List Sp2) (hst : st.length ≤ 10000)
    (hp : M[np]? = some (.lst (st.map prD))) : wX (f__law_heard [.ref t, .int top, .ref np] M) fun d M' => ∃ n xs, d = .ref n ∧ M'[n]? = some (.lst ((srtB SrtO.lexB xs).map prD)) ∧ xs.Nodup ∧ (∀ q, q ∈ xs ↔ ∃ p, OnW cs top oct (decide (ch = "all")) st p ∧ q ∈ ledK rs top oct p) ∧ Fr No M M' ∧ M.length ≤ n := by
  have hsz := size16
  unfold f__law_heard
  try walk_at "mi"
  unfold ySeq
  simp only [wX_bind]
  try walk_at "mi"
  have fr00 : Fr No M (M ++ [MO.dct []]) := Fr.push M _
  have tt00 : Tt (M ++ [MO.dct []]) t many cs rs ch oct := fr00.get tt id
  refine wX_mono (law_on_w tt00 hch hc top h0 h1 st hst (fr00.get hp id)) ?_
  rintro dd M0 ⟨ns, on, rfl, hs0, ndo, mo, fr01, hns⟩
  have hf0 : M0[M.length]? = some (.dct []) := fr01.get (by simp) id
  have fr0 : Fr No M M0 := fr00.trans fr01
  have hsp := on_len h0 h1 hc hst ndo mo
  have hmo : ∀ q, q ∈ srtB SrtO.lexB on ↔ OnW cs top oct (decide (ch = "all")) st q := fun q => by rw [srt_mem]; exact mo q
  generalize srtB SrtO.lexB on = sp at hs0 hsp hmo
  dsimp only
  rw [seq_lst hs0]
  dsimp only [wX_ok]
  try walk_at "mi"
  refine wS_forN (I := fun i ζ M' => ∃ fnd a b c d e f, ζ = [some (.ref t), some (.int top), some (.ref np), some (.ref M.length), a, b, c, d, e, f] ∧ Fr No M M' ∧ M'[ns]? = some (.lst (sp.map prD)) ∧ M'[M.length]? = some (.dct (setD fnd)) ∧ fnd.Nodup ∧ fnd.length ≤ 50 * i ∧
    (∀ q, q ∈ fnd ↔ ∃ p ∈ sp.take i, q ∈ ledK rs top oct p)) sp.length ?_ ?_ _ 0 _ _ (by simp) (Nat.zero_le _) ⟨[], _, _, _, _, _, _, rfl, fr0, hs0, hf0, List.nodup_nil, by simp, by simp⟩
  · rintro i ζ M1 hi ⟨fnd, a, b, c, d, e, f, rfl, fr1, hs1, hm1, nd1, ln1, me1⟩
    refine ⟨prD sp[i], [(4, .int sp[i].1), (5, .int sp[i].2)], by rw [seq_lst hs1]; simp [hi], rfl, ?_⟩
    have htk : ∀ z, z ∈ sp.take (i + 1) ↔ z ∈ sp.take i ∨ z = sp[i] := fun z => by rw [take_snoc hi, List.mem_append, List.mem_singleton]
    generalize sp[i] = p at htk ⊢
    simp only [setAll]
    try walk_at "mi"
    have tt1 : Tt M1 t many cs rs ch oct := fr1.get tt id
    simp only [wX_bind]
    try walk_at "mi"
    rw [g_ixL (i := 2) tt1 rfl]
    try walk_at "mi"
    refine wS_forN (I := fun j ζ M' => ∃ fnd' c d e f, ζ = [some (.ref t), some (.int top), some (.ref np), some (.ref M.length), some (.int p.1), some (.int p.2), c, d, e, f] ∧ Fr No M M' ∧ M'[ns]? = some (.lst (sp.map prD)) ∧ M'[M.length]? = some (.dct (setD fnd')) ∧ fnd'.Nodup ∧ fnd'.length ≤ 50 * i + j ∧
      (∀ q, q ∈ fnd' ↔ (∃ p ∈ sp.take i, q ∈ ledK rs top oct p) ∨ q ∈ ledK (rs.take j) top oct p)) rs.length ?_ ?_ _ 0 _ _ (by simp) (Nat.zero_le _) ⟨fnd, _, _, _, _, rfl, fr1, hs1, hm1, nd1, by omega, fun q => by rw [me1]; simp [ledK]⟩
    · rintro j ζ M2 hj ⟨fnd', c, d, e, f, rfl, fr2, hs2, hm2, nd2, ln2, me2⟩
      have ht : (rs.map trD)[j]? = some (trD rs[j]) := by rw [List.getElem?_map, List.getElem?_eq_getElem hj]; rfl
      refine ⟨_, [(6, .int rs[j].1), (7, .int rs[j].2.1), (8, .int rs[j].2.2)], by rw [ht], rfl, ?_⟩
      have hone := ledK_one (cs := rs) (t := rs[j]) (top := top) (oct := oct) (p := p)
      have hts : ledK (rs.take (j + 1)) top oct p = ledK (rs.take j) top oct p ++ ledK [rs[j]] top oct p := by rw [take_snoc hj, ledK_snoc]
      have tt2 : Tt M2 t many cs rs ch oct := fr2.get tt id
      simp only [setAll]
      try walk_at "mi"
      simp only [g_eqI, wO_some]
      try walk_at "mi"
      by_cases h1 : rs[j].1 = p.1
      · simp only [h1, decide_true, if_true]
        rw [if_pos h1] at hone
        refine wX_mono (law_led_w p.2 rs[j].2.2 top oct tt2) fun z M6 ⟨hz, hM⟩ => ?_
        have hM2 := hM.symm
        subst hz
        subst hM2
        cases hk : ledP p.2 rs[j].2.2 top oct with
        | none =>
          rw [hk] at hone
          simp only [optD, g_isNotN, wO_some]
          try walk_at "mi"
          exact ⟨fnd', _, _, _, _, rfl, fr2, hs2, hm2, nd2, by omega, fun q => by rw [me2, hts, hone]; simp⟩
        | some k =>
          rw [hk] at hone
          simp only [optD, g_isNotI, wO_some]
          try walk_at "mi"
          have hpr : D.tup [D.int rs[j].2.1, D.int k] = prD (rs[j].2.1, k) := rfl
          rw [if_pos (show 2 ≤ sizeLine by decide), hpr, g_putS hm2 (by omega)]
          refine ⟨addS fnd' (rs[j].2.1, k), _, _, _, _, rfl, fr2.setHi (Nat.le_refl _), by rw [List.getElem?_set_ne (by have := fr00.1; simp at this; simp at hns; omega)]; exact hs2, set_get hm2, nodup_addS nd2, ?_, fun q => ?_⟩
          · have := len_addS (xs := fnd') (p := (rs[j].2.1, k))
            omega
          · rw [mem_addS, me2, hts, hone, List.mem_append, or_assoc]
            simp
      · simp only [h1, decide_false, Bool.false_eq_true, if_false]
        rw [if_neg h1] at hone
        simp only [g_isNotN, wO_some]
        try walk_at "mi"
        exact ⟨fnd', _, _, _, _, rfl, fr2, hs2, hm2, nd2, by omega, fun q => by rw [me2, hts, hone]; simp⟩
    · rintro ζ M2 ⟨fnd', c, d, e, f, rfl, fr2, hs2, hm2, nd2, ln2, me2⟩
      refine ⟨by simp, ?_⟩
      rw [List.take_length] at me2
      refine ⟨fnd', _, _, _, _, _, _, rfl, fr2, hs2, hm2, nd2, by omega, fun q => ?_⟩
      rw [me2]
      constructor
      · rintro (⟨z, hz, h⟩ | h)
        · exact ⟨z, (htk z).mpr (.inl hz), h⟩
        · exact ⟨p, (htk p).mpr (.inr rfl), h⟩
      · rintro ⟨z, hz, h⟩
        rcases (htk z).mp hz with h2 | h2
        · exact .inl ⟨z, h2, h⟩
        · subst h2; exact .inr h
  · rintro ζ M1 ⟨fnd, a, b, c, d, e, f, rfl, fr1, hs1, hm1, nd1, ln1, me1⟩
    refine ⟨by rw [seq_lst hs1]; simp, ?_⟩
    rw [List.take_length] at me1
    try walk_at "mi"
    have hl : gListA [.ref M.length] M1 = some (.ref M1.length, M1 ++ [.lst (fnd.map prD)]) := by
      have e : hDct M1 M.length = some (setD fnd) := by unfold hDct; rw [hm1]
      unfold gListA
      dsimp only
      rw [e]
      simp [setD]
    rw [hl]
    try walk_at "mi"
    have hg : (M1 ++ [MO.lst (fnd.map prD)])[M1.length]? = some (.lst (fnd.map prD)) := get_push
    rw [g_sortedP (items_lst hg)]
    refine ⟨_, fnd, rfl, get_push, nd1, fun q => ?_, fr1.pushHi.pushHi, by have := fr1.1; simp; omega⟩
    rw [me1]
    constructor
    · rintro ⟨p, hp, h⟩; exact ⟨p, (hmo p).mp hp, h⟩
    · rintro ⟨p, hp, h⟩; exact ⟨p, (hmo p).mpr hp, h⟩
end Wk_k01
end
section
set_option maxRecDepth 100000
set_option maxHeartbeats 4000000
set_option autoImplicit false
namespace Wk_k01
open PySem Mi
local macro_rules | `(tactic| walk_at "mi") => `(tactic| simp only [wX_fn, wS_seq, wS_set, wS_ret, wS_expr, wS_pass, wS_if, wS_put, wX_var, wX_c, wX_2, wX_3, wX_anil, wX_acons, wX_tup, wX_lst, wX_dict, wX_b, wX_meth, wX_call, wX_if, wX_t1, wX_and2, wX_or2, wX_not1, wX_true, wX_neg, wX_oN, wX_oS, wX_not, wX_and, wX_or, wX_is, wX_cut, wX_fld, wS_for, wX_ok, wX_no, wO_some, wO_none, wS_nx, wS_rt, List.map_cons, List.map_nil, List.cons_append, List.nil_append, List.append_nil, List.replicate_succ, List.replicate_zero, List.set_cons_zero, List.set_cons_succ, List.getElem?_cons_zero, List.getElem?_cons_succ, List.getElem?_nil, List.length_cons, List.length_nil, Nat.reduceSub, Nat.reduceAdd, Nat.zero_add, Nat.add_zero, if_true, if_false, ite_true, ite_false, reduceIte, Bool.false_eq_true, Bool.not_true, Bool.not_false, ← Nat.add_assoc, reduceCtorEq, List.length_append])
/-- the generator's cells: 0 and 1 of the store -/
def Hd (M : Hs) : Prop := ∃ (s i : Int) (xs : List Int), M[1]? = some (.lst [.int s, .ref 0, .int i, .int 14]) ∧ M[0]? = some (.lst (xs.map D.int)) ∧ xs.length ≤ 63
def H2 : Nat → Prop := fun n => n < 2
theorem Hd.fr {M M' : Hs} (h : Hd M) (f : Fr No M M') : Hd M' := let ⟨s, i, xs, h1, h2, h3⟩ := h; ⟨s, i, xs, f.get h1 id, f.get h2 id, h3⟩
theorem g_putL {M : Hs} {n : Nat} {xs : List D} {k : Int} {v : D} (h : M[n]? = some (.lst xs)) (h0 : 0 ≤ k) (h1 : k < xs.length) : gPutA (.ref n) (.int k) v M = some (M.set n (.lst (xs.set k.toNat v))) := by
  have e : gPutA (.ref n) (.int k) v M = gPutL (.ref n) (.int k) v M := by simp [gPutA, hDct, h]
  rw [e]
  unfold gPutL
  dsimp only
  rw [(isL h).2]
  unfold L2.ixN
  dsimp only
  rw [if_pos h0, if_pos h1]
theorem g_catL {M : Hs} {m n : Nat} {xs ys : List D} (h : M[m]? = some (.lst xs)) (h2 : M[n]? = some (.lst ys)) (hl : (xs ++ ys).length ≤ sizeLine) : gAdd (.ref m) (.ref n) M = some (.ref M.length, M ++ [.lst (xs ++ ys)]) := by
  unfold gAdd newL
  dsimp only
  rw [h, h2]
  dsimp only
  rw [if_pos hl]
theorem g_lenL {M : Hs} {n : Nat} {xs : List D} (h : M[n]? = some (.lst xs)) : gLen [.ref n] M = some (.int xs.length, M) := by
  unfold gLen
  dsimp only
  rw [seq_lst h]
theorem law_mix_w (ns : List Int) (hl : ns.length ≤ 63) (seed : Int) : wX (f__law_mix [.klst (ns.map D.int), .int seed] []) fun d M => d = .ref 1 ∧ Hd M ∧ M.length = 2 := by
  unfold f__law_mix
  try walk_at "mi"
  unfold ySeq
  simp only [wX_bind]
  try walk_at "mi"
  refine wS_forN (I := fun i ζ M => (∃ (s : Int) (a : Option D), ζ = [some (.klst (ns.map D.int)), some (.int seed), some (.int s), a]) ∧ M = []) ns.length ?_ ?_ _ 0 _ _ (by simp) (Nat.zero_le _) ⟨⟨_, _, rfl⟩, rfl⟩
  · rintro i ζ M hi ⟨⟨s, a, rfl⟩, rfl⟩
    refine ⟨.int ns[i], [(3, .int ns[i])], by simp [hi], rfl, ?_⟩
    simp only [setAll]
    try walk_at "mi"
    simp only [g_mul (show inW 48271 = true by decide), g_add, g_int, g_mod (show (0 : Int) < 2147483629 by decide), g_mod (show (0 : Int) < 2147483647 by decide), wO_some]
    exact ⟨⟨_, _, rfl⟩, trivial⟩
  · rintro ζ M ⟨⟨s, a, rfl⟩, rfl⟩
    refine ⟨by simp, ?_⟩
    try walk_at "mi"
    have e : gListA [.klst (ns.map D.int)] [] = some (.ref 0, [.lst (ns.map D.int)]) := rfl
    rw [e]
    try walk_at "mi"
    rw [if_pos (show 4 ≤ sizeLine by decide)]
    exact ⟨trivial, ⟨s, 0, ns, rfl, rfl, hl⟩, trivial⟩
theorem law_next_w {M : Hs} (hd : Hd M) (b : Int) (h0 : 0 < b) (h1 : b < 1073741824) : wX (f__law_next [.ref 1, .int b] M) fun d M' => ∃ r : Int, d = .int r ∧ 0 ≤ r ∧ r < b ∧ Hd M' ∧ Fr H2 M M' := by
  obtain ⟨s, i, xs, hm1, hm0, hl⟩ := hd
  have hlen := lt_of_get hm1
  have hsz := size1
  unfold f__law_next
  try walk_at "mi"
  have fr1 : Fr No M (M ++ [MO.lst [.int 0]]) := Fr.push M _
  rw [g_ixL (i := 1) hm1 rfl]
  try walk_at "mi"
  rw [if_pos (show 1 ≤ sizeLine by decide)]
  have h01 : (M ++ [MO.lst [.int 0]])[0]? = some (.lst (xs.map D.int)) := fr1.get hm0 id
  have h11 : (M ++ [MO.lst [.int 0]])[1]? = some (.lst [.int s, .ref 0, .int i, .int 14]) := fr1.get hm1 id
  have hz1 : (M ++ [MO.lst [.int 0]])[M.length]? = some (.lst [.int 0]) := get_push
  rw [g_catL h01 hz1 (by simp; omega)]
  try walk_at "mi"
  have fr2 : Fr No M (M ++ [MO.lst [.int 0]] ++ [MO.lst (xs.map D.int ++ [.int 0])]) := fr1.pushHi
  have hn2 : (M ++ [MO.lst [.int 0]] ++ [MO.lst (xs.map D.int ++ [.int 0])])[(M ++ [MO.lst [.int 0]]).length]? = some (.lst (xs.map D.int ++ [.int 0])) := get_push
  rw [List.length_append, List.length_singleton] at hn2
  generalize (M ++ [MO.lst [.int 0]] ++ [MO.lst (xs.map D.int ++ [.int 0])]) = M2 at fr2 hn2 ⊢
  have h02 : M2[0]? = some (.lst (xs.map D.int)) := fr2.get hm0 id
  have h12 : M2[1]? = some (.lst [.int s, .ref 0, .int i, .int 14]) := fr2.get hm1 id
  rw [g_ixL (i := 2) h12 rfl]
  try walk_at "mi"
  rw [g_int]
  try walk_at "mi"
  rw [g_ixL (i := 1) h12 rfl]
  try walk_at "mi"
  rw [g_lenL h02]
  try walk_at "mi"
  rw [g_max]
  try walk_at "mi"
  rw [List.length_map]
  have hmx : (0 : Int) < if (xs.length : Int) > 1 then (xs.length : Int) else 1 := by split <;> omega
  rw [g_mod hmx]
  try walk_at "mi"
  have hk : 0 ≤ i % (if (xs.length : Int) > 1 then (xs.length : Int) else 1) ∧ i % (if (xs.length : Int) > 1 then (xs.length : Int) else 1) < (if (xs.length : Int) > 1 then (xs.length : Int) else 1) := ⟨Int.emod_nonneg _ (by omega), Int.emod_lt_of_pos _ hmx⟩
  generalize hkk : i % (if (xs.length : Int) > 1 then (xs.length : Int) else 1) = k at hk ⊢
  have hcell : ∃ c : Int, (xs.map D.int ++ [D.int 0])[k.toNat]? = some (.int c) ∧ (xs = [] → c = 0) := by
    by_cases hx : k.toNat < xs.length
    · refine ⟨xs[k.toNat], ?_, fun h => by rw [h] at hx; simp at hx⟩
      rw [List.getElem?_append_left (by simpa using hx), List.getElem?_map, List.getElem?_eq_getElem hx]
      rfl
    · have hxe : xs.length = 0 := by split at hk <;> omega
      have hxn : xs = [] := List.eq_nil_of_length_eq_zero hxe
      subst hxn
      refine ⟨0, ?_, fun _ => rfl⟩
      have : k.toNat = 0 := by simp at hk; omega
      rw [this]; rfl
  obtain ⟨c, hc, hc0⟩ := hcell
  rw [g_ixL (i := k.toNat) hn2 hc (by omega)]
  try walk_at "mi"
  have hpw : gPow (.int 10) (.int 18) M2 = some (.int 1000000000000000000, M2) := rfl
  rw [hpw]
  try walk_at "mi"
  rw [g_ge]
  try walk_at "mi"
  by_cases hbig : 1000000000000000000 ≤ c
  · simp only [hbig, decide_true, if_true]
    have hxn : xs ≠ [] := fun h => by have := hc0 h; omega
    have hxl : 0 < xs.length := List.length_pos_iff.mpr hxn
    try walk_at "mi"
    rw [g_div h0 h1]
    try walk_at "mi"
    rw [g_ixL (i := 1) h12 rfl]
    try walk_at "mi"
    rw [g_ixL (i := 2) h12 rfl]
    try walk_at "mi"
    rw [g_int]
    try walk_at "mi"
    rw [g_ixL (i := 1) h12 rfl]
    try walk_at "mi"
    rw [g_lenL h02]
    try walk_at "mi"
    rw [List.length_map, g_mod (show (0 : Int) < (xs.length : Int) by omega)]
    try walk_at "mi"
    have hk2 : 0 ≤ i % (xs.length : Int) ∧ i % (xs.length : Int) < xs.length := ⟨Int.emod_nonneg _ (by omega), Int.emod_lt_of_pos _ (by omega)⟩
    rw [g_putL h02 hk2.1 (by simpa using hk2.2)]
    try walk_at "mi"
    rw [g_int]
    try walk_at "mi"
    rw [g_mod h0]
    try walk_at "mi"
    refine ⟨_, rfl, Int.emod_nonneg _ (by omega), Int.emod_lt_of_pos _ h0, ⟨s, i, xs.set (i % (xs.length : Int)).toNat (c / b), ?_, ?_, by simpa using hl⟩, (fr2.imp fun _ _ h => h.elim).trans (Fr.set (by unfold H2; omega))⟩
    · rw [List.getElem?_set_ne (by omega)]; exact h12
    · rw [List.map_set]; exact set_get h02
  · simp only [hbig, decide_false, Bool.false_eq_true, if_false]
    try walk_at "mi"
    rw [g_ixL (i := 0) h12 rfl]
    try walk_at "mi"
    simp only [g_mul (show inW 48271 = true by decide), g_mul (show inW 69621 = true by decide), g_add, g_int, g_mod (show (0 : Int) < 2147483647 by decide), wO_some]
    try walk_at "mi"
    rw [g_putL h12 (by decide) (by simp)]
    dsimp only [List.set, Int.toNat]
    have h13 := set_get (o := MO.lst [D.int ((s * 48271 + c * 69621 + 11) % 2147483647), .ref 0, .int i, .int 14]) h12
    have h03 : (M2.set 1 (MO.lst [D.int ((s * 48271 + c * 69621 + 11) % 2147483647), .ref 0, .int i, .int 14]))[0]? = some (.lst (xs.map D.int)) := by rw [List.getElem?_set_ne (by omega)]; exact h02
    have fr3 : Fr H2 M (M2.set 1 (MO.lst [D.int ((s * 48271 + c * 69621 + 11) % 2147483647), .ref 0, .int i, .int 14])) := (fr2.imp fun _ _ h => h.elim).trans (Fr.set (by unfold H2; omega))
    generalize (M2.set 1 (MO.lst [D.int ((s * 48271 + c * 69621 + 11) % 2147483647), .ref 0, .int i, .int 14])) = M3 at h13 h03 fr3 ⊢
    generalize ((s * 48271 + c * 69621 + 11) % 2147483647) = s2 at h13 ⊢
    rw [g_ixL (i := 2) h13 rfl]
    try walk_at "mi"
    rw [g_add]
    try walk_at "mi"
    rw [g_putL h13 (by decide) (by simp)]
    dsimp only [List.set, Int.toNat]
    have h14 := set_get (o := MO.lst [D.int s2, .ref 0, .int (i + 1), .int 14]) h13
    have h04 : (M3.set 1 (MO.lst [D.int s2, .ref 0, .int (i + 1), .int 14]))[0]? = some (.lst (xs.map D.int)) := by rw [List.getElem?_set_ne (by omega)]; exact h03
    have fr4 : Fr H2 M (M3.set 1 (MO.lst [D.int s2, .ref 0, .int (i + 1), .int 14])) := fr3.trans (Fr.set (by unfold H2; omega))
    generalize (M3.set 1 (MO.lst [D.int s2, .ref 0, .int (i + 1), .int 14])) = M4 at h14 h04 fr4 ⊢
    rw [g_ixL (i := 0) h14 rfl]
    try walk_at "mi"
    rw [g_div (by decide) (by decide)]
    try walk_at "mi"
    rw [g_int]
    try walk_at "mi"
    rw [g_mod h0]
    try walk_at "mi"
    exact ⟨_, rfl, Int.emod_nonneg _ (by omega), Int.emod_lt_of_pos _ h0, ⟨s2, i + 1, xs, h14, h04, hl⟩, fr4⟩
end Wk_k01
end
section
set_option maxRecDepth 100000
set_option maxHeartbeats 4000000
set_option autoImplicit false
namespace Wk_k01
open PySem Mi
local macro_rules | `(tactic| walk_at "mi") => `(tactic| simp only [wX_fn, wS_seq, wS_set, wS_ret, wS_expr, wS_pass, wS_if, wS_put, wX_var, wX_c, wX_2, wX_3, wX_anil, wX_acons, wX_tup, wX_lst, wX_dict, wX_b, wX_meth, wX_call, wX_if, wX_t1, wX_and2, wX_or2, wX_not1, wX_true, wX_neg, wX_oN, wX_oS, wX_not, wX_and, wX_or, wX_is, wX_cut, wX_fld, wS_for, wX_ok, wX_no, wO_some, wO_none, wS_nx, wS_rt, List.map_cons, List.map_nil, List.cons_append, List.nil_append, List.append_nil, List.replicate_succ, List.replicate_zero, List.set_cons_zero, List.set_cons_succ, List.getElem?_cons_zero, List.getElem?_cons_succ, List.getElem?_nil, List.length_cons, List.length_nil, Nat.reduceSub, Nat.reduceAdd, Nat.zero_add, Nat.add_zero, if_true, if_false, ite_true, ite_false, reduceIte, Bool.false_eq_true, Bool.not_true, Bool.not_false, ← Nat.add_assoc, reduceCtorEq, List.length_append])
def pdT (t : Tr3) : PyData := .tuple [.int t.1, .int t.2.1, .int t.2.2]
theorem pd_trDs (M : Hs) (n : Nat) : ∀ xs : List Tr3, mapO (toPD M (n + 2)) (xs.map trD) = some (xs.map pdT)
  | [] => rfl
  | x :: xs => by
    have e : toPD M (n + 2) (trD x) = some (pdT x) := by simp [trD, toPD, mapO, pdT]
    rw [List.map_cons, List.map_cons]
    unfold mapO
    rw [e, pd_trDs M n xs]
theorem shaped_ts (xs : List Tr3) : SeqAt.shaped (.list (xs.map pdT)) = true := by
  have h1 : PyData.canLayAll0 (xs.map pdT) = true ∧ PyData.depthAll (xs.map pdT) ≤ 3 := by
    induction xs with
    | nil => simp [PyData.canLayAll0, PyData.depthAll]
    | cons x xs ih => simp [PyData.canLayAll0, PyData.canLay0, PyData.depthAll, PyData.depth, pdT, ih.1]; have := ih.2; omega
  unfold SeqAt.shaped
  simp [PyData.canLay0, PyData.depth, h1.1]
  have := h1.2
  omega
theorem g_neT {m n : Nat} {xs : List Tr3} {M : Hs} (h1 : M[m]? = some (.lst (xs.map trD))) (h2 : M[n]? = some (.lst [])) : gNe (.ref m) (.ref n) M = some (.bl (!decide (xs = [])), M) := by
  have e : deep = 11 + 1 := rfl
  have e1 : toPD M deep (.ref m) = some (.list (xs.map pdT)) := by rw [e, pd_ref M 11 m _ h1, pd_trDs M 9 xs]
  have e2 : toPD M deep (.ref n) = some (.list (([] : List Tr3).map pdT)) := by rw [e, pd_ref M 11 n _ h2]; rfl
  have e3 : PyData.eqv (.list (xs.map pdT)) (.list (([] : List Tr3).map pdT)) = decide (xs = []) := by cases xs <;> simp [PyData.eqv, PyData.eqvAll]
  unfold gNe gEqB
  rw [e1, e2]
  dsimp only
  rw [shaped_ts, shaped_ts, e3]
  rfl
theorem erase_map {α β : Type} (f : α → β) : ∀ (xs : List α) (i : Nat), (xs.map f).eraseIdx i = (xs.eraseIdx i).map f
  | [], _ => rfl
  | _ :: _, 0 => rfl
  | x :: xs, i + 1 => by
    simp only [List.map_cons, List.eraseIdx_cons_succ, erase_map f xs i]
theorem erase_perm {α : Type} : ∀ (xs : List α) (i : Nat) (h : i < xs.length), (xs[i] :: xs.eraseIdx i).Perm xs
  | [], _, h => by simp at h
  | _ :: _, 0, _ => .refl _
  | x :: xs, i + 1, h => by
    have ih := erase_perm xs i (by simpa using h)
    simp only [List.getElem_cons_succ, List.eraseIdx_cons_succ]
    exact (List.Perm.swap x _ _).trans (ih.cons x)
theorem law_some_w {M : Hs} (hd : Hd M) {t : Nat} {xs : List Tr3} (ht : 2 ≤ t) (hx : M[t]? = some (.lst (xs.map trD))) (nd : xs.Nodup) (hl : xs.length ≤ 1000) (m : Int) (hm : 0 ≤ m) (hm2 : m ≤ 1000) :
    wX (f__law_some [.ref 1, .ref t, .int m] M) fun d M' => ∃ ys : List Tr3, d = .tup (ys.map trD) ∧ ys.Nodup ∧ (∀ y ∈ ys, y ∈ xs) ∧ ys.length = min m.toNat xs.length ∧ Hd M' ∧ Fr H2 M M' := by
  have hsz := size1
  have hM2 : 2 ≤ M.length := Nat.le_of_lt (Nat.lt_of_le_of_lt ht (lt_of_get hx))
  unfold f__law_some
  try walk_at "mi"
  rw [g_list hx]
  try walk_at "mi"
  rw [if_pos (Nat.zero_le _)]
  unfold yRg1
  simp only [wX_bind]
  try walk_at "mi"
  have hok : okRg m = true := by unfold okRg; simp; omega
  rw [if_pos hok]
  dsimp only [wX_ok, yRg]
  have fr0 : Fr No M (M ++ [MO.lst (xs.map trD)] ++ [MO.lst []]) := (Fr.push M _).pushHi
  refine wS_forN (I := fun i ζ M' => ∃ (L F : List Tr3) (a : Option D), ζ = [some (.ref 1), some (.ref t), some (.int m), some (.ref M.length), some (.ref (M.length + 1)), a] ∧ Fr H2 M M' ∧ Hd M' ∧ M'[M.length]? = some (.lst (L.map trD)) ∧ M'[M.length + 1]? = some (.lst (F.map trD)) ∧
    (F ++ L).Nodup ∧ (∀ y ∈ F ++ L, y ∈ xs) ∧ F.length + L.length = xs.length ∧ F.length = min i xs.length) m.toNat ?_ ?_ _ 0 _ _ (by omega) (Nat.zero_le _) ⟨xs, [], _, rfl, fr0.imp fun _ _ h => h.elim, hd.fr fr0, by simp, by simp, by simpa using nd, by simp, by simp, by simp⟩
  · rintro i ζ M1 hi ⟨L, F, a, rfl, fr1, hd1, hL, hF, nd1, in1, ln1, lf1⟩
    refine ⟨.int (0 + (i : Int)), [(5, .int (0 + (i : Int)))], by rw [if_pos hi], rfl, ?_⟩
    simp only [setAll]
    try walk_at "mi"
    rw [if_pos (Nat.zero_le _)]
    have frn : Fr No M1 (M1 ++ [MO.lst []]) := Fr.push _ _
    have hL2 : (M1 ++ [MO.lst []])[M.length]? = some (.lst (L.map trD)) := frn.get hL id
    have hF2 : (M1 ++ [MO.lst []])[M.length + 1]? = some (.lst (F.map trD)) := frn.get hF id
    rw [g_neT hL2 get_push]
    try walk_at "mi"
    have fr2 : Fr H2 M (M1 ++ [MO.lst []]) := fr1.trans (Fr.push _ _)
    have hd2 := hd1.fr frn
    generalize (M1 ++ [MO.lst []]) = M2 at fr2 hd2 hL2 hF2 ⊢
    by_cases hLn : L = []
    · simp only [hLn, decide_true, Bool.not_true, Bool.false_eq_true, if_false]
      try walk_at "mi"
      subst hLn
      exact ⟨[], F, _, rfl, fr2, hd2, hL2, hF2, nd1, in1, ln1, by simp at ln1; omega⟩
    · simp only [hLn, decide_false, Bool.not_false, if_true]
      have hLp : 0 < L.length := List.length_pos_iff.mpr hLn
      try walk_at "mi"
      rw [if_pos (isL hF2).1, if_pos (isL hL2).1, g_lenL hL2]
      try walk_at "mi"
      refine wX_mono (law_next_w hd2 _ (by simp; omega) (by simp; omega)) ?_
      rintro d M3 ⟨r, rfl, hr0, hr1, hd3, fr3⟩
      rw [List.length_map] at hr1
      have hL3 : M3[M.length]? = some (.lst (L.map trD)) := fr3.get hL2 (by unfold H2; omega)
      have hF3 : M3[M.length + 1]? = some (.lst (F.map trD)) := fr3.get hF2 (by unfold H2; omega)
      have hrl : r.toNat < L.length := by omega
      have hpop : gPopAt (.ref M.length) [.int r] M3 = some (trD L[r.toNat], M3.set M.length (.lst ((L.eraseIdx r.toNat).map trD))) := by
        unfold gPopAt
        dsimp only
        rw [(isL hL3).2]
        dsimp only
        rw [if_pos hr0, List.getElem?_map, List.getElem?_eq_getElem hrl]
        dsimp only [Option.map]
        congr 3
        rw [erase_map]
      rw [hpop]
      try walk_at "mi"
      have hF4 : (M3.set M.length (MO.lst ((L.eraseIdx r.toNat).map trD)))[M.length + 1]? = some (.lst (F.map trD)) := by rw [List.getElem?_set_ne (by omega)]; exact hF3
      have hln : (F.map trD).length < sizeLine := by rw [List.length_map]; omega
      rw [g_app hF4 hln]
      try walk_at "mi"
      have hperm : (L[r.toNat] :: L.eraseIdx r.toNat).Perm L := erase_perm L _ hrl
      have hperm2 : ((F ++ [L[r.toNat]]) ++ L.eraseIdx r.toNat).Perm (F ++ L) := by
        rw [List.append_assoc]
        exact List.Perm.append_left F hperm
      have hel := hperm.length_eq
      simp only [List.length_cons] at hel
      refine ⟨L.eraseIdx r.toNat, F ++ [L[r.toNat]], _, rfl, ?_, ?_, ?_, ?_, hperm2.nodup_iff.mpr nd1, fun y hy => in1 y (hperm2.mem_iff.mp hy), ?_, ?_⟩
      · refine ((fr2.trans fr3).setHi (Nat.le_refl _)).setHi (Nat.le_succ _)
      · obtain ⟨s, j, zs, z1, z2, z3⟩ := hd3
        exact ⟨s, j, zs, by rw [List.getElem?_set_ne (by omega), List.getElem?_set_ne (by omega)]; exact z1, by rw [List.getElem?_set_ne (by omega), List.getElem?_set_ne (by omega)]; exact z2, z3⟩
      · rw [List.getElem?_set_ne (by omega)]; exact set_get hL3
      · rw [List.map_append]; exact set_get hF4
      · simp only [List.length_append, List.length_singleton]; omega
      · simp only [List.length_append, List.length_singleton]; omega
  · rintro ζ M1 ⟨L, F, a, rfl, fr1, hd1, hL, hF, nd1, in1, ln1, lf1⟩
    refine ⟨by rw [if_neg (by omega)], ?_⟩
    try walk_at "mi"
    have e : gTuple [.ref (M.length + 1)] M1 = some (.tup (F.map trD), M1) := by
      unfold gTuple
      dsimp only
      rw [seq_lst hF]
    rw [e]
    exact ⟨F, rfl, (List.nodup_append.mp nd1).1, fun y hy => in1 y (List.mem_append_left _ hy), lf1, hd1, fr1⟩
end Wk_k01
end
section
set_option maxRecDepth 100000
set_option maxHeartbeats 4000000
set_option autoImplicit false
namespace Wk_k01
open PySem Mi
local macro_rules | `(tactic| walk_at "mi") => `(tactic| simp only [wX_fn, wS_seq, wS_set, wS_ret, wS_expr, wS_pass, wS_if, wS_put, wX_var, wX_c, wX_2, wX_3, wX_anil, wX_acons, wX_tup, wX_lst, wX_dict, wX_b, wX_meth, wX_call, wX_if, wX_t1, wX_and2, wX_or2, wX_not1, wX_true, wX_neg, wX_oN, wX_oS, wX_not, wX_and, wX_or, wX_is, wX_cut, wX_fld, wS_for, wX_ok, wX_no, wO_some, wO_none, wS_nx, wS_rt, List.map_cons, List.map_nil, List.cons_append, List.nil_append, List.append_nil, List.replicate_succ, List.replicate_zero, List.set_cons_zero, List.set_cons_succ, List.getElem?_cons_zero, List.getElem?_cons_succ, List.getElem?_nil, List.length_cons, List.length_nil, Nat.reduceSub, Nat.reduceAdd, Nat.zero_add, Nat.add_zero, if_true, if_false, ite_true, ite_false, reduceIte, Bool.false_eq_true, Bool.not_true, Bool.not_false, ← Nat.add_assoc, reduceCtorEq, List.length_append])
theorem okRg_small {k : Int} (h0 : 0 ≤ k) (h1 : k ≤ 1000) : okRg k = true := by
  have e1 : (-(2 ^ 62) : Int) = -4611686018427387904 := by decide
  have e2 : ((2 : Int) ^ 62) = 4611686018427387904 := by decide
  unfold okRg
  rw [e1, e2, Bool.and_eq_true, decide_eq_true_eq, decide_eq_true_eq]
  omega
def rowN (ok : Int → Bool) (a b : Int) (i : Nat) : List Tr3 := (List.range i).filterMap fun (k : Nat) => if ok (-2 + (k : Int)) = true then some (a, b, -2 + (k : Int)) else none
theorem rowN_succ (ok : Int → Bool) (a b : Int) (i : Nat) : rowN ok a b (i + 1) = rowN ok a b i ++ if ok (-2 + (i : Int)) = true then [(a, b, -2 + (i : Int))] else [] := by
  unfold rowN
  rw [List.range_succ, List.filterMap_append]
  congr 1
  by_cases h : ok (-2 + (i : Int)) = true <;> simp [h]
theorem rowN_len (ok : Int → Bool) (a b : Int) (i : Nat) : (rowN ok a b i).length ≤ i := by
  have := List.length_filterMap_le (fun k : Nat => if ok (-2 + (k : Int)) = true then some (a, b, -2 + (k : Int)) else none) (List.range i)
  rw [List.length_range] at this
  exact this
theorem y_m23 (ζ : Sl) (M : Hs) : yRg2 (xNeg (xC (.int 2))) (xC (.int 3)) ζ M = .ok (yRg (-2) 5) M := rfl
/-- a row of parts: for each shift that is allowed one -/
theorem row_w {ζ : Sl} {M : Hs} {v : Nat} {t : MT} {f : MX} {a b : Int} (ok : Int → Bool)
    (ht : ∀ (s : Int) (M' : Hs), wX (t ((wipeD ζ [v]).set v (some (.int s))) M') fun c M2 => c = ok s ∧ M2 = M') (hf : ∀ (s : Int) (M' : Hs), wX (f ((wipeD ζ [v]).set v (some (.int s))) M') fun d M2 => d = trD (a, b, s) ∧ M2 = M') :
    wX (xLc (yRg2 (xNeg (xC (.int 2))) (xC (.int 3))) [v] (.n v) t f ζ M) fun d M' => d = .ref M.length ∧ Fr No M M' ∧ M'[M.length]? = some (.lst ((rowN ok a b 5).map trD)) := by
  have hsz := size1
  rw [wX_lc, y_m23, wX_ok]
  dsimp only [yRg]
  refine wX_lcN (Q := fun M' => D.ref M.length = .ref M.length ∧ Fr No M M' ∧ M'[M.length]? = some (.lst ((rowN ok a b 5).map trD))) (I := fun i M' => Fr No M M' ∧ M'[M.length]? = some (.lst ((rowN ok a b i).map trD))) 5 ?_ ?_ 6 0 _ (by omega) (by omega) ⟨Fr.push _ _, by simp [rowN]⟩
  · rintro i M1 hi ⟨fr1, h1⟩
    refine ⟨.int (-2 + (i : Int)), [(v, .int (-2 + (i : Int)))], by rw [if_pos hi], rfl, ?_⟩
    have hl : ((rowN ok a b i).map trD).length < sizeLine := by
      have := rowN_len ok a b i
      rw [List.length_map]
      omega
    refine wX_lcB (c := ok (-2 + (i : Int))) (v := trD (a, b, -2 + (i : Int))) (acc := (rowN ok a b i).map trD) ?_
    refine wX_mono (ht (-2 + (i : Int)) M1) ?_
    rintro c M2 ⟨hc, hM⟩
    refine ⟨hc, ?_⟩
    rw [hM, rowN_succ]
    cases hk : ok (-2 + (i : Int)) with
    | false =>
      simp only [Bool.false_eq_true, if_false, List.append_nil]
      exact ⟨fr1, h1⟩
    | true =>
      simp only [if_true]
      refine wX_mono (hf (-2 + (i : Int)) M1) ?_
      rintro d M3 ⟨hd, hM3⟩
      rw [hM3]
      refine ⟨hd, (isL h1).2, hl, fr1.setHi (Nat.le_refl _), ?_⟩
      rw [List.map_append]
      exact set_get h1
  · rintro M1 ⟨fr1, h1⟩
    exact ⟨by simp, rfl, fr1, h1⟩
def cRow (a b : Int) : List Tr3 := rowN (fun s => decide (s ≠ 0) || decide (a ≠ b)) a b 5
def sRow (a b : Int) : List Tr3 := rowN (fun _ => true) a b 5
def grid (row : Int → Int → List Tr3) (m n : Nat) : List Tr3 := (List.range m).flatMap fun (a : Nat) => (List.range n).flatMap fun (b : Nat) => row a b
theorem g_neI {i j : Int} {M : Hs} : gNe (.int i) (.int j) M = some (.bl (!decide (i = j)), M) := rfl
theorem fm_succ {α : Type} (f : Nat → List α) (i : Nat) : (List.range (i + 1)).flatMap f = (List.range i).flatMap f ++ f i := by rw [List.range_succ, List.flatMap_append]; simp
theorem law_couplers_w (M : Hs) (k : Int) (hk0 : 0 ≤ k) (hk2 : k ≤ 2) (m : Nat) (hm : m = k.toNat) : wX (f__law_couplers [.int k] M) fun d M' => ∃ n, d = .ref n ∧ M.length ≤ n ∧ M'[n]? = some (.lst ((grid cRow m m).map trD)) ∧ Fr No M M' := by
  have hsz := size1
  unfold f__law_couplers
  try walk_at "mi"
  rw [if_pos (Nat.zero_le _)]
  unfold yRg1
  simp only [wX_bind]
  try walk_at "mi"
  have hok : okRg k = true := okRg_small (by omega) (by omega)
  rw [if_pos hok]
  dsimp only [wX_ok, yRg]
  rw [← hm]
  refine wS_forN (I := fun i ζ M' => ∃ (n : Nat) (xs : List Tr3) (a b c : Option D), ζ = [some (.int k), some (.ref n), a, b, c] ∧ M.length ≤ n ∧ Fr No M M' ∧ M'[n]? = some (.lst (xs.map trD)) ∧ xs.length ≤ 10 * i ∧ xs = (List.range i).flatMap fun (a : Nat) => (List.range m).flatMap fun (b : Nat) => cRow a b)
    m ?_ ?_ _ 0 _ _ (by omega) (Nat.zero_le _) ⟨M.length, [], _, _, _, rfl, Nat.le_refl _, Fr.push _ _, by simp, by simp, by simp⟩
  · rintro i ζ M1 hi ⟨n, xs, a, b, c, rfl, hn, fr1, h1, hl1, e1⟩
    refine ⟨.int (0 + (i : Int)), [(2, .int (0 + (i : Int)))], by rw [if_pos hi], rfl, ?_⟩
    simp only [setAll]
    try walk_at "mi"
    simp only [wX_bind]
    try walk_at "mi"
    rw [if_pos hok]
    dsimp only [wX_ok, yRg]
    rw [← hm]
    refine wS_forN (I := fun j ζ M' => ∃ (n : Nat) (xs : List Tr3) (b c : Option D), ζ = [some (.int k), some (.ref n), some (.int (0 + (i : Int))), b, c] ∧ M.length ≤ n ∧ Fr No M M' ∧ M'[n]? = some (.lst (xs.map trD)) ∧ xs.length ≤ 10 * i + 5 * j ∧
      xs = ((List.range i).flatMap fun (a : Nat) => (List.range m).flatMap fun (b : Nat) => cRow a b) ++ (List.range j).flatMap fun (b : Nat) => cRow i b) m ?_ ?_ _ 0 _ _ (by omega) (Nat.zero_le _) ⟨n, xs, _, _, rfl, hn, fr1, h1, by omega, by rw [e1]; simp⟩
    · rintro j ζ M2 hj ⟨n2, ys, b, c, rfl, hn2, fr2, h2, hl2, e2⟩
      refine ⟨.int (0 + (j : Int)), [(3, .int (0 + (j : Int)))], by rw [if_pos hj], rfl, ?_⟩
      simp only [setAll]
      try walk_at "mi"
      rw [Int.zero_add, Int.zero_add]
      refine wX_mono (row_w (a := i) (b := j) (fun s => decide (s ≠ 0) || decide ((i : Int) ≠ (j : Int))) (fun s M' => ?_) (fun s M' => ?_)) ?_
      · simp only [wipeD]
        try walk_at "mi"
        simp only [g_neI, wO_some]
        by_cases hs : s = 0 <;> by_cases hij : (i : Int) = j <;> simp [hs, hij]
      · simp only [wipeD]
        try walk_at "mi"
        rw [if_pos (show 3 ≤ sizeLine by decide)]
        exact ⟨rfl, trivial⟩
      · rintro d M3 ⟨rfl, fr3, h3⟩
        have hrl : (cRow i j).length ≤ 5 := rowN_len _ _ _ _
        have hrow : rowN (fun s => decide (s ≠ 0) || decide ((i : Int) ≠ (j : Int))) i j 5 = cRow i j := by unfold cRow; rfl
        rw [hrow] at h3
        generalize hcr : cRow i j = row at h3 hrl
        have h23 : M3[n2]? = some (.lst (ys.map trD)) := fr3.get h2 id
        rw [g_catL h23 h3 (by rw [List.length_append, List.length_map, List.length_map]; omega)]
        try walk_at "mi"
        refine ⟨M3.length, ys ++ row, _, _, rfl, (fr2.trans fr3).1, (fr2.trans fr3).pushHi, by rw [List.map_append]; exact get_push, ?_, ?_⟩
        · rw [List.length_append]; omega
        · rw [e2, fm_succ, List.append_assoc, hcr]
    · rintro ζ M2 ⟨n2, ys, b, c, rfl, hn2, fr2, h2, hl2, e2⟩
      refine ⟨by rw [if_neg (by omega)], n2, ys, _, _, _, rfl, hn2, fr2, h2, by omega, ?_⟩
      rw [e2, fm_succ]
  · rintro ζ M1 ⟨n, xs, a, b, c, rfl, hn, fr1, h1, hl1, e1⟩
    refine ⟨by rw [if_neg (by omega)], ?_⟩
    try walk_at "mi"
    exact ⟨n, rfl, hn, by rw [h1, e1]; rfl, fr1⟩
end Wk_k01
end
section
set_option maxRecDepth 100000
set_option maxHeartbeats 4000000
set_option autoImplicit false
namespace Wk_k01
open PySem Mi
local macro_rules | `(tactic| walk_at "mi") => `(tactic| simp only [wX_fn, wS_seq, wS_set, wS_ret, wS_expr, wS_pass, wS_if, wS_put, wX_var, wX_c, wX_2, wX_3, wX_anil, wX_acons, wX_tup, wX_lst, wX_dict, wX_b, wX_meth, wX_call, wX_if, wX_t1, wX_and2, wX_or2, wX_not1, wX_true, wX_neg, wX_oN, wX_oS, wX_not, wX_and, wX_or, wX_is, wX_cut, wX_fld, wS_for, wX_ok, wX_no, wO_some, wO_none, wS_nx, wS_rt, List.map_cons, List.map_nil, List.cons_append, List.nil_append, List.append_nil, List.replicate_succ, List.replicate_zero, List.set_cons_zero, List.set_cons_succ, List.getElem?_cons_zero, List.getElem?_cons_succ, List.getElem?_nil, List.length_cons, List.length_nil, Nat.reduceSub, Nat.reduceAdd, Nat.zero_add, Nat.add_zero, if_true, if_false, ite_true, ite_false, reduceIte, Bool.false_eq_true, Bool.not_true, Bool.not_false, ← Nat.add_assoc, reduceCtorEq, List.length_append])
theorem law_stops_w (M : Hs) (k : Int) (hk0 : 0 ≤ k) (hk2 : k ≤ 2) (m : Nat) (hm : m = k.toNat) (k' : Int) (hk0' : 0 ≤ k') (hk2' : k' ≤ 3) (m' : Nat) (hm' : m' = k'.toNat) : wX (f__law_stops [.int k, .int k'] M) fun d M' => ∃ n, d = .ref n ∧ M.length ≤ n ∧ M'[n]? = some (.lst ((grid sRow m m').map trD)) ∧ Fr No M M' := by
  have hsz := size1
  unfold f__law_stops
  try walk_at "mi"
  rw [if_pos (Nat.zero_le _)]
  unfold yRg1
  simp only [wX_bind]
  try walk_at "mi"
  have hok : okRg k = true := okRg_small (by omega) (by omega)
  have hok' : okRg k' = true := okRg_small (by omega) (by omega)
  rw [if_pos hok]
  dsimp only [wX_ok, yRg]
  rw [← hm]
  refine wS_forN (I := fun i ζ M' => ∃ (n : Nat) (xs : List Tr3) (a b c : Option D), ζ = [some (.int k), some (.int k'), some (.ref n), a, b, c] ∧ M.length ≤ n ∧ Fr No M M' ∧ M'[n]? = some (.lst (xs.map trD)) ∧ xs.length ≤ 15 * i ∧ xs = (List.range i).flatMap fun (a : Nat) => (List.range m').flatMap fun (b : Nat) => sRow a b)
    m ?_ ?_ _ 0 _ _ (by omega) (Nat.zero_le _) ⟨M.length, [], _, _, _, rfl, Nat.le_refl _, Fr.push _ _, by simp, by simp, by simp⟩
  · rintro i ζ M1 hi ⟨n, xs, a, b, c, rfl, hn, fr1, h1, hl1, e1⟩
    refine ⟨.int (0 + (i : Int)), [(3, .int (0 + (i : Int)))], by rw [if_pos hi], rfl, ?_⟩
    simp only [setAll]
    try walk_at "mi"
    simp only [wX_bind]
    try walk_at "mi"
    rw [if_pos hok']
    dsimp only [wX_ok, yRg]
    rw [← hm']
    refine wS_forN (I := fun j ζ M' => ∃ (n : Nat) (xs : List Tr3) (b c : Option D), ζ = [some (.int k), some (.int k'), some (.ref n), some (.int (0 + (i : Int))), b, c] ∧ M.length ≤ n ∧ Fr No M M' ∧ M'[n]? = some (.lst (xs.map trD)) ∧ xs.length ≤ 15 * i + 5 * j ∧
      xs = ((List.range i).flatMap fun (a : Nat) => (List.range m').flatMap fun (b : Nat) => sRow a b) ++ (List.range j).flatMap fun (b : Nat) => sRow i b) m' ?_ ?_ _ 0 _ _ (by omega) (Nat.zero_le _) ⟨n, xs, _, _, rfl, hn, fr1, h1, by omega, by rw [e1]; simp⟩
    · rintro j ζ M2 hj ⟨n2, ys, b, c, rfl, hn2, fr2, h2, hl2, e2⟩
      refine ⟨.int (0 + (j : Int)), [(4, .int (0 + (j : Int)))], by rw [if_pos hj], rfl, ?_⟩
      simp only [setAll]
      try walk_at "mi"
      rw [Int.zero_add, Int.zero_add]
      refine wX_mono (row_w (a := i) (b := j) (fun _ => true) (fun s M' => ?_) (fun s M' => ?_)) ?_
      · exact ⟨rfl, rfl⟩
      · simp only [wipeD]
        try walk_at "mi"
        rw [if_pos (show 3 ≤ sizeLine by decide)]
        exact ⟨rfl, trivial⟩
      · rintro d M3 ⟨rfl, fr3, h3⟩
        have hrl : (sRow i j).length ≤ 5 := rowN_len _ _ _ _
        have hrow : rowN (fun _ => true) i j 5 = sRow i j := by unfold sRow; rfl
        rw [hrow] at h3
        generalize hcr : sRow i j = row at h3 hrl
        have h23 : M3[n2]? = some (.lst (ys.map trD)) := fr3.get h2 id
        rw [g_catL h23 h3 (by rw [List.length_append, List.length_map, List.length_map]; omega)]
        try walk_at "mi"
        refine ⟨M3.length, ys ++ row, _, _, rfl, (fr2.trans fr3).1, (fr2.trans fr3).pushHi, by rw [List.map_append]; exact get_push, ?_, ?_⟩
        · rw [List.length_append]; omega
        · rw [e2, fm_succ, List.append_assoc, hcr]
    · rintro ζ M2 ⟨n2, ys, b, c, rfl, hn2, fr2, h2, hl2, e2⟩
      refine ⟨by rw [if_neg (by omega)], n2, ys, _, _, _, rfl, hn2, fr2, h2, by omega, ?_⟩
      rw [e2, fm_succ]
  · rintro ζ M1 ⟨n, xs, a, b, c, rfl, hn, fr1, h1, hl1, e1⟩
    refine ⟨by rw [if_neg (by omega)], ?_⟩
    try walk_at "mi"
    exact ⟨n, rfl, hn, by rw [h1, e1]; rfl, fr1⟩
end Wk_k01
end
section
set_option maxRecDepth 100000
set_option maxHeartbeats 4000000
set_option autoImplicit false
namespace Wk_k01
open PySem Mi
local macro_rules | `(tactic| walk_at "mi") => `(tactic| simp only [wX_fn, wS_seq, wS_set, wS_ret, wS_expr, wS_pass, wS_if, wS_put, wX_var, wX_c, wX_2, wX_3, wX_anil, wX_acons, wX_tup, wX_lst, wX_dict, wX_b, wX_meth, wX_call, wX_if, wX_t1, wX_and2, wX_or2, wX_not1, wX_true, wX_neg, wX_oN, wX_oS, wX_not, wX_and, wX_or, wX_is, wX_cut, wX_fld, wS_for, wX_ok, wX_no, wO_some, wO_none, wS_nx, wS_rt, List.map_cons, List.map_nil, List.cons_append, List.nil_append, List.append_nil, List.replicate_succ, List.replicate_zero, List.set_cons_zero, List.set_cons_succ, List.getElem?_cons_zero, List.getElem?_cons_succ, List.getElem?_nil, List.length_cons, List.length_nil, Nat.reduceSub, Nat.reduceAdd, Nat.zero_add, Nat.add_zero, if_true, if_false, ite_true, ite_false, reduceIte, Bool.false_eq_true, Bool.not_true, Bool.not_false, ← Nat.add_assoc, reduceCtorEq, List.length_append])
def vC (many : Int) (t : Tr3) : Bool := decide (0 ≤ t.1) && decide (t.1 < many) && decide (0 ≤ t.2.1) && decide (t.2.1 < many) && decide (-2 ≤ t.2.2) && decide (t.2.2 ≤ 2) && (decide (t.1 ≠ t.2.1) || decide (t.2.2 ≠ 0))
def vS (many : Int) (t : Tr3) : Bool := decide (0 ≤ t.1) && decide (t.1 < many) && decide (0 ≤ t.2.1) && decide (t.2.1 ≤ 2) && decide (-2 ≤ t.2.2) && decide (t.2.2 ≤ 2)
theorem grid_c (m : Nat) (h : m = 1 ∨ m = 2) : (grid cRow m m).Nodup ∧ (grid cRow m m).length ≤ 100 ∧ ∀ t ∈ grid cRow m m, vC (m : Int) t = true := by
  rcases h with rfl | rfl <;> decide +kernel
theorem grid_s (m R : Nat) (h : m = 1 ∨ m = 2) (hR : R = 1 ∨ R = 2 ∨ R = 3) : (grid sRow m R).Nodup ∧ (grid sRow m R).length ≤ 100 ∧ 5 ≤ (grid sRow m R).length ∧ ∀ t ∈ grid sRow m R, vS (m : Int) t = true := by
  rcases h with rfl | rfl <;> rcases hR with rfl | rfl | rfl <;> decide +kernel
/-- the parts of an organ as they should be -/
structure Parts (many : Int) (cs rs : List Tr3) (ch : Str) (oct : Int) : Prop where
  m : many = 1 ∨ many = 2
  cn : cs.Nodup
  cl : cs.length ≤ 5
  cv : ∀ t ∈ cs, vC many t = true
  rn : rs.Nodup
  r1 : 1 ≤ rs.length
  r4 : rs.length ≤ 4
  rv : ∀ t ∈ rs, vS many t = true
  c : ch = "all" ∨ ch = "pressed"
  o : oct = 0 ∨ oct = 2 ∨ oct = 3
theorem law_organ_w {M : Hs} (hd : Hd M) (hM : 2 ≤ M.length) (L S R : Int) (hL0 : 0 ≤ L) (hL : L ≤ 5) (hS0 : 1 ≤ S) (hS : S ≤ 4) (hR : R = 1 ∨ R = 2 ∨ R = 3) : wX (f__law_organ [.ref 1, .int L, .int S, .int R] M) fun d M' => ∃ t many cs rs ch oct, d = .ref t ∧ 2 ≤ t ∧ Tt M' t many cs rs ch oct ∧ Parts many cs rs ch oct ∧ Hd M' ∧ Fr H2 M M' := by
  have hsz := size1
  unfold f__law_organ
  try walk_at "mi"
  refine wX_mono (law_next_w hd 3 (by decide) (by decide)) ?_
  rintro d M1 ⟨r, rfl, hr0, hr1, hd1, fr1⟩
  try walk_at "mi"
  rw [g_gt]
  try walk_at "mi"
  rw [g_intb]
  try walk_at "mi"
  rw [g_add]
  try walk_at "mi"
  obtain ⟨many, hmany, hm12⟩ : ∃ many : Int, many = 1 + (if decide (0 < r) = true then 1 else 0) ∧ (many = 1 ∨ many = 2) := ⟨_, rfl, by split <;> simp⟩
  rw [← hmany]
  rw [if_pos (show 3 ≤ sizeLine by decide)]
  have fr2 : Fr No M1 (M1 ++ [MO.lst [.str "all", .str "all", .str "pressed"]]) := Fr.push _ _
  refine wX_mono (law_next_w (hd1.fr fr2) 3 (by decide) (by decide)) ?_
  rintro d M3 ⟨r2, rfl, hr20, hr21, hd3, fr3⟩
  have hM1 : 2 ≤ M1.length := Nat.le_trans hM fr1.1
  have hch3 : M3[M1.length]? = some (.lst [.str "all", .str "all", .str "pressed"]) := fr3.get get_push (by unfold H2; omega)
  obtain ⟨ch, hch, hchv⟩ : ∃ ch : Str, [D.str "all", D.str "all", D.str "pressed"][r2.toNat]? = some (.str ch) ∧ (ch = "all" ∨ ch = "pressed") := by
    have : r2 = 0 ∨ r2 = 1 ∨ r2 = 2 := by omega
    rcases this with rfl | rfl | rfl
    · exact ⟨_, rfl, .inl rfl⟩
    · exact ⟨_, rfl, .inl rfl⟩
    · exact ⟨_, rfl, .inr rfl⟩
  rw [g_ixL (i := r2.toNat) hch3 hch (by omega)]
  try walk_at "mi"
  rw [if_pos (show 4 ≤ sizeLine by decide)]
  have fr4 : Fr No M3 (M3 ++ [MO.lst [.int 0, .int 0, .int 2, .int 3]]) := Fr.push _ _
  have hM3 : 2 ≤ M3.length := by have := fr2.1; have := fr3.1; omega
  refine wX_mono (law_next_w (hd3.fr fr4) 4 (by decide) (by decide)) ?_
  rintro d M5 ⟨r4, rfl, hr40, hr41, hd5, fr5⟩
  have hoc5 : M5[M3.length]? = some (.lst [.int 0, .int 0, .int 2, .int 3]) := fr5.get get_push (by unfold H2; omega)
  obtain ⟨oct, hoc, hocv⟩ : ∃ oct : Int, [D.int 0, D.int 0, D.int 2, D.int 3][r4.toNat]? = some (.int oct) ∧ (oct = 0 ∨ oct = 2 ∨ oct = 3) := by
    have : r4 = 0 ∨ r4 = 1 ∨ r4 = 2 ∨ r4 = 3 := by omega
    rcases this with rfl | rfl | rfl | rfl
    · exact ⟨_, rfl, by simp⟩
    · exact ⟨_, rfl, by simp⟩
    · exact ⟨_, rfl, by simp⟩
    · exact ⟨_, rfl, by simp⟩
  rw [g_ixL (i := r4.toNat) hoc5 hoc (by omega)]
  try walk_at "mi"
  have hM5 : 2 ≤ M5.length := by have := fr4.1; have := fr5.1; omega
  refine wX_mono (law_couplers_w M5 many (by omega) (by omega) many.toNat rfl) ?_
  rintro d M6 ⟨n6, rfl, hn6, hc6, fr6⟩
  try walk_at "mi"
  rw [g_add]
  try walk_at "mi"
  refine wX_mono (law_next_w (hd5.fr fr6) (L + 1) (by omega) (by omega)) ?_
  rintro d M7 ⟨r6, rfl, hr60, hr61, hd7, fr7⟩
  try walk_at "mi"
  have hmn : many.toNat = 1 ∨ many.toNat = 2 := by omega
  have hmc : ((many.toNat : Nat) : Int) = many := by omega
  obtain ⟨gc1, gc2, gc3⟩ := grid_c many.toNat hmn
  have hc7 : M7[n6]? = some (.lst ((grid cRow many.toNat many.toNat).map trD)) := fr7.get hc6 (by unfold H2; omega)
  refine wX_mono (law_some_w hd7 (by omega) hc7 gc1 (by omega) r6 hr60 (by omega)) ?_
  rintro d M8 ⟨cs, rfl, cn, cin, cln, hd8, fr8⟩
  try walk_at "mi"
  have hM8 : 2 ≤ M8.length := by have := fr6.1; have := fr7.1; have := fr8.1; omega
  refine wX_mono (law_stops_w M8 many (by omega) (by omega) many.toNat rfl R (by omega) (by omega) R.toNat rfl) ?_
  rintro d M9 ⟨n9, rfl, hn9, hc9, fr9⟩
  try walk_at "mi"
  refine wX_mono (law_next_w (hd8.fr fr9) S (by omega) (by omega)) ?_
  rintro d M10 ⟨r8, rfl, hr80, hr81, hd10, fr10⟩
  try walk_at "mi"
  rw [g_add]
  try walk_at "mi"
  obtain ⟨gs1, gs2, gs3, gs4⟩ := grid_s many.toNat R.toNat hmn (by omega)
  have hc10 : M10[n9]? = some (.lst ((grid sRow many.toNat R.toNat).map trD)) := fr10.get hc9 (by unfold H2; omega)
  refine wX_mono (law_some_w hd10 (by omega) hc10 gs1 (by omega) (1 + r8) (by omega) (by omega)) ?_
  rintro d M11 ⟨rs, rfl, rn, rin, rln, hd11, fr11⟩
  try walk_at "mi"
  rw [if_pos (show 5 ≤ sizeLine by decide)]
  have i2 : ∀ {A B : Hs}, Fr No A B → Fr H2 A B := fun f => f.imp fun _ _ h => h.elim
  have frA : Fr H2 M M11 := ((((((((((fr1.trans (i2 fr2)).trans fr3).trans (i2 fr4)).trans fr5).trans (i2 fr6)).trans fr7).trans fr8).trans (i2 fr9)).trans fr10).trans fr11)
  refine ⟨M11.length, many, cs, rs, ch, oct, rfl, by have := frA.1; omega, get_push, ⟨hm12, cn, by omega, fun t ht => by have := gc3 t (cin t ht); rw [hmc] at this; exact this, rn, by omega, by omega, fun t ht => by have := gs4 t (rin t ht); rw [hmc] at this; exact this, hchv, hocv⟩, hd11.fr (Fr.push _ _), frA.trans (Fr.push _ _)⟩
end Wk_k01
end
section
set_option maxRecDepth 100000
set_option maxHeartbeats 4000000
set_option autoImplicit false
namespace Wk_k01
open PySem Mi
local macro_rules | `(tactic| walk_at "mi") => `(tactic| simp only [wX_fn, wS_seq, wS_set, wS_ret, wS_expr, wS_pass, wS_if, wS_put, wX_var, wX_c, wX_2, wX_3, wX_anil, wX_acons, wX_tup, wX_lst, wX_dict, wX_b, wX_meth, wX_call, wX_if, wX_t1, wX_and2, wX_or2, wX_not1, wX_true, wX_neg, wX_oN, wX_oS, wX_not, wX_and, wX_or, wX_is, wX_cut, wX_fld, wS_for, wX_ok, wX_no, wO_some, wO_none, wS_nx, wS_rt, List.map_cons, List.map_nil, List.cons_append, List.nil_append, List.append_nil, List.replicate_succ, List.replicate_zero, List.set_cons_zero, List.set_cons_succ, List.getElem?_cons_zero, List.getElem?_cons_succ, List.getElem?_nil, List.length_cons, List.length_nil, Nat.reduceSub, Nat.reduceAdd, Nat.zero_add, Nat.add_zero, if_true, if_false, ite_true, ite_false, reduceIte, Bool.false_eq_true, Bool.not_true, Bool.not_false, ← Nat.add_assoc, reduceCtorEq, List.length_append])
theorem is_integer_w (v a b : Int) (M : Hs) : wX (f_is_integer [.int v, .int a, .int b] M) fun d M' => d = .bl (decide (a ≤ v) && decide (v ≤ b)) ∧ M' = M := by
  unfold f_is_integer
  try walk_at "mi"
  have e1 : kindOf (.int v) M = some "int" := rfl
  rw [e1]
  have e2 : isKind "int" "int" = true := by decide
  have e3 : isKind "int" "bool" = false := by decide
  dsimp only
  rw [e2, e3]
  try walk_at "mi"
  simp only [g_le, wO_some]
  by_cases h1 : a ≤ v <;> by_cases h2 : v ≤ b <;> simp [h1, h2]
theorem g_cut2 {a b c : D} {M : Hs} : gCut (.tup [a, b, c]) none (some 2) M = some (.tup [a, b], M) := rfl
theorem g_len3 {a b c : D} {M : Hs} : gLen [.tup [a, b, c]] M = some (.int 3, M) := rfl
theorem vC_at {many : Int} {t : Tr3} (h : vC many t = true) : (0 ≤ t.1 ∧ t.1 ≤ many - 1) ∧ (0 ≤ t.2.1 ∧ t.2.1 ≤ many - 1) ∧ (-2 ≤ t.2.2 ∧ t.2.2 ≤ 2) ∧ (t.1 ≠ t.2.1 ∨ t.2.2 ≠ 0) := by
  unfold vC at h
  simp only [Bool.and_eq_true, Bool.or_eq_true, decide_eq_true_eq] at h
  omega
theorem vS_at {many : Int} {t : Tr3} (h : vS many t = true) : (0 ≤ t.1 ∧ t.1 ≤ many - 1) ∧ (0 ≤ t.2.1 ∧ t.2.1 ≤ 2) ∧ (-2 ≤ t.2.2 ∧ t.2.2 ≤ 2) := by
  unfold vS at h
  simp only [Bool.and_eq_true, decide_eq_true_eq] at h
  omega
theorem int_in {v a b : Int} (h : a ≤ v ∧ v ≤ b) (M : Hs) : wX (f_is_integer [.int v, .int a, .int b] M) fun d M' => d = .bl true ∧ M' = M :=
  wX_mono (is_integer_w v a b M) fun d M' ⟨h1, h2⟩ => ⟨by rw [h1]; simp [h], h2⟩
theorem tup_kind (xs : List D) (M : Hs) : kindOf (.tup xs) M = some "tuple" := rfl
theorem tup_is : isKind "tuple" "tuple" = true := by decide
theorem is_coupler_w {many : Int} {t : Tr3} (h : vC many t = true) (M : Hs) : wX (f_is_coupler [trD t, .int many] M) fun d M' => d = .bl true ∧ Fr No M M' := by
  obtain ⟨h1, h2, h3, h4⟩ := vC_at h
  have hsz := size1
  unfold f_is_coupler
  have e0 : ∀ M', gIxA (trD t) (.int 0) M' = some (.int t.1, M') := fun M' => g_ixT (i := 0) rfl
  have e1 : ∀ M', gIxA (trD t) (.int 1) M' = some (.int t.2.1, M') := fun M' => g_ixT (i := 1) rfl
  have e2 : ∀ M', gIxA (trD t) (.int 2) M' = some (.int t.2.2, M') := fun M' => g_ixT (i := 2) rfl
  have ek : kindOf (trD t) M = some "tuple" := rfl
  have el : gLen [trD t] M = some (.int 3, M) := rfl
  have ec : gCut (trD t) none (some 2) M = some (.tup [.int t.1, .int t.2.1], M) := rfl
  try walk_at "mi"
  rw [ek]
  dsimp only
  rw [tup_is]
  try walk_at "mi"
  rw [el]
  try walk_at "mi"
  rw [g_neI]
  simp only [decide_true, Bool.not_true, wO_some, Bool.false_eq_true, if_false]
  try walk_at "mi"
  rw [wX_lc]
  unfold ySeq
  simp only [wX_bind]
  try walk_at "mi"
  rw [ec]
  try walk_at "mi"
  refine wX_lcN (I := fun i M' => Fr No M M' ∧ M'[M.length]? = some (.lst (List.replicate i (.bl true)))) 2 ?_ ?_ 3 0 _ (by omega) (by omega) ⟨Fr.push _ _, by simp⟩
  · rintro i M1 hi ⟨fr1, hm1⟩
    have hv : ∃ v : Int, [D.int t.1, D.int t.2.1][i]? = some (.int v) ∧ 0 ≤ v ∧ v ≤ many - 1 := by
      have : i = 0 ∨ i = 1 := by omega
      rcases this with rfl | rfl
      · exact ⟨_, rfl, h1⟩
      · exact ⟨_, rfl, h2⟩
    obtain ⟨v, hv, hv2⟩ := hv
    refine ⟨.int v, [(2, .int v)], by rw [hv], rfl, ?_⟩
    refine wX_lcB (c := true) (v := .bl true) (acc := List.replicate i (.bl true)) ?_
    simp only [wipeD, setAll]
    try walk_at "mi"
    rw [g_sub]
    try walk_at "mi"
    refine ⟨trivial, wX_mono (int_in hv2 M1) ?_⟩
    rintro d M2 ⟨rfl, hM⟩
    rw [hM]
    refine ⟨rfl, (isL hm1).2, by simp; omega, fr1.setHi (Nat.le_refl _), ?_⟩
    rw [← List.replicate_succ']
    exact set_get hm1
  · rintro M1 ⟨fr1, hm1⟩
    refine ⟨rfl, ?_⟩
    have ea : gAll [.ref M.length] M1 = some (.bl true, M1) := by
      unfold gAll gBools
      dsimp only
      rw [seq_lst hm1]
      rfl
    rw [ea]
    try walk_at "mi"
    rw [e2]
    try walk_at "mi"
    refine wX_mono (int_in h3 M1) ?_
    rintro d M2 ⟨rfl, rfl⟩
    try walk_at "mi"
    rw [e0, wO_some, e1, wO_some, g_neI, wO_some]
    by_cases hx : t.1 = t.2.1
    · have hy : t.2.2 ≠ 0 := by rcases h4 with h4 | h4 <;> omega
      simp only [hx, decide_true, Bool.not_true]
      rw [e2, wO_some, g_neI, wO_some]
      simp only [hy, decide_false, Bool.not_false]
      exact ⟨trivial, fr1⟩
    · simp only [hx, decide_false, Bool.not_false]
      exact ⟨trivial, fr1⟩
end Wk_k01
end
section
set_option maxRecDepth 100000
set_option maxHeartbeats 4000000
set_option autoImplicit false
namespace Wk_k01
open PySem Mi
local macro_rules | `(tactic| walk_at "mi") => `(tactic| simp only [wX_fn, wS_seq, wS_set, wS_ret, wS_expr, wS_pass, wS_if, wS_put, wX_var, wX_c, wX_2, wX_3, wX_anil, wX_acons, wX_tup, wX_lst, wX_dict, wX_b, wX_meth, wX_call, wX_if, wX_t1, wX_and2, wX_or2, wX_not1, wX_true, wX_neg, wX_oN, wX_oS, wX_not, wX_and, wX_or, wX_is, wX_cut, wX_fld, wS_for, wX_ok, wX_no, wO_some, wO_none, wS_nx, wS_rt, List.map_cons, List.map_nil, List.cons_append, List.nil_append, List.append_nil, List.replicate_succ, List.replicate_zero, List.set_cons_zero, List.set_cons_succ, List.getElem?_cons_zero, List.getElem?_cons_succ, List.getElem?_nil, List.length_cons, List.length_nil, Nat.reduceSub, Nat.reduceAdd, Nat.zero_add, Nat.add_zero, if_true, if_false, ite_true, ite_false, reduceIte, Bool.false_eq_true, Bool.not_true, Bool.not_false, ← Nat.add_assoc, reduceCtorEq, List.length_append])
theorem pd_trD (M : Hs) (n : Nat) (x : Tr3) : toPD M (n + 2) (trD x) = some (pdT x) := by simp [trD, toPD, mapO, pdT]
theorem shaped_t (x : Tr3) : SeqAt.shaped (pdT x) = true := by
  unfold SeqAt.shaped
  simp [pdT, PyData.canLay0, PyData.canLayAll0, PyData.depth, PyData.depthAll]
theorem shaped_tt (xs : List Tr3) : SeqAt.shaped (.tuple (xs.map pdT)) = true := by
  have h1 : PyData.canLayAll0 (xs.map pdT) = true ∧ PyData.depthAll (xs.map pdT) ≤ 3 := by
    induction xs with
    | nil => simp [PyData.canLayAll0, PyData.depthAll]
    | cons x xs ih => simp [PyData.canLayAll0, PyData.canLay0, PyData.depthAll, PyData.depth, pdT, ih.1]; have := ih.2; omega
  unfold SeqAt.shaped
  simp [PyData.canLay0, PyData.depth, h1.1]
  have := h1.2
  omega
theorem g_inT (x : Tr3) (ys : List Tr3) (M : Hs) : gInA id (trD x) (.tup (ys.map trD)) M = some (.bl (decide (x ∈ ys)), M) := by
  have e : deep = 10 + 2 := rfl
  have e1 : toPD M deep (trD x) = some (pdT x) := by rw [e]; exact pd_trD M 10 x
  have e2 : toPD M deep (.tup (ys.map trD)) = some (.tuple (ys.map pdT)) := by
    have q : toPD M deep (.tup (ys.map trD)) = (match mapO (toPD M (9 + 2)) (ys.map trD) with
      | some ps => some (.tuple ps)
      | none => none) := rfl
    rw [q, pd_trDs M 9 ys]
  have e3 : ((ys.map pdT).any fun z => PyData.eqv z (pdT x)) = decide (x ∈ ys) := by
    induction ys with
    | nil => simp
    | cons y ys ih =>
      have ih := ih (by
        have q : toPD M deep (.tup (ys.map trD)) = (match mapO (toPD M (9 + 2)) (ys.map trD) with
          | some ps => some (.tuple ps)
          | none => none) := rfl
        rw [q, pd_trDs M 9 ys])
      rw [List.map_cons, List.any_cons, ih]
      obtain ⟨x1, x2, x3⟩ := x
      obtain ⟨y1, y2, y3⟩ := y
      have q : PyData.eqv (pdT (y1, y2, y3)) (pdT (x1, x2, x3)) = decide ((x1, x2, x3) = (y1, y2, y3)) := by
        by_cases hq : (x1, x2, x3) = (y1, y2, y3)
        · cases hq
          simp [PyData.eqv, PyData.eqvAll, pdT]
        · rw [decide_eq_false hq]
          cases hb : PyData.eqv (pdT (y1, y2, y3)) (pdT (x1, x2, x3)) with
          | false => rfl
          | true =>
            simp [PyData.eqv, PyData.eqvAll, pdT] at hb
            exact absurd (by simp [hb]) hq
      rw [q]
      simp
  show gInB id (trD x) (.tup (ys.map trD)) M = _
  unfold gInB
  rw [e1, e2]
  dsimp only
  rw [shaped_t, shaped_tt, e3]
  rfl
theorem g_cutT {xs : List D} {i : Nat} {M : Hs} (h : i ≤ xs.length) : gCut (.tup xs) none (some (i : Int)) M = some (.tup (xs.take i), M) := by
  have e : cutD xs none (some (i : Int)) = xs.take i := by
    unfold cutD
    rw [HT.sIx_none, HT.sIx_nat, Nat.min_eq_left h]
    simp
  show some (D.tup (cutD xs none (some (i : Int))), M) = _
  rw [e]
theorem not_take {xs : List Tr3} (nd : xs.Nodup) {i : Nat} (h : i < xs.length) : xs[i] ∉ xs.take i := by
  intro hm
  have nd2 : (xs.take i ++ xs.drop i).Nodup := by rw [List.take_append_drop]; exact nd
  exact (List.nodup_append.mp nd2).2.2 _ hm _ (by rw [List.drop_eq_getElem_cons h]; exact List.mem_cons_self) rfl
theorem look_c_w {many : Int} {cs : List Tr3} (nd : cs.Nodup) (hl : cs.length ≤ 5) (hv : ∀ t ∈ cs, vC many t = true) (M : Hs) : wX (f_look_at_couplers [.tup (cs.map trD), .int many] M) fun d M' => d = .non ∧ Fr No M M' := by
  unfold f_look_at_couplers
  have el : gLen [.tup (cs.map trD)] M = some (.int (cs.map trD).length, M) := rfl
  try walk_at "mi"
  rw [tup_kind]
  dsimp only
  rw [tup_is]
  try walk_at "mi"
  rw [el]
  try walk_at "mi"
  rw [g_gt]
  try walk_at "mi"
  have hg : decide ((5 : Int) < ((cs.map trD).length : Int)) = false := decide_eq_false (by rw [List.length_map]; omega)
  simp only [hg, Bool.false_eq_true, if_false]
  try walk_at "mi"
  unfold yEnum
  simp only [wX_bind]
  try walk_at "mi"
  refine wS_forN (I := fun i ζ M' => (∃ a b, ζ = [some (.tup (cs.map trD)), some (.int many), a, b]) ∧ Fr No M M') cs.length ?_ ?_ _ 0 _ _ (by simp) (Nat.zero_le _) ⟨⟨_, _, rfl⟩, Fr.refl _ _⟩
  · rintro i ζ M1 hi ⟨⟨a, b, rfl⟩, fr1⟩
    have ht : (cs.map trD)[i]? = some (trD cs[i]) := by rw [List.getElem?_map, List.getElem?_eq_getElem hi]; rfl
    refine ⟨_, [(2, .int (i : Int)), (3, trD cs[i])], by rw [ht], rfl, ?_⟩
    simp only [setAll]
    try walk_at "mi"
    refine wX_mono (is_coupler_w (hv _ (List.getElem_mem hi)) M1) ?_
    rintro d M2 ⟨rfl, fr2⟩
    try walk_at "mi"
    rw [g_cutT (by simp; omega)]
    try walk_at "mi"
    rw [← List.map_take, g_inT]
    try walk_at "mi"
    simp only [not_take nd hi, decide_false, Bool.false_eq_true, if_false]
    try walk_at "mi"
    exact ⟨⟨_, _, rfl⟩, fr1.trans fr2⟩
  · rintro ζ M1 ⟨⟨a, b, rfl⟩, fr1⟩
    exact ⟨by simp, trivial, fr1⟩
theorem is_stop_w {many : Int} {t : Tr3} (h : vS many t = true) (M : Hs) : wX (f_is_stop [trD t, .int many] M) fun d M' => d = .bl true ∧ M' = M := by
  obtain ⟨h1, h2, h3⟩ := vS_at h
  unfold f_is_stop
  have e0 : gIxA (trD t) (.int 0) M = some (.int t.1, M) := g_ixT (i := 0) rfl
  have e1 : gIxA (trD t) (.int 1) M = some (.int t.2.1, M) := g_ixT (i := 1) rfl
  have e2 : gIxA (trD t) (.int 2) M = some (.int t.2.2, M) := g_ixT (i := 2) rfl
  have ek : kindOf (trD t) M = some "tuple" := rfl
  have el : gLen [trD t] M = some (.int 3, M) := rfl
  try walk_at "mi"
  rw [ek]
  dsimp only
  rw [tup_is]
  try walk_at "mi"
  rw [el]
  try walk_at "mi"
  rw [g_neI]
  simp only [decide_true, Bool.not_true, wO_some, Bool.false_eq_true, if_false]
  rw [e0]
  try walk_at "mi"
  rw [g_sub]
  try walk_at "mi"
  refine wX_mono (int_in h1 M) ?_
  rintro d M1 ⟨rfl, rfl⟩
  try walk_at "mi"
  rw [e1]
  try walk_at "mi"
  refine wX_mono (int_in h2 M1) ?_
  rintro d M2 ⟨rfl, rfl⟩
  try walk_at "mi"
  rw [e2]
  try walk_at "mi"
  exact int_in h3 M2
theorem look_s_w {many : Int} {rs : List Tr3} (nd : rs.Nodup) (h1 : 1 ≤ rs.length) (h4 : rs.length ≤ 4) (hv : ∀ t ∈ rs, vS many t = true) (M : Hs) : wX (f_look_at_stops [.tup (rs.map trD), .int many] M) fun d M' => d = .non ∧ Fr No M M' := by
  unfold f_look_at_stops
  have el : gLen [.tup (rs.map trD)] M = some (.int (rs.map trD).length, M) := rfl
  try walk_at "mi"
  rw [tup_kind]
  dsimp only
  rw [tup_is]
  try walk_at "mi"
  rw [el]
  try walk_at "mi"
  have ha : decide ((1 : Int) ≤ ((rs.map trD).length : Int)) = true := decide_eq_true (by rw [List.length_map]; omega)
  have hb : decide (((rs.map trD).length : Int) ≤ 4) = true := decide_eq_true (by rw [List.length_map]; omega)
  simp only [g_le, wO_some, ha, hb]
  try walk_at "mi"
  unfold yEnum
  simp only [wX_bind]
  try walk_at "mi"
  refine wS_forN (I := fun i ζ M' => (∃ a b, ζ = [some (.tup (rs.map trD)), some (.int many), a, b]) ∧ Fr No M M') rs.length ?_ ?_ _ 0 _ _ (by simp) (Nat.zero_le _) ⟨⟨_, _, rfl⟩, Fr.refl _ _⟩
  · rintro i ζ M1 hi ⟨⟨a, b, rfl⟩, fr1⟩
    have ht : (rs.map trD)[i]? = some (trD rs[i]) := by rw [List.getElem?_map, List.getElem?_eq_getElem hi]; rfl
    refine ⟨_, [(2, .int (i : Int)), (3, trD rs[i])], by rw [ht], rfl, ?_⟩
    simp only [setAll]
    try walk_at "mi"
    refine wX_mono (is_stop_w (hv _ (List.getElem_mem hi)) M1) ?_
    rintro d M2 ⟨rfl, rfl⟩
    try walk_at "mi"
    rw [g_cutT (by simp; omega)]
    try walk_at "mi"
    rw [← List.map_take, g_inT]
    try walk_at "mi"
    simp only [not_take nd hi, decide_false, Bool.false_eq_true, if_false]
    try walk_at "mi"
    exact ⟨⟨_, _, rfl⟩, fr1⟩
  · rintro ζ M1 ⟨⟨a, b, rfl⟩, fr1⟩
    exact ⟨by simp, trivial, fr1⟩
end Wk_k01
end
section
set_option maxRecDepth 100000
set_option maxHeartbeats 4000000
set_option autoImplicit false
namespace Wk_k01
open PySem Mi
local macro_rules | `(tactic| walk_at "mi") => `(tactic| simp only [wX_fn, wS_seq, wS_set, wS_ret, wS_expr, wS_pass, wS_if, wS_put, wX_var, wX_c, wX_2, wX_3, wX_anil, wX_acons, wX_tup, wX_lst, wX_dict, wX_b, wX_meth, wX_call, wX_if, wX_t1, wX_and2, wX_or2, wX_not1, wX_true, wX_neg, wX_oN, wX_oS, wX_not, wX_and, wX_or, wX_is, wX_cut, wX_fld, wS_for, wX_ok, wX_no, wO_some, wO_none, wS_nx, wS_rt, List.map_cons, List.map_nil, List.cons_append, List.nil_append, List.append_nil, List.replicate_succ, List.replicate_zero, List.set_cons_zero, List.set_cons_succ, List.getElem?_cons_zero, List.getElem?_cons_succ, List.getElem?_nil, List.length_cons, List.length_nil, Nat.reduceSub, Nat.reduceAdd, Nat.zero_add, Nat.add_zero, if_true, if_false, ite_true, ite_false, reduceIte, Bool.false_eq_true, Bool.not_true, Bool.not_false, ← Nat.add_assoc, reduceCtorEq, List.length_append])
theorem wS_fld {c k : Nat} {fo fv : MX} {ζ : Sl} {M : Hs} {N : Sl → Hs → Prop} {T : D → Hs → Prop} : wS (sFld c k fo fv ζ M) N T = wX (fv ζ M) fun y M => wX (fo ζ M) fun x M => match slAt c x M with
  | some (n, fs) => N ζ (M.set n (.slo c (putD k y fs)))
  | none => False := by
  unfold sFld
  rw [wS_of]
  congr
  funext y M1
  rw [wS_of]
  congr
  funext x M2
  cases slAt c x M2 with
  | none => rfl
  | some q => obtain ⟨n, fs⟩ := q; rfl
theorem wX_make {o : MO} {n : Nat} {F : MF} {ga : MA} {ζ : Sl} {M : Hs} {Q : D → Hs → Prop} : wX (xMake o n F ga ζ M) Q = wX (ga ζ M) fun ds M1 => if ds.length + 1 = n then wX (F (.ref M1.length :: ds) (M1 ++ [o])) fun v M2 => match v with
  | .non => Q (.ref M1.length) M2
  | _ => False else False := by
  unfold xMake
  rw [wX_bind]
  congr
  funext ds M1
  split
  · rw [wX_bind]
    congr
    funext v M2
    cases v <;> rfl
  · rfl
theorem g_inS2 {ch : Str} (h : ch = "all" ∨ ch = "pressed") (M : Hs) : gInA not (.str ch) (.tup [.str "all", .str "pressed"]) M = some (.bl false, M) := by
  have e1 : toPD M deep (.str ch) = some (.str ch) := rfl
  have e2 : toPD M deep (.tup [.str "all", .str "pressed"]) = some (.tuple [.str "all", .str "pressed"]) := rfl
  show gInB not (.str ch) (.tup [.str "all", .str "pressed"]) M = _
  unfold gInB
  rw [e1, e2]
  dsimp only
  have e3 : (SeqAt.shaped (.str ch) && SeqAt.shaped (.tuple [.str "all", .str "pressed"])) = true := by rcases h with rfl | rfl <;> decide +kernel
  have e4 : ([PyData.str "all", PyData.str "pressed"].any fun z => PyData.eqv z (.str ch)) = true := by rcases h with rfl | rfl <;> decide +kernel
  rw [e3, e4]
  rfl
theorem g_inI3 {o : Int} (h : o = 0 ∨ o = 2 ∨ o = 3) (M : Hs) : gInA not (.int o) (.tup [.int 0, .int 2, .int 3]) M = some (.bl false, M) := by
  have e1 : toPD M deep (.int o) = some (.int o) := rfl
  have e2 : toPD M deep (.tup [.int 0, .int 2, .int 3]) = some (.tuple [.int 0, .int 2, .int 3]) := rfl
  show gInB not (.int o) (.tup [.int 0, .int 2, .int 3]) M = _
  unfold gInB
  rw [e1, e2]
  dsimp only
  have e3 : (SeqAt.shaped (.int o) && SeqAt.shaped (.tuple [.int 0, .int 2, .int 3])) = true := by rcases h with rfl | rfl | rfl <;> decide +kernel
  have e4 : ([PyData.int 0, PyData.int 2, PyData.int 3].any fun z => PyData.eqv z (.int o)) = true := by rcases h with rfl | rfl | rfl <;> decide +kernel
  rw [e3, e4]
  rfl
theorem str_kind (x : Str) (M : Hs) : kindOf (.str x) M = some "str" := rfl
theorem str_is : isKind "str" "str" = true := by decide
theorem organ_init_w {M : Hs} {g : Nat} {many : Int} {cs rs : List Tr3} {ch : Str} {oct : Int} (p : Parts many cs rs ch oct) (hg : M[g]? = some (.slo 0 [])) :
    wX (f_Organ_init [.ref g, .int many, .tup (cs.map trD), .tup (rs.map trD), .str ch, .int oct] M) fun d M' => d = .non ∧ Og M' g many cs rs ch oct ∧ Fr (fun n => n = g) M M' := by
  unfold f_Organ_init
  try walk_at "mi"
  refine wX_mono (int_in (v := many) (a := 1) (b := 2) (by rcases p.m with h | h <;> omega) M) ?_
  rintro d M1 ⟨rfl, rfl⟩
  try walk_at "mi"
  refine wX_mono (look_c_w p.cn p.cl p.cv M1) ?_
  rintro d M2 ⟨rfl, fr2⟩
  try walk_at "mi"
  refine wX_mono (look_s_w p.rn p.r1 p.r4 p.rv M2) ?_
  rintro d M3 ⟨rfl, fr3⟩
  try walk_at "mi"
  rw [str_kind]
  dsimp only
  rw [str_is]
  try walk_at "mi"
  rw [g_inS2 p.c]
  try walk_at "mi"
  refine wX_mono (int_in (v := oct) (a := 0) (b := 3) (by rcases p.o with h | h | h <;> omega) M3) ?_
  rintro d M4 ⟨rfl, rfl⟩
  try walk_at "mi"
  rw [g_inI3 p.o]
  have hg4 : M4[g]? = some (.slo 0 []) := (fr2.trans fr3).get hg id
  have fr4 : Fr (fun n => n = g) M1 M4 := (fr2.trans fr3).imp fun _ _ h => h.elim
  try walk_at "mi"
  rw [wS_fld]
  try walk_at "mi"
  rw [sl_at hg4]
  dsimp only
  have s1 := set_get (o := MO.slo 0 (putD 2 (.int many) [])) hg4
  rw [wS_fld]
  try walk_at "mi"
  rw [sl_at s1]
  dsimp only
  have s2 := set_get (o := MO.slo 0 (putD 1 (.tup (cs.map trD)) (putD 2 (.int many) []))) s1
  rw [wS_fld]
  try walk_at "mi"
  rw [sl_at s2]
  dsimp only
  have s3 := set_get (o := MO.slo 0 (putD 4 (.tup (rs.map trD)) (putD 1 (.tup (cs.map trD)) (putD 2 (.int many) [])))) s2
  rw [wS_fld]
  try walk_at "mi"
  rw [sl_at s3]
  dsimp only
  have s4 := set_get (o := MO.slo 0 (putD 3 (.str ch) (putD 4 (.tup (rs.map trD)) (putD 1 (.tup (cs.map trD)) (putD 2 (.int many) []))))) s3
  rw [wS_fld]
  try walk_at "mi"
  rw [sl_at s4]
  dsimp only
  have s5 := set_get (o := MO.slo 0 (putD 0 (.int oct) (putD 3 (.str ch) (putD 4 (.tup (rs.map trD)) (putD 1 (.tup (cs.map trD)) (putD 2 (.int many) [])))))) s4
  exact ⟨trivial, s5, ((((fr4.trans (Fr.set rfl)).trans (Fr.set rfl)).trans (Fr.set rfl)).trans (Fr.set rfl)).trans (Fr.set rfl)⟩
theorem built_w {M : Hs} {t : Nat} {many : Int} {cs rs : List Tr3} {ch : Str} {oct : Int} (tt : Tt M t many cs rs ch oct) (p : Parts many cs rs ch oct) : wX (f__law_built [.ref t] M) fun d M' => ∃ g, d = .ref g ∧ M.length ≤ g ∧ Og M' g many cs rs ch oct ∧ Fr No M M' := by
  have e0 : gIxA (.ref t) (.int 0) M = some (.int many, M) := g_ixL (i := 0) tt rfl
  have e1 : gIxA (.ref t) (.int 1) M = some (.tup (cs.map trD), M) := g_ixL (i := 1) tt rfl
  have e2 : gIxA (.ref t) (.int 2) M = some (.tup (rs.map trD), M) := g_ixL (i := 2) tt rfl
  have e3 : gIxA (.ref t) (.int 3) M = some (.str ch, M) := g_ixL (i := 3) tt rfl
  have e4 : gIxA (.ref t) (.int 4) M = some (.int oct, M) := g_ixL (i := 4) tt rfl
  have oi := organ_init_w p (M := M ++ [.slo 0 []]) (g := M.length) get_push
  unfold f__law_built
  generalize f_Organ_init = F at oi ⊢
  simp only [wX_fn, wS_ret, wX_make, wX_acons, wX_anil, wX_2, wX_var, wX_c, List.map_cons, List.map_nil, List.cons_append, List.nil_append, List.getElem?_cons_zero, e0, e1, e2, e3, e4, wO_some, List.length_cons, List.length_nil, Nat.zero_add, Nat.reduceAdd, if_true]
  refine wX_mono oi ?_
  rintro d M1 ⟨rfl, og, fr⟩
  refine ⟨M.length, rfl, Nat.le_refl _, og, ?_⟩
  have fr0 : Fr No M (M ++ [MO.slo 0 []]) := Fr.push _ _
  exact ⟨Nat.le_trans fr0.1 fr.1, fun n hn _ => (fr.2 n (Nat.lt_of_lt_of_le hn fr0.1) (Nat.ne_of_lt hn)).trans (fr0.2 n hn id)⟩
end Wk_k01
end
section
set_option maxRecDepth 100000
set_option maxHeartbeats 4000000
set_option autoImplicit false
namespace Wk_k01
open PySem Mi
local macro_rules | `(tactic| walk_at "mi") => `(tactic| simp only [wX_fn, wS_seq, wS_set, wS_ret, wS_expr, wS_pass, wS_if, wS_put, wX_var, wX_c, wX_2, wX_3, wX_anil, wX_acons, wX_tup, wX_lst, wX_dict, wX_b, wX_meth, wX_call, wX_if, wX_t1, wX_and2, wX_or2, wX_not1, wX_true, wX_neg, wX_oN, wX_oS, wX_not, wX_and, wX_or, wX_is, wX_cut, wX_fld, wS_for, wX_ok, wX_no, wO_some, wO_none, wS_nx, wS_rt, List.map_cons, List.map_nil, List.cons_append, List.nil_append, List.append_nil, List.replicate_succ, List.replicate_zero, List.set_cons_zero, List.set_cons_succ, List.getElem?_cons_zero, List.getElem?_cons_succ, List.getElem?_nil, List.length_cons, List.length_nil, Nat.reduceSub, Nat.reduceAdd, Nat.zero_add, Nat.add_zero, if_true, if_false, ite_true, ite_false, reduceIte, Bool.false_eq_true, Bool.not_true, Bool.not_false, ← Nat.add_assoc, reduceCtorEq, List.length_append])
theorem look_top_w {top : Int} (h : 0 ≤ top ∧ top ≤ 200) (M : Hs) : wX (f_look_at_top [.int top, .int 200] M) fun d M' => d = .non ∧ M' = M := by
  have oi := int_in h M
  unfold f_look_at_top
  generalize f_is_integer = F at oi ⊢
  try walk_at "mi"
  refine wX_mono oi ?_
  rintro d M1 ⟨rfl, rfl⟩
  try walk_at "mi"
  exact ⟨trivial, trivial⟩
theorem look_key_w {M : Hs} {g : Nat} {many : Int} {cs rs : List Tr3} {ch : Str} {oct : Int} (og : Og M g many cs rs ch oct) {top m k : Int} (hm : 0 ≤ m ∧ m ≤ many - 1) (hk : 0 ≤ k ∧ k ≤ top) : wX (f_look_at_key [.ref g, .int top, .int m, .int k] M) fun d M' => d = .non ∧ M' = M := by
  have o1 := int_in hm M
  have o2 := int_in hk M
  unfold f_look_at_key
  generalize f_is_integer = F at o1 o2 ⊢
  try walk_at "mi"
  rw [sl_at og]
  try walk_at "mi"
  rw [g_sub]
  try walk_at "mi"
  refine wX_mono o1 ?_
  rintro d M1 ⟨rfl, rfl⟩
  try walk_at "mi"
  refine wX_mono o2 ?_
  rintro d M1 ⟨rfl, rfl⟩
  try walk_at "mi"
  exact ⟨trivial, trivial⟩
end Wk_k01
end
section
set_option maxRecDepth 100000
set_option maxHeartbeats 4000000
set_option autoImplicit false
namespace Wk_k01
open PySem Mi
local macro_rules | `(tactic| walk_at "mi") => `(tactic| simp only [wX_fn, wS_seq, wS_set, wS_ret, wS_expr, wS_pass, wS_if, wS_put, wX_var, wX_c, wX_2, wX_3, wX_anil, wX_acons, wX_tup, wX_lst, wX_dict, wX_b, wX_meth, wX_call, wX_if, wX_t1, wX_and2, wX_or2, wX_not1, wX_true, wX_neg, wX_oN, wX_oS, wX_not, wX_and, wX_or, wX_is, wX_cut, wX_fld, wS_for, wX_ok, wX_no, wO_some, wO_none, wS_nx, wS_rt, List.map_cons, List.map_nil, List.cons_append, List.nil_append, List.append_nil, List.replicate_succ, List.replicate_zero, List.set_cons_zero, List.set_cons_succ, List.getElem?_cons_zero, List.getElem?_cons_succ, List.getElem?_nil, List.length_cons, List.length_nil, Nat.reduceSub, Nat.reduceAdd, Nat.zero_add, Nat.add_zero, if_true, if_false, ite_true, ite_false, reduceIte, Bool.false_eq_true, Bool.not_true, Bool.not_false, ← Nat.add_assoc, reduceCtorEq, List.length_append])
/-- what a list of pairs in the store shows: the set S, sorted -/
def Lp (M' : Hs) (n : Nat) (S : Sp2 → Prop) : Prop := ∃ xs : List Sp2, M'[n]? = some (.lst ((srtB SrtO.lexB xs).map prD)) ∧ xs.Nodup ∧ ∀ q, q ∈ xs ↔ S q
theorem keys_on_w {M : Hs} {g : Nat} {many : Int} {cs rs : List Tr3} {ch : Str} {oct : Int} (og : Og M g many cs rs ch oct) (p : Parts many cs rs ch oct) {top m k : Int} (ht : 0 ≤ top ∧ top ≤ 200) (hm : 0 ≤ m ∧ m ≤ many - 1) (hk : 0 ≤ k ∧ k ≤ top) :
    wX (f_keys_on [.ref g, .int top, .int m, .int k] M) fun d M' => ∃ n, d = .ref n ∧ M.length ≤ n ∧ Lp M' n (OnW cs top oct (decide (ch = "all")) [(m, k)]) ∧ Fr No M M' := by
  have o1 := look_top_w ht M
  have o2 := look_key_w og hm hk
  have fr0 : Fr No M (M ++ [MO.lst [prD (m, k)]]) := Fr.push _ _
  have og1 : Og (M ++ [MO.lst [prD (m, k)]]) g many cs rs ch oct := fr0.get og id
  have o3 := all_on_w og1 p.c cs (by have := p.cl; omega) top ht.1 (by omega) [(m, k)] (by simp) (np := M.length) get_push
  unfold f_keys_on
  generalize f_look_at_top = F1 at o1 ⊢
  generalize f_look_at_key = F2 at o2 ⊢
  generalize f_all_on = F3 at o3 ⊢
  try walk_at "mi"
  refine wX_mono o1 ?_
  rintro d M1 ⟨rfl, rfl⟩
  try walk_at "mi"
  refine wX_mono o2 ?_
  rintro d M2 ⟨rfl, rfl⟩
  try walk_at "mi"
  rw [sl_at og]
  try walk_at "mi"
  rw [if_pos (show 2 ≤ sizeLine by decide)]
  try walk_at "mi"
  rw [if_pos (show 1 ≤ sizeLine by decide)]
  refine wX_mono o3 ?_
  rintro d M3 ⟨n, xs, rfl, h1, h2, h3, h4, h5⟩
  exact ⟨n, rfl, Nat.le_trans fr0.1 h5, ⟨xs, h1, h2, h3⟩, fr0.trans h4⟩
end Wk_k01
end
section
set_option maxRecDepth 100000
set_option maxHeartbeats 4000000
set_option autoImplicit false
namespace Wk_k01
open PySem Mi
local macro_rules | `(tactic| walk_at "mi") => `(tactic| simp only [wX_fn, wS_seq, wS_set, wS_ret, wS_expr, wS_pass, wS_if, wS_put, wX_var, wX_c, wX_2, wX_3, wX_anil, wX_acons, wX_tup, wX_lst, wX_dict, wX_b, wX_meth, wX_call, wX_if, wX_t1, wX_and2, wX_or2, wX_not1, wX_true, wX_neg, wX_oN, wX_oS, wX_not, wX_and, wX_or, wX_is, wX_cut, wX_fld, wS_for, wX_ok, wX_no, wO_some, wO_none, wS_nx, wS_rt, List.map_cons, List.map_nil, List.cons_append, List.nil_append, List.append_nil, List.replicate_succ, List.replicate_zero, List.set_cons_zero, List.set_cons_succ, List.getElem?_cons_zero, List.getElem?_cons_succ, List.getElem?_nil, List.length_cons, List.length_nil, Nat.reduceSub, Nat.reduceAdd, Nat.zero_add, Nat.add_zero, if_true, if_false, ite_true, ite_false, reduceIte, Bool.false_eq_true, Bool.not_true, Bool.not_false, ← Nat.add_assoc, reduceCtorEq, List.length_append])
theorem pipes_by_w {M : Hs} {g : Nat} {many : Int} {cs rs : List Tr3} {ch : Str} {oct : Int} (og : Og M g many cs rs ch oct) (p : Parts many cs rs ch oct) {top m k : Int} (ht : 0 ≤ top ∧ top ≤ 200) :
    wX (f_pipes_by [.ref g, .int top, .int m, .int k] M) fun d M' => ∃ n, d = .ref n ∧ M.length ≤ n ∧ Lp M' n (fun q => ∃ s, OnW cs top oct (decide (ch = "all")) [(m, k)] s ∧ q ∈ ledK rs top oct s) ∧ Fr No M M' := by
  have hcl : cs.length ≤ 100 := by have := p.cl; omega
  have fr0 : Fr No M (M ++ [MO.lst [prD (m, k)]]) := Fr.push _ _
  have og1 : Og (M ++ [MO.lst [prD (m, k)]]) g many cs rs ch oct := fr0.get og id
  have o3 := all_on_w og1 p.c cs hcl top ht.1 (by omega) [(m, k)] (by simp) (np := M.length) get_push
  have o4 : ∀ (M1 : Hs) (ns : Nat) (sp : List Sp2), Og M1 g many cs rs ch oct → sp.length ≤ 200000 → M1[ns]? = some (.lst (sp.map prD)) → wX (f_all_pipes [.ref g, .tup (rs.map trD), .int top, .ref ns] M1) fun d M' => ∃ n xs, d = .ref n ∧ M'[n]? = some (.lst ((srtB SrtO.lexB xs).map prD)) ∧ xs.Nodup ∧ (∀ q, q ∈ xs ↔ ∃ s ∈ sp, q ∈ ledK rs top oct s) ∧ Fr No M1 M' ∧ M1.length ≤ n :=
    fun M1 ns sp o h1 h2 => all_pipes_w o rs (by have := p.r4; omega) top sp h1 h2
  unfold f_pipes_by
  generalize f_all_on = F3 at o3 ⊢
  generalize f_all_pipes = F4 at o4 ⊢
  try walk_at "mi"
  rw [sl_at og]
  try walk_at "mi"
  rw [if_pos (show 2 ≤ sizeLine by decide)]
  try walk_at "mi"
  rw [if_pos (show 1 ≤ sizeLine by decide)]
  refine wX_mono o3 ?_
  rintro d M3 ⟨n, xs, rfl, h1, h2, h3, h4, h5⟩
  try walk_at "mi"
  have og3 : Og M3 g many cs rs ch oct := h4.get og1 id
  refine wX_mono (o4 M3 n _ og3 (on_len ht.1 (by omega) hcl (by simp) h2 h3) h1) ?_
  rintro d M4 ⟨n4, ys, rfl, i1, i2, i3, i4, i5⟩
  refine ⟨n4, rfl, Nat.le_trans (Nat.le_trans fr0.1 h4.1) i5, ⟨ys, i1, i2, fun q => ?_⟩, (fr0.trans h4).trans i4⟩
  rw [i3]
  constructor
  · rintro ⟨s, hs, hq⟩; exact ⟨s, (h3 s).mp (srt_mem.mp hs), hq⟩
  · rintro ⟨s, hs, hq⟩; exact ⟨s, srt_mem.mpr ((h3 s).mpr hs), hq⟩
theorem pipes_w {M : Hs} {g : Nat} {many : Int} {cs rs : List Tr3} {ch : Str} {oct : Int} (og : Og M g many cs rs ch oct) (p : Parts many cs rs ch oct) {top m k : Int} (ht : 0 ≤ top ∧ top ≤ 200) (hm : 0 ≤ m ∧ m ≤ many - 1) (hk : 0 ≤ k ∧ k ≤ top) :
    wX (f_pipes [.ref g, .int top, .int m, .int k] M) fun d M' => ∃ n, d = .ref n ∧ M.length ≤ n ∧ Lp M' n (fun q => ∃ s, OnW cs top oct (decide (ch = "all")) [(m, k)] s ∧ q ∈ ledK rs top oct s) ∧ Fr No M M' := by
  have o1 := look_top_w ht M
  have o2 := look_key_w og hm hk
  have o3 := pipes_by_w og p (m := m) (k := k) ht
  unfold f_pipes
  generalize f_look_at_top = F1 at o1 ⊢
  generalize f_look_at_key = F2 at o2 ⊢
  generalize f_pipes_by = F3 at o3 ⊢
  try walk_at "mi"
  refine wX_mono o1 ?_
  rintro d M1 ⟨rfl, rfl⟩
  try walk_at "mi"
  refine wX_mono o2 ?_
  rintro d M2 ⟨rfl, rfl⟩
  try walk_at "mi"
  exact o3
end Wk_k01
end
section
set_option maxRecDepth 100000
set_option maxHeartbeats 4000000
set_option autoImplicit false
namespace Wk_k01
open PySem Mi
local macro_rules | `(tactic| walk_at "mi") => `(tactic| simp only [wX_fn, wS_seq, wS_set, wS_ret, wS_expr, wS_pass, wS_if, wS_put, wX_var, wX_c, wX_2, wX_3, wX_anil, wX_acons, wX_tup, wX_lst, wX_dict, wX_b, wX_meth, wX_call, wX_if, wX_t1, wX_and2, wX_or2, wX_not1, wX_true, wX_neg, wX_oN, wX_oS, wX_not, wX_and, wX_or, wX_is, wX_cut, wX_fld, wS_for, wX_ok, wX_no, wO_some, wO_none, wS_nx, wS_rt, List.map_cons, List.map_nil, List.cons_append, List.nil_append, List.append_nil, List.replicate_succ, List.replicate_zero, List.set_cons_zero, List.set_cons_succ, List.getElem?_cons_zero, List.getElem?_cons_succ, List.getElem?_nil, List.length_cons, List.length_nil, Nat.reduceSub, Nat.reduceAdd, Nat.zero_add, Nat.add_zero, if_true, if_false, ite_true, ite_false, reduceIte, Bool.false_eq_true, Bool.not_true, Bool.not_false, ← Nat.add_assoc, reduceCtorEq, List.length_append])
theorem look_top_odd {d : D} (h : d = .int (-1) ∨ d = .int 201 ∨ d = .bl true ∨ d = .non ∨ d = .str "3" ∨ d = .tup [.int 1]) (M : Hs) : f_look_at_top [d, .int 200] M = .ex 9 [] M := by
  rcases h with rfl | rfl | rfl | rfl | rfl | rfl <;> rfl
theorem keys_on_odd {d : D} (h : d = .int (-1) ∨ d = .int 201 ∨ d = .bl true ∨ d = .non ∨ d = .str "3" ∨ d = .tup [.int 1]) (o a b : D) (M : Hs) : f_keys_on [o, d, a, b] M = .ex 9 [] M := by
  have e := look_top_odd h M
  unfold f_keys_on fnS
  generalize f_look_at_top = F at e ⊢
  simp [sSeq, sExpr, RS.of, xCall, aCons, aNil, xVar, xC, R.bind, e]
theorem pipes_odd {d : D} (h : d = .int (-1) ∨ d = .int 201 ∨ d = .bl true ∨ d = .non ∨ d = .str "3" ∨ d = .tup [.int 1]) (o a b : D) (M : Hs) : f_pipes [o, d, a, b] M = .ex 9 [] M := by
  have e := look_top_odd h M
  unfold f_pipes fnS
  generalize f_look_at_top = F at e ⊢
  simp [sSeq, sExpr, RS.of, xCall, aCons, aNil, xVar, xC, R.bind, e]
end Wk_k01
end
section
set_option maxRecDepth 100000
set_option maxHeartbeats 4000000
set_option autoImplicit false
namespace Wk_k01
open PySem Mi
local macro_rules | `(tactic| walk_at "mi") => `(tactic| simp only [wX_fn, wS_seq, wS_set, wS_ret, wS_expr, wS_pass, wS_if, wS_put, wX_var, wX_c, wX_2, wX_3, wX_anil, wX_acons, wX_tup, wX_lst, wX_dict, wX_b, wX_meth, wX_call, wX_if, wX_t1, wX_and2, wX_or2, wX_not1, wX_true, wX_neg, wX_oN, wX_oS, wX_not, wX_and, wX_or, wX_is, wX_cut, wX_fld, wS_for, wX_ok, wX_no, wO_some, wO_none, wS_nx, wS_rt, List.map_cons, List.map_nil, List.cons_append, List.nil_append, List.append_nil, List.replicate_succ, List.replicate_zero, List.set_cons_zero, List.set_cons_succ, List.getElem?_cons_zero, List.getElem?_cons_succ, List.getElem?_nil, List.length_cons, List.length_nil, Nat.reduceSub, Nat.reduceAdd, Nat.zero_add, Nat.add_zero, if_true, if_false, ite_true, ite_false, reduceIte, Bool.false_eq_true, Bool.not_true, Bool.not_false, ← Nat.add_assoc, reduceCtorEq, List.length_append])
theorem sTry_at {nm : Nat → List Str} {b : MS} {l : List CL} {ζ ζ' : Sl} {M M' : Hs} {c : Nat} {fs : List D} {r : RS} (hb : b ζ M = .ex c fs ζ' M') (hr : tryR nm l c fs ζ' M' = r) : sTry nm b l ζ M = r := by
  unfold sTry
  rw [hb]
  exact hr
theorem tryR_yes {nm : Nat → List Str} {h : CL} {l : List CL} {ζ : Sl} {M : Hs} {c : Nat} {fs : List D} {r : RS} (hm : h.ma c = some true) (hs : ∀ a d, suR nm h c fs ζ M a d = r) : tryR nm (h :: l) c fs ζ M = r := by
  simp only [tryR]
  rw [hm]
  exact uni_eq hs
theorem tryR_no {nm : Nat → List Str} {h : CL} {l : List CL} {ζ : Sl} {M : Hs} {c : Nat} {fs : List D} {r : RS} (hm : h.ma c = some false) (hs : tryR nm l c fs ζ M = r) : tryR nm (h :: l) c fs ζ M = r := by
  simp only [tryR]
  rw [hm]
  exact hs
theorem refused_top {d : D} (h : d = .int (-1) ∨ d = .int 201 ∨ d = .bl true ∨ d = .non ∨ d = .str "3" ∨ d = .tup [.int 1]) {kd : Int} (hk : kd = 0 ∨ kd = 1) (o a b : D) (M : Hs) : f__law_refused [o, d, a, b, .int kd] M = .ok (.str "top") M := by
  have e1 := keys_on_odd h o a b M
  have e2 := pipes_odd h o a b M
  unfold f__law_refused fnS
  generalize f_keys_on = F1 at e1 ⊢
  generalize f_pipes = F2 at e2 ⊢
  have key : sTry cN (sIf (tB1 (x2 gEq (xVar 4) (xC (.int 0)))) (sExpr (xCall 4 F1 (aCons (xVar 0) (aCons (xVar 1) (aCons (xVar 2) (aCons (xVar 3) (aNil))))))) (sExpr (xCall 4 F2 (aCons (xVar 0) (aCons (xVar 1) (aCons (xVar 2) (aCons (xVar 3) (aNil)))))))) [⟨mt_InvalidTop, some 6, fun a d c fs => sSet 5 (xIf (tB1 (xIsE a d c kt_OrganError (xVar 6))) (xC (.str "top")) (xC (.str "class")))⟩, ⟨mt_InvalidKey, none, fun a d c fs => sSet 5 (xC (.str "key"))⟩]
      [some o, some d, some a, some b, some (.int kd), some .non, none] M = .nx [some o, some d, some a, some b, some (.int kd), some (.str "top"), none] M := by
    refine sTry_at (c := 9) (fs := []) (ζ' := [some o, some d, some a, some b, some (.int kd), some .non, none]) (M' := M) ?_ (tryR_yes rfl fun a d => ?_)
    · rcases hk with rfl | rfl
      · simp [sIf, tB1, x2, xVar, xC, R.bind, R.of, RS.of, g_eqI, sExpr, xCall, aCons, aNil, e1]
      · simp [sIf, tB1, x2, xVar, xC, R.bind, R.of, RS.of, g_eqI, sExpr, xCall, aCons, aNil, e2]
    · simp [suR, dOf, onS, sEnd, offS, sSet, xIf, tB1, xIsE, xVar, xC, R.bind, RS.of, kt_OrganError]
  simp [sSeq, sSet, RS.of, xC, sRet, xVar, List.replicate, key]
end Wk_k01
end
section
set_option maxRecDepth 100000
set_option maxHeartbeats 4000000
set_option autoImplicit false
namespace Wk_k01
open PySem Mi
local macro_rules | `(tactic| walk_at "mi") => `(tactic| simp only [wX_fn, wS_seq, wS_set, wS_ret, wS_expr, wS_pass, wS_if, wS_put, wX_var, wX_c, wX_2, wX_3, wX_anil, wX_acons, wX_tup, wX_lst, wX_dict, wX_b, wX_meth, wX_call, wX_if, wX_t1, wX_and2, wX_or2, wX_not1, wX_true, wX_neg, wX_oN, wX_oS, wX_not, wX_and, wX_or, wX_is, wX_cut, wX_fld, wS_for, wX_ok, wX_no, wO_some, wO_none, wS_nx, wS_rt, List.map_cons, List.map_nil, List.cons_append, List.nil_append, List.append_nil, List.replicate_succ, List.replicate_zero, List.set_cons_zero, List.set_cons_succ, List.getElem?_cons_zero, List.getElem?_cons_succ, List.getElem?_nil, List.length_cons, List.length_nil, Nat.reduceSub, Nat.reduceAdd, Nat.zero_add, Nat.add_zero, if_true, if_false, ite_true, ite_false, reduceIte, Bool.false_eq_true, Bool.not_true, Bool.not_false, ← Nat.add_assoc, reduceCtorEq, List.length_append])
theorem int_no {v a b : Int} (h : ¬ (a ≤ v ∧ v ≤ b)) (M : Hs) : f_is_integer [.int v, .int a, .int b] M = .ok (.bl false) M := by
  obtain ⟨d, M', e, h1, h2⟩ := wX_get (is_integer_w v a b M)
  rw [e, h1, h2]
  have : (decide (a ≤ v) && decide (v ≤ b)) = false := by
    by_cases h3 : a ≤ v <;> by_cases h4 : v ≤ b <;> simp_all
  rw [this]
theorem int_yes {v a b : Int} (h : a ≤ v ∧ v ≤ b) (M : Hs) : f_is_integer [.int v, .int a, .int b] M = .ok (.bl true) M := by
  obtain ⟨d, M', e, h1, h2⟩ := wX_get (int_in h M)
  rw [e, h1, h2]
theorem no_bl (k : Bool) (a b : D) (M : Hs) : f_is_integer [.bl k, a, b] M = .ok (.bl false) M := rfl
theorem no_non (a b : D) (M : Hs) : f_is_integer [.non, a, b] M = .ok (.bl false) M := rfl
theorem no_str (x : Str) (a b : D) (M : Hs) : f_is_integer [.str x, a, b] M = .ok (.bl false) M := rfl
/-- a manual or a key that is none -/
def badKey (many top : Int) (x y : D) : Prop := (∀ M, f_is_integer [x, .int 0, .int (many - 1)] M = .ok (.bl false) M) ∨ (∀ M, f_is_integer [x, .int 0, .int (many - 1)] M = .ok (.bl true) M) ∧ ∀ M, f_is_integer [y, .int 0, .int top] M = .ok (.bl false) M
theorem look_key_odd {M : Hs} {g : Nat} {many : Int} {cs rs : List Tr3} {ch : Str} {oct top : Int} (og : Og M g many cs rs ch oct) {x y : D} (h : badKey many top x y) : f_look_at_key [.ref g, .int top, x, y] M = .ex 10 [] M := by
  unfold badKey at h
  unfold f_look_at_key fnS
  generalize f_is_integer = F at h ⊢
  rcases h with h | ⟨h1, h2⟩
  · simp [sIf, tOr2, tNot1, tB1, xCall, aCons, aNil, xVar, xC, x2, xFld, sl_at og, R.bind, R.of, RS.of, g_sub, h, sRaise0]
  · simp [sIf, tOr2, tNot1, tB1, xCall, aCons, aNil, xVar, xC, x2, xFld, sl_at og, R.bind, R.of, RS.of, g_sub, h1, h2, sRaise0]
end Wk_k01
end
section
set_option maxRecDepth 100000
set_option maxHeartbeats 4000000
set_option autoImplicit false
namespace Wk_k01
open PySem Mi
local macro_rules | `(tactic| walk_at "mi") => `(tactic| simp only [wX_fn, wS_seq, wS_set, wS_ret, wS_expr, wS_pass, wS_if, wS_put, wX_var, wX_c, wX_2, wX_3, wX_anil, wX_acons, wX_tup, wX_lst, wX_dict, wX_b, wX_meth, wX_call, wX_if, wX_t1, wX_and2, wX_or2, wX_not1, wX_true, wX_neg, wX_oN, wX_oS, wX_not, wX_and, wX_or, wX_is, wX_cut, wX_fld, wS_for, wX_ok, wX_no, wO_some, wO_none, wS_nx, wS_rt, List.map_cons, List.map_nil, List.cons_append, List.nil_append, List.append_nil, List.replicate_succ, List.replicate_zero, List.set_cons_zero, List.set_cons_succ, List.getElem?_cons_zero, List.getElem?_cons_succ, List.getElem?_nil, List.length_cons, List.length_nil, Nat.reduceSub, Nat.reduceAdd, Nat.zero_add, Nat.add_zero, if_true, if_false, ite_true, ite_false, reduceIte, Bool.false_eq_true, Bool.not_true, Bool.not_false, ← Nat.add_assoc, reduceCtorEq, List.length_append])
theorem look_top_ok {top : Int} (h : 0 ≤ top ∧ top ≤ 200) (M : Hs) : f_look_at_top [.int top, .int 200] M = .ok .non M := by
  obtain ⟨d, M', e, h1, h2⟩ := wX_get (look_top_w h M)
  rw [e, h1, h2]
theorem keys_on_bad {M : Hs} {g : Nat} {many : Int} {cs rs : List Tr3} {ch : Str} {oct top : Int} (og : Og M g many cs rs ch oct) (ht : 0 ≤ top ∧ top ≤ 200) {x y : D} (h : badKey many top x y) : f_keys_on [.ref g, .int top, x, y] M = .ex 10 [] M := by
  have e1 := look_top_ok ht M
  have e2 := look_key_odd og h
  unfold f_keys_on fnS
  generalize f_look_at_top = F1 at e1 ⊢
  generalize f_look_at_key = F2 at e2 ⊢
  simp [sSeq, sExpr, RS.of, xCall, aCons, aNil, xVar, xC, R.bind, e1, e2]
theorem pipes_bad {M : Hs} {g : Nat} {many : Int} {cs rs : List Tr3} {ch : Str} {oct top : Int} (og : Og M g many cs rs ch oct) (ht : 0 ≤ top ∧ top ≤ 200) {x y : D} (h : badKey many top x y) : f_pipes [.ref g, .int top, x, y] M = .ex 10 [] M := by
  have e1 := look_top_ok ht M
  have e2 := look_key_odd og h
  unfold f_pipes fnS
  generalize f_look_at_top = F1 at e1 ⊢
  generalize f_look_at_key = F2 at e2 ⊢
  simp [sSeq, sExpr, RS.of, xCall, aCons, aNil, xVar, xC, R.bind, e1, e2]
theorem refused_key {M : Hs} {g : Nat} {many : Int} {cs rs : List Tr3} {ch : Str} {oct top : Int} (og : Og M g many cs rs ch oct) (ht : 0 ≤ top ∧ top ≤ 200) {x y : D} (h : badKey many top x y) {kd : Int} (hk : kd = 0 ∨ kd = 1) : f__law_refused [.ref g, .int top, x, y, .int kd] M = .ok (.str "key") M := by
  have e1 := keys_on_bad og ht h
  have e2 := pipes_bad og ht h
  unfold f__law_refused fnS
  generalize f_keys_on = F1 at e1 ⊢
  generalize f_pipes = F2 at e2 ⊢
  have key : sTry cN (sIf (tB1 (x2 gEq (xVar 4) (xC (.int 0)))) (sExpr (xCall 4 F1 (aCons (xVar 0) (aCons (xVar 1) (aCons (xVar 2) (aCons (xVar 3) (aNil))))))) (sExpr (xCall 4 F2 (aCons (xVar 0) (aCons (xVar 1) (aCons (xVar 2) (aCons (xVar 3) (aNil)))))))) [⟨mt_InvalidTop, some 6, fun a d c fs => sSet 5 (xIf (tB1 (xIsE a d c kt_OrganError (xVar 6))) (xC (.str "top")) (xC (.str "class")))⟩, ⟨mt_InvalidKey, none, fun a d c fs => sSet 5 (xC (.str "key"))⟩]
      [some (.ref g), some (.int top), some x, some y, some (.int kd), some .non, none] M = .nx [some (.ref g), some (.int top), some x, some y, some (.int kd), some (.str "key"), none] M := by
    refine sTry_at (c := 10) (fs := []) (ζ' := [some (.ref g), some (.int top), some x, some y, some (.int kd), some .non, none]) (M' := M) ?_ (tryR_no rfl (tryR_yes rfl fun a d => ?_))
    · rcases hk with rfl | rfl
      · simp [sIf, tB1, x2, xVar, xC, R.bind, R.of, RS.of, g_eqI, sExpr, xCall, aCons, aNil, e1]
      · simp [sIf, tB1, x2, xVar, xC, R.bind, R.of, RS.of, g_eqI, sExpr, xCall, aCons, aNil, e2]
    · simp [suR, dOf, onS, sEnd, offS, sSet, xC, RS.of]
  simp [sSeq, sSet, RS.of, xC, sRet, xVar, List.replicate, key]
end Wk_k01
end
section
set_option maxRecDepth 100000
set_option maxHeartbeats 4000000
set_option autoImplicit false
namespace Wk_k01
open PySem Mi
local macro_rules | `(tactic| walk_at "mi") => `(tactic| simp only [wX_fn, wS_seq, wS_set, wS_ret, wS_expr, wS_pass, wS_if, wS_put, wX_var, wX_c, wX_2, wX_3, wX_anil, wX_acons, wX_tup, wX_lst, wX_dict, wX_b, wX_meth, wX_call, wX_if, wX_t1, wX_and2, wX_or2, wX_not1, wX_true, wX_neg, wX_oN, wX_oS, wX_not, wX_and, wX_or, wX_is, wX_cut, wX_fld, wS_for, wX_ok, wX_no, wO_some, wO_none, wS_nx, wS_rt, List.map_cons, List.map_nil, List.cons_append, List.nil_append, List.append_nil, List.replicate_succ, List.replicate_zero, List.set_cons_zero, List.set_cons_succ, List.getElem?_cons_zero, List.getElem?_cons_succ, List.getElem?_nil, List.length_cons, List.length_nil, Nat.reduceSub, Nat.reduceAdd, Nat.zero_add, Nat.add_zero, if_true, if_false, ite_true, ite_false, reduceIte, Bool.false_eq_true, Bool.not_true, Bool.not_false, ← Nat.add_assoc, reduceCtorEq, List.length_append])
theorem refused_ok {M : Hs} {g : Nat} {many : Int} {cs rs : List Tr3} {ch : Str} {oct : Int} (og : Og M g many cs rs ch oct) (p : Parts many cs rs ch oct) {kd : Int} (hk : kd = 0 ∨ kd = 1) : wX (f__law_refused [.ref g, .int 200, .int 0, .int 200, .int kd] M) fun d M' => d = .non ∧ Fr No M M' := by
  have hm : (0 : Int) ≤ 0 ∧ (0 : Int) ≤ many - 1 := by rcases p.m with h | h <;> omega
  obtain ⟨d1, M1, e1, ⟨n1, h1, _, _, f1⟩⟩ := wX_get (keys_on_w og p (top := 200) (m := 0) (k := 200) (by omega) hm (by omega))
  obtain ⟨d2, M2, e2, ⟨n2, h2, _, _, f2⟩⟩ := wX_get (pipes_w og p (top := 200) (m := 0) (k := 200) (by omega) hm (by omega))
  unfold f__law_refused fnS
  generalize f_keys_on = F1 at e1 ⊢
  generalize f_pipes = F2 at e2 ⊢
  rcases hk with rfl | rfl
  · simp [sSeq, sSet, sTry, sIf, tB1, x2, xVar, xC, R.bind, R.of, RS.of, g_eqI, sExpr, xCall, aCons, aNil, e1, sRet, List.replicate, wX, f1]
  · simp [sSeq, sSet, sTry, sIf, tB1, x2, xVar, xC, R.bind, R.of, RS.of, g_eqI, sExpr, xCall, aCons, aNil, e2, sRet, List.replicate, wX, f2]
end Wk_k01
end
section
set_option maxRecDepth 100000
set_option maxHeartbeats 4000000
set_option autoImplicit false
namespace Wk_k01
open PySem Mi
local macro_rules | `(tactic| walk_at "mi") => `(tactic| simp only [wX_fn, wS_seq, wS_set, wS_ret, wS_expr, wS_pass, wS_if, wS_put, wX_var, wX_c, wX_2, wX_3, wX_anil, wX_acons, wX_tup, wX_lst, wX_dict, wX_b, wX_meth, wX_call, wX_if, wX_t1, wX_and2, wX_or2, wX_not1, wX_true, wX_neg, wX_oN, wX_oS, wX_not, wX_and, wX_or, wX_is, wX_cut, wX_fld, wS_for, wX_ok, wX_no, wO_some, wO_none, wS_nx, wS_rt, List.map_cons, List.map_nil, List.cons_append, List.nil_append, List.append_nil, List.replicate_succ, List.replicate_zero, List.set_cons_zero, List.set_cons_succ, List.getElem?_cons_zero, List.getElem?_cons_succ, List.getElem?_nil, List.length_cons, List.length_nil, Nat.reduceSub, Nat.reduceAdd, Nat.zero_add, Nat.add_zero, if_true, if_false, ite_true, ite_false, reduceIte, Bool.false_eq_true, Bool.not_true, Bool.not_false, ← Nat.add_assoc, reduceCtorEq, List.length_append])
theorem g_neS {x y : Str} (hx : SeqAt.shaped (.str x) = true) (hy : SeqAt.shaped (.str y) = true) (M : Hs) : gNe (.str x) (.str y) M = some (.bl (!decide (x = y)), M) := by
  have e1 : toPD M deep (.str x) = some (.str x) := rfl
  have e2 : toPD M deep (.str y) = some (.str y) := rfl
  have e3 : PyData.eqv (.str x) (.str y) = decide (x = y) := by
    simp only [PyData.eqv]
    by_cases h : x = y <;> simp [h]
  unfold gNe gEqB
  rw [e1, e2]
  dsimp only
  rw [hx, hy, e3]
  rfl
theorem same_lp {M : Hs} {m n : Nat} {S T : Sp2 → Prop} (h1 : Lp M m S) (h2 : Lp M n T) (h : ∀ q, S q ↔ T q) : gNe (.ref m) (.ref n) M = some (.bl false, M) := by
  obtain ⟨xs, a1, a2, a3⟩ := h1
  obtain ⟨ys, b1, b2, b3⟩ := h2
  have e : srtB SrtO.lexB xs = srtB SrtO.lexB ys := srt_ext a2 b2 fun q => by rw [a3, b3]; exact h q
  rw [g_neP a1 b1, e]
  simp
theorem Lp.fr {M M' : Hs} {n : Nat} {S : Sp2 → Prop} (h : Lp M n S) (f : Fr No M M') : Lp M' n S := let ⟨xs, a, b, c⟩ := h; ⟨xs, f.get a id, b, c⟩
theorem law_w (ns : List Int) (hl : ns.length ≤ 63) : wX (f_law [.klst (ns.map D.int)] []) fun d _ => d = .bl true := by
  have hsz := size1
  unfold f_law
  rw [wX_fn]
  rw [wS_seq, wS_set, wX_call]
  try walk_at "mi"
  refine wX_mono (law_mix_w ns hl 1) ?_
  rintro d M0 ⟨rfl, hd0, hM0⟩
  try walk_at "mi"
  refine wX_mono (law_organ_w hd0 (by omega) 5 4 3 (by decide) (by decide) (by decide) (by decide) (by decide)) ?_
  rintro d M1 ⟨t, many, cs, rs, ch, oct, rfl, ht2, tt1, p, hd1, fr1⟩
  try walk_at "mi"
  refine wX_mono (built_w tt1 p) ?_
  rintro d M2 ⟨g, rfl, hg, og2, fr2⟩
  try walk_at "mi"
  refine wX_mono (law_next_w (hd1.fr fr2) 13 (by decide) (by decide)) ?_
  rintro d M3 ⟨top, rfl, ht0, ht1, hd3, fr3⟩
  try walk_at "mi"
  have hlt := lt_of_get tt1
  have og3 : Og M3 g many cs rs ch oct := fr3.get og2 (by unfold H2; omega)
  have tt3 : Tt M3 t many cs rs ch oct := fr3.get (fr2.get tt1 id) (by unfold H2; omega)
  have hm12 := p.m
  unfold yRg1
  simp only [wX_bind]
  try walk_at "mi"
  rw [g_ixL (i := 0) tt3 rfl]
  try walk_at "mi"
  have hok : okRg many = true := okRg_small (by omega) (by omega)
  rw [if_pos hok]
  dsimp only [wX_ok, yRg]
  refine wS_forN (I := fun i ζ M' => (∃ a b c d, ζ = [some (.klst (ns.map D.int)), some (.ref 1), some (.ref t), some (.ref g), some (.int top), a, b, c, d]) ∧ Fr No M3 M') many.toNat ?_ ?_ _ 0 _ _ (by omega) (Nat.zero_le _) ⟨⟨_, _, _, _, rfl⟩, Fr.refl _ _⟩
  · rintro i ζ M4 hi ⟨⟨a, b, c, d, rfl⟩, fr4⟩
    refine ⟨.int (0 + (i : Int)), [(5, .int (0 + (i : Int)))], by rw [if_pos hi], rfl, ?_⟩
    simp only [setAll]
    try walk_at "mi"
    simp only [wX_bind]
    try walk_at "mi"
    rw [g_add]
    try walk_at "mi"
    have hok2 : okRg (top + 1) = true := okRg_small (by omega) (by omega)
    rw [if_pos hok2]
    dsimp only [wX_ok, yRg]
    refine wS_forN (I := fun j ζ M' => (∃ b c d, ζ = [some (.klst (ns.map D.int)), some (.ref 1), some (.ref t), some (.ref g), some (.int top), some (.int (0 + (i : Int))), b, c, d]) ∧ Fr No M3 M') (top + 1).toNat ?_ ?_ _ 0 _ _ (by omega) (Nat.zero_le _) ⟨⟨_, _, _, rfl⟩, fr4⟩
    · rintro j ζ M5 hj ⟨⟨b, c, d, rfl⟩, fr5⟩
      refine ⟨.int (0 + (j : Int)), [(6, .int (0 + (j : Int)))], by rw [if_pos hj], rfl, ?_⟩
      have og5 : Og M5 g many cs rs ch oct := fr5.get og3 id
      have hm : (0 : Int) ≤ 0 + (i : Int) ∧ 0 + (i : Int) ≤ many - 1 := by omega
      have hk : (0 : Int) ≤ 0 + (j : Int) ∧ 0 + (j : Int) ≤ top := by omega
      simp only [setAll]
      try walk_at "mi"
      refine wX_mono (keys_on_w og5 p (by omega) hm hk) ?_
      rintro d6 M6 ⟨n6, rfl, hn6, lp6, fr6⟩
      try walk_at "mi"
      rw [if_pos (show 2 ≤ sizeLine by decide)]
      try walk_at "mi"
      rw [if_pos (show 1 ≤ sizeLine by decide)]
      have frA : Fr No M3 M6 := fr5.trans fr6
      have fr7 : Fr No M6 (M6 ++ [MO.lst [prD (0 + (i : Int), 0 + (j : Int))]]) := Fr.push _ _
      have tt7 : Tt (M6 ++ [MO.lst [prD (0 + (i : Int), 0 + (j : Int))]]) t many cs rs ch oct := (frA.trans fr7).get tt3 id
      refine wX_mono (law_on_w tt7 p.c (by have := p.cl; omega) top (by omega) (by omega) [(0 + (i : Int), 0 + (j : Int))] (by simp) (np := M6.length) get_push) ?_
      rintro d8 M8 ⟨n8, xs8, rfl, a8, b8, c8, fr8, hn8⟩
      have lp8 : Lp M8 n8 _ := ⟨xs8, a8, b8, c8⟩
      rw [same_lp ((lp6.fr fr7).fr fr8) lp8 fun q => Iff.rfl]
      try walk_at "mi"
      have frB : Fr No M3 M8 := (frA.trans fr7).trans fr8
      refine wX_mono (pipes_w (frB.get og3 id) p (by omega) hm hk) ?_
      rintro d9 M9 ⟨n9, rfl, hn9, lp9, fr9⟩
      try walk_at "mi"
      rw [if_pos (show 2 ≤ sizeLine by decide)]
      try walk_at "mi"
      rw [if_pos (show 1 ≤ sizeLine by decide)]
      have fr10 : Fr No M9 (M9 ++ [MO.lst [prD (0 + (i : Int), 0 + (j : Int))]]) := Fr.push _ _
      have tt10 : Tt (M9 ++ [MO.lst [prD (0 + (i : Int), 0 + (j : Int))]]) t many cs rs ch oct := ((frB.trans fr9).trans fr10).get tt3 id
      refine wX_mono (law_heard_w tt10 p.c (by have := p.cl; omega) (by have := p.r4; omega) top (by omega) (by omega) [(0 + (i : Int), 0 + (j : Int))] (by simp) (np := M9.length) get_push) ?_
      rintro d11 M11 ⟨n11, xs11, rfl, a11, b11, c11, fr11, hn11⟩
      have lp11 : Lp M11 n11 _ := ⟨xs11, a11, b11, c11⟩
      rw [same_lp ((lp9.fr fr10).fr fr11) lp11 fun q => Iff.rfl]
      try walk_at "mi"
      exact ⟨⟨_, _, _, rfl⟩, ((frB.trans fr9).trans fr10).trans fr11⟩
    · rintro ζ M5 ⟨⟨b, c, d, rfl⟩, fr5⟩
      exact ⟨by rw [if_neg (by omega)], ⟨_, _, _, _, rfl⟩, fr5⟩
  · rintro ζ M4 ⟨⟨a, b, c, d, rfl⟩, fr4⟩
    refine ⟨by rw [if_neg (by omega)], ?_⟩
    try walk_at "mi"
    refine wX_mono (law_next_w (hd3.fr fr4) 2 (by decide) (by decide)) ?_
    rintro d5 M5 ⟨kd, rfl, hk0, hk1, hd5, fr5⟩
    have hkd : kd = 0 ∨ kd = 1 := by omega
    have hM4 : 2 ≤ M4.length := by have := fr4.1; have := lt_of_get tt3; omega
    have og5 : Og M5 g many cs rs ch oct := fr5.get (fr4.get og3 id) (by unfold H2; omega)
    have tt5 : Tt M5 t many cs rs ch oct := fr5.get (fr4.get tt3 id) (by unfold H2; omega)
    try walk_at "mi"
    rw [if_pos (show 1 ≤ sizeLine by decide)]
    try walk_at "mi"
    rw [if_pos (show 6 ≤ sizeLine by decide)]
    have fr6 : Fr No M5 (M5 ++ [MO.lst [.int (-1), .int 201, .bl true, .non, .str "3", .tup [.int 1]]]) := Fr.push _ _
    refine wX_mono (law_next_w (hd5.fr fr6) 6 (by decide) (by decide)) ?_
    rintro d7 M7 ⟨r7, rfl, hr0, hr1, hd7, fr7⟩
    have hM5 : 2 ≤ M5.length := by have := fr5.1; omega
    have ho7 : M7[M5.length]? = some (.lst [.int (-1), .int 201, .bl true, .non, .str "3", .tup [.int 1]]) := fr7.get get_push (by unfold H2; omega)
    obtain ⟨od, hod, hodv⟩ : ∃ od : D, [D.int (-1), .int 201, .bl true, .non, .str "3", .tup [.int 1]][r7.toNat]? = some od ∧ (od = .int (-1) ∨ od = .int 201 ∨ od = .bl true ∨ od = .non ∨ od = .str "3" ∨ od = .tup [.int 1]) := by
      have : r7 = 0 ∨ r7 = 1 ∨ r7 = 2 ∨ r7 = 3 ∨ r7 = 4 ∨ r7 = 5 := by omega
      rcases this with rfl | rfl | rfl | rfl | rfl | rfl
      · exact ⟨_, rfl, by simp⟩
      · exact ⟨_, rfl, by simp⟩
      · exact ⟨_, rfl, by simp⟩
      · exact ⟨_, rfl, by simp⟩
      · exact ⟨_, rfl, by simp⟩
      · exact ⟨_, rfl, by simp⟩
    rw [g_ixL (i := r7.toNat) ho7 hod (by omega)]
    try walk_at "mi"
    rw [refused_top hodv hkd]
    try walk_at "mi"
    rw [g_neS (by decide +kernel) (by decide +kernel)]
    try walk_at "mi"
    have og7 : Og M7 g many cs rs ch oct := fr7.get (fr6.get og5 id) (by unfold H2; omega)
    simp only [decide_true, Bool.not_true, Bool.false_eq_true, if_false]
    try walk_at "mi"
    refine wX_mono (refused_ok og7 p hkd) ?_
    rintro d8 M8 ⟨rfl, fr8⟩
    try walk_at "mi"
    rw [g_isNotN]
    try walk_at "mi"
    have tt8 : Tt M8 t many cs rs ch oct := fr8.get (fr7.get (fr6.get tt5 id) (by unfold H2; omega)) id
    have og8 : Og M8 g many cs rs ch oct := fr8.get og7 id
    simp only [if_pos (show 2 ≤ sizeLine by decide)]
    try walk_at "mi"
    rw [g_ixL (i := 0) tt8 rfl]
    try walk_at "mi"
    simp only [if_pos (show 2 ≤ sizeLine by decide), g_add]
    try walk_at "mi"
    rw [if_pos (show 8 ≤ sizeLine by decide)]
    generalize hL : [D.tup [D.int (-1), D.int 0], D.tup [D.int many, D.int 0], D.tup [D.bl true, D.int 0], D.tup [D.non, D.int 0], D.tup [D.int 0, D.int (-1)], D.tup [D.int 0, D.int (top + 1)], D.tup [D.int 0, D.bl true], D.tup [D.int 0, D.str "0"]] = L
    have fr9 : Fr No M8 (M8 ++ [MO.lst L]) := Fr.push _ _
    have hd8 : Hd M8 := hd7.fr fr8
    refine wX_mono (law_next_w (hd8.fr fr9) 8 (by decide) (by decide)) ?_
    rintro d10 M10 ⟨r10, rfl, hq0, hq1, hd10, fr10⟩
    have hM8 : 2 ≤ M8.length := by have := fr8.1; have := fr7.1; have := fr6.1; omega
    have og10 : Og M10 g many cs rs ch oct := fr10.get (fr9.get og8 id) (by unfold H2; omega)
    have ho10 : M10[M8.length]? = some (.lst L) := fr10.get get_push (by unfold H2; omega)
    have hz : (0 : Int) ≤ 0 ∧ (0 : Int) ≤ many - 1 := by omega
    obtain ⟨x, y, hxy, bad⟩ : ∃ x y : D, L[r10.toNat]? = some (.tup [x, y]) ∧ badKey many top x y := by
      have : r10 = 0 ∨ r10 = 1 ∨ r10 = 2 ∨ r10 = 3 ∨ r10 = 4 ∨ r10 = 5 ∨ r10 = 6 ∨ r10 = 7 := by omega
      subst hL
      rcases this with rfl | rfl | rfl | rfl | rfl | rfl | rfl | rfl
      · exact ⟨_, _, rfl, .inl fun M => int_no (by omega) M⟩
      · exact ⟨_, _, rfl, .inl fun M => int_no (by omega) M⟩
      · exact ⟨_, _, rfl, .inl fun M => no_bl _ _ _ M⟩
      · exact ⟨_, _, rfl, .inl fun M => no_non _ _ M⟩
      · exact ⟨_, _, rfl, .inr ⟨fun M => int_yes hz M, fun M => int_no (by omega) M⟩⟩
      · exact ⟨_, _, rfl, .inr ⟨fun M => int_yes hz M, fun M => int_no (by omega) M⟩⟩
      · exact ⟨_, _, rfl, .inr ⟨fun M => int_yes hz M, fun M => no_bl _ _ _ M⟩⟩
      · exact ⟨_, _, rfl, .inr ⟨fun M => int_yes hz M, fun M => no_str _ _ _ M⟩⟩
    rw [g_ixL (i := r10.toNat) ho10 hxy (by omega)]
    try walk_at "mi"
    rw [g_ixT (i := 0) (d := x) rfl]
    try walk_at "mi"
    rw [g_ixT (i := 1) (d := y) rfl]
    try walk_at "mi"
    rw [refused_key og10 (by omega) bad hkd]
    try walk_at "mi"
    rw [g_eqS (by decide +kernel) (by decide +kernel)]
    simp [wO_some]
theorem pure (ns : List Int) (hl : ns.length ≤ 63) : ∃ M, f_law [.klst (ns.map .int)] [] = .ok (.bl true) M := by
  obtain ⟨d, M, e, h⟩ := wX_get (law_w ns hl)
  exact ⟨M, by rw [e, h]⟩
end Wk_k01
end
set_option maxRecDepth 100000 in
theorem PySem.Challenge.cw_couplerreach_k01_whole_keys_holds : PySem.Challenge.rw_couplerreach_k01_whole_keys.Holds := by
  exact holds_of fun ns hl => Wk_k01.pure ns hl
