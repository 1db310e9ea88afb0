import PyProof.Rows.All
import Wide.All
import OpenK.AllK
import Wide.FinOn
import HandS.Lambda
import KE.KDflt
import HandS.ForMost
import HandS.ExcCtx
import HandS.Star
import HandS.Exc
import HandS.WordsExc
import HandS.Defaults
import HandS.HeadHook1
import KE.KDictKeyed
import HandS.TupAny
import HandS.TupMul
import HandS.Wide
import HandS.IsInst
import HandS.Walk
import HandS.Flow
import HandS.Style
import HandS.Deep
import HandS.CallSlots
import HandS.Head0
import HandS.Head1
import HandS.Head2
import HandS.HeadEnd
import HandS.HeadHook2
import HandS.Text
import HandS.Strs
import HandS.FStr
import HandS.Sort
import HandS.MakeKwOnly
import HandS.ClsMeth
import PyProof.StrLawsTight
import PyProof.StrLawsIn
import PyProof.StrLawsChain
import PyProof.Rows.StrFacts2
import KE.GoesMore
import KE.GoesEnum
import HandS.Iter
import KE.KStar
import PyProof.ListStr
import HandS.Conv
import KE.DataEq
import PyProof.Rows.CallKw2
import HandS.Dict
import HandS.DictComp
import HandS.Property
import HandS.OwnEq
import HandS.Set
import HandS.SetFor
import PyProof.Rows.SortShellAny
import HandS.ExcInit
import HandS.ExcField
import HandS.RaiseFrom
import KE.KExcInit
import KE.KTryMore
import HandS.HotCalls
import HandS.EndTab
import HandS.ReplaceLit
import KE.IntTextLaws
import PyProof.Rows.StrStrike
import KE.SortData
import HandS.TupLe
import HandS.SuiteRaise
import HandS.ExcInitHot
import KE.GoesComp
import HandS.GenList
import HandS.Keys
import PyProof.RulesMatch
import HandS.TupSets
import KE.KExcIs
import PySem.Challenge.RW_untilnone_k68_errors_and_their_bases
set_option Elab.async false
set_option linter.all false
set_option maxRecDepth 100000
set_option maxHeartbeats 4000000
namespace L2.U
open PySem PySem.Spec PyProof.Rows
structure LamA where
  qual : Str
  params : Arguments
  body : Expr
  scope : Scope
  frees : List Str
  maker : Scope
def LamA.cells (k : LamA) (b : Nat) : List (Str × Addr) := cellsFrom (b + 1) k.maker.names []
def theLams : Nat → Option LamA := fun _ => none
def theTabs : PySem.W.Frag → List (Str × Addr) := fun _ => []
end L2.U
namespace L2.U
open PySem PySem.Spec PyProof.Rows
def hotV (K : PySem.W.Frag) (cls : Value) : Prop := cls = .ref (He.ga K "InvalidText")
def hotW (K : PySem.W.Frag) (W : WX) : WX := fun cls d σ H => hotV K cls ∧ W cls d σ H
def Tk (X : Cx) (W : WX) : Prop := L2N.Takes X W ∧ L2.Takes X (hotW X.K W)
inductive D where
  | non | bl (b : Bool) | int (i : Int) | str (x : Str) | ty (n : String) | con (c : Str)
  | tup (xs : List D) | lst (xs : List D) | dic (ks vs : List D) | ins (C : Str) (ns : List Str) (vs : List D)
  | fz (xs : List D)
  | ref (n : Nat)
  deriving Inhabited
inductive AO where
  | lst (xs : List D) | dic (ks vs : List D) | ins (C : Str) (ns : List Str) (vs : List D) | dkn (w : World) (ks vs : List D) | gone
instance : Inhabited AO := ⟨.gone⟩
abbrev Sto := List AO
abbrev Env := List (Option D)
mutual
def bnd (n : Nat) : D → Bool
  | .ref k => decide (k < n)
  | .tup xs => bndL n xs
  | .lst xs => bndL n xs
  | .fz xs => bndL n xs
  | .dic ks vs => bndL n ks && bndL n vs
  | .ins _ _ vs => bndL n vs
  | _ => true
def bndL (n : Nat) : List D → Bool
  | [] => true
  | x :: r => bnd n x && bndL n r
end
structure Gh where
  G : Addr → Option D
  m : Nat → Addr
  sz : Nat
  F : Addr → Option HO
structure Ext (g g' : Gh) : Prop where
  G : ∀ a d, g.G a = some d → g'.G a = some d
  sz : g.sz ≤ g'.sz
  m : ∀ n, n < g.sz → g'.m n = g.m n
  F : g'.F = g.F
mutual
theorem bnd_mono {n k : Nat} (h : n ≤ k) : ∀ d : D, bnd n d = true → bnd k d = true
  | .ref j, e => by
    have e1 : j < n := by simpa [bnd] using e
    simp [bnd]; omega
  | .tup xs, e => by simp only [bnd] at e ⊢; exact bndL_mono h xs e
  | .lst xs, e => by simp only [bnd] at e ⊢; exact bndL_mono h xs e
  | .fz xs, e => by simp only [bnd] at e ⊢; exact bndL_mono h xs e
  | .dic ks vs, e => by
    simp only [bnd, Bool.and_eq_true] at e ⊢
    exact ⟨bndL_mono h ks e.1, bndL_mono h vs e.2⟩
  | .ins _ _ vs, e => by simp only [bnd] at e ⊢; exact bndL_mono h vs e
  | .non, _ => rfl
  | .bl _, _ => rfl
  | .int _, _ => rfl
  | .str _, _ => rfl
  | .ty _, _ => rfl
  | .con _, _ => rfl
theorem bndL_mono {n k : Nat} (h : n ≤ k) : ∀ l : List D, bndL n l = true → bndL k l = true
  | [], _ => rfl
  | x :: r, e => by
    simp only [bndL, Bool.and_eq_true] at e ⊢
    exact ⟨bnd_mono h x e.1, bndL_mono h r e.2⟩
end
mutual
def kRep (K : PySem.W.Frag) : Nat → D → Value → Bool
  | 0, _, _ => false
  | _ + 1, .non, .none => true
  | _ + 1, .bl b, .bool c => b == c
  | _ + 1, .int i, .int j _ => decide (i = j)
  | _ + 1, .str x, .str y _ => decide (x = y)
  | _ + 1, .ty n, .type k => decide (n = k)
  | _ + 1, .con c, .ref b => decide (He.ga K c = b)
  | f + 1, .tup ds, .ref a => (match K.lookup a with
    | some ⟨.type c, _, .seq its _, _⟩ => decide (c = "tuple") && (decide (its.size ≤ sizeLine) && kReps K f ds its.toList)
    | _ => false)
  | f + 1, .fz ds, .ref a => (match K.lookup a with
    | some ⟨.type c, none, .seq its _, _⟩ => decide (c = "list") && (decide (its.size ≤ sizeLine) && kReps K f ds its.toList)
    | _ => false)
  | _ + 1, _, _ => false
def kReps (K : PySem.W.Frag) : Nat → List D → List Value → Bool
  | 0, _, _ => false
  | _ + 1, [], [] => true
  | f + 1, d :: ds, u :: us => kRep K f d u && kReps K f ds us
  | _ + 1, _, _ => false
end
def RelD (K : PySem.W.Frag) (g : Gh) : D → V → Prop
  | .non, v => v = .non
  | .bl b, v => v = .bl b
  | .int i, v => v = .int i
  | .str x, v => v = .str x
  | .ty n, v => v = .ty n
  | .con c, v => v = .ref (He.ga K c)
  | .ref n, v => n < g.sz ∧ v = .ref (g.m n)
  | .tup xs, v => bndL g.sz xs = true ∧ ∃ a, v = .ref a ∧ (g.G a = some (.tup xs) ∨ ∃ f, kRep K f (.tup xs) (.ref a) = true)
  | .lst xs, v => bndL g.sz xs = true ∧ ∃ a, v = .ref a ∧ g.G a = some (.lst xs)
  | .fz xs, v => bndL g.sz xs = true ∧ ∃ a, v = .ref a ∧ (g.G a = some (.fz xs) ∨ ∃ f, kRep K f (.fz xs) (.ref a) = true)
  | .dic ks vs, v => (bndL g.sz ks && bndL g.sz vs) = true ∧ ∃ a, v = .ref a ∧ g.G a = some (.dic ks vs)
  | .ins C ns vs, v => bndL g.sz vs = true ∧ ∃ a, v = .ref a ∧ g.G a = some (.ins C ns vs)
abbrev RelDs (K : PySem.W.Frag) (g : Gh) : List D → List V → Prop := Paired (RelD K g)
def tabD (q : Str) (P : Nat) : D := .dic [.str q, .int P] []
def codD (q : Str) : D := .dic [.str q] [.non]
def exD (C : Str) (ns : List Str) (ds : List D) : D := .dic [.non] [.ins C ns ds]
def xdD (C : Str) (ns : List Str) (ds : List D) : D := .dic [.bl true] [.ins C ns ds]
def celD (d : D) : D := .dic [.bl false] [d]
def lamD (i b : Int) : D := .dic [.int i, .int b] []
def clsD (i b : Int) (ds : List D) : D := .dic [.int i, .int b, .non] ds
abbrev stillO (o : Obj) (a : Addr) : HO := .frz o (.ext fun h => ∃ o, h.get? a = some o)
def LamR (g : Gh) (H : Hp) (a : Addr) (i b : Int) : Prop := ∃ (lk : LamA) (pm doc : Value) (c : Addr) (ctv dV : Value), theLams i.toNat = some lk ∧ g.G c = some (codD lk.qual) ∧
  H a = some (.ext fun h => h.get? a = some (PySem.W.kdv_obj "<lambda>" lk.qual lk.params (.expr lk.body) lk.scope (cloFrom (lk.cells b.toNat) lk.scope.names []) dV doc pm c ctv)) ∧
  (∀ x y c, (cloFrom (lk.cells b.toNat) lk.scope.names []).lookup x = some c → (cloFrom (lk.cells b.toNat) lk.scope.names []).lookup y = some c → x = y) ∧
  ((lk.params.defaults = [] ∧ dV = .none) ∨ (lk.params.defaults ≠ [] ∧ ∃ td, dV = .ref td ∧ g.G td = some (.tup [.int 0])))
def CelR (g : Gh) (i b : Int) (ds : List D) : Prop := ∃ lk, theLams i.toNat = some lk ∧ ds.length = lk.frees.length ∧ ∀ (j : Nat) (y : Str) (d : D), lk.frees[j]? = some y → ds[j]? = some d → ∃ c, (lk.cells b.toNat).lookup y = some c ∧ g.G c = some (celD d)
def DRep (K : PySem.W.Frag) (g : Gh) (H : Hp) (a : Addr) : List D → List D → Prop
  | [.str q, .int p], [] => a = p.toNat ∧ ∃ ps : Array Value, H a = some (.tbl ps) ∧ TriplesOk ps.toList ∧ ∀ (pos : Pos) (cv : Value), codeAmong pos ps.toList = some cv → ∃ c, cv = .ref c ∧ g.G c = some (codD q)
  | [.str q], [.non] => H a = some (LamX.CodeO a q)
  | [.non], [.ins C ns ds] => ∃ (oe : Obj) (dx : Addr), H a = some (stillO oe a) ∧ oe.cls = .ref (He.ga K C) ∧ oe.dict = some dx ∧ (∃ vs, oe.data = .fields vs) ∧ g.G dx = some (xdD C ns ds)
  | [.bl true], [.ins C ns ds] => ∃ vs, H a = some (.xd (ns.zip vs)) ∧ ns.length = ds.length ∧ RelDs K g ds vs
  | [.bl false], [d] => ∃ (o : Obj) (u : Value) (v : V), H a = some (stillO o a) ∧ o.data = .cell (some u) ∧ RelV v u ∧ RelD K g d v
  | [.int i, .int b], [] => LamR g H a i b
  | [.int i, .int b, .non], ds => LamR g H a i b ∧ CelR g i b ds
  | _, _ => False
def openK : List D → Bool
  | [.bl false] => true
  | [.int _, .int _, .non] => true
  | _ => false
def dicB (n : Nat) (ks vs : List D) : Bool := bndL 0 ks && bndL (if openK ks = true then n else 0) vs
def IRep (K : PySem.W.Frag) (g : Gh) (H : Hp) (a : Addr) : D → Prop
  | .tup ds => ∃ vs, H a = some (.tup vs) ∧ RelDs K g ds vs
  | .lst ds => ∃ vs, H a = some (.lst vs) ∧ RelDs K g ds vs
  | .fz ds => ∃ vs, Rd H a (.lst vs) ∧ RelDs K g ds vs
  | .ins C ns ds => ∃ dx vs, H a = some (.ins (He.ga K C) dx (ns.zip vs)) ∧ ns.length = ds.length ∧ RelDs K g ds vs
  | .dic ks vs => dicB g.sz ks vs = true ∧ DRep K g H a ks vs
  | _ => False
def keyD : Key → D
  | .inl i => .int i
  | .inr x => .str x
def entN (w : World) (x : NestedKey × Addr × Value) : DictEntry := ⟨x.1.hash w, .ref x.2.1, x.2.2⟩
def dknO (w : World) (a : Addr) (xs : List (NestedKey × Addr × Value)) : HO :=
  .ext fun h => (a == sysModules) = false ∧ ∃ o es ep, h.get? a = some o ∧ o.ExactDict ∧ o.data = .dict es ep ∧ es.toList = xs.map (entN w) ∧ (xs.map (·.1)).Nodup
mutual
def nkOf : D → Option NestedKey
  | .non => some .none
  | .bl b => some (.num (if b = true then 1 else 0))
  | .int i => some (.num i)
  | .str x => some (.text x)
  | .tup xs => (nkOfs xs).map .tup
  | _ => none
def nkOfs : List D → Option (List NestedKey)
  | [] => some []
  | x :: r => match nkOf x, nkOfs r with
    | some a, some b => some (a :: b)
    | _, _ => none
end
def MRep (K : PySem.W.Frag) (g : Gh) (H : Hp) (a : Addr) : AO → Prop
  | .lst ds => ∃ vs, H a = some (.lst vs) ∧ RelDs K g ds vs
  | .ins C ns ds => ∃ dx vs, H a = some (.ins (He.ga K C) dx (ns.zip vs)) ∧ ns.length = ds.length ∧ RelDs K g ds vs
  | .dic ks ds => ∃ (kk : List Key) (vs : List V), ks = kk.map keyD ∧ H a = some (.dK (kk.zip vs)) ∧ kk.length = vs.length ∧ RelDs K g ds vs
  | .dkn w ks ds => ∃ (xs : List (NestedKey × Addr × Value)) (vs : List V), H a = some (dknO w a xs) ∧ ks.map nkOf = xs.map (fun x => some x.1) ∧ (∀ x ∈ xs, x.1.depth ≤ 8) ∧ xs.length ≤ sizeLine ∧ RelDs K g ks (xs.map fun x => V.ref x.2.1) ∧ Vals vs (xs.map (·.2.2)) ∧ RelDs K g ds vs
  | .gone => True
structure Rl (K : PySem.W.Frag) (g : Gh) (S : Sto) (H : Hp) : Prop where
  imm : ∀ a d, g.G a = some d → IRep K g H a d
  sto : ∀ (n : Nat) (o : AO), S[n]? = some o → o ≠ .gone → g.G (g.m n) = none ∧ MRep K g H (g.m n) o
  inj : ∀ (i j : Nat) (oi oj : AO), S[i]? = some oi → oi ≠ .gone → S[j]? = some oj → oj ≠ .gone → g.m i = g.m j → i = j
  sz : g.sz = S.length
  fr : ∀ a o, g.F a = some o → H a = some o ∧ g.G a = none ∧ ∀ (n : Nat) (ob : AO), S[n]? = some ob → ob ≠ .gone → g.m n ≠ a
  tab : ∀ t ∈ theTabs K, g.G t.2 = some (tabD t.1 t.2)
def REnv (K : PySem.W.Frag) (g : Gh) (r : Env) (σ : St) : Prop := r.length = σ.length ∧ ∀ (i : Nat) (d : D), r[i]? = some (some d) → ∃ v, σ[i]? = some (some v) ∧ RelD K g d v
inductive R (α : Type) where
  | ok (a : α) (r : Env) (S : Sto)
  | er (x : D) (r : Env) (S : Sto)
  | no
def R.bind {α β : Type} (x : R α) (k : α → Env → Sto → R β) : R β := match x with
  | .ok a r S => k a r S
  | .er x r S => .er x r S
  | .no => .no
def RelX (K : PySem.W.Frag) (g : Gh) (H : Hp) (x : D) (cls : Value) (od : Option Addr) : Prop :=
  ∃ C ns ds dx, x = .ins C ns ds ∧ cls = .ref (He.ga K C) ∧ od = some dx ∧ g.G dx = some (xdD C ns ds)
def PostG {α β : Type} (K : PySem.W.Frag) (W : WX) (rel : Gh → α → β → Prop) (g : Gh) (σ : St) (x : R α) (Q : β → Hp → Prop) : Prop := match x with
  | .ok a r S => ∀ g' H' b, Ext g g' → Rl K g' S H' → REnv K g' r σ → rel g' a b → Q b H'
  | .er x r S => ∀ g' H' cls od, Ext g g' → Rl K g' S H' → REnv K g' r σ → RelX K g' H' x cls od → W cls od σ H'
  | .no => False
section
variable {K : PySem.W.Frag} {W : WX} {g g' : Gh} {σ : St}
def TD {α β : Type} (K : PySem.W.Frag) (W : WX) (rel : Gh → α → β → Prop) (f : Env → Sto → R α) : St → Hp → (β → Hp → Prop) → Prop := fun σ H Q =>
  ∃ g r S, Rl K g S H ∧ REnv K g r σ ∧ PostG K W rel g σ (f r S) Q
end
end L2.U
namespace L2.U
open PySem PySem.Spec PyProof.Rows
section
variable {K : PySem.W.Frag} {g g' : Gh} {H H' : Hp} {S : Sto}
def lstOf (S : Sto) : D → Option (List D)
  | .lst xs => some xs
  | .fz xs => some xs
  | .ref n => (match S[n]? with | some (.lst xs) => some xs | _ => none)
  | _ => none
def lstMOf (S : Sto) : D → Option (List D)
  | .lst xs => some xs
  | .ref n => (match S[n]? with | some (.lst xs) => some xs | _ => none)
  | _ => none
end
def orO (o o' : Sto → D → D → Option D) : Sto → D → D → Option D := fun S x y => match o S x y with
  | some d => some d
  | none => o' S x y
section
variable {K : PySem.W.Frag}
def oInt0 (f : Int → Int → Int) : Sto → D → D → Option D := fun _ x y => match x, y with
  | .int i, .int j => some (.int (f i j))
  | _, _ => none
def oCatS : Sto → D → D → Option D := fun _ x y => match x, y with
  | .str a, .str b => if a.length + b.length ≤ sizeLine then some (.str (a ++ b)) else none
  | _, _ => none
def oCatT : Sto → D → D → Option D := fun _ x y => match x, y with
  | .tup a, .tup b => if a.length + b.length ≤ sizeLine then some (.tup (a ++ b)) else none
  | _, _ => none
def oCatL : Sto → D → D → Option D := fun S x y => match lstMOf S x, lstMOf S y with
  | some a, some b => if a.length + b.length ≤ sizeLine then some (.lst (a ++ b)) else none
  | _, _ => none
def oAdd : Sto → D → D → Option D := orO (oInt0 fun i j => i + j) (orO oCatS (orO oCatT oCatL))
def oSub : Sto → D → D → Option D := oInt0 fun i j => i - j
end
def flatD : D → Option V
  | .non => some .non
  | .bl b => some (.bl b)
  | .int i => some (.int i)
  | .str x => some (.str x)
  | _ => none
mutual
def pyD : D → Option PyData
  | .non => some .none
  | .bl b => some (.bool b)
  | .int i => some (.int i)
  | .str x => some (.str x)
  | .tup xs => (pyDs xs).map .tuple
  | .lst xs => (pyDs xs).map .list
  | .fz xs => (pyDs xs).map .list
  | _ => none
def pyDs : List D → Option (List PyData)
  | [] => some []
  | x :: r => match pyD x, pyDs r with
    | some a, some b => some (a :: b)
    | _, _ => none
end
def pyV (S : Sto) : D → Option PyData
  | .ref n => (match S[n]? with | some (.lst xs) => (pyDs xs).map .list | _ => none)
  | d => pyD d
def eqFB : Sto → D → D → Option Bool := fun _ x y => match flatD x, flatD y with
  | some a, some b => if scal a b = true then some (decide (a = b)) else none
  | _, _ => none
def eqPB : Sto → D → D → Option Bool := fun S x y => match pyV S x, pyV S y with
  | some a, some b => if SeqAt.shaped a = true ∧ SeqAt.shaped b = true then some (PyData.eqv a b) else none
  | _, _ => none
def orB (f f' : Sto → D → D → Option Bool) : Sto → D → D → Option Bool := fun S x y => match f S x y with
  | some d => some d
  | none => f' S x y
def eqB : Sto → D → D → Option Bool := orB eqFB eqPB
def ltB : Sto → D → D → Option Bool := fun _ x y => match x, y with
  | .int i, .int j => some (decide (i < j))
  | .str i, .str j => some (decide (i.cps.toList < j.cps.toList))
  | _, _ => none
def swapB (f : Sto → D → D → Option Bool) : Sto → D → D → Option Bool := fun S x y => f S y x
def notB (f : Sto → D → D → Option Bool) : Sto → D → D → Option Bool := fun S x y => (f S x y).map not
section
variable {X : Cx} {K : PySem.W.Frag}
def seqOf (S : Sto) : D → Option (List D)
  | .tup xs => some xs
  | d => lstOf S d
end
end L2.U
namespace L2.U
open PySem PySem.Spec PyProof.Rows
def fz (N : Nat) (S : Sto) : Nat → D → D
  | 0, d => d
  | k + 1, .tup xs => .tup (xs.map (fz N S k))
  | k + 1, .lst xs => .lst (xs.map (fz N S k))
  | k + 1, .fz xs => .fz (xs.map (fz N S k))
  | k + 1, .dic ks vs => .dic (ks.map (fz N S k)) (vs.map (fz N S k))
  | k + 1, .ins C ns vs => .ins C ns (vs.map (fz N S k))
  | k + 1, .ref n => if n < N then .ref n else match S[n]? with
    | some (.lst xs) => .lst (xs.map (fz N S k))
    | some (.ins C ns vs) => .ins C ns (vs.map (fz N S k))
    | _ => .ref n
  | _ + 1, d => d
def bndO (n : Nat) : AO → Bool
  | .lst xs => bndL n xs
  | .dic ks vs => bndL n ks && bndL n vs
  | .ins _ _ vs => bndL n vs
  | .dkn _ ks vs => bndL n ks && bndL n vs
  | .gone => true
end L2.U
namespace L2.U
open PySem PySem.Spec PyProof.Rows
abbrev EF := Env → Sto → R D
abbrev TF := Env → Sto → R Bool
abbrev AF := Env → Sto → R (List D)
abbrev OF := Env → Sto → R (Option Int)
def eVar (i : Nat) : EF := fun r S => match r[i]? with
  | some (some d) => .ok d r S
  | _ => .no
def eC (d : D) : EF := fun r S => .ok d r S
section
variable {X : Cx} {W : WX} {pos : Pos}
def eBin (o : Sto → D → D → Option D) (fa fb : EF) : EF := fun r S => (fa r S).bind fun x r S => (fb r S).bind fun y r S => match o S x y with
  | some d => .ok d r S
  | none => .no
def eCmp (o : Sto → D → D → Option Bool) (fa fb : EF) : EF := fun r S => (fa r S).bind fun x r S => (fb r S).bind fun y r S => match o S x y with
  | some d => .ok (.bl d) r S
  | none => .no
def tCmp (o : Sto → D → D → Option Bool) (fa fb : EF) : TF := fun r S => (fa r S).bind fun x r S => (fb r S).bind fun y r S => match o S x y with
  | some d => .ok d r S
  | none => .no
variable {a b c : Expr} {fa fb fc : EF}
def eChain (o o' : Sto → D → D → Option Bool) (fa fb fc : EF) : EF := fun r S => (fa r S).bind fun x r S => (fb r S).bind fun y r S => match o S x y with
  | some true => (fc r S).bind fun z r S => (match o' S y z with
    | some d => .ok (.bl d) r S
    | none => .no)
  | some false => .ok (.bl false) r S
  | none => .no
def tChainB (o o' : Sto → D → D → Option Bool) (fa fb fc : EF) : TF := fun r S => (fa r S).bind fun x r S => (fb r S).bind fun y r S => match o S x y with
  | some true => (fc r S).bind fun z r S => (match o' S y z with
    | some d => .ok d r S
    | none => .no)
  | some false => .ok false r S
  | none => .no
def eAnd (fa fb : EF) : EF := fun r S => (fa r S).bind fun x r S => match x with
  | .bl true => fb r S
  | .bl false => .ok (.bl false) r S
  | _ => .no
def eOr (fa fb : EF) : EF := fun r S => (fa r S).bind fun x r S => match x with
  | .bl true => .ok (.bl true) r S
  | .bl false => fb r S
  | _ => .no
def eNot (fa : EF) : EF := fun r S => (fa r S).bind fun x r S => match x with
  | .bl b => .ok (.bl !b) r S
  | _ => .no
def tVal (fa : EF) : TF := fun r S => (fa r S).bind fun x r S => match x with
  | .bl b => .ok b r S
  | _ => .no
def tAndB (ta tb : TF) : TF := fun r S => (ta r S).bind fun x r S => if x = true then tb r S else .ok false r S
def tOrB (ta tb : TF) : TF := fun r S => (ta r S).bind fun x r S => if x = true then .ok true r S else tb r S
def tNotB (ta : TF) : TF := fun r S => (ta r S).bind fun x r S => .ok (!x) r S
def eIf (tc : TF) (fa fb : EF) : EF := fun r S => (tc r S).bind fun x r S => if x = true then fa r S else fb r S
variable {rest : List Expr} {ta tb tc : TF}
def aNil : AF := fun r S => .ok [] r S
def aCons (fa : EF) (fr : AF) : AF := fun r S => (fa r S).bind fun x r S => (fr r S).bind fun xs r S => .ok (x :: xs) r S
variable {es : List Expr} {fs : AF}
def eTup (fs : AF) : EF := fun r S => (fs r S).bind fun xs r S => if xs.length ≤ sizeLine then .ok (.tup xs) r S else .no
def eLst (fs : AF) : EF := fun r S => (fs r S).bind fun xs r S => if xs.length ≤ sizeLine then .ok (.lst xs) r S else .no
def eLstS (fs : AF) : EF := fun r S => (fs r S).bind fun xs r S => if xs.length ≤ sizeLine then .ok (.ref S.length) r (S ++ [.lst xs]) else .no
def oIx : Sto → D → D → Option D := fun S x y => match x, y with
  | .str z, .int i => if z.length ≤ sizeLine then (atI z.cps.toList i).map fun c => .str ⟨#[c]⟩ else none
  | d, .int i => (seqOf S d).bind fun xs => atI xs i
  | _, _ => none
def eIx (fa fb : EF) : EF := eBin oIx fa fb
def oNone : OF := fun r S => .ok none r S
def oSome (fa : EF) : OF := fun r S => (fa r S).bind fun x r S => match x with
  | .int i => .ok (some i) r S
  | _ => .no
def cutD (xs : List D) (lo hi : Option Int) : List D := (xs.drop (HT.sIx xs.length 0 lo)).take (HT.sIx xs.length xs.length hi - HT.sIx xs.length 0 lo)
def sliceD (S : Sto) (d : D) (lo hi : Option Int) : Option D := match d with
  | .str z => if z.length ≤ sizeLine then some (.str (cutS z lo hi)) else none
  | .tup xs => some (.tup (cutD xs lo hi))
  | d => (lstOf S d).map fun xs => .lst (cutD xs lo hi)
def eSl (fa : EF) (fl fh : OF) : EF := fun r S => (fa r S).bind fun x r S => (fl r S).bind fun lo r S => (fh r S).bind fun hi r S => match sliceD S x lo hi with
  | some d => .ok d r S
  | none => .no
variable {lo hi : Option Expr} {fl fh : OF}
end
end L2.U
namespace L2.U
open PySem PySem.Spec PyProof.Rows
inductive Fl where
  | nx | rt (d : D) | bk | ct
abbrev SF := Env → Sto → R Fl
def PostS (K : PySem.W.Frag) (W : WX) (g : Gh) (x : R Fl) (E : Ends) : Prop := match x with
  | .ok .nx r S => ∀ g' H' σ', Ext g g' → Rl K g' S H' → REnv K g' r σ' → E.nx σ' H'
  | .ok (.rt d) r S => ∀ g' H' v, Ext g g' → Rl K g' S H' → RelD K g' d v → E.rt v H'
  | .ok .bk r S => ∀ g' H' σ', Ext g g' → Rl K g' S H' → REnv K g' r σ' → E.bk σ' H'
  | .ok .ct r S => ∀ g' H' σ', Ext g g' → Rl K g' S H' → REnv K g' r σ' → E.ct σ' H'
  | .er x r S => ∀ g' H' σ' cls od, Ext g g' → Rl K g' S H' → REnv K g' r σ' → RelX K g' H' x cls od → W cls od σ' H'
  | .no => False
def sNext : SF := fun r S => .ok .nx r S
def sSeq (f h : SF) : SF := fun r S => (f r S).bind fun a r S => match a with
  | .nx => h r S
  | a => .ok a r S
def sRet (fa : EF) : SF := fun r S => (fa r S).bind fun d r S => .ok (.rt d) r S
def sRetN : SF := fun r S => .ok (.rt .non) r S
def sExpr (fa : EF) : SF := fun r S => (fa r S).bind fun _ r S => .ok .nx r S
def sIf (tc : TF) (f h : SF) : SF := fun r S => (tc r S).bind fun b r S => if b = true then f r S else h r S
def sBrk : SF := fun r S => .ok .bk r S
def sCont : SF := fun r S => .ok .ct r S
section
variable {X : Cx} {W : WX} {pos : Pos} {st : Stmt} {rest : List Stmt} {f h : SF} {a : Expr} {fa : EF}
abbrev Bn := D → Env → Option Env
def sAsg (fa : EF) (b : Bn) : SF := fun r S => (fa r S).bind fun d r S => match b d r with
  | some r' => .ok .nx r' S
  | none => .no
def sPar (i j : Nat) (fs : AF) : SF := fun r S => (fs r S).bind fun ds r S => match ds with
  | [x, y] => .ok .nx ((r.set i (some x)).set j (some y)) S
  | _ => .no
def sAug (i : Nat) (o : Sto → D → D → Option D) (fa : EF) : SF := fun r S => match r[i]? with
  | some (some x) => (fa r S).bind fun y r S => (match o S x y with
    | some d => .ok .nx (r.set i (some d)) S
    | none => .no)
  | _ => .no
def setD (S : Sto) (x y d : D) : Option Sto := match x, y with
  | .ref n, .int i => (match S[n]? with
    | some (.lst xs) => (ixN xs.length i).map fun j => S.set n (.lst (xs.set j d))
    | _ => none)
  | _, _ => none
def sSub (fv fa fi : EF) : SF := fun r S => (fv r S).bind fun d r S => (fa r S).bind fun x r S => (fi r S).bind fun y r S => match setD S x y d with
  | some S' => .ok .nx r S'
  | none => .no
end
end L2.U
namespace L2.U
open PySem PySem.Spec PyProof.Rows
structure ExtW (g g' : Gh) : Prop where
  G : ∀ a d, g.G a = some d → g'.G a = some d
  sz : g.sz ≤ g'.sz
  m : ∀ n, n < g.sz → g'.m n = g.m n
section
variable {X : Cx} {W : WX} {tg e : Expr} {pos : Pos} {fe : EF}
def vlst : D → Option (List D)
  | .lst xs => some xs
  | .fz xs => some xs
  | _ => none
def signsD (z : Str) : List D := z.cps.toList.map fun c => .str ⟨#[c]⟩
def itemsOf : D → Option (List D)
  | .tup xs => some xs
  | .lst xs => some xs
  | .fz xs => some xs
  | .str z => some (signsD z)
  | _ => none
def iSeq (fe : EF) : AF := fun r S => (fe r S).bind fun d r S => match itemsOf d with
  | some xs => .ok xs r S
  | none => .no
def rangeD (lo : Int) (n : Nat) : List D := (List.range n).map fun (i : Nat) => .int (lo + i)
def iRange1 (fs : AF) : AF := fun r S => (fs r S).bind fun ds r S => match ds with
  | [.int j] => if -(2 ^ 62) ≤ j ∧ j < 2 ^ 62 then .ok (rangeD 0 j.toNat) r S else .no
  | _ => .no
def iRange2 (fs : AF) : AF := fun r S => (fs r S).bind fun ds r S => match ds with
  | [.int i, .int j] => if -(2 ^ 62) ≤ i ∧ i < 2 ^ 62 ∧ -(2 ^ 62) ≤ j ∧ j < 2 ^ 62 then .ok (rangeD i (j - i).toNat) r S else .no
  | _ => .no
end
def loopF (b : Bn) (fb : SF) : List D → Env → Sto → R Fl
  | [], r, S => .ok .nx r S
  | x :: xs, r, S => match b x r with
    | some r1 => (fb r1 S).bind fun fl r2 S2 => match fl with
      | .nx => loopF b fb xs r2 S2
      | .ct => loopF b fb xs r2 S2
      | .bk => .ok .nx r2 S2
      | .rt d => .ok (.rt d) r2 S2
    | none => .no
def sFor (fi : AF) (b : Bn) (fb : SF) : SF := fun r S => (fi r S).bind fun xs r S => loopF b fb xs r S
def R.calm {α : Type} (x : R α) : R α := match x with
  | .er _ _ _ => .no
  | x => x
def wipeE (r : Env) : List Nat → Env
  | [] => r
  | v :: vs => (wipeE r vs).set v none
def compF (b : Bn) (tt : TF) (fe : EF) (r : Env) (vs : List Nat) : List D → Sto → R (List D)
  | [], S => .ok [] r S
  | x :: xs, S => match b x (wipeE r vs) with
    | some r1 => (tt r1 S).calm.bind fun c r2 S2 => if c = true then (fe r2 S2).calm.bind fun y _ S3 => (compF b tt fe r vs xs S3).bind fun ys r S => .ok (y :: ys) r S else compF b tt fe r vs xs S2
    | none => .no
def tYesB : TF := fun r S => .ok true r S
def eComp (fi : AF) (b : Bn) (vs : List Nat) (tt : TF) (fe : EF) : EF := fun r S => (fi r S).bind fun xs r S => if xs.length < sizeLine then (compF b tt fe r vs xs S).bind fun ys r S => .ok (.lst ys) r S else .no
end L2.U
namespace L2.U
open PySem PySem.Spec PyProof.Rows
def eCallB (o : Sto → List D → Option D) (fs : AF) : EF := fun r S => (fs r S).bind fun ds r S => match o S ds with
  | some d => .ok d r S
  | none => .no
section
variable {K : PySem.W.Frag} {g : Gh}
def oLen : Sto → List D → Option D := fun S ds => match ds with
  | [.str z] => if z.length ≤ sizeLine then some (.int z.length) else none
  | [d] => (seqOf S d).map fun xs => .int xs.length
  | _ => none
end
def tyNames : List String := ["NoneType", "bool", "int", "str", "tuple", "list", "dict", "type"]
def clsI (K : PySem.W.Frag) (C : Addr) : Bool := PySem.W.plainGet K C Str.empty && (PySem.W.hasDictIn K C && (PySem.W.plainOver K C && (decide (PySem.W.findIn K (.ref C) "__setattr__" = some (some (.builtin "object.__setattr__"))) &&
  (decide (PySem.W.findIn K (.ref C) "__class__" = some (some (.builtin "object.__class__"))) && (decide (PySem.W.specialIn K (.builtin "object.__class__") "__get__" = some (some (.builtin "getset_descriptor.__get__"))) &&
    (decide (PySem.W.takesIn K (.builtin "object.__class__") = some true) && decide (PySem.W.mroIn K C (.type "object") = some true)))))))
def oAbs : Sto → List D → Option D := fun _ ds => match ds with
  | [.int i] => some (.int (if i < 0 then -i else i))
  | _ => none
def oIntOf : Sto → List D → Option D := fun _ ds => match ds with
  | [.int i] => some (.int i)
  | [.bl b] => some (.int (if b then 1 else 0))
  | _ => none
inductive RF where
  | ok (d : D) (S : Sto) | er (x : D) (S : Sto) | no
abbrev MF := List D → Sto → RF
inductive Out where
  | ok (d : D) | er (x : D) | no
def RF.run (r : Env) : RF → R D
  | .ok d S' => .ok d r S'
  | .er x S' => .er x r S'
  | .no => .no
def eCallF (n : Nat) (m : MF) (dds : List D) (fs : AF) : EF := fun r S => (fs r S).bind fun ds r S => if (ds ++ dds).length = n then (m (ds ++ dds) S).run r else .no
section
variable {X : Cx} {W : WX} {pos p : Pos} {x : Str} {a : Expr} {es : List Expr} {fs : AF} {k : Nat} {f : Addr} {fd : FuncData} {ps : List Str} {m : MF} {dds : List D} {dvs : List V} {dus : List Value}
def eCallK (n j : Nat) (c : Nat) (m : MF) (gD : List D → List D → List D) (fs fk : AF) : EF := fun r S => (fs r S).bind fun ds r S => (fk r S).bind fun zs r S =>
  if ds.length = j ∧ zs.length = c ∧ (gD ds zs).length = n then (m (gD ds zs) S).run r else .no
end
end L2.U
namespace L2.U
open PySem PySem.Spec PyProof.Rows He
def fnA (K : PySem.W.Frag) (a : Addr) : FnW := match K.lookup a with
  | some ⟨_, _, .func fd, _⟩ => some (fd.name, fd.qualname, fd.params, fd.body, fd.scope, fd.globals, fd.closure, fd.builtins)
  | _ => none
def behA (K : PySem.W.Frag) (a : Addr) : Addr := match PySem.W.recIn K a "property" with
  | some (.ref g :: _) => g
  | _ => match PySem.W.recIn K a "staticmethod" with
    | some (.ref g :: _) => g
    | _ => 0
def fAp (K : PySem.W.Frag) (p : Str × Option Str) : Addr := behA K (fAd K p)
def okA (K : PySem.W.Frag) (a : Addr) (d : DefD) : Bool := PySem.W.keepIn K (.ref a) && (match K.lookup a with
  | some ⟨_, _, .func fd, _⟩ => PySem.W.codeIn K fd.code d.qual && (dflB K fd.defaults (d.dvs K) && kwdB K fd.kwdefaults (d.kws K))
  | _ => false)
def obsU (ck : PySem.W.Frag → Bool) (fn pn : List DefD) (K : PySem.W.Frag) : AlD := (ck K && (fn.all (fun d => okA K (fAd K d.at_) d) && pn.all fun d => okA K (fAp K d.at_) d), fn.map (fun d => fnA K (fAd K d.at_)) ++ pn.map fun d => fnA K (fAp K d.at_))
def SaysU (ck : PySem.W.Frag → Bool) (fn pn : List DefD) (K : PySem.W.Frag) : Prop := obsU ck fn pn K = valD (fn ++ pn)
def freeB (K : PySem.W.Frag) (xs : List Str) : Bool := xs.all fun x => eqO (PySem.W.nsIn K mainGlobals x) (some none)
def conB (K : PySem.W.Frag) (xs : List (Str × D)) : Bool := xs.all fun q => match PySem.W.nsIn K mainGlobals q.1 with
  | some (some u) => kRep K 40 q.2 u
  | _ => false
def gloB (K : PySem.W.Frag) (xs : List Str) : Bool := xs.all fun x => eqO (PySem.W.nsIn K mainGlobals x) (some (some (.ref (ga K x))))
end L2.U
namespace L2.U
open PySem PySem.Spec PyProof.Rows He
def eUn (o : Sto → D → Option D) (fa : EF) : EF := fun r S => (fa r S).bind fun x r S => match o S x with
  | some d => .ok d r S
  | none => .no
def wp {α : Type} (x : R α) (Q : α → Env → Sto → Prop) (Z : D → Env → Sto → Prop) : Prop := match x with
  | .ok a r S => Q a r S
  | .er d r S => Z d r S
  | .no => False
def wf (x : RF) (Q : D → Sto → Prop) (Z : D → Sto → Prop) : Prop := match x with
  | .ok d S => Q d S
  | .er d S => Z d S
  | .no => False
end L2.U
namespace L2.U
open PySem PySem.Spec PyProof.Rows He
section
variable {Z : D → Env → Sto → Prop} {r : Env} {S : Sto} {fa fb fc : EF} {ta tb : TF} {fs ft : AF}
variable {Q : D → Env → Sto → Prop}
def rd (r : Env) (i : Nat) : Option D := match r[i]? with
  | some (some d) => some d
  | _ => none
def got {α : Type} (o : Option α) (P : α → Prop) : Prop := match o with
  | some d => P d
  | none => False
@[simp] def asB : D → Option Bool
  | .bl b => some b
  | _ => none
@[simp] def asI : D → Option Int
  | .int b => some b
  | _ => none
@[simp] def asTwo : List D → Option (D × D)
  | [x, y] => some (x, y)
  | _ => none
def rng1 : List D → Option (List D)
  | [.int j] => if -(2 ^ 62) ≤ j ∧ j < 2 ^ 62 then some (rangeD 0 j.toNat) else none
  | _ => none
def rng2 : List D → Option (List D)
  | [.int i, .int j] => if -(2 ^ 62) ≤ i ∧ i < 2 ^ 62 ∧ -(2 ^ 62) ≤ j ∧ j < 2 ^ 62 then some (rangeD i (j - i).toNat) else none
  | _ => none
variable {T : Bool → Env → Sto → Prop}
variable {L : Fl → Env → Sto → Prop} {f h : SF}
end
end L2.U
namespace L2.U
open PySem PySem.Spec PyProof.Rows He
def eMeth (t : Sto → D → Bool) (o : Sto → D → List D → Option (D × Sto)) (fo : EF) (fs : AF) : EF := fun r S => (fo r S).bind fun x r S => if t S x = true then (fs r S).bind fun ds r S => match o S x ds with
  | some (d, S') => .ok d r S'
  | none => .no else .no
def strsD : List D → Option (List Str)
  | [] => some []
  | .str x :: r => (strsD r).map (x :: ·)
  | _ :: _ => none
def jNil : Str → Env → Sto → R Str := fun acc r S => .ok acc r S
def jCons (fa : EF) (k : Str → Env → Sto → R Str) : Str → Env → Sto → R Str := fun acc r S => (fa r S).bind fun x r S => match x with
  | .str y => if (acc ++ y).length ≤ sizeLine then k (acc ++ y) r S else .no
  | _ => .no
def eFmt (fa : EF) : EF := fun r S => (fa r S).bind fun x r S => match x with
  | .str y => if y.length ≤ sizeLine then .ok (.str y) r S else .no
  | .int i => if i.natAbs.log2 < 1920 then .ok (.str (toString i)) r S else .no
  | _ => .no
def eJoined (k : Str → Env → Sto → R Str) : EF := fun r S => (k Str.empty r S).bind fun y r S => .ok (.str y) r S
end L2.U
namespace L2.U
open PySem PySem.Spec PyProof.Rows He
def insOf (S : Sto) : D → Option (Str × List Str × List D)
  | .ins C ns vs => some (C, ns, vs)
  | .ref n => (match S[n]? with
    | some (.ins C ns vs) => some (C, ns, vs)
    | _ => none)
  | _ => none
def eFld (cs : List Str) (f : Str) (fo : EF) : EF := fun r S => (fo r S).bind fun x r S => match insOf S x with
  | some (C, ns, ds) => if cs.contains C then (match (ns.zip ds).lookup f with
    | some d => .ok d r S
    | none => .no) else .no
  | none => .no
def setF (f : Str) (d : D) : List Str → List D → List Str × List D
  | n :: ns, x :: xs => if n = f then (n :: ns, d :: xs) else (n :: (setF f d ns xs).1, x :: (setF f d ns xs).2)
  | _, _ => ([f], [d])
def putD (cs : List Str) (f : Str) (S : Sto) (x d : D) : Option Sto := match x with
  | .ref n => (match S[n]? with
    | some (.ins C ns ds) => if cs.contains C && decide (ns.length < 1000) then some (S.set n (.ins C (setF f d ns ds).1 (setF f d ns ds).2)) else none
    | _ => none)
  | _ => none
def sFldS (cs : List Str) (f : Str) (fv fo : EF) : SF := fun r S => (fv r S).bind fun d r S => (fo r S).bind fun x r S => match putD cs f S x d with
  | some S' => .ok .nx r S'
  | none => .no
def eMethC (C m : Str) (n : Nat) (mm : MF) (dds : List D) (fo : EF) (fs : AF) : EF := fun r S => (fo r S).bind fun x r S => match insOf S x with
  | some (C', ns, ds) => if C' = C ∧ (ns.zip ds).lookup m = none then (fs r S).bind fun as r S => if (x :: (as ++ dds)).length = n then (mm (x :: (as ++ dds)) S).run r else .no else .no
  | none => .no
end L2.U
namespace L2.U
open PySem PySem.Spec PyProof.Rows He
def RF.made (r : Env) (n : Nat) : RF → R D
  | .ok .non S' => .ok (.ref n) r S'
  | .er x S' => .er x r S'
  | _ => .no
def eMake (C : Str) (n : Nat) (mm : MF) (dds : List D) (fs : AF) : EF := fun r S => (fs r S).bind fun ds r S => if (.ref S.length :: (ds ++ dds)).length = n then (mm (.ref S.length :: (ds ++ dds)) (S ++ [.ins C [] []])).made r S.length else .no
def eMakeK (C : Str) (n j c : Nat) (mm : MF) (gD : List D → List D → List D) (fs fk : AF) : EF := fun r S => (fs r S).bind fun ds r S => (fk r S).bind fun zs r S =>
  if ds.length = j ∧ zs.length = c ∧ (gD (.ref S.length :: ds) zs).length = n then (mm (gD (.ref S.length :: ds) zs) (S ++ [.ins C [] []])).made r S.length else .no
end L2.U
namespace L2.U
open PySem PySem.Spec PyProof.Rows He
def eSettle (f : EF) : EF := fun r S => match f r S with
  | .ok d _ S1 => if (S1.take S.length).all (bndO S.length) && bnd S.length (fz S.length S1 60 d) then .ok (fz S.length S1 60 d) r (S1.take S.length) else .no
  | .er x r1 S1 => .er x r1 S1
  | .no => .no
end L2.U
namespace L2.U
open PySem PySem.Spec PyProof.Rows He
def RF.asBl (neg : Bool) (r : Env) : RF → R Bool
  | .ok (.bl b) S => .ok (b != neg) r S
  | _ => .no
def RF.asLen (r : Env) : RF → R D
  | .ok (.int i) S => if 0 ≤ i ∧ i < 2 ^ 63 then .ok (.int i) r S else .no
  | _ => .no
def RF.asTxt (r : Env) : RF → R D
  | .ok (.str z) S => .ok (.str z) r S
  | _ => .no
def inCB (C : Str) (mm : MF) (neg : Bool) (o : Sto → D → D → Option Bool) (x y : D) (r : Env) (S : Sto) : R Bool := match o S x y with
  | some b => .ok b r S
  | none => (match insOf S y with
    | some q => if q.1 = C then (mm [y, x] S).asBl neg r else .no
    | none => .no)
def eInC (C : Str) (mm : MF) (neg : Bool) (o : Sto → D → D → Option Bool) (fa fb : EF) : EF := fun r S => (fa r S).bind fun x r S => (fb r S).bind fun y r S => (inCB C mm neg o x y r S).bind fun b r S => .ok (.bl b) r S
def tInC (C : Str) (mm : MF) (neg : Bool) (o : Sto → D → D → Option Bool) (fa fb : EF) : TF := fun r S => (fa r S).bind fun x r S => (fb r S).bind fun y r S => inCB C mm neg o x y r S
def eCall1C (C : Str) (mm : MF) (o : Sto → List D → Option D) (back : Env → RF → R D) (fs : AF) : EF := fun r S => (fs r S).bind fun ds r S => match o S ds with
  | some d => .ok d r S
  | none => (match ds with
    | [x] => (match insOf S x with
      | some q => if q.1 = C then back r (mm [x] S) else .no
      | none => .no)
    | _ => .no)
section
variable {X : Cx} {W : WX} {C : Str} {k : Nat} {ps : List Str} {mm : MF} {a b : Expr} {fa fb : EF} {pos : Pos}
variable {es : List Expr} {fs : AF} {p : Pos}
def oNever : Sto → List D → Option D := fun _ _ => none
end
end L2.U
namespace L2.U
open PySem PySem.Spec PyProof.Rows He
def tyOk (C : Str) (S : Sto) (y : D) : Bool := match y with
  | .non => true | .bl _ => true | .int _ => true | .str _ => true
  | y => match insOf S y with
    | some q => decide (q.1 = C)
    | none => false
def eqCB (C : Str) (mm : MF) (o : Sto → D → D → Option Bool) (x y : D) (r : Env) (S : Sto) : R Bool := match o S x y with
  | some b => .ok b r S
  | none => (match insOf S x with
    | some q => if q.1 = C ∧ tyOk C S y = true then (mm [x, y] S).asBl false r else .no
    | none => .no)
def eEqC (C : Str) (mm : MF) (o : Sto → D → D → Option Bool) (fa fb : EF) : EF := fun r S => (fa r S).bind fun x r S => (fb r S).bind fun y r S => (eqCB C mm o x y r S).bind fun b r S => .ok (.bl b) r S
def tEqC (C : Str) (mm : MF) (o : Sto → D → D → Option Bool) (fa fb : EF) : TF := fun r S => (fa r S).bind fun x r S => (fb r S).bind fun y r S => eqCB C mm o x y r S
end L2.U
namespace L2.U
open PySem PySem.Spec PyProof.Rows He
def faB (K : PySem.W.Frag) (fa : List Fa) : Bool := fa.all fun f => f.ok K
end L2.U
namespace L2.U
open PySem PySem.Spec PyProof.Rows He
def isiB (K : PySem.W.Frag) (cs : List Str) : Bool := cs.all fun C => clsI K (ga K C) && ((tyNames.all fun T => decide (PySem.W.kitOne K (.type T) (.ref (ga K C)) = some false)) && cs.all fun C' => decide (PySem.W.kitOne K (.ref (ga K C')) (.ref (ga K C)) = some (decide (C' = C))))
end L2.U
namespace L2.U
open PySem PySem.Spec PyProof.Rows He
def sCalm (f : SF) : SF := fun r S => (f r S).calm
end L2.U
namespace L2.U
open PySem PySem.Spec PyProof.Rows He
def eCval (C : Str) (d : D) (fa : EF) : EF := fun r S => (fa r S).bind fun x r S => match x with
  | .con c => if c = C then .ok d r S else .no
  | _ => .no
end L2.U
namespace L2.U
open PySem PySem.Spec PyProof.Rows He
def orGot {α : Type} (o : Option α) (P : α → Prop) (q : Prop) : Prop := match o with
  | some d => P d
  | none => q
def fldD (cs : List Str) (f : Str) (S : Sto) (x : D) : Option D := match insOf S x with
  | some (C, ns, ds) => if cs.contains C then (ns.zip ds).lookup f else none
  | none => none
@[simp] def asS : D → Option Str
  | .str z => some z
  | _ => none
@[simp] def asOne : List D → Option D
  | [x] => some x
  | _ => none
def fmtD : D → Option Str
  | .str y => if y.length ≤ sizeLine then some y else none
  | .int i => if i.natAbs.log2 < 1920 then some (toString i) else none
  | _ => none
end L2.U
namespace L2.U
open PySem PySem.Spec PyProof.Rows He
def txt (l : List Nat) : Str := ⟨l.toArray⟩
end L2.U
namespace L2.U
open PySem PySem.Spec PyProof.Rows He
section
variable {X : Cx} {W : WX} {e : Expr} {fs : AF} {p pos tpos : Pos} {elts : List Expr} {kk : Nat}
def enumD (xs : List D) : List D := xs.zipIdx.map fun q => .tup [.int q.2, q.1]
def iEnumU (fs : AF) : AF := fun r S => (fs r S).bind fun ds r S => match ds with
  | [.tup xs] => .ok (enumD xs) r S
  | [d] => (match vlst d with
    | some xs => .ok (enumD xs) r S
    | none => .no)
  | _ => .no
end
end L2.U
namespace L2.U
open PySem PySem.Spec PyProof.Rows He
def goR (C : Str) (j : Nat) (mm : MF) (ds : List D) : Env → Sto → R D := fun r S =>
  if j ≤ ds.length ∧ ds.length ≤ sizeLine then (mm (.ref S.length :: (ds.take j ++ [.tup (ds.drop j)])) (S ++ [.ins C [] []])).made r S.length else .no
def eMakeR (C : Str) (j : Nat) (mm : MF) (fs : AF) : EF := fun r S => (fs r S).bind fun ds r S => goR C j mm ds r S
def eMakeS (C : Str) (j : Nat) (mm : MF) (fe : EF) : EF := fun r S => (fe r S).bind fun x r S => match seqOf S x with
  | some ds => goR C j mm ds r S
  | none => .no
end L2.U
namespace L2.U
open PySem PySem.Spec PyProof.Rows He
def eListS (fs : AF) : EF := fun r S => (fs r S).bind fun ds r S => match (asOne ds).bind (seqOf S) with
  | some xs => .ok (.ref S.length) r (S ++ [.lst xs])
  | none => .no
end L2.U
namespace L2.U
open PySem PySem.Spec PyProof.Rows He
def sPar3 (i j k : Nat) (fs : AF) : SF := fun r S => (fs r S).bind fun ds r S => match ds with
  | [x, y, z] => .ok .nx (((r.set i (some x)).set j (some y)).set k (some z)) S
  | _ => .no
section
variable {X : Cx} {W : WX} {pos : Pos}
variable {Z : D → Env → Sto → Prop} {r : Env} {S : Sto} {fs : AF} {L : Fl → Env → Sto → Prop}
@[simp] def asThree : List D → Option (D × D × D)
  | [x, y, z] => some (x, y, z)
  | _ => none
end
end L2.U
namespace L2.U
open PySem PySem.Spec PyProof.Rows He
def aStar (fe : EF) (fs : AF) : AF := fun r S => (fe r S).bind fun x r S => match seqOf S x with
  | some xs => (fs r S).bind fun ys r S => .ok (xs ++ ys) r S
  | none => .no
def ChT {α : Type} (D : Addr) : List (Str × Value) → Sem α → Sem α → Prop
  | [], t, t' => t = t'
  | q :: l, t, t' => ∃ (β γ : Type) (k1 : Option Value → Sem β) (k2 : β → Sem γ) (k3 : γ → Sem α) (a : β), t = ((nsGet D q.1 >>= k1) >>= k2) >>= k3 ∧ k1 (some q.2) = pure a ∧ ChT D l (k2 a >>= k3) t'
theorem ChT.run {α : Type} {K : PySem.W.Frag} {M : Model} {A : Around} {s : Shared} {D : Addr} {Q : α → Shared → Prop} {E : Value → Shared → Prop} (inK : K.In s.heap) : ∀ {l : List (Str × Value)} {t t' : Sem α}, (∀ q ∈ l, PySem.W.nsIn K D q.1 = some (some q.2)) → ChT D l t t' → wpAny M A t' Q E s → wpAny M A t Q E s
  | [], _, _, _, e, h => by rw [show _ = _ from e]; exact h
  | q :: l, t, t', hl, c, h => by
    obtain ⟨β, γ, k1, k2, k3, a, e1, e2, e3⟩ := c
    have lk : PySem.W.Looks M s.heap (nsGet D q.1 >>= k1) a := (PySem.W.looks_nsIn inK (hl q (List.mem_cons_self ..))).andThen (PySem.W.Looks.of_pure e2)
    rw [e1, bind_assoc]
    exact wpAny_bind (lk.here (ChT.run inK (fun z hz => hl z (List.mem_cons_of_mem _ hz)) e3 h))
def goRK (C : Str) (j n c : Nat) (gD : List D → List D → List D) (mm : MF) (ds zd : List D) : Env → Sto → R D := fun r S =>
  if (j ≤ ds.length ∧ zd.length = c ∧ ds.length ≤ sizeLine) ∧ (gD (.ref S.length :: ds.take j) zd).length + 1 = n then (mm (gD (.ref S.length :: ds.take j) zd ++ [.tup (ds.drop j)]) (S ++ [.ins C [] []])).made r S.length else .no
def eMakeRK (C : Str) (j n c : Nat) (gD : List D → List D → List D) (mm : MF) (fs fk : AF) : EF := fun r S => (fs r S).bind fun ds r S => (fk r S).bind fun zd r S => goRK C j n c gD mm ds zd r S
end L2.U
namespace L2.U
open PySem PySem.Spec PyProof.Rows He
def mIndex : Sto → D → List D → Option (D × Sto) := fun S x ds => match x, ds with
  | .tup xs, [.str z] => (strsD xs).bind fun ys => (ys.findIdx? fun y => decide (y = z)).map fun j => (.int (j : Nat), S)
  | _, _ => none
def eIndexC (d : D) (fs : AF) : EF := fun r S => (fs r S).bind fun ds r S => match mIndex S d ds with
  | some (z, S') => .ok z r S'
  | none => .no
end L2.U
namespace L2.U
open PySem PySem.Spec PyProof.Rows He
def keyOf : D → Option Key
  | .int i => some (.inl i)
  | .str x => some (.inr x)
  | _ => none
def dGet (k : Key) : List D → List D → Option D
  | q :: ks, v :: vs => if keyOf q = some k then some v else dGet k ks vs
  | _, _ => none
def dHas (k : Key) (ks : List D) : Bool := ks.any fun q => decide (keyOf q = some k)
def dPut (k : Key) (d : D) (ks vs : List D) : List D × List D :=
  if dHas k ks = true then (ks, (ks.zip vs).map fun q => if keyOf q.1 = some k then d else q.2) else (ks ++ [keyD k], vs ++ [d])
def oDGet (S : Sto) (x y : D) : Option D := match x with
  | .ref n => (match S[n]? with
    | some (.dic ks vs) => (keyOf y).bind fun k => dGet k ks vs
    | _ => none)
  | _ => none
def oDHas (S : Sto) (y x : D) : Option Bool := match x with
  | .ref n => (match S[n]? with
    | some (.dic ks vs) => (keyOf y).map fun k => (dGet k ks vs).isSome
    | _ => none)
  | _ => none
def oDPut (S : Sto) (x y d : D) : Option Sto := match x with
  | .ref n => (match S[n]? with
    | some (.dic ks vs) => if ks.length < sizeLine then (keyOf y).map fun k => S.set n (.dic (dPut k d ks vs).1 (dPut k d ks vs).2) else none
    | _ => none)
  | _ => none
def eDGet (fo fi : EF) : EF := fun r S => (fo r S).bind fun x r S => (fi r S).bind fun y r S => match oDGet S x y with
  | some d => .ok d r S
  | none => .no
def eDHas (neg : Bool) (fi fo : EF) : EF := fun r S => (fi r S).bind fun y r S => (fo r S).bind fun x r S => match oDHas S y x with
  | some b => .ok (.bl (b != neg)) r S
  | none => .no
def tDHas (neg : Bool) (fi fo : EF) : TF := fun r S => (fi r S).bind fun y r S => (fo r S).bind fun x r S => match oDHas S y x with
  | some b => .ok (b != neg) r S
  | none => .no
def sDPutU (fv fo fi : EF) : SF := fun r S => (fv r S).bind fun d r S => (fo r S).bind fun x r S => (fi r S).bind fun y r S => match oDPut S x y d with
  | some S' => .ok .nx r S'
  | none => .no
end L2.U
namespace L2.U
open PySem PySem.Spec PyProof.Rows He
def dcF (b : Bn) (tt : TF) (fk fv : EF) (r : Env) (vs : List Nat) : List D → List D → List D → Sto → R (List D × List D)
  | [], ks, ws, S => .ok (ks, ws) r S
  | x :: xs, ks, ws, S => match b x (wipeE r vs) with
    | some r1 => (tt r1 S).calm.bind fun c r2 S2 => if c = true then (fk r2 S2).calm.bind fun y r3 S3 => (fv r3 S3).calm.bind fun z _ S4 => match keyOf y with
      | some k => dcF b tt fk fv r vs xs (dPut k z ks ws).1 (dPut k z ks ws).2 S4
      | none => .no else dcF b tt fk fv r vs xs ks ws S2
    | none => .no
def eDcS (fi : AF) (b : Bn) (vs : List Nat) (tt : TF) (fk fv : EF) : EF := fun r S => (fi r S).bind fun xs r S => if xs.length < sizeLine then (dcF b tt fk fv r vs xs [] [] S).bind fun q r S => .ok (.ref S.length) r (S ++ [.dic q.1 q.2]) else .no
end L2.U
namespace L2.U
open PySem PySem.Spec PyProof.Rows He
def oExt (S : Sto) (x y : D) : Option Sto := match x with
  | .ref n => (match S[n]? with
    | some (.lst xs) => (match lstMOf S y with
      | some ys => if xs.length + ys.length ≤ sizeLine then some (S.set n (.lst (xs ++ ys))) else none
      | none => none)
    | _ => none)
  | _ => none
def sAugL (i : Nat) (fa : EF) : SF := fun r S => match r[i]? with
  | some (some x) => (fa r S).bind fun y r S => (match oExt S x y with
    | some S' => .ok .nx (r.set i (some x)) S'
    | none => .no)
  | _ => .no
def eListDS (fs : AF) : EF := fun r S => (fs r S).bind fun ds r S => match ds with
  | [.ref n] => (match S[n]? with
    | some (.dic ks _) => .ok (.ref S.length) r (S ++ [.lst ks])
    | _ => .no)
  | _ => .no
end L2.U
namespace L2.U
open PySem PySem.Spec PyProof.Rows He
def eListTS (fs : AF) : EF := fun r S => (fs r S).bind fun ds r S => match ds with
  | [.str z] => if z.length ≤ sizeLine then .ok (.ref S.length) r (S ++ [.lst (signsD z)]) else .no
  | _ => .no
end L2.U
namespace L2.U
open PySem PySem.Spec PyProof.Rows He
def eProp (C : Str) (mm : MF) (fo : EF) : EF := fun r S => (fo r S).bind fun x r S => match insOf S x with
  | some q => if q.1 = C then (match mm [x] S with
    | .ok d S' => .ok d r S'
    | _ => .no) else .no
  | none => .no
def neCB (C : Str) (mm : MF) (o : Sto → D → D → Option Bool) (x y : D) (r : Env) (S : Sto) : R Bool := match o S x y with
  | some b => .ok b r S
  | none => (match insOf S x with
    | some q => if q.1 = C ∧ tyOk C S y = true then (mm [x, y] S).asBl true r else .no
    | none => .no)
def eNeC (C : Str) (mm : MF) (o : Sto → D → D → Option Bool) (fa fb : EF) : EF := fun r S => (fa r S).bind fun x r S => (fb r S).bind fun y r S => (neCB C mm o x y r S).bind fun b r S => .ok (.bl b) r S
def tNeC (C : Str) (mm : MF) (o : Sto → D → D → Option Bool) (fa fb : EF) : TF := fun r S => (fa r S).bind fun x r S => (fb r S).bind fun y r S => neCB C mm o x y r S
end L2.U
namespace L2.U
open PySem PySem.Spec PyProof.Rows He
def eMethK (C m : Str) (n c : Nat) (mm : MF) (gD : List D → List D → List D) (fo : EF) (fk : AF) : EF := fun r S => (fo r S).bind fun x r S => match insOf S x with
  | some (C', ns, ds) => if C' = C ∧ (ns.zip ds).lookup m = none then (fk r S).bind fun zs r S => if zs.length = c ∧ (gD [x] zs).length = n then (mm (gD [x] zs) S).run r else .no else .no
  | none => .no
end L2.U
namespace L2.U
open PySem PySem.Spec PyProof.Rows He
section
variable {Z : D → Env → Sto → Prop} {r : Env} {S : Sto} {fa fb fc : EF} {ta tb : TF} {fs ft : AF} {Q : D → Env → Sto → Prop} {T : Bool → Env → Sto → Prop} {L : Fl → Env → Sto → Prop} {C m : Str} {mm : MF} {n c : Nat} {o : Sto → D → D → Option Bool} {neg : Bool}
def keysD (S : Sto) : List D → Option (List D)
  | [.ref n] => (match S[n]? with
    | some (.dic ks _) => some ks
    | _ => none)
  | _ => none
def strOne : List D → Option Str
  | [.str z] => if z.length ≤ sizeLine then some z else none
  | _ => none
end
end L2.U
namespace L2.U
open PySem PySem.Spec PyProof.Rows He
def eCatLS (fa fb : EF) : EF := fun r S => (fa r S).bind fun x r S => (fb r S).bind fun y r S => match lstMOf S x, lstMOf S y with
  | some xs, some ys => if xs.length + ys.length ≤ sizeLine then .ok (.ref S.length) r (S ++ [.lst (xs ++ ys)]) else .no
  | _, _ => .no
section
variable {X : Cx} {W : WX} {pos : Pos} {a b : Expr} {fa fb : EF}
variable {Z : D → Env → Sto → Prop} {r : Env} {S : Sto} {Q : D → Env → Sto → Prop}
def lstCat (S : Sto) (x y : D) : Option (List D) := match lstMOf S x, lstMOf S y with
  | some xs, some ys => if xs.length + ys.length ≤ sizeLine then some (xs ++ ys) else none
  | _, _ => none
end
end L2.U
namespace L2.U
open PySem PySem.Spec PyProof.Rows He
def ltT (a b : Str) : Bool := decide (a.cps.toList < b.cps.toList)
def insT (x : Str) : List Str → List Str
  | [] => [x]
  | y :: r => if x = y then y :: r else if ltT x y = true then x :: y :: r else y :: insT x r
def sortT (l : List Str) : List Str := l.foldr insT []
end L2.U
namespace L2.U
open PySem PySem.Spec PyProof.Rows He
def txtsOf (S : Sto) : D → Option (List Str)
  | .str z => some (z.cps.toList.map fun c => ⟨#[c]⟩)
  | d => (lstOf S d).bind strsD
def eSortSet (fa : EF) : EF := fun r S => (fa r S).bind fun x r S => match txtsOf S x with
  | some l => if l.length < 4000 then .ok (.lst ((sortT l).map .str)) r S else .no
  | none => .no
def eSortSetS (fa : EF) : EF := fun r S => (fa r S).bind fun x r S => match txtsOf S x with
  | some l => if l.length < 4000 then .ok (.ref S.length) r (S ++ [.lst ((sortT l).map .str)]) else .no
  | none => .no
end L2.U
namespace L2.U
open PySem PySem.Spec PyProof.Rows He
inductive XBase where
  | ve | le | ie
def XBase.nw : XBase → String
  | .ve => "ValueError.__new__" | .le => "LookupError.__new__" | .ie => "IndexError.__new__"
def XBase.tl : XBase → List Value
  | .ve => ["ValueError", "Exception", "BaseException", "object"].map .type
  | .le => ["LookupError", "Exception", "BaseException", "object"].map .type
  | .ie => ["IndexError", "LookupError", "Exception", "BaseException", "object"].map .type
def XBase.all : List XBase := [.ve, .le, .ie]
def oexB (K : PySem.W.Frag) (C : Addr) : Bool := (match K.lookup C with
  | some ⟨.type "type", _, .cls cd, sl⟩ => (match cd.mro, sl.toList with
    | .ref C' :: bm, [_, _, _, _, some (.builtin n), _] => C' == C && (!cd.hasDel && (cd.hasDict && XBase.all.any fun B => n == B.nw && PySem.W.excTail B.tl bm))
    | _, _ => false)
  | _ => false) && (eqO (PySem.W.findIn K (.ref C) "__setattr__") (some (some (.builtin "object.__setattr__"))) && (decide (PySem.W.subIn K (.ref C) (.type "BaseException") = some true) && (decide (PySem.W.typeIn K (.ref C) = some (.type "type")) && PySem.W.keepIn K (.ref C))))
def xclB (K : PySem.W.Frag) (x : Str × List Str) : Bool := oexB K (ga K x.1) && (xfB K (ga K x.1) && ((("code" : Str) :: x.2).all (fun f => eqO (PySem.W.findIn K (.ref (ga K x.1)) f) (some none)) &&
  (eqO (PySem.W.findIn K (.ref (ga K x.1)) "__init__") (some (some (.ref (fAd K (x.1, some "__init__"))))) && decide (PySem.W.typeIn K (.ref (fAd K (x.1, some "__init__"))) = some (.type "function")))))
def sRaise1 (C f code : Str) (fs : AF) : SF := fun r S => (fs r S).bind fun ds r S => match ds with
  | [d] => if bnd 0 d = true then .er (.ins C ["code", f] [.str code, d]) r S else .no
  | _ => .no
def sRaise0 (C code : Str) : SF := fun r S => .er (.ins C ["code"] [.str code]) r S
end L2.U
namespace L2.U
open PySem PySem.Spec PyProof.Rows He
def sTry (cs : List Str) (i : Nat) (fb fs : SF) : SF := fun r S => match fb r S with
  | .ok a r1 S1 => .ok a r1 S1
  | .er (.ins C ns ds) r1 S1 => if (cs.contains C && bndL 0 ds) = true then (match fs (r1.set i (some (exD C ns ds))) S1 with
    | .ok a r2 S2 => .ok a (r2.set i none) S2
    | _ => .no) else .no
  | _ => .no
end L2.U
namespace L2.U
open PySem PySem.Spec PyProof.Rows He
def eXf (cs : List Str) (f : Str) (fo : EF) : EF := fun r S => (fo r S).bind fun x r S => match x with
  | .dic [.non] [.ins C ns ds] => if cs.contains C = true then (match (ns.zip ds).lookup f with
    | some d => .ok d r S
    | none => .no) else .no
  | _ => .no
def xfLB (K : PySem.W.Frag) (cs : List Str) (f : Str) : Bool := cs.all fun C => xfB K (ga K C) && eqO (PySem.W.findIn K (.ref (ga K C)) f) (some none)
end L2.U
namespace L2.U
open PySem PySem.Spec PyProof.Rows He
def eLam (i b P t : Nat) (q : Str) : EF := fun r S => match r[t]? with
  | some (some (.dic [.str q', .int p] [])) => if q' = q ∧ p = P then .ok (lamD i b) r S else .no
  | _ => .no
end L2.U
namespace L2.U
open PySem PySem.Spec PyProof.Rows He
def keepA (g : Addr → Option Obj) (a : Addr) : Bool := match g a with
  | some o => (match o.cls, o.data with
    | .none, .fields vs => decide (vs.size ≠ 0)
    | _, _ => true)
  | none => true
end L2.U
namespace L2.U
open PySem PySem.Spec PyProof.Rows He
section
variable {α : Type} {fa fb : EF} {fs : AF} {f h : SF} {r : Env} {S : Sto} {Q : D → Env → Sto → Prop} {L : Fl → Env → Sto → Prop} {Z : D → Env → Sto → Prop}
def asX : D → Option (Str × List Str × List D)
  | .ins C ns ds => some (C, ns, ds)
  | _ => none
def asE : D → Option (Str × List Str × List D)
  | .dic [.non] [.ins C ns ds] => some (C, ns, ds)
  | _ => none
def asL : D → Option (Int × List D)
  | .dic [.int i, .int _, .non] ds => some (i, ds)
  | _ => none
def wo (x : Out) (Q : D → Prop) (Z : D → Prop) : Prop := match x with
  | .ok d => Q d
  | .er d => Z d
  | .no => False
end
end L2.U
namespace L2.U
open PySem PySem.Spec PyProof.Rows He
def compF2 (b : Bn) (tt : TF) (fi : AF) (b1 : Bn) (tt1 : TF) (fe : EF) (r : Env) (vs vs1 : List Nat) : List D → Sto → R (List D)
  | [], S => .ok [] r S
  | x :: xs, S => match b x (wipeE r vs) with
    | some r1 => (tt r1 S).calm.bind fun c r2 S2 => if c = true then (fi r2 S2).calm.bind fun xs1 r3 S3 => (compF b1 tt1 fe r3 vs1 xs1 S3).bind fun ys _ S4 => (compF2 b tt fi b1 tt1 fe r vs vs1 xs S4).bind fun zs r S => .ok (ys ++ zs) r S
      else compF2 b tt fi b1 tt1 fe r vs vs1 xs S2
    | none => .no
def eComp2 (fi : AF) (b : Bn) (vs : List Nat) (tt : TF) (fi1 : AF) (b1 : Bn) (vs1 : List Nat) (tt1 : TF) (fe : EF) : EF := fun r S => (fi r S).bind fun xs r S => (compF2 b tt fi1 b1 tt1 fe r vs vs1 xs S).bind fun ys r S => if ys.length ≤ sizeLine then .ok (.lst ys) r S else .no
end L2.U
namespace L2.U
open PySem PySem.Spec PyProof.Rows He
theorem run_split {β : Type} {E : Option PySem.W.SharedT} {A : PySem.W.SharedT → Bool} {B : PySem.W.SharedT → β} {k : PySem.W.SharedT → PySem.W.Frag} {ck : PySem.W.Frag → Bool} {fn pn : List DefD} {b : β}
    (h0 : E.map (fun s => (A s, B s)) = some (true, b)) (h1 : E.map (fun s => ck (k s)) = some true) (h2 : E.map (fun s => fn.all (fun d => okA (k s) (fAd (k s) d.at_) d)) = some true)
    (h3 : E.map (fun s => pn.all (fun d => okA (k s) (fAp (k s) d.at_) d)) = some true)
    (h4 : E.map (fun s => fn.map (fun d => fnA (k s) (fAd (k s) d.at_)) ++ pn.map fun d => fnA (k s) (fAp (k s) d.at_)) = some ((fn ++ pn).map DefD.val)) :
    E.map (fun s => (A s, B s, obsU ck fn pn (k s))) = some (true, b, valD (fn ++ pn)) := by
  cases E with
  | none => cases h0
  | some s =>
    simp only [Option.map_some, Option.some.injEq, Prod.mk.injEq] at h0 h1 h2 h3 h4 ⊢
    refine ⟨h0.1, h0.2, ?_⟩
    show (_, _) = (_, _)
    rw [h1, h2, h3, h4]
    rfl
end L2.U
namespace L2.U
open PySem PySem.Spec PyProof.Rows He
section
variable {X : Cx} {W : WX} {o : Expr} {to : TE} {fo fa : EF} {y z : Str} {j k : Nat} {c0 c1 apos pos : Pos} {r : Env} {S : Sto} {Q Z : D → Env → Sto → Prop}
def eReplC (fa : EF) (y z : Str) : EF := fun r S => (fa r S).bind fun x r S => match x with
  | .str a => if a.length + (a.length + 1) * z.length ≤ 16777216 then .ok (.str (Txt.replace a y z)) r S else .no
  | _ => .no
end
end L2.U
section
open PySem PySem.W PySem.Calls PyProof.Rows PySem.SeqAt MeetsSeq
namespace L2.U
mutual
def cmpB : PyData → PyData → Bool
  | .bool _, .bool _ => true
  | .bool _, .int _ => true
  | .int _, .bool _ => true
  | .int _, .int _ => true
  | .str _, .str _ => true
  | .tuple xs, .tuple ys => cmpAll xs ys
  | _, _ => false
def cmpAll : List PyData → List PyData → Bool
  | x :: xs, y :: ys => if PyData.eqv x y = true then cmpAll xs ys else cmpB x y
  | [], _ => true
  | _ :: _, [] => true
end
end L2.U
end
open PySem PySem.Spec PyProof.Rows He
namespace L2.U
def rowLe (a b : PyData) : Bool := !PySem.W.dataLt b a
def rowHd : PyData → Option PyData
  | .tuple (x :: _) => some x
  | _ => none
def tyN : PyData → Nat
  | .none => 0
  | .bool _ => 1
  | .int _ => 2
  | .str _ => 3
  | .list _ => 4
  | .tuple _ => 5
  | .dict _ => 6
def rowOk (ds : List PyData) (d : PyData) : Bool := d.plain && (decide (d.depth ≤ 60) && ((rowHd d).isSome && ds.all fun d' => cmpB d d' && decide ((rowHd d).map tyN = (rowHd d').map tyN)))
def rowsB (ds : List PyData) : Bool := ds.all (rowOk ds)
end L2.U
namespace L2.U
open PySem PySem.Spec PyProof.Rows He
def asR (b n : Nat) : List Addr := mainGlobals :: cStatics :: List.range' b n
def obsUR (b n : Nat) (ck : PySem.W.Frag → Bool) (fn pn : List DefD) (g : Addr → Option Obj) : AlD := obsU ck fn pn (frG g ((asR b n).filter (keepA g)))
def hookUR (b n : Nat) (ck : PySem.W.Frag → Bool) (fn pn : List DefD) : PySem.W.Hook where
  α := AlD
  obs := fun s => obsUR b n ck fn pn s.heap.get?
  val := fun _ => valD (fn ++ pn)
  says := fun _ h => ∃ K : PySem.W.Frag, K.In h ∧ SaysU ck fn pn K
  of := fun _ _ e => ⟨_, frG_in, e⟩
  keeps := fun _ _ _ ⟨K, hK, c⟩ k => ⟨K, PySem.W.Frag.In.keeps hK k, c⟩
def kfR (b n : Nat) (s : PySem.W.SharedT) : PySem.W.Frag := frG (HandSHeadRun.getT s) ((asR b n).filter (keepA (HandSHeadRun.getT s)))
end L2.U
namespace L2.U
open PySem PySem.Spec PyProof.Rows He
mutual
inductive Nk (K : PySem.W.Frag) (H : Hp) : NestedKey → V → Prop
  | non : Nk K H .none .non
  | bl (b : Bool) : Nk K H (.num (if b = true then 1 else 0)) (.bl b)
  | int (i : Int) : Nk K H (.num i) (.int i)
  | str (x : Str) : Nk K H (.text x) (.str x)
  | tup {a : Addr} {xs : List V} {ks : List NestedKey} : SqT K H a xs → NkAll K H ks xs → Nk K H (.tup ks) (.ref a)
inductive NkAll (K : PySem.W.Frag) (H : Hp) : List NestedKey → List V → Prop
  | nil : NkAll K H [] []
  | cons {k : NestedKey} {v : V} {ks : List NestedKey} {vs : List V} : Nk K H k v → NkAll K H ks vs → NkAll K H (k :: ks) (v :: vs)
end
section
variable {X : Cx} {pins : List (Addr × Obj)} {σ : St} {H : Hp} {s : Shared}
mutual
theorem Nk.is (I : Inv X pins σ H s) : ∀ (k : NestedKey) (v : V) (u : Value), Nk X.K H k v → RelV v u → NestedIs s.heap k u
  | .none, _, _, h, r => by
    cases h
    cases r
    exact .none
  | .num _, _, _, h, r => by
    cases h with
    | bl b => cases r; exact .bool rfl
    | int => obtain ⟨t, rfl⟩ := r; exact .int _ t
  | .text _, _, _, h, r => by
    cases h
    obtain ⟨t, rfl⟩ := r
    exact .text _ t
  | .tup ks, _, _, h, r => by
    cases h with
    | tup hs ha =>
      cases r
      obtain ⟨its, rv, ⟨o, ho, hc, n, hd⟩, _⟩ := I.tuple hs
      exact .tup ho hc hd (by simpa using NkAll.is I ks _ _ ha rv)
theorem NkAll.is (I : Inv X pins σ H s) : ∀ (ks : List NestedKey) (vs : List V) (us : List Value), NkAll X.K H ks vs → Vals vs us → NestedAll s.heap ks us
  | [], _, _, h, r => by
    cases h
    cases r
    exact .nil
  | k :: ks, _, _, h, r => by
    cases h with
    | cons h1 h2 =>
      cases r with
      | cons r1 r2 => exact .cons (Nk.is I k _ _ h1 r1) (NkAll.is I ks _ _ h2 r2)
end
end
def nkT : D → Option NestedKey
  | .tup xs => (match nkOf (.tup xs) with
    | some k => if k.depth ≤ 8 then some k else none
    | none => none)
  | _ => none
end L2.U
namespace L2.U
open PySem PySem.Spec PyProof.Rows He
def addI : D → D → Option D
  | .int i, .int j => some (.int (i + j))
  | _, _ => none
def fldOf (cs : List Str) (f : Str) (S : Sto) (x : D) : Option (Str × D) := match insOf S x with
  | some (C, ns, ds) => if cs.contains C then ((ns.zip ds).lookup f).map fun d => (C, d) else none
  | none => none
def putC (C f : Str) (S : Sto) (x d : D) : Option Sto := match x with
  | .ref n => (match S[n]? with
    | some (.ins C' ns ds) => if C' = C ∧ ns.length < 1000 then some (S.set n (.ins C' (setF f d ns ds).1 (setF f d ns ds).2)) else none
    | _ => none)
  | _ => none
def sFldAdd (cs : List Str) (f : Str) (fo fv : EF) : SF := fun r S => (fo r S).bind fun x r S => match fldOf cs f S x with
  | some q => (fv r S).bind fun y r S => match (addI q.2 y).bind fun z => putC q.1 f S x z with
    | some S' => .ok .nx r S'
    | none => .no
  | none => .no
end L2.U
namespace L2.U
open PySem PySem.Spec PyProof.Rows He
abbrev Bs := D → Env → Sto → Option (Env × Sto)
def sAsgN (fe : EF) (b : Bs) : SF := fun r S => (fe r S).bind fun d r S => match b d r S with
  | some q => .ok .nx q.1 q.2
  | none => .no
end L2.U
namespace L2.U
open PySem PySem.Spec PyProof.Rows He GenW
abbrev isN (P : Program) (w : World) (h : Heap) (k : NestedKey) (b : Addr) : Prop := (nestedKind P w).is h k b
def setEnt (w : World) (p : Addr × NestedKey) : Int × Value := (p.2.hash w, .ref p.1)
structure NSet (P : Program) (w : World) (h : Heap) (a : Addr) (L : List (Addr × NestedKey)) (o : Obj) (es : Array (Int × Value)) (ep : Nat) (t : SetTable) : Prop where
  obj : h.get? a = some o
  exact : o.ExactSet
  data : o.data = .set es ep t
  ents : es.toList = L.map (setEnt w)
  tab : TabOk t (L.map fun p => p.2.hash w)
  diff : (L.map Prod.snd).Nodup
  keys : ∀ p ∈ L, isN P w h p.2 p.1
  led : w.params.followText "set-order" = true ∨ t.led = true
end L2.U
namespace L2.U
open PySem PySem.Spec PyProof.Rows He GenW
def addF {α K : Type} [DecidableEq K] (L : List (α × K)) (p : α × K) : List (α × K) := if p.2 ∈ L.map Prod.snd then L else L ++ [p]
def firsts {α K : Type} [DecidableEq K] (l : List (α × K)) : List (α × K) := l.foldl addF []
end L2.U
namespace L2.U
open PySem PySem.Spec PyProof.Rows He GenW
def nkTs : List D → Option (List NestedKey)
  | [] => some []
  | x :: r => match nkT x, nkTs r with
    | some a, some b => some (a :: b)
    | _, _ => none
def setRows (xs : List D) : Option (List D) := (nkTs xs).bind fun ks => (pyDs xs).bind fun ps =>
  if rowsB ps = true ∧ xs.length < 64 ∧ ((firsts ((xs.zip ps).zip ks)).map fun t => PySem.W.keyToks t.1.2).Nodup then
    some (((firsts ((xs.zip ps).zip ks)).mergeSort fun a b => rowLe a.1.2 b.1.2).map fun t => t.1.1) else none
def eSortSetN (fa : EF) : EF := fun r S => (fa r S).bind fun x r S => match (lstOf S x).bind setRows with
  | some l => .ok (.lst l) r S
  | none => .no
def eSortSetNS (fa : EF) : EF := fun r S => (fa r S).bind fun x r S => match (lstOf S x).bind setRows with
  | some l => .ok (.ref S.length) r (S ++ [.lst l])
  | none => .no
end L2.U
namespace L2.U
open PySem PySem.Spec PyProof.Rows He
inductive Tg where
  | ty (n : String) | con (C : Str)
  deriving DecidableEq
def tgV (K : PySem.W.Frag) : Tg → Value
  | .ty n => .type n
  | .con C => .ref (ga K C)
def isxB (K : PySem.W.Frag) (tab : List (Str × List Tg)) (tg : List Tg) : Bool :=
  decide (PySem.W.specialIn K (.builtin "object.__class__") "__get__" = some (some (.builtin "getset_descriptor.__get__"))) && (decide (PySem.W.takesIn K (.builtin "object.__class__") = some true) &&
    tab.all fun q => (PySem.W.clsIn K (ga K q.1)).isSome && (xfB K (ga K q.1) && (decide (PySem.W.findIn K (.ref (ga K q.1)) "__class__" = some (some (.builtin "object.__class__"))) && (decide (PySem.W.mroIn K (ga K q.1) (.type "object") = some true) &&
      tg.all fun t => PySem.W.kitOne K (.ref (ga K q.1)) (tgV K t) == some (q.2.contains t)))))
end L2.U
namespace L2.U.K68
open PySem PySem.Spec PyProof.Rows He
def top (i : Nat) : Stmt := PySem.Challenge.pw_untilnone_k68_errors_and_their_bases.main.body.getD i (.Pass ⟨0, 0, 0, 0⟩)
abbrev s_law_bag : Stmt := (top 29)
abbrev s_law_draw : Stmt := (top 30)
abbrev s_law_pick : Stmt := (top 31)
abbrev s_law_same : Stmt := (top 32)
abbrev s_law_field : Stmt := (top 33)
abbrev s_law_caught : Stmt := (top 34)
abbrev s_law_kinds : Stmt := (top 35)
abbrev s_law_all_errors : Stmt := (top 36)
abbrev s_law : Stmt := (top 37)
abbrev s_invalidstate_init : Stmt := (inClass (top 2) 0)
abbrev s_invalidkey_init : Stmt := (inClass (top 3) 0)
abbrev s_takenkey_init : Stmt := (inClass (top 4) 0)
abbrev s_invalidtable_init : Stmt := (inClass (top 5) 0)
abbrev s_invalidact_init : Stmt := (inClass (top 6) 0)
abbrev s_invalidjob_init : Stmt := (inClass (top 7) 0)
abbrev s_invalidrules_init : Stmt := (inClass (top 8) 0)
abbrev s_misfit_init : Stmt := (inClass (top 9) 0)
abbrev s_invalidnumber_init : Stmt := (inClass (top 10) 0)
abbrev s_invalidtext_init : Stmt := (inClass (top 11) 0)
abbrev s_invalidwish_init : Stmt := (inClass (top 12) 0)
abbrev s_invalidedit_init : Stmt := (inClass (top 13) 0)
abbrev s_invalidstory_init : Stmt := (inClass (top 14) 0)
abbrev s_invalidstanding_init : Stmt := (inClass (top 15) 0)
abbrev s_invalidevent_init : Stmt := (inClass (top 16) 0)
abbrev s_invalidlimit_init : Stmt := (inClass (top 17) 0)
abbrev s_invalidpage_init : Stmt := (inClass (top 18) 0)
abbrev s_wrongstate_init : Stmt := (inClass (top 19) 0)
abbrev s_notready_init : Stmt := (inClass (top 20) 0)
abbrev s_notworking_init : Stmt := (inClass (top 21) 0)
abbrev s_ended_init : Stmt := (inClass (top 22) 0)
abbrev s_toomany_init : Stmt := (inClass (top 23) 0)
abbrev s_full_init : Stmt := (inClass (top 24) 0)
abbrev s_norow_init : Stmt := (inClass (top 26) 0)
abbrev s_nothingleft_init : Stmt := (inClass (top 27) 0)
abbrev isiL : List Str := []
abbrev xcs : List Str := ["InvalidState", "InvalidKey", "TakenKey", "InvalidTable", "InvalidAct", "InvalidJob", "InvalidRules", "Misfit", "InvalidNumber", "InvalidText", "InvalidWish", "InvalidEdit", "InvalidStory", "InvalidStanding", "InvalidEvent", "InvalidLimit", "InvalidPage", "WrongState", "NotReady", "NotWorking", "Ended", "TooMany", "Full", "NoRow", "NothingLeft"]
def xisG : List Tg := [.con "RunError", .ty "ValueError", .con "Missing", .ty "LookupError", .con "NothingLeft", .ty "IndexError", .con "InvalidState", .con "InvalidKey", .con "TakenKey", .con "InvalidTable", .con "InvalidAct", .con "InvalidJob", .con "InvalidRules", .con "Misfit", .con "InvalidNumber", .con "InvalidText", .con "InvalidWish", .con "InvalidEdit", .con "InvalidStory", .con "InvalidStanding", .con "InvalidEvent", .con "InvalidLimit", .con "InvalidPage", .con "WrongState", .con "NotReady", .con "NotWorking", .con "Ended", .con "TooMany", .con "Full", .con "NoRow"]
def xisT : List (Str × List Tg) := [("InvalidState", [.con "RunError", .ty "ValueError", .con "InvalidState"]), ("InvalidKey", [.con "RunError", .ty "ValueError", .con "InvalidKey"]), ("TakenKey", [.con "RunError", .ty "ValueError", .con "TakenKey"]), ("InvalidTable", [.con "RunError", .ty "ValueError", .con "InvalidTable"]), ("InvalidAct", [.con "RunError", .ty "ValueError", .con "InvalidAct"]), ("InvalidJob", [.con "RunError", .ty "ValueError", .con "InvalidJob"]), ("InvalidRules", [.con "RunError", .ty "ValueError", .con "InvalidRules"]), ("Misfit", [.con "RunError", .ty "ValueError", .con "Misfit"]), ("InvalidNumber", [.con "RunError", .ty "ValueError", .con "InvalidNumber"]), ("InvalidText", [.con "RunError", .ty "ValueError", .con "InvalidText"]), ("InvalidWish", [.con "RunError", .ty "ValueError", .con "InvalidWish"]), ("InvalidEdit", [.con "RunError", .ty "ValueError", .con "InvalidEdit"]), ("InvalidStory", [.con "RunError", .ty "ValueError", .con "InvalidStory"]), ("InvalidStanding", [.con "RunError", .ty "ValueError", .con "InvalidStanding"]), ("InvalidEvent", [.con "RunError", .ty "ValueError", .con "InvalidEvent"]), ("InvalidLimit", [.con "RunError", .ty "ValueError", .con "InvalidLimit"]), ("InvalidPage", [.con "RunError", .ty "ValueError", .con "InvalidPage"]), ("WrongState", [.con "RunError", .ty "ValueError", .con "WrongState"]), ("NotReady", [.con "RunError", .ty "ValueError", .con "NotReady"]), ("NotWorking", [.con "RunError", .ty "ValueError", .con "NotWorking"]), ("Ended", [.con "RunError", .ty "ValueError", .con "Ended"]), ("TooMany", [.con "RunError", .ty "ValueError", .con "TooMany"]), ("Full", [.con "RunError", .ty "ValueError", .con "Full"]), ("NoRow", [.con "Missing", .ty "LookupError", .con "NoRow"]), ("NothingLeft", [.ty "LookupError", .con "NothingLeft", .ty "IndexError"])]
def freeL : List Str := ["IndexError", "LookupError", "ValueError", "abs", "all", "bool", "int", "isinstance", "len", "list", "range", "str", "tuple"]
def conL : List (Str × D) := ([("Ended", (.con "Ended")), ("Full", (.con "Full")), ("InvalidAct", (.con "InvalidAct")), ("InvalidEdit", (.con "InvalidEdit")), ("InvalidEvent", (.con "InvalidEvent")), ("InvalidJob", (.con "InvalidJob")), ("InvalidKey", (.con "InvalidKey")), ("InvalidLimit", (.con "InvalidLimit")), ("InvalidNumber", (.con "InvalidNumber")), ("InvalidPage", (.con "InvalidPage")), ("InvalidRules", (.con "InvalidRules")), ("InvalidStanding", (.con "InvalidStanding")), ("InvalidState", (.con "InvalidState")), ("InvalidStory", (.con "InvalidStory")), ("InvalidTable", (.con "InvalidTable")), ("InvalidText", (.con "InvalidText")), ("InvalidWish", (.con "InvalidWish")), ("Misfit", (.con "Misfit")), ("Missing", (.con "Missing")), ("NoRow", (.con "NoRow")), ("NotReady", (.con "NotReady")), ("NotWorking", (.con "NotWorking")), ("NothingLeft", (.con "NothingLeft")), ("RunError", (.con "RunError")), ("TakenKey", (.con "TakenKey")), ("TooMany", (.con "TooMany")), ("WrongState", (.con "WrongState"))] : List (Str × D))
def gloL : List Str := ("_law_bag") :: ("_law_draw") :: ("_law_pick") :: ("_law_same") :: ("_law_field") :: ("_law_caught") :: ("_law_kinds") :: ("_law_all_errors") :: ("law") :: ("Ended") :: ("Full") :: ("InvalidAct") :: ("InvalidEdit") :: ("InvalidEvent") :: ("InvalidJob") :: ("InvalidKey") :: ("InvalidLimit") :: ("InvalidNumber") :: ("InvalidPage") :: ("InvalidRules") :: ("InvalidStanding") :: ("InvalidState") :: ("InvalidStory") :: ("InvalidTable") :: ("InvalidText") :: ("InvalidWish") :: ("Misfit") :: ("NoRow") :: ("NotReady") :: ("NotWorking") :: ("NothingLeft") :: ("TakenKey") :: ("TooMany") :: ("WrongState") :: []
def faL : List Fa := []
def nbB (K : PySem.W.Frag) : Bool := xclB K ("InvalidState", ["given"]) && (xclB K ("InvalidKey", ["given"]) && (xclB K ("TakenKey", ["given"]) && (xclB K ("InvalidTable", []) && (xclB K ("InvalidAct", ["given"]) && (xclB K ("InvalidJob", []) && (xclB K ("InvalidRules", ["at"]) && (xclB K ("Misfit", ["letter"]) && (xclB K ("InvalidNumber", ["given"]) && (xclB K ("InvalidText", []) && (xclB K ("InvalidWish", ["given"]) && (xclB K ("InvalidEdit", ["given"]) && (xclB K ("InvalidStory", ["at"]) && (xclB K ("InvalidStanding", ["given"]) && (xclB K ("InvalidEvent", ["at"]) && (xclB K ("InvalidLimit", ["given"]) && (xclB K ("InvalidPage", ["line"]) && (xclB K ("WrongState", ["row"]) && (xclB K ("NotReady", []) && (xclB K ("NotWorking", []) && (xclB K ("Ended", []) && (xclB K ("TooMany", ["most"]) && (xclB K ("Full", ["most"]) && (xclB K ("NoRow", ["row"]) && (xclB K ("NothingLeft", []) && (isxB K xisT xisG && (xfLB K xcs "at" && (xfLB K xcs "code" && (xfLB K xcs "given" && (xfLB K xcs "letter" && (xfLB K xcs "line" && (xfLB K xcs "most" && (xfLB K xcs "row"))))))))))))))))))))))))))))))))
def d_law_bag : DefD := ⟨("_law_bag", none), "_law_bag", "_law_bag", defArgs s_law_bag, defBody s_law_bag, defScope s_law_bag, [], []⟩
def d_law_draw : DefD := ⟨("_law_draw", none), "_law_draw", "_law_draw", defArgs s_law_draw, defBody s_law_draw, defScope s_law_draw, [], []⟩
def d_law_pick : DefD := ⟨("_law_pick", none), "_law_pick", "_law_pick", defArgs s_law_pick, defBody s_law_pick, defScope s_law_pick, [], []⟩
def d_law_same : DefD := ⟨("_law_same", none), "_law_same", "_law_same", defArgs s_law_same, defBody s_law_same, defScope s_law_same, [], []⟩
def d_law_field : DefD := ⟨("_law_field", none), "_law_field", "_law_field", defArgs s_law_field, defBody s_law_field, defScope s_law_field, [], []⟩
def d_law_caught : DefD := ⟨("_law_caught", none), "_law_caught", "_law_caught", defArgs s_law_caught, defBody s_law_caught, defScope s_law_caught, [], []⟩
def d_law_kinds : DefD := ⟨("_law_kinds", none), "_law_kinds", "_law_kinds", defArgs s_law_kinds, defBody s_law_kinds, defScope s_law_kinds, [], []⟩
def d_law_all_errors : DefD := ⟨("_law_all_errors", none), "_law_all_errors", "_law_all_errors", defArgs s_law_all_errors, defBody s_law_all_errors, defScope s_law_all_errors, [], []⟩
def d_law : DefD := ⟨("law", none), "law", "law", defArgs s_law, defBody s_law, defScope s_law, [], []⟩
def d_invalidstate_init : DefD := ⟨("InvalidState", some "__init__"), "__init__", "InvalidState.__init__", defArgs s_invalidstate_init, defBody s_invalidstate_init, defScope s_invalidstate_init, [], []⟩
def d_invalidkey_init : DefD := ⟨("InvalidKey", some "__init__"), "__init__", "InvalidKey.__init__", defArgs s_invalidkey_init, defBody s_invalidkey_init, defScope s_invalidkey_init, [], []⟩
def d_takenkey_init : DefD := ⟨("TakenKey", some "__init__"), "__init__", "TakenKey.__init__", defArgs s_takenkey_init, defBody s_takenkey_init, defScope s_takenkey_init, [], []⟩
def d_invalidtable_init : DefD := ⟨("InvalidTable", some "__init__"), "__init__", "InvalidTable.__init__", defArgs s_invalidtable_init, defBody s_invalidtable_init, defScope s_invalidtable_init, [], []⟩
def d_invalidact_init : DefD := ⟨("InvalidAct", some "__init__"), "__init__", "InvalidAct.__init__", defArgs s_invalidact_init, defBody s_invalidact_init, defScope s_invalidact_init, [], []⟩
def d_invalidjob_init : DefD := ⟨("InvalidJob", some "__init__"), "__init__", "InvalidJob.__init__", defArgs s_invalidjob_init, defBody s_invalidjob_init, defScope s_invalidjob_init, [], []⟩
def d_invalidrules_init : DefD := ⟨("InvalidRules", some "__init__"), "__init__", "InvalidRules.__init__", defArgs s_invalidrules_init, defBody s_invalidrules_init, defScope s_invalidrules_init, [], []⟩
def d_misfit_init : DefD := ⟨("Misfit", some "__init__"), "__init__", "Misfit.__init__", defArgs s_misfit_init, defBody s_misfit_init, defScope s_misfit_init, [], []⟩
def d_invalidnumber_init : DefD := ⟨("InvalidNumber", some "__init__"), "__init__", "InvalidNumber.__init__", defArgs s_invalidnumber_init, defBody s_invalidnumber_init, defScope s_invalidnumber_init, [], []⟩
def d_invalidtext_init : DefD := ⟨("InvalidText", some "__init__"), "__init__", "InvalidText.__init__", defArgs s_invalidtext_init, defBody s_invalidtext_init, defScope s_invalidtext_init, [], []⟩
def d_invalidwish_init : DefD := ⟨("InvalidWish", some "__init__"), "__init__", "InvalidWish.__init__", defArgs s_invalidwish_init, defBody s_invalidwish_init, defScope s_invalidwish_init, [], []⟩
def d_invalidedit_init : DefD := ⟨("InvalidEdit", some "__init__"), "__init__", "InvalidEdit.__init__", defArgs s_invalidedit_init, defBody s_invalidedit_init, defScope s_invalidedit_init, [], []⟩
def d_invalidstory_init : DefD := ⟨("InvalidStory", some "__init__"), "__init__", "InvalidStory.__init__", defArgs s_invalidstory_init, defBody s_invalidstory_init, defScope s_invalidstory_init, [], []⟩
def d_invalidstanding_init : DefD := ⟨("InvalidStanding", some "__init__"), "__init__", "InvalidStanding.__init__", defArgs s_invalidstanding_init, defBody s_invalidstanding_init, defScope s_invalidstanding_init, [], []⟩
def d_invalidevent_init : DefD := ⟨("InvalidEvent", some "__init__"), "__init__", "InvalidEvent.__init__", defArgs s_invalidevent_init, defBody s_invalidevent_init, defScope s_invalidevent_init, [], []⟩
def d_invalidlimit_init : DefD := ⟨("InvalidLimit", some "__init__"), "__init__", "InvalidLimit.__init__", defArgs s_invalidlimit_init, defBody s_invalidlimit_init, defScope s_invalidlimit_init, [], []⟩
def d_invalidpage_init : DefD := ⟨("InvalidPage", some "__init__"), "__init__", "InvalidPage.__init__", defArgs s_invalidpage_init, defBody s_invalidpage_init, defScope s_invalidpage_init, [], []⟩
def d_wrongstate_init : DefD := ⟨("WrongState", some "__init__"), "__init__", "WrongState.__init__", defArgs s_wrongstate_init, defBody s_wrongstate_init, defScope s_wrongstate_init, [], []⟩
def d_notready_init : DefD := ⟨("NotReady", some "__init__"), "__init__", "NotReady.__init__", defArgs s_notready_init, defBody s_notready_init, defScope s_notready_init, [], []⟩
def d_notworking_init : DefD := ⟨("NotWorking", some "__init__"), "__init__", "NotWorking.__init__", defArgs s_notworking_init, defBody s_notworking_init, defScope s_notworking_init, [], []⟩
def d_ended_init : DefD := ⟨("Ended", some "__init__"), "__init__", "Ended.__init__", defArgs s_ended_init, defBody s_ended_init, defScope s_ended_init, [], []⟩
def d_toomany_init : DefD := ⟨("TooMany", some "__init__"), "__init__", "TooMany.__init__", defArgs s_toomany_init, defBody s_toomany_init, defScope s_toomany_init, [], []⟩
def d_full_init : DefD := ⟨("Full", some "__init__"), "__init__", "Full.__init__", defArgs s_full_init, defBody s_full_init, defScope s_full_init, [], []⟩
def d_norow_init : DefD := ⟨("NoRow", some "__init__"), "__init__", "NoRow.__init__", defArgs s_norow_init, defBody s_norow_init, defScope s_norow_init, [], []⟩
def d_nothingleft_init : DefD := ⟨("NothingLeft", some "__init__"), "__init__", "NothingLeft.__init__", defArgs s_nothingleft_init, defBody s_nothingleft_init, defScope s_nothingleft_init, [], []⟩
def fnL : List DefD := (d_law_bag) :: (d_law_draw) :: (d_law_pick) :: (d_law_same) :: (d_law_field) :: (d_law_caught) :: (d_law_kinds) :: (d_law_all_errors) :: (d_law) :: (d_invalidstate_init) :: (d_invalidkey_init) :: (d_takenkey_init) :: (d_invalidtable_init) :: (d_invalidact_init) :: (d_invalidjob_init) :: (d_invalidrules_init) :: (d_misfit_init) :: (d_invalidnumber_init) :: (d_invalidtext_init) :: (d_invalidwish_init) :: (d_invalidedit_init) :: (d_invalidstory_init) :: (d_invalidstanding_init) :: (d_invalidevent_init) :: (d_invalidlimit_init) :: (d_invalidpage_init) :: (d_wrongstate_init) :: (d_notready_init) :: (d_notworking_init) :: (d_ended_init) :: (d_toomany_init) :: (d_full_init) :: (d_norow_init) :: (d_nothingleft_init) :: []
def pnL : List DefD := []
def chk (K : PySem.W.Frag) : Bool := freeB K freeL && (conB K conL && (gloB K gloL && (faB K faL && (isiB K isiL && nbB K))))
abbrev Rw : PySem.W.OpenRow := PySem.W.OpenLaw.row PySem.Challenge.rw_untilnone_k68_errors_and_their_bases
abbrev hk : PySem.W.Hook := hookUR 0 1200 chk fnL pnL
def ob (s : PySem.W.SharedT) : AlD := obsUR 0 1200 chk fnL pnL (HandSHeadRun.getT s)
abbrev loose : List Str := (["RunError", "InvalidState", "InvalidKey", "TakenKey", "InvalidTable", "InvalidAct", "InvalidJob", "InvalidRules", "Misfit", "InvalidNumber", "InvalidText", "InvalidWish", "InvalidEdit", "InvalidStory", "InvalidStanding", "InvalidEvent", "InvalidLimit", "InvalidPage", "WrongState", "NotReady", "NotWorking", "Ended", "TooMany", "Full", "Missing", "NoRow", "NothingLeft", "_law_bag", "_law_draw", "_law_pick"] : List Str) ++ (["_law_same", "_law_field", "_law_caught", "_law_kinds", "_law_all_errors"] : List Str)
open HandSHeadRun PySem.W in
noncomputable abbrev endS (w : World) (os : OsState) : Option SharedT := endF (stepQ (denQ tabQ) Rw.prog w) 15000 Rw.prog w os
open HandSHeadRun PySem.W in
theorem run0 (w : World) (os : OsState) : (endS w os).map (fun s => (looksF Rw.prog (boot_heap w.params) s.abs, seenQ (view Rw.prog [37]) loose (importedModules Rw.prog.main.body) (fun s => xlAt (view Rw.prog [37]) [] s && recOk Rw.toRowW.records s) s.abs)) = some (true, openGood (view Rw.prog [37]) loose) := by
  kernel_rfl
theorem run1 (w : World) (os : OsState) : (endS w os).map (fun s => chk (kfR 0 1200 s)) = some true := by
  kernel_rfl
theorem run2 (w : World) (os : OsState) : (endS w os).map (fun s => fnL.all (fun d => okA (kfR 0 1200 s) (fAd (kfR 0 1200 s) d.at_) d)) = some true := by
  kernel_rfl
theorem run3 (w : World) (os : OsState) : (endS w os).map (fun s => pnL.all (fun d => okA (kfR 0 1200 s) (fAp (kfR 0 1200 s) d.at_) d)) = some true := by
  kernel_rfl
theorem run4 (w : World) (os : OsState) : (endS w os).map (fun s => fnL.map (fun d => fnA (kfR 0 1200 s) (fAd (kfR 0 1200 s) d.at_)) ++ pnL.map fun d => fnA (kfR 0 1200 s) (fAp (kfR 0 1200 s) d.at_)) = some ((fnL ++ pnL).map DefD.val) := by
  kernel_rfl
theorem run (w : World) : HandSHeadRun.RunEq Rw (PySem.W.view Rw.prog [37]) hk ob 15000 loose w := by
  intro os
  exact run_split (k := kfR 0 1200) (run0 w os) (run1 w os) (run2 w os) (run3 w os) (run4 w os)
end L2.U.K68
set_option Elab.async false
set_option linter.all false
set_option maxRecDepth 100000
set_option maxHeartbeats 4000000
namespace L2.U
open PySem PySem.Spec PyProof.Rows




open PySem PySem.Spec PyProof.Rows

def hotX (K : PySem.W.Frag) (E : XK) : XK := fun cls d H => hotV K cls ∧ E cls d H


def CXU (K : PySem.W.Frag) (P : Program) (w : World) : CXT := fun outer H s E u s' => L2N.CX P w outer H s E u s' ∨ L2.CX P w outer H s (hotX K E) u s'
theorem Tk.imp {X : Cx} {W W' : WX} (t : Tk X W) (h : ∀ c d σ H, W' c d σ H → W c d σ H) : Tk X W' := ⟨t.1.imp h, t.2.imp fun _ _ _ _ z => ⟨z.1, h _ _ _ _ z.2⟩⟩
theorem tk0 {X : Cx} : Tk X (fun _ _ _ _ => False) := ⟨fun _ _ ⟨_, _, _, _, _, _, _, _, _, _, _, _, _, _, _, _, z⟩ => z.elim, fun _ _ ⟨_, _, _, _, _, _, _, _, _, _, _, _, _, _, _, _, z⟩ => z.2.elim⟩
theorem tk_of {X : Cx} {E : XK} (hs : X.stack = X.env :: X.outer) (hf : X.env.frame = some X.env.locals) (hex : X.ex = []) {E₁ : Value → Shared → Prop}
    (hx : X.xe = fun e s' => wpAny (model X.prog X.w) X.A (leaving X.env e) (fun _ s'' => CXU X.K X.prog X.w X.outer X.H_0 X.s_0 E e s'') E₁ s') : Tk X (fun cls d _ H => E cls d H) := by
  refine ⟨fun u s' x => ?_, fun u s' x => ?_⟩ <;> rw [hx]
  · exact wpAny_mono (L2N.XE.leave (E := E) hs hf hex (fun _ _ _ _ h => h) x) (fun _ _ z => .inl z) fun _ _ z => z
  · exact wpAny_mono (L2.XE.leave (E := hotX X.K E) hs hf hex (fun _ _ _ _ h => h) x) (fun _ _ z => .inr z) fun _ _ z => z
theorem passAtU {X : Cx} {W : WX} (tk : Tk X W) (σ : St) : PassesAt (CXU X.K X.prog X.w) X σ (WE W σ) := fun pins H s e s' I c => c.elim (L2N.passAt tk.1 σ pins H s e s' I) (L2.passAt tk.2 σ pins H s e s' I)
theorem cxU_no {K : PySem.W.Frag} {P : Program} {w : World} {outer : List PySem.Env} {H : Hp} {s : Shared} {e : Value} {s' : Shared} (h : CXU K P w outer H s (fun _ _ _ => False) e s') : False := by
  rcases h with ⟨_, _, _, _, _, _, _, _, _, _, _, _, z⟩ | ⟨_, _, _, _, _, _, _, _, _, _, _, _, z⟩
  · exact z
  · exact z.2








theorem Ext.refl (g : Gh) : Ext g g := ⟨fun _ _ h => h, Nat.le_refl _, fun _ _ => rfl, rfl⟩
theorem Ext.trans {g1 g2 g3 : Gh} (a : Ext g1 g2) (b : Ext g2 g3) : Ext g1 g3 :=
  ⟨fun x d h => b.G x d (a.G x d h), Nat.le_trans a.sz b.sz, fun n h => (b.m n (Nat.lt_of_lt_of_le h a.sz)).trans (a.m n h), b.F.trans a.F⟩




section
variable {K : PySem.W.Frag} {g g' : Gh} {H H' : Hp}
theorem RelD.bnd : ∀ {d : D} {v : V}, RelD K g d v → U.bnd g.sz d = true
  | .non, _, _ => rfl
  | .bl _, _, _ => rfl
  | .int _, _, _ => rfl
  | .str _, _, _ => rfl
  | .ty _, _, _ => rfl
  | .con _, _, _ => rfl
  | .ref n, _, h => by simp only [U.bnd, decide_eq_true_eq]; exact h.1
  | .tup xs, _, h => by simp only [U.bnd]; exact h.1
  | .lst xs, _, h => by simp only [U.bnd]; exact h.1
  | .fz xs, _, h => by simp only [U.bnd]; exact h.1
  | .dic ks vs, _, h => by simp only [U.bnd]; exact h.1
  | .ins _ _ vs, _, h => by simp only [U.bnd]; exact h.1
theorem RelDs.bnd : ∀ {ds : List D} {vs : List V}, RelDs K g ds vs → bndL g.sz ds = true
  | _, _, .nil => rfl
  | _, _, .cons r t => by simp only [bndL, Bool.and_eq_true]; exact ⟨r.bnd, RelDs.bnd t⟩
theorem RelD.mono (e : Ext g g') : ∀ {d : D} {v : V}, RelD K g d v → RelD K g' d v
  | .non, _, h => h
  | .bl _, _, h => h
  | .int _, _, h => h
  | .str _, _, h => h
  | .ty _, _, h => h
  | .con _, _, h => h
  | .ref n, _, h => ⟨Nat.lt_of_lt_of_le h.1 e.sz, by rw [e.m n h.1]; exact h.2⟩
  | .tup xs, _, ⟨b, a, r, q⟩ => ⟨bndL_mono e.sz _ b, a, r, q.imp (e.G _ _) id⟩
  | .lst xs, _, ⟨b, a, r, q⟩ => ⟨bndL_mono e.sz _ b, a, r, e.G _ _ q⟩
  | .fz xs, _, ⟨b, a, r, q⟩ => ⟨bndL_mono e.sz _ b, a, r, q.imp (e.G _ _) id⟩
  | .dic ks vs, _, ⟨b, a, r, q⟩ => ⟨by
      simp only [Bool.and_eq_true] at b ⊢
      exact ⟨bndL_mono e.sz _ b.1, bndL_mono e.sz _ b.2⟩, a, r, e.G _ _ q⟩
  | .ins _ _ vs, _, ⟨b, a, r, q⟩ => ⟨bndL_mono e.sz _ b, a, r, e.G _ _ q⟩
theorem RelDs.mono (e : Ext g g') : ∀ {ds : List D} {vs : List V}, RelDs K g ds vs → RelDs K g' ds vs
  | _, _, .nil => .nil
  | _, _, .cons r t => .cons (r.mono e) (RelDs.mono e t)
theorem RelDs.length {ds : List D} {vs : List V} (h : RelDs K g ds vs) : ds.length = vs.length := Paired.length h
end













theorem dicB_of0 {n : Nat} {ks vs : List D} (h : (bndL 0 ks && bndL 0 vs) = true) : dicB n ks vs = true := by
  rw [Bool.and_eq_true] at h
  unfold dicB
  rw [h.1, Bool.true_and]
  exact bndL_mono (Nat.zero_le _) _ h.2
theorem dicB_mono {n k : Nat} (hk : n ≤ k) {ks vs : List D} (h : dicB n ks vs = true) : dicB k ks vs = true := by
  unfold dicB at h ⊢
  rw [Bool.and_eq_true] at h ⊢
  refine ⟨h.1, ?_⟩
  by_cases o : openK ks = true
  · rw [if_pos o] at h ⊢; exact bndL_mono hk _ h.2
  · rw [if_neg o] at h ⊢; exact h.2
theorem dicB_bnd {n : Nat} {ks vs : List D} (h : dicB n ks vs = true) : (bndL n ks && bndL n vs) = true := by
  unfold dicB at h
  rw [Bool.and_eq_true] at h ⊢
  refine ⟨bndL_mono (Nat.zero_le _) _ h.1, ?_⟩
  by_cases o : openK ks = true
  · rw [if_pos o] at h; exact h.2
  · rw [if_neg o] at h; exact bndL_mono (Nat.zero_le _) _ h.2
theorem dicB_shut {n : Nat} {ks vs : List D} (h : dicB n ks vs = true) (o : openK ks = false) : (bndL 0 ks && bndL 0 vs) = true := by
  unfold dicB at h
  rw [o] at h
  exact h








section
variable {K : PySem.W.Frag} {g g' : Gh} {H H' : Hp} {S : Sto}
theorem LamR.stay {a : Addr} {i b : Int} (eG : ∀ a d, g.G a = some d → U.bnd 0 d = true → g'.G a = some d) (hH : ∀ o, H a = .some o → H' a = .some o) (h : LamR g H a i b) : LamR g' H' a i b := by
  obtain ⟨lk, pm, doc, c, ctv, dV, e1, e2, e3, e5, e4⟩ := h
  refine ⟨lk, pm, doc, c, ctv, dV, e1, eG _ _ e2 rfl, hH _ e3, e5, e4.imp id ?_⟩
  rintro ⟨z0, td, z1, z2⟩
  exact ⟨z0, td, z1, eG _ _ z2 rfl⟩
theorem CelR.stay {i b : Int} {ds : List D} (eG : ∀ a d, g.G a = some d → U.bnd 0 d = true → g'.G a = some d) (hb : bndL 0 ds = true) (h : CelR g i b ds) : CelR g' i b ds := by
  obtain ⟨lk, e1, e2, e3⟩ := h
  refine ⟨lk, e1, e2, fun j y d h1 h2 => ?_⟩
  obtain ⟨c, c1, c2⟩ := e3 j y d h1 h2
  have bd : U.bnd 0 d = true := by
    have : ∀ (l : List D), bndL 0 l = true → ∀ d ∈ l, U.bnd 0 d = true := fun l => by
      induction l with
      | nil => exact fun _ d hd => nomatch hd
      | cons x l ih =>
        intro hl d hd
        simp only [bndL, Bool.and_eq_true] at hl
        rcases List.mem_cons.mp hd with rfl | hd
        · exact hl.1
        · exact ih hl.2 d hd
    exact this ds hb d (List.mem_of_getElem? h2)
  exact ⟨c, c1, eG _ _ c2 (by simp [celD, U.bnd, bndL, bd])⟩
theorem DRep.over {a : Addr} {ks vs : List D} (hb : (bndL 0 ks && bndL 0 vs) = true) (eG : ∀ a d, g.G a = some d → U.bnd 0 d = true → g'.G a = some d) (eR : ∀ d v, RelD K g d v → U.bnd 0 d = true → RelD K g' d v) (hH : ∀ o, H a = .some o → H' a = .some o) (h : DRep K g H a ks vs) : DRep K g' H' a ks vs := by
  unfold DRep at h ⊢
  split at h
  · obtain ⟨e0, ps, e1, e2, e3⟩ := h
    refine ⟨e0, ps, hH _ e1, e2, fun pos cv hc => ?_⟩
    obtain ⟨c, c1, c2⟩ := e3 pos cv hc
    exact ⟨c, c1, eG _ _ c2 rfl⟩
  · exact hH _ h
  · rename_i C ns ds
    obtain ⟨oe, dx, e1, e2, e3, e4, e5⟩ := h
    have hb' : bndL 0 ds = true := by simpa [bndL, U.bnd] using hb
    exact ⟨oe, dx, hH _ e1, e2, e3, e4, eG _ _ e5 (by simp [xdD, U.bnd, bndL, hb'])⟩
  · rename_i C ns ds
    obtain ⟨ws, e1, e2, e3⟩ := h
    have hb' : bndL 0 ds = true := by simpa [bndL, U.bnd] using hb
    have : ∀ {l : List D} {us : List V}, RelDs K g l us → bndL 0 l = true → RelDs K g' l us := by
      intro l us r
      induction r with
      | nil => exact fun _ => .nil
      | cons q _ ih =>
        intro hl
        simp only [bndL, Bool.and_eq_true] at hl
        exact .cons (eR _ _ q hl.1) (ih hl.2)
    exact ⟨ws, hH _ e1, e2, this e3 hb'⟩
  · rename_i d
    obtain ⟨o, u, v, e1, e2, e3, e4⟩ := h
    exact ⟨o, u, v, hH _ e1, e2, e3, eR _ _ e4 (by simpa [bndL, U.bnd] using hb)⟩
  · exact LamR.stay eG hH h
  · exact ⟨LamR.stay eG hH h.1, CelR.stay eG (by simpa [bndL, U.bnd] using hb) h.2⟩
  · exact h
theorem DRep.ext (eG : ∀ a d, g.G a = some d → g'.G a = some d) (eR : ∀ d v, RelD K g d v → RelD K g' d v) {a : Addr} {ks vs : List D} (hH : ∀ o, H a = .some o → H' a = .some o) (h : DRep K g H a ks vs) : DRep K g' H' a ks vs := by
  have lam : ∀ {i b : Int}, LamR g H a i b → LamR g' H' a i b := fun h => LamR.stay (fun a d q _ => eG a d q) hH h
  unfold DRep at h ⊢
  split at h
  · obtain ⟨e0, ps, e1, e2, e3⟩ := h
    refine ⟨e0, ps, hH _ e1, e2, fun pos cv hc => ?_⟩
    obtain ⟨c, c1, c2⟩ := e3 pos cv hc
    exact ⟨c, c1, eG _ _ c2⟩
  · exact hH _ h
  · obtain ⟨oe, dx, e1, e2, e3, e4, e5⟩ := h
    exact ⟨oe, dx, hH _ e1, e2, e3, e4, eG _ _ e5⟩
  · obtain ⟨ws, e1, e2, e3⟩ := h
    have : ∀ {l : List D} {us : List V}, RelDs K g l us → RelDs K g' l us := by
      intro l us r
      induction r with
      | nil => exact .nil
      | cons q _ ih => exact .cons (eR _ _ q) ih
    exact ⟨ws, hH _ e1, e2, this e3⟩
  · obtain ⟨o, u, v, e1, e2, e3, e4⟩ := h
    exact ⟨o, u, v, hH _ e1, e2, e3, eR _ _ e4⟩
  · exact lam h
  · obtain ⟨h1, lk, q1, q2, q3⟩ := h
    refine ⟨lam h1, lk, q1, q2, fun j y d e1 e2 => ?_⟩
    obtain ⟨c, c1, c2⟩ := q3 j y d e1 e2
    exact ⟨c, c1, eG _ _ c2⟩
  · exact h
theorem DRep.some {a : Addr} {ks vs : List D} (h : DRep K g H a ks vs) : ∃ o, H a = .some o := by
  unfold DRep at h
  split at h
  · obtain ⟨_, ps, e1, _⟩ := h; exact ⟨_, e1⟩
  · exact ⟨_, h⟩
  · obtain ⟨oe, dx, e1, _⟩ := h; exact ⟨_, e1⟩
  · obtain ⟨ws, e1, _⟩ := h; exact ⟨_, e1⟩
  · obtain ⟨o, u, v, e1, _⟩ := h; exact ⟨_, e1⟩
  · obtain ⟨lk, pm, doc, c, ctv, dV, e1, e2, e3, e4⟩ := h; exact ⟨_, e3⟩
  · obtain ⟨⟨lk, pm, doc, c, ctv, dV, e1, e2, e3, e4⟩, _⟩ := h; exact ⟨_, e3⟩
  · exact h.elim
theorem IRep.some {a : Addr} {d : D} (h : IRep K g H a d) : ∃ o, H a = .some o := by
  cases d with
  | tup ds => obtain ⟨vs, e, _⟩ := h; exact ⟨_, e⟩
  | lst ds => obtain ⟨vs, e, _⟩ := h; exact ⟨_, e⟩
  | fz ds =>
    obtain ⟨vs, e | ⟨o, e⟩, _⟩ := h
    · exact ⟨_, e⟩
    · exact ⟨_, e⟩
  | ins C ns ds => obtain ⟨dx, vs, e, _⟩ := h; exact ⟨_, e⟩
  | dic ks vs => exact h.2.some
  | _ => exact h.elim
theorem MRep.some {a : Addr} {o : AO} (h : MRep K g H a o) (n : o ≠ .gone) : ∃ u, H a = .some u := by
  cases o with
  | lst ds => obtain ⟨vs, e, _⟩ := h; exact ⟨_, e⟩
  | ins C ns ds => obtain ⟨dx, vs, e, _⟩ := h; exact ⟨_, e⟩
  | dic ks ds => obtain ⟨kk, vs, _, e, _⟩ := h; exact ⟨_, e⟩
  | dkn w ks ds => obtain ⟨xs, vs, e, _⟩ := h; exact ⟨_, e⟩
  | gone => exact absurd rfl n
theorem IRep.stay (e : Ext g g') {a : Addr} {d : D} (hH : ∀ o, H a = .some o → H' a = .some o) (h : IRep K g H a d) : IRep K g' H' a d := by
  cases d with
  | tup ds => obtain ⟨vs, e1, r⟩ := h; exact ⟨vs, hH _ e1, r.mono e⟩
  | lst ds => obtain ⟨vs, e1, r⟩ := h; exact ⟨vs, hH _ e1, r.mono e⟩
  | fz ds =>
    obtain ⟨vs, e1, r⟩ := h
    refine ⟨vs, ?_, r.mono e⟩
    rcases e1 with e1 | ⟨o, e1⟩
    · exact .inl (hH _ e1)
    · exact .inr ⟨o, hH _ e1⟩
  | ins C ns ds => obtain ⟨dx, vs, e1, l, r⟩ := h; exact ⟨dx, vs, hH _ e1, l, r.mono e⟩
  | dic ks vs => exact ⟨dicB_mono e.sz h.1, DRep.ext e.G (fun d v r => r.mono e) hH h.2⟩
  | _ => exact h.elim
theorem MRep.stay (e : Ext g g') {a : Addr} {o : AO} (hH : ∀ o, H a = .some o → H' a = .some o) (h : MRep K g H a o) : MRep K g' H' a o := by
  cases o with
  | lst ds => obtain ⟨vs, e1, r⟩ := h; exact ⟨vs, hH _ e1, r.mono e⟩
  | ins C ns ds => obtain ⟨dx, vs, e1, l, r⟩ := h; exact ⟨dx, vs, hH _ e1, l, r.mono e⟩
  | dic ks ds => obtain ⟨kk, vs, e0, e1, l, r⟩ := h; exact ⟨kk, vs, e0, hH _ e1, l, r.mono e⟩
  | dkn w ks ds => obtain ⟨xs, vs, e1, e2, e3, e4, r, rv, r2⟩ := h; exact ⟨xs, vs, hH _ e1, e2, e3, e4, r.mono e, rv, r2.mono e⟩
  | gone => trivial
theorem REnv.mono (e : Ext g g') {r : Env} {σ : St} (h : REnv K g r σ) : REnv K g' r σ :=
  ⟨h.1, fun i d q => let ⟨v, a, b⟩ := h.2 i d q; ⟨v, a, b.mono e⟩⟩
theorem REnv.set {r : Env} {σ : St} {d : D} {v : V} (h : REnv K g r σ) (i : Nat) (q : RelD K g d v) : REnv K g (r.set i (some d)) (σ.set i (some v)) := by
  refine ⟨by simpa using h.1, fun j d' e => ?_⟩
  by_cases hj : i = j
  · subst hj
    by_cases hl : i < r.length
    · rw [List.getElem?_set_self hl] at e
      cases e
      exact ⟨v, by rw [List.getElem?_set_self (by rw [← h.1]; exact hl)], q⟩
    · rw [List.getElem?_eq_none (by simpa using hl)] at e
      cases e
  · rw [List.getElem?_set_ne hj] at e
    obtain ⟨w, a, b⟩ := h.2 j d' e
    exact ⟨w, by rw [List.getElem?_set_ne hj]; exact a, b⟩
theorem Rl.keep (h : Rl K g S H) (k : ∀ a o, H a = some o → H' a = some o) : Rl K g S H' :=
  ⟨fun a d e => (h.imm a d e).stay (.refl g) (k a), fun n o e q => ⟨(h.sto n o e q).1, (h.sto n o e q).2.stay (.refl g) (k _)⟩, h.inj, h.sz, fun a o e => let ⟨x, y⟩ := h.fr a o e; ⟨k a o x, y⟩, h.tab⟩
def Gh.put (g : Gh) (p : Addr) (d : D) : Gh := { g with G := fun a => if a = p then some d else g.G a }
theorem Gh.put_ext {p : Addr} {d : D} (h : g.G p = none) : Ext g (g.put p d) := ⟨fun a e q => by
  show (if a = p then some d else g.G a) = some e
  rw [if_neg (fun z => by subst z; rw [h] at q; cases q)]; exact q, Nat.le_refl _, fun _ _ => rfl, rfl⟩
theorem Gh.put_at {p : Addr} {d : D} : (g.put p d).G p = some d := if_pos rfl
theorem Rl.free (h : Rl K g S H) {p : Addr} (hp : H p = none) : g.G p = none := by
  cases e : g.G p with
  | none => rfl
  | some d =>
    obtain ⟨o, q⟩ := (h.imm p d e).some
    rw [hp] at q; cases q
theorem Rl.put (h : Rl K g S H) {p : Addr} {d : D} {o : HO} (hp : H p = none) (hr : IRep K g (upd H p o) p d) : Rl K (g.put p d) S (upd H p o) := by
  have x := Gh.put_ext (d := d) (h.free hp)
  refine ⟨fun a e q => ?_, fun n ob e q => ?_, h.inj, h.sz, fun a u q => ?_, fun t ht => x.G _ _ (h.tab t ht)⟩
  · by_cases ha : a = p
    · subst ha
      rw [Gh.put_at] at q
      cases q
      exact hr.stay x (fun _ z => z)
    · have q' : g.G a = some e := by
        have : (if a = p then some d else g.G a) = some e := q
        rw [if_neg ha] at this; exact this
      exact (h.imm a e q').stay x (fun ob z => by rw [upd_ne ha]; exact z)
  · obtain ⟨m1, m2⟩ := h.sto n ob e q
    have ne : g.m n ≠ p := fun z => by
      obtain ⟨u, hu⟩ := m2.some q
      rw [z, hp] at hu; cases hu
    refine ⟨?_, m2.stay x (fun ob' z => ?_)⟩
    · show (if g.m n = p then some d else g.G (g.m n)) = none
      rw [if_neg ne]; exact m1
    · show upd H p o (g.m n) = some ob'
      rw [upd_ne ne]; exact z
  · obtain ⟨x1, x2, x3⟩ := h.fr a u q
    have ne : a ≠ p := fun z => by rw [z, hp] at x1; cases x1
    refine ⟨by rw [upd_ne ne]; exact x1, ?_, x3⟩
    show (if a = p then some d else g.G a) = none
    rw [if_neg ne]; exact x2
def Gh.add (g : Gh) (p : Addr) : Gh := { g with m := fun n => if n = g.sz then p else g.m n, sz := g.sz + 1 }
theorem Gh.add_ext {p : Addr} : Ext g (g.add p) := ⟨fun _ _ q => q, Nat.le_succ _, fun n h => if_neg (Nat.ne_of_lt h), rfl⟩
theorem Gh.add_m {p : Addr} : (g.add p).m g.sz = p := if_pos rfl
theorem Rl.add (h : Rl K g S H) {p : Addr} {o : HO} {ob : AO} (hp : H p = none) (hr : MRep K g (upd H p o) p ob) : Rl K (g.add p) (S ++ [ob]) (upd H p o) := by
  have x := Gh.add_ext (g := g) (p := p)
  have hG := h.free hp
  have nep : ∀ n ob', S[n]? = some ob' → ob' ≠ .gone → g.m n ≠ p := fun n ob' e q z => by
    obtain ⟨u, hu⟩ := (h.sto n ob' e q).2.some q
    rw [z, hp] at hu; cases hu
  have hm : ∀ n, n < S.length → (g.add p).m n = g.m n := fun n hn => if_neg (by rw [h.sz]; omega)
  have hm0 : (g.add p).m S.length = p := if_pos h.sz.symm
  have cases_ : ∀ n ob', (S ++ [ob])[n]? = some ob' → (n < S.length ∧ S[n]? = some ob') ∨ (n = S.length ∧ ob' = ob) := fun n ob' e => by
    by_cases hn : n < S.length
    · rw [List.getElem?_append_left hn] at e; exact .inl ⟨hn, e⟩
    · rw [List.getElem?_append_right (by omega)] at e
      have : n - S.length = 0 := by
        by_cases z : n - S.length = 0
        · exact z
        · rw [List.getElem?_eq_none (by simp; omega)] at e; cases e
      rw [this] at e
      exact .inr ⟨by omega, by simpa using e.symm⟩
  refine ⟨fun a e q => (h.imm a e q).stay x (fun ob' z => ?_), fun n ob' e q => ?_, fun i j oi oj e1 q1 e2 q2 z => ?_, ?_, fun a u q => ?_, fun t ht => x.G _ _ (h.tab t ht)⟩
  · rw [upd_ne (fun z' => by rw [z', hp] at z; cases z)]; exact z
  · rcases cases_ n ob' e with ⟨hn, e⟩ | ⟨hn, rfl⟩
    · obtain ⟨m1, m2⟩ := h.sto n ob' e q
      rw [hm n hn]
      exact ⟨m1, m2.stay x (fun u z => by rw [upd_ne (nep n ob' e q)]; exact z)⟩
    · subst hn
      rw [hm0]
      exact ⟨hG, hr.stay x (fun _ z => z)⟩
  · rcases cases_ i oi e1 with ⟨hi, f1⟩ | ⟨hi, _⟩
    · rcases cases_ j oj e2 with ⟨hj, f2⟩ | ⟨hj, _⟩
      · rw [hm i hi, hm j hj] at z
        exact h.inj i j oi oj f1 q1 f2 q2 z
      · subst hj
        rw [hm i hi, hm0] at z
        exact absurd z (nep i oi f1 q1)
    · subst hi
      rcases cases_ j oj e2 with ⟨hj, f2⟩ | ⟨hj, _⟩
      · rw [hm j hj, hm0] at z
        exact absurd z.symm (nep j oj f2 q2)
      · exact hj.symm
  · show g.sz + 1 = _
    rw [List.length_append, h.sz]; rfl
  · obtain ⟨x1, x2, x3⟩ := h.fr a u q
    have ne : a ≠ p := fun z => by rw [z, hp] at x1; cases x1
    refine ⟨by rw [upd_ne ne]; exact x1, x2, fun n ob' e q' => ?_⟩
    rcases cases_ n ob' e with ⟨hn, f1⟩ | ⟨hn, _⟩
    · rw [hm n hn]; exact x3 n ob' f1 q'
    · subst hn
      rw [hm0]; exact ne.symm
theorem Rl.write (h : Rl K g S H) {n : Nat} {ob ob' : AO} {o : HO} (e : S[n]? = some ob) (q : ob ≠ .gone) (hr : MRep K g (upd H (g.m n) o) (g.m n) ob') : Rl K g (S.set n ob') (upd H (g.m n) o) := by
  obtain ⟨m1, m2⟩ := h.sto n ob e q
  have hn : n < S.length := (List.getElem?_eq_some_iff.mp e).1
  have old : ∀ i oi, i ≠ n → (S.set n ob')[i]? = some oi → S[i]? = some oi := fun i oi ne z => by rwa [List.getElem?_set_ne (Ne.symm ne)] at z
  refine ⟨fun a d z => (h.imm a d z).stay (.refl g) (fun u z' => ?_), fun i oi z qi => ?_, fun i j oi oj e1 q1 e2 q2 z => ?_, by rw [List.length_set]; exact h.sz, fun a u z => ?_, h.tab⟩
  · rw [upd_ne (fun w => by rw [w, m1] at z; cases z)]; exact z'
  · by_cases hi : i = n
    · subst hi
      rw [List.getElem?_set_self hn] at z
      cases z
      exact ⟨m1, hr⟩
    · have z' := old i oi hi z
      obtain ⟨k1, k2⟩ := h.sto i oi z' qi
      exact ⟨k1, k2.stay (.refl g) (fun u w => by rw [upd_ne (fun w' => hi (h.inj i n oi ob z' qi e q w'))]; exact w)⟩
  · by_cases hi : i = n
    · by_cases hj : j = n
      · rw [hi, hj]
      · subst hi
        exact h.inj i j ob oj e q (old j oj hj e2) q2 z
    · by_cases hj : j = n
      · subst hj
        exact h.inj i j oi ob (old i oi hi e1) q1 e q z
      · exact h.inj i j oi oj (old i oi hi e1) q1 (old j oj hj e2) q2 z
  · obtain ⟨x1, x2, x3⟩ := h.fr a u z
    refine ⟨by rw [upd_ne (x3 n ob e q).symm]; exact x1, x2, fun i oi w qi => ?_⟩
    by_cases hi : i = n
    · subst hi; exact x3 i ob e q
    · exact x3 i oi (old i oi hi w) qi
def Gh.res (g : Gh) (p : Addr) (o : HO) : Gh := { g with F := fun a => if a = p then some o else g.F a }
theorem RelD.eqG {d : D} {v : V} (h : RelD K g d v) (hG : g'.G = g.G) (hm : g'.m = g.m) (hs : g'.sz = g.sz) : RelD K g' d v := by
  cases d <;> simp only [RelD, hG, hm, hs] at h ⊢ <;> exact h
theorem RelDs.eqG {ds : List D} {vs : List V} (h : RelDs K g ds vs) (hG : g'.G = g.G) (hm : g'.m = g.m) (hs : g'.sz = g.sz) : RelDs K g' ds vs := by
  induction h with
  | nil => exact .nil
  | cons r _ ih => exact .cons (r.eqG hG hm hs) ih
theorem IRep.eqG {a : Addr} {d : D} (h : IRep K g H a d) (hG : g'.G = g.G) (hm : g'.m = g.m) (hs : g'.sz = g.sz) : IRep K g' H a d := by
  cases d with
  | tup ds => obtain ⟨vs, e1, r⟩ := h; exact ⟨vs, e1, r.eqG hG hm hs⟩
  | lst ds => obtain ⟨vs, e1, r⟩ := h; exact ⟨vs, e1, r.eqG hG hm hs⟩
  | fz ds => obtain ⟨vs, e1, r⟩ := h; exact ⟨vs, e1, r.eqG hG hm hs⟩
  | ins C ns ds => obtain ⟨dx, vs, e1, l, r⟩ := h; exact ⟨dx, vs, e1, l, r.eqG hG hm hs⟩
  | dic ks vs => exact ⟨by rw [hs]; exact h.1, DRep.ext (fun a d q => by rw [hG]; exact q) (fun d v r => r.eqG hG hm hs) (fun _ q => q) h.2⟩
  | _ => exact h.elim
theorem MRep.eqG {a : Addr} {o : AO} (h : MRep K g H a o) (hG : g'.G = g.G) (hm : g'.m = g.m) (hs : g'.sz = g.sz) : MRep K g' H a o := by
  cases o with
  | lst ds => obtain ⟨vs, e1, r⟩ := h; exact ⟨vs, e1, r.eqG hG hm hs⟩
  | ins C ns ds => obtain ⟨dx, vs, e1, l, r⟩ := h; exact ⟨dx, vs, e1, l, r.eqG hG hm hs⟩
  | dic ks ds => obtain ⟨kk, vs, e0, e1, l, r⟩ := h; exact ⟨kk, vs, e0, e1, l, r.eqG hG hm hs⟩
  | dkn w ks ds => obtain ⟨xs, vs, e1, e2, e3, e4, r, rv, r2⟩ := h; exact ⟨xs, vs, e1, e2, e3, e4, r.eqG hG hm hs, rv, r2.eqG hG hm hs⟩
  | gone => trivial
theorem REnv.eqG {r : Env} {σ : St} (h : REnv K g r σ) (hG : g'.G = g.G) (hm : g'.m = g.m) (hs : g'.sz = g.sz) : REnv K g' r σ :=
  ⟨h.1, fun i d q => let ⟨v, a, b⟩ := h.2 i d q; ⟨v, a, b.eqG hG hm hs⟩⟩
theorem Rl.res (h : Rl K g S H) {p : Addr} {o : HO} (hp : H p = none) : Rl K (g.res p o) S (upd H p o) := by
  refine ⟨fun a d e => ?_, fun n ob e q => ?_, h.inj, h.sz, fun a u q => ?_, h.tab⟩
  · have ne : a ≠ p := fun z => by
      obtain ⟨u, hu⟩ := (h.imm a d e).some
      rw [z, hp] at hu; cases hu
    exact ((h.imm a d e).stay (H' := upd H p o) (.refl g) (fun u z => by rw [upd_ne ne]; exact z)).eqG rfl rfl rfl
  · obtain ⟨m1, m2⟩ := h.sto n ob e q
    have ne : g.m n ≠ p := fun z => by
      obtain ⟨u, hu⟩ := m2.some q
      rw [z, hp] at hu; cases hu
    exact ⟨m1, (m2.stay (H' := upd H p o) (.refl g) (fun u z => by rw [upd_ne ne]; exact z)).eqG rfl rfl rfl⟩
  · have q' : (if a = p then some o else g.F a) = some u := q
    by_cases ha : a = p
    · subst ha
      rw [if_pos rfl] at q'
      cases q'
      refine ⟨upd_same, h.free hp, fun n ob e qn z => ?_⟩
      obtain ⟨u, hu⟩ := (h.sto n ob e qn).2.some qn
      have hu' : H (g.m n) = some u := hu
      rw [show g.m n = a from z, hp] at hu'; cases hu'
    · rw [if_neg ha] at q'
      obtain ⟨x1, x2, x3⟩ := h.fr a u q'
      exact ⟨by rw [upd_ne ha]; exact x1, x2, x3⟩
theorem Rl.rewrite (h : Rl K g S H) {p : Addr} {o u : HO} (hp : g.F p = some o) : Rl K (g.res p u) S (upd H p u) := by
  obtain ⟨y1, y2, y3⟩ := h.fr p o hp
  refine ⟨fun a d e => ?_, fun n ob e q => ?_, h.inj, h.sz, fun a w q => ?_, h.tab⟩
  · have ne : a ≠ p := fun z => by
      have e' : g.G a = some d := e
      rw [z, y2] at e'; cases e'
    exact ((h.imm a d e).stay (H' := upd H p u) (.refl g) (fun w z => by rw [upd_ne ne]; exact z)).eqG rfl rfl rfl
  · obtain ⟨m1, m2⟩ := h.sto n ob e q
    exact ⟨m1, (m2.stay (H' := upd H p u) (.refl g) (fun w z => by rw [upd_ne (y3 n ob e q)]; exact z)).eqG rfl rfl rfl⟩
  · have q' : (if a = p then some u else g.F a) = some w := q
    by_cases ha : a = p
    · subst ha
      rw [if_pos rfl] at q'
      cases q'
      exact ⟨upd_same, y2, y3⟩
    · rw [if_neg ha] at q'
      obtain ⟨x1, x2, x3⟩ := h.fr a w q'
      exact ⟨by rw [upd_ne ha]; exact x1, x2, x3⟩
def Gh.back (g : Gh) (F : Addr → Option HO) (p : Addr) (d : D) : Gh := { (g.put p d) with F := F }
theorem Rl.back (h : Rl K g S H) {F : Addr → Option HO} {p : Addr} {o : HO} {d : D} (hp : g.F p = some o) (hF : F p = none) (hF' : ∀ a, a ≠ p → F a = g.F a) (hr : IRep K g H p d) : Rl K (g.back F p d) S H := by
  obtain ⟨y1, y2, y3⟩ := h.fr p o hp
  have x := Gh.put_ext (d := d) y2
  refine ⟨fun a e q => ?_, fun n ob e q => ?_, h.inj, h.sz, fun a u q => ?_, fun t ht => x.G _ _ (h.tab t ht)⟩
  · have q0 : (g.put p d).G a = some e := q
    by_cases ha : a = p
    · subst ha
      rw [Gh.put_at] at q0
      cases q0
      exact (hr.stay x (fun _ z => z)).eqG rfl rfl rfl
    · have q' : g.G a = some e := by
        have : (if a = p then some d else g.G a) = some e := q
        rw [if_neg ha] at this; exact this
      exact ((h.imm a e q').stay x (fun _ z => z)).eqG rfl rfl rfl
  · obtain ⟨m1, m2⟩ := h.sto n ob e q
    refine ⟨?_, (m2.stay x (fun _ z => z)).eqG rfl rfl rfl⟩
    show (if g.m n = p then some d else g.G (g.m n)) = none
    rw [if_neg (y3 n ob e q)]; exact m1
  · have q' : F a = some u := q
    have ha : a ≠ p := fun z => by rw [z, hF] at q'; cases q'
    rw [hF' a ha] at q'
    obtain ⟨x1, x2, x3⟩ := h.fr a u q'
    refine ⟨x1, ?_, x3⟩
    show (if a = p then some d else g.G a) = none
    rw [if_neg ha]; exact x2
end




section
variable {K : PySem.W.Frag} {W : WX} {g g' : Gh} {σ : St}
theorem PostG.ext {α β : Type} {rel : Gh → α → β → Prop} {x : R α} {Q : β → Hp → Prop} (e : Ext g g') (h : PostG K W rel g σ x Q) : PostG K W rel g' σ x Q := by
  cases x with
  | ok a r S => exact fun g2 H' b e2 => h g2 H' b (e.trans e2)
  | er x r S => exact fun g2 H' c od e2 => h g2 H' c od (e.trans e2)
  | no => exact h
theorem PostG.imp {α β : Type} {rel : Gh → α → β → Prop} {x : R α} {Q Q' : β → Hp → Prop} (h : PostG K W rel g σ x Q) (i : ∀ b H, Q b H → Q' b H) : PostG K W rel g σ x Q' := by
  cases x with
  | ok a r S => exact fun g2 H' b e2 l r q => i _ _ (h g2 H' b e2 l r q)
  | er x r S => exact h
  | no => exact h

theorem TD.mk {α β : Type} {rel : Gh → α → β → Prop} {f : Env → Sto → R α} {H : Hp} {Q : β → Hp → Prop} {r : Env} {S : Sto} (l : Rl K g S H) (e : REnv K g r σ) (h : PostG K W rel g σ (f r S) Q) : TD K W rel f σ H Q := ⟨g, r, S, l, e, h⟩
theorem PostG.split {α β γ δ : Type} {rel : Gh → α → β → Prop} {rel2 : Gh → γ → δ → Prop} {x : R α} {k : α → Env → Sto → R γ} {Q : δ → Hp → Prop} (h : PostG K W rel2 g σ (x.bind k) Q) :
    PostG K W rel g σ x (fun b H' => ∃ g' a r S, Ext g g' ∧ Rl K g' S H' ∧ REnv K g' r σ ∧ rel g' a b ∧ PostG K W rel2 g' σ (k a r S) Q) := by
  cases x with
  | ok a r S => exact fun g2 H' b e l re q => ⟨g2, a, r, S, e, l, re, q, PostG.ext e (show PostG K W rel2 g σ (k a r S) Q from h)⟩
  | er x r S => exact h
  | no => exact h
theorem TD.split {α β γ δ : Type} {rel : Gh → α → β → Prop} {rel2 : Gh → γ → δ → Prop} {f : Env → Sto → R α} {k : α → Env → Sto → R γ} {H : Hp} {Q : δ → Hp → Prop} (h : TD K W rel2 (fun r S => (f r S).bind k) σ H Q) :
    TD K W rel f σ H (fun b H' => ∃ g a r S, Rl K g S H' ∧ REnv K g r σ ∧ rel g a b ∧ PostG K W rel2 g σ (k a r S) Q) := by
  obtain ⟨g, r, S, l, e, p⟩ := h
  exact ⟨g, r, S, l, e, p.split.imp fun b H' ⟨g', a, r', S', _, l', e', q, p'⟩ => ⟨g', a, r', S', l', e', q, p'⟩⟩
end
open PySem PySem.Spec PyProof.Rows
section
variable {K : PySem.W.Frag} {g g' : Gh} {H H' : Hp} {S : Sto}
theorem kReps_ok : ∀ {f : Nat} {ds : List D} {us : List Value}, kReps K f ds us = true → bndL g.sz ds = true → ∃ vs, Vals vs us ∧ RelDs K g ds vs
  | 0, _, _, h, _ => by cases (show false = true from h)
  | _ + 1, [], [], _, _ => ⟨[], .nil, .nil⟩
  | _ + 1, [], _ :: _, h, _ => by cases (show false = true from h)
  | _ + 1, _ :: _, [], h, _ => by cases (show false = true from h)
  | f + 1, d :: ds, u :: us, h, b => by
    simp only [kReps, Bool.and_eq_true] at h
    simp only [bndL, Bool.and_eq_true] at b
    obtain ⟨vs, r1, r2⟩ := kReps_ok (f := f) h.2 b.2
    have one : ∃ v, RelV v u ∧ RelD K g d v := by
      cases f with
      | zero => have z := h.1; simp [kRep] at z
      | succ f =>
        have h1 := h.1
        cases d with
        | non => cases u <;> first | exact ⟨.non, rfl, rfl⟩ | (simp [kRep] at h1)
        | bl x => cases u <;> first | (simp [kRep] at h1; subst h1; exact ⟨.bl _, rfl, rfl⟩) | (simp [kRep] at h1)
        | int x => cases u <;> first | (simp [kRep] at h1; subst h1; exact ⟨.int _, ⟨_, rfl⟩, rfl⟩) | (simp [kRep] at h1)
        | str x => cases u <;> first | (simp [kRep] at h1; subst h1; exact ⟨.str _, ⟨_, rfl⟩, rfl⟩) | (simp [kRep] at h1)
        | ty x => cases u <;> first | (simp [kRep] at h1; subst h1; exact ⟨.ty _, rfl, rfl⟩) | (simp [kRep] at h1)
        | con x => cases u <;> first | (simp [kRep] at h1; subst h1; exact ⟨.ref _, rfl, rfl⟩) | (simp [kRep] at h1)
        | tup x => cases u <;> first | exact ⟨.ref _, rfl, ⟨by simpa [bnd] using b.1, _, rfl, .inr ⟨_, h1⟩⟩⟩ | (simp [kRep] at h1)
        | fz x => cases u <;> first | exact ⟨.ref _, rfl, ⟨by simpa [bnd] using b.1, _, rfl, .inr ⟨_, h1⟩⟩⟩ | (simp [kRep] at h1)
        | lst x => cases u <;> simp [kRep] at h1
        | dic x y => cases u <;> simp [kRep] at h1
        | ins x y z => cases u <;> simp [kRep] at h1
        | ref x => cases u <;> simp [kRep] at h1
    obtain ⟨v, q1, q2⟩ := one
    exact ⟨v :: vs, .cons q1 r1, .cons q2 r2⟩
theorem kTup_ok {f : Nat} {ds : List D} {a : Addr} (h : kRep K f (.tup ds) (.ref a) = true) (b : bndL g.sz ds = true) : ∃ vs, SqT K H a vs ∧ RelDs K g ds vs := by
  cases f with
  | zero => simp [kRep] at h
  | succ f =>
    unfold kRep at h
    split at h
    · rename_i c dd its n sl e
      simp only [Bool.and_eq_true, decide_eq_true_eq] at h
      obtain ⟨vs, r1, r2⟩ := kReps_ok h.2.2 b
      exact ⟨vs, .inr ⟨_, its, n, e, by rw [h.1], rfl, h.2.1, r1⟩, r2⟩
    · cases h
theorem kLst_ok {f : Nat} {ds : List D} {a : Addr} (h : kRep K f (.fz ds) (.ref a) = true) (b : bndL g.sz ds = true) : ∃ vs, SqL K H a vs ∧ RelDs K g ds vs := by
  cases f with
  | zero => simp [kRep] at h
  | succ f =>
    unfold kRep at h
    split at h
    · rename_i c its n sl e
      simp only [Bool.and_eq_true, decide_eq_true_eq] at h
      obtain ⟨vs, r1, r2⟩ := kReps_ok h.2.2 b
      exact ⟨vs, .inr ⟨_, its, n, e, by rw [h.1], rfl, rfl, h.2.1, r1⟩, r2⟩
    · cases h
theorem RelDs.append : ∀ {xs ys : List D} {us ws : List V}, RelDs K g xs us → RelDs K g ys ws → RelDs K g (xs ++ ys) (us ++ ws)
  | _, _, _, _, .nil, s => s
  | _, _, _, _, .cons r t, s => .cons r (RelDs.append t s)
theorem RelDs.take : ∀ {xs : List D} {us : List V} (n : Nat), RelDs K g xs us → RelDs K g (xs.take n) (us.take n)
  | _, _, 0, _ => .nil
  | _, _, _ + 1, .nil => .nil
  | _, _, n + 1, .cons r t => .cons r (RelDs.take n t)
theorem RelDs.drop : ∀ {xs : List D} {us : List V} (n : Nat), RelDs K g xs us → RelDs K g (xs.drop n) (us.drop n)
  | _, _, 0, r => r
  | _, _, _ + 1, .nil => .nil
  | _, _, n + 1, .cons _ t => RelDs.drop n t
theorem RelDs.get : ∀ {xs : List D} {us : List V} {i : Nat} {x : D}, RelDs K g xs us → xs[i]? = some x → ∃ u, us[i]? = some u ∧ RelD K g x u
  | _, _, _, _, .nil, e => by simp at e
  | _, _, 0, x, .cons r _, e => by simp at e; subst e; exact ⟨_, rfl, r⟩
  | _, _, i + 1, x, .cons _ t, e => by
    obtain ⟨u, h1, h2⟩ := RelDs.get (i := i) (x := x) t (by simpa using e)
    exact ⟨u, by simpa using h1, h2⟩
theorem RelDs.set {x : D} {u : V} (r : RelD K g x u) : ∀ {xs : List D} {us : List V} (i : Nat), RelDs K g xs us → RelDs K g (xs.set i x) (us.set i u)
  | _, _, _, .nil => .nil
  | _, _, 0, .cons _ t => .cons r t
  | _, _, i + 1, .cons q t => .cons q (RelDs.set r i t)
theorem RelDs.rep : ∀ (n : Nat) {xs : List D} {us : List V}, RelDs K g xs us → RelDs K g (List.replicate n xs).flatten (List.replicate n us).flatten
  | 0, _, _, _ => .nil
  | n + 1, _, _, r => by
    rw [List.replicate_succ, List.replicate_succ, List.flatten_cons, List.flatten_cons]
    exact r.append (RelDs.rep n r)


theorem tup_view {xs : List D} {v : V} (l : Rl K g S H) (r : RelD K g (.tup xs) v) : ∃ a vs, v = .ref a ∧ SqT K H a vs ∧ RelDs K g xs vs := by
  obtain ⟨b, a, rfl, q | ⟨f, q⟩⟩ := r
  · obtain ⟨vs, e, rs⟩ := l.imm a _ q
    exact ⟨a, vs, rfl, .inl (.inl e), rs⟩
  · obtain ⟨vs, e, rs⟩ := kTup_ok (H := H) q b
    exact ⟨a, vs, rfl, e, rs⟩
theorem lst_view {d : D} {xs : List D} {v : V} (l : Rl K g S H) (r : RelD K g d v) (e : lstOf S d = some xs) : ∃ a vs, v = .ref a ∧ SqL K H a vs ∧ RelDs K g xs vs := by
  cases d with
  | lst ys =>
    cases (Option.some.inj e : ys = xs)
    obtain ⟨b, a, rfl, q⟩ := r
    obtain ⟨vs, e, rs⟩ := l.imm a _ q
    exact ⟨a, vs, rfl, .inl (.inl e), rs⟩
  | fz ys =>
    cases (Option.some.inj e : ys = xs)
    obtain ⟨b, a, rfl, q | ⟨f, q⟩⟩ := r
    · obtain ⟨vs, e, rs⟩ := l.imm a _ q
      exact ⟨a, vs, rfl, .inl e, rs⟩
    · obtain ⟨vs, e, rs⟩ := kLst_ok (H := H) q b
      exact ⟨a, vs, rfl, e, rs⟩
  | ref n =>
    unfold lstOf at e
    dsimp only at e
    split at e
    · rename_i ys e2
      cases e
      obtain ⟨m1, vs, e3, rs⟩ := l.sto n _ e2 (by intro z; cases z)
      exact ⟨g.m n, vs, r.2, .inl (.inl e3), rs⟩
    · cases e
  | _ => cases e
theorem lstM_view {d : D} {xs : List D} {v : V} (l : Rl K g S H) (r : RelD K g d v) (e : lstMOf S d = some xs) : ∃ a vs, v = .ref a ∧ H a = some (.lst vs) ∧ RelDs K g xs vs := by
  cases d with
  | lst ys =>
    cases (Option.some.inj e : ys = xs)
    obtain ⟨b, a, rfl, q⟩ := r
    obtain ⟨vs, e, rs⟩ := l.imm a _ q
    exact ⟨a, vs, rfl, e, rs⟩
  | ref n =>
    unfold lstMOf at e
    dsimp only at e
    split at e
    · rename_i ys e2
      cases e
      obtain ⟨m1, vs, e3, rs⟩ := l.sto n _ e2 (by intro z; cases z)
      exact ⟨g.m n, vs, r.2, e3, rs⟩
    · cases e
  | _ => cases e
theorem Rl.newTup {ds : List D} {vs : List V} {p : Addr} (l : Rl K g S H) (hp : H p = none) (r : RelDs K g ds vs) :
    ∃ g', Ext g g' ∧ Rl K g' S (upd H p (.tup vs)) ∧ RelD K g' (.tup ds) (.ref p) :=
  ⟨g.put p (.tup ds), Gh.put_ext (l.free hp), l.put hp ⟨vs, upd_same, r⟩, r.bnd, p, rfl, .inl Gh.put_at⟩
theorem Rl.newLst {ds : List D} {vs : List V} {p : Addr} (l : Rl K g S H) (hp : H p = none) (r : RelDs K g ds vs) :
    ∃ g', Ext g g' ∧ Rl K g' S (upd H p (.lst vs)) ∧ RelD K g' (.lst ds) (.ref p) :=
  ⟨g.put p (.lst ds), Gh.put_ext (l.free hp), l.put hp ⟨vs, upd_same, r⟩, r.bnd, p, rfl, Gh.put_at⟩
theorem Rl.newSto {ds : List D} {vs : List V} {p : Addr} (l : Rl K g S H) (hp : H p = none) (r : RelDs K g ds vs) :
    ∃ g', Ext g g' ∧ Rl K g' (S ++ [.lst ds]) (upd H p (.lst vs)) ∧ RelD K g' (.ref S.length) (.ref p) :=
  ⟨g.add p, Gh.add_ext, l.add hp ⟨vs, upd_same, r⟩, by show S.length < g.sz + 1; rw [l.sz]; exact Nat.lt_succ_self _, by rw [← l.sz, Gh.add_m]⟩
end
def UOp (K : PySem.W.Frag) (r : R2) (o : Sto → D → D → Option D) : Prop :=
  ∀ g S H x y d xv yv (Q : VK), Rl K g S H → RelD K g x xv → RelD K g y yv → o S x y = some d → (∀ g' H' v, Ext g g' → Rl K g' S H' → RelD K g' d v → Q v H') → r xv yv H Q

theorem UOp.or {K : PySem.W.Frag} {r r' : R2} {o o' : Sto → D → D → Option D} (h : UOp K r o) (h' : UOp K r' o') : UOp K (fun x y H Q => r x y H Q ∨ r' x y H Q) (orO o o') := by
  intro g S H x y d xv yv Q l rx ry e k
  unfold orO at e
  cases q : o S x y with
  | some z =>
    rw [q] at e
    exact .inl (h g S H x y d xv yv Q l rx ry (by rw [q]; exact e) k)
  | none =>
    rw [q] at e
    exact .inr (h' g S H x y d xv yv Q l rx ry e k)
section
variable {K : PySem.W.Frag}
def oInt (C : Int → Int → Bool) (f : Int → Int → Int) : Sto → D → D → Option D := fun _ x y => match x, y with
  | .int i, .int j => if C i j then some (.int (f i j)) else none
  | _, _ => none
theorem u_int {C : Int → Int → Prop} {C' : Int → Int → Bool} {f : Int → Int → Int} (hC : ∀ i j, C' i j = true → C i j) : UOp K (rI C fun i j => .int (f i j)) (oInt C' f) := by
  intro g S H x y d xv yv Q l rx ry e k
  cases x <;> cases y <;> try (simp [oInt] at e; done)
  rename_i i j
  cases rx
  cases ry
  simp only [oInt] at e
  split at e
  · rename_i h
    cases e
    exact ⟨i, j, rfl, rfl, hC i j h, k g H _ (.refl g) l rfl⟩
  · cases e

theorem u_int0 {f : Int → Int → Int} : UOp K (rI0 fun i j => .int (f i j)) (oInt0 f) := by
  intro g S H x y d xv yv Q l rx ry e k
  cases x <;> cases y <;> try (simp [oInt0] at e; done)
  cases rx
  cases ry
  cases e
  exact ⟨_, _, rfl, rfl, k g H _ (.refl g) l rfl⟩

theorem u_catS : UOp K (fun x y H Q => ∃ i j, x = .str i ∧ y = .str j ∧ i.length + j.length ≤ sizeLine ∧ Q (.str (i ++ j)) H) oCatS := by
  intro g S H x y d xv yv Q l rx ry e k
  cases x <;> cases y <;> try (simp [oCatS] at e; done)
  cases rx
  cases ry
  simp only [oCatS] at e
  split at e
  · rename_i h
    cases e
    exact ⟨_, _, rfl, rfl, h, k g H _ (.refl g) l rfl⟩
  · cases e

theorem u_catT : UOp K (rCatA K) oCatT := by
  intro g S H x y d xv yv Q l rx ry e k
  cases x <;> cases y <;> try (simp [oCatT] at e; done)
  simp only [oCatT] at e
  split at e
  · rename_i xs ys h
    cases e
    obtain ⟨a, vs, rfl, sa, ra⟩ := tup_view l rx
    obtain ⟨b, us, rfl, sb, rb⟩ := tup_view l ry
    refine ⟨a, b, vs, us, rfl, rfl, sa, sb, by rw [← ra.length, ← rb.length]; exact h, fun z => ?_, fun _ z => ?_, fun _ _ p hp => ?_⟩
    · subst z; cases ra
      exact k g H _ (.refl g) l ry
    · subst z; cases rb
      refine k g H _ (.refl g) l ?_
      rw [List.append_nil]; exact rx
    · obtain ⟨g', e1, l1, r1⟩ := l.newTup hp (RelDs.append ra rb)
      exact k g' _ _ e1 l1 r1
  · cases e

theorem u_catL : UOp K rCat oCatL := by
  intro g S H x y d xv yv Q l rx ry e k
  simp only [oCatL] at e
  split at e
  · rename_i xs ys h1 h2
    split at e
    · rename_i h
      cases e
      obtain ⟨a, vs, rfl, sa, ra⟩ := lstM_view l rx h1
      obtain ⟨b, us, rfl, sb, rb⟩ := lstM_view l ry h2
      refine ⟨a, b, vs, us, rfl, rfl, sa, sb, by rw [← ra.length, ← rb.length]; exact h, fun p hp => ?_⟩
      obtain ⟨g', e1, l1, r1⟩ := l.newLst hp (ra.append rb)
      exact k g' _ _ e1 l1 r1
    · cases e
  · cases e
def oRepL : Sto → D → D → Option D := fun S x y => match lstMOf S x, y with
  | some a, .int k => if -(2 ^ 63) ≤ k ∧ k < 2 ^ 63 ∧ a.length * k.toNat ≤ sizeLine then some (.lst (List.replicate k.toNat a).flatten) else none
  | _, _ => none
theorem u_repL : UOp K rRep oRepL := by
  intro g S H x y d xv yv Q l rx ry e k
  simp only [oRepL] at e
  split at e
  · rename_i xs k' h1
    split at e
    · rename_i h
      cases e
      cases ry
      obtain ⟨a, vs, rfl, sa, ra⟩ := lstM_view l rx h1
      refine ⟨a, k', vs, rfl, rfl, sa, h.1, h.2.1, by rw [← ra.length]; exact h.2.2, fun p hp => ?_⟩
      obtain ⟨g', e1, l1, r1⟩ := l.newLst hp (ra.rep k'.toNat)
      exact k g' _ _ e1 l1 r1
    · cases e
  · cases e
def oRepT : Sto → D → D → Option D := fun _ x y => match x, y with
  | .tup a, .int k => if 1 ≤ a.length ∧ 2 ≤ k ∧ k ≤ 1000 ∧ a.length ≤ 1000 then some (.tup (List.replicate k.toNat a).flatten) else none
  | _, _ => none
theorem u_repT : UOp K (rRepT K) oRepT := by
  intro g S H x y d xv yv Q l rx ry e k
  cases x <;> cases y <;> try (simp [oRepT] at e; done)
  simp only [oRepT] at e
  split at e
  · rename_i xs k' h
    cases e
    cases ry
    obtain ⟨a, vs, rfl, sa, ra⟩ := tup_view l rx
    refine ⟨a, k', vs, rfl, rfl, sa, fun z => ?_, h.2.1, h.2.2.1, by rw [← ra.length]; exact h.2.2.2, fun p hp => ?_⟩
    · subst z
      have z := ra.length
      rw [List.length_nil] at z
      omega
    · obtain ⟨g', e1, l1, r1⟩ := l.newTup hp (ra.rep k'.toNat)
      exact k g' _ _ e1 l1 r1
  · cases e


def oMul : Sto → D → D → Option D := orO (oInt (fun i j => decide (i.natAbs.log2 + j.natAbs.log2 < 1000000)) fun i j => i * j) (orO oRepL oRepT)
def oMod : Sto → D → D → Option D := oInt (fun _ j => decide (0 < j)) fun i j => i % j
def oDiv : Sto → D → D → Option D := oInt (fun _ j => decide (0 < j) && decide (j.natAbs.log2 < 9000)) fun i j => i / j
def oPow : Sto → D → D → Option D := oInt (fun i j => decide (0 ≤ j) && (decide (j ≤ 1000000) && decide (i.natAbs < 2 ^ 64))) fun i j => i ^ j.toNat
structure BinU (X : Cx) (op : Operator) (o : Sto → D → D → Option D) : Prop where
  ex : ∃ r, OpR X (binaryOp op) r ∧ UOp X.K r o
end
section
variable {X : Cx}
theorem b_add : BinU X .Add oAdd := ⟨_, op_add.or (op_add_str.or (op_catA.or op_cat)), u_int0.or (u_catS.or (u_catT.or u_catL))⟩
theorem b_mul : BinU X .Mult oMul := ⟨_, op_mulW.or (op_rep.or op_repT), (u_int (C := CMulW) fun i j h => by unfold CMulW; exact of_decide_eq_true h).or (u_repL.or u_repT)⟩
theorem b_mod : BinU X .Mod oMod := ⟨_, op_mod, u_int fun i j h => of_decide_eq_true h⟩
theorem b_div : BinU X .FloorDiv oDiv := ⟨_, op_fdivW, u_int (C := CDivW) fun i j h => by
  simp only [Bool.and_eq_true, decide_eq_true_eq] at h; exact h⟩
theorem b_pow : BinU X .Pow oPow := ⟨_, op_pow, u_int (C := CPow) fun i j h => by
  simp only [Bool.and_eq_true, decide_eq_true_eq] at h; exact h⟩
end

theorem flat_view {K : PySem.W.Frag} {g : Gh} {d : D} {v w : V} (r : RelD K g d v) (e : flatD d = some w) : v = w := by
  cases d <;> simp only [flatD, Option.some.injEq, reduceCtorEq] at e <;> (subst e; exact r)


section
variable {K : PySem.W.Frag} {g : Gh} {S : Sto} {H : Hp}
mutual
theorem pyD_dp (l : Rl K g S H) : ∀ (d : D) (v : V) (p : PyData), RelD K g d v → pyD d = some p → Dp K H v p
  | .non, _, _, r, e => by cases e; cases r; exact .non
  | .bl b, _, _, r, e => by cases e; cases r; exact .bl b
  | .int i, _, _, r, e => by cases e; cases r; exact .int i
  | .str x, _, _, r, e => by cases e; cases r; exact .str x
  | .tup xs, v, p, r, e => by
    obtain ⟨q, e1, rfl⟩ := Option.map_eq_some_iff.mp (show (pyDs xs).map .tuple = some p by simpa only [pyD] using e)
    obtain ⟨a, vs, rfl, h, rs⟩ := tup_view l r
    exact .tup h (pyDs_dp l xs vs q rs e1)
  | .lst xs, v, p, r, e => by
    obtain ⟨q, e1, rfl⟩ := Option.map_eq_some_iff.mp (show (pyDs xs).map .list = some p by simpa only [pyD] using e)
    obtain ⟨a, vs, rfl, h, rs⟩ := lst_view l r rfl
    exact .lst h (pyDs_dp l xs vs q rs e1)
  | .fz xs, v, p, r, e => by
    obtain ⟨q, e1, rfl⟩ := Option.map_eq_some_iff.mp (show (pyDs xs).map .list = some p by simpa only [pyD] using e)
    obtain ⟨a, vs, rfl, h, rs⟩ := lst_view l r rfl
    exact .lst h (pyDs_dp l xs vs q rs e1)
  | .ty _, _, _, _, e => by simp [pyD] at e
  | .con _, _, _, _, e => by simp [pyD] at e
  | .dic _ _, _, _, _, e => by simp [pyD] at e
  | .ins _ _ _, _, _, _, e => by simp [pyD] at e
  | .ref _, _, _, _, e => by simp [pyD] at e
theorem pyDs_dp (l : Rl K g S H) : ∀ (ds : List D) (vs : List V) (ps : List PyData), RelDs K g ds vs → pyDs ds = some ps → DpAll K H vs ps
  | [], _, _, r, e => by cases r; simp only [pyDs, Option.some.injEq] at e; subst e; exact .nil
  | x :: xs, _, ps, r, e => by
    cases r with
    | cons r1 r2 =>
      simp only [pyDs] at e
      split at e
      · rename_i a b e1 e2
        cases e
        exact .cons (pyD_dp l x _ a r1 e1) (pyDs_dp l xs _ b r2 e2)
      · cases e
end
theorem pyV_dp {d : D} {v : V} {p : PyData} (l : Rl K g S H) (r : RelD K g d v) (e : pyV S d = some p) : Dp K H v p := by
  cases d with
  | ref n =>
    simp only [pyV] at e
    split at e
    · rename_i xs h
      obtain ⟨q, e1, rfl⟩ := Option.map_eq_some_iff.mp e
      obtain ⟨a, vs, rfl, hq, rs⟩ := lst_view (d := .ref n) (xs := xs) l r (by unfold lstOf; simp only [h])
      exact .lst hq (pyDs_dp l xs vs q rs e1)
    · cases e
  | _ => exact pyD_dp l _ _ _ r e
end







def UCmp (K : PySem.W.Frag) (r : R2) (o : Sto → D → D → Option Bool) : Prop :=
  ∀ g S H x y b xv yv (Q : VK), Rl K g S H → RelD K g x xv → RelD K g y yv → o S x y = some b → Q (.bl b) H → r xv yv H Q
theorem UCmp.or {K : PySem.W.Frag} {r r' : R2} {o o' : Sto → D → D → Option Bool} (h : UCmp K r o) (h' : UCmp K r' o') : UCmp K (fun x y H Q => r x y H Q ∨ r' x y H Q) (orB o o') := by
  intro g S H x y d xv yv Q l rx ry e k
  unfold orB at e
  cases q : o S x y with
  | some z =>
    rw [q] at e
    exact .inl (h g S H x y d xv yv Q l rx ry (by rw [q]; exact e) k)
  | none =>
    rw [q] at e
    exact .inr (h' g S H x y d xv yv Q l rx ry e k)
structure CmpU (X : Cx) (op : CmpOp) (o : Sto → D → D → Option Bool) : Prop where
  ex : ∃ r, OpR X (compareOp op) r ∧ UCmp X.K r o
section
variable {X : Cx} {K : PySem.W.Frag}
theorem u_eqF : UCmp K rEq eqFB := by
  intro g S H x y b xv yv Q l rx ry e k
  simp only [eqFB] at e
  split at e
  · rename_i a c h1 h2
    split at e
    · rename_i h
      cases e
      rw [flat_view rx h1, flat_view ry h2]
      exact ⟨h, k⟩
    · cases e
  · cases e
theorem u_neF : UCmp K rNe (notB eqFB) := by
  intro g S H x y b xv yv Q l rx ry e k
  simp only [notB, eqFB] at e
  split at e
  · rename_i a c h1 h2
    split at e
    · rename_i h
      cases e
      rw [flat_view rx h1, flat_view ry h2]
      exact ⟨h, k⟩
    · cases e
  · cases e
theorem u_eqP : UCmp K (rEqD K) eqPB := by
  intro g S H x y b xv yv Q l rx ry e k
  simp only [eqPB] at e
  split at e
  · rename_i a c h1 h2
    split at e
    · rename_i h
      cases e
      exact ⟨a, c, pyV_dp l rx h1, pyV_dp l ry h2, h.1, h.2, k⟩
    · cases e
  · cases e
theorem u_neP : UCmp K (rNeD K) (notB eqPB) := by
  intro g S H x y b xv yv Q l rx ry e k
  simp only [notB, eqPB] at e
  split at e
  · rename_i a c h1 h2
    split at e
    · rename_i h
      cases e
      exact ⟨a, c, pyV_dp l rx h1, pyV_dp l ry h2, h.1, h.2, k⟩
    · cases e
  · cases e
theorem notB_or (f f' : Sto → D → D → Option Bool) : notB (orB f f') = orB (notB f) (notB f') := by
  funext S x y
  unfold notB orB
  cases h : f S x y <;> simp [h]
theorem c_eq (hu : X.A.units + 64 < cLine) : CmpU X .Eq eqB := ⟨_, op_eq.or (op_eqD hu), u_eqF.or u_eqP⟩
theorem c_ne (hu : X.A.units + 64 < cLine) : CmpU X .NotEq (notB eqB) := ⟨_, op_ne.or (op_neD hu), by unfold eqB; rw [notB_or]; exact u_neF.or u_neP⟩
def rStr (p : Str → Str → Bool) : R2 := fun x y H Q => ∃ i j, x = .str i ∧ y = .str j ∧ Q (.bl (p i j)) H
theorem u_lt : UCmp K (fun x y H Q => rI0 (fun i j => .bl (decide (i < j))) x y H Q ∨ rStr (fun i j => decide (i.cps.toList < j.cps.toList)) x y H Q) ltB := by
  intro g S H x y b xv yv Q l rx ry e k
  cases x <;> cases y <;> try (simp [ltB] at e; done)
  all_goals (cases rx; cases ry; cases e)
  · exact .inl ⟨_, _, rfl, rfl, k⟩
  · exact .inr ⟨_, _, rfl, rfl, k⟩
theorem u_gt : UCmp K (fun x y H Q => rI0 (fun i j => .bl (decide (j < i))) x y H Q ∨ rStr (fun i j => decide (j.cps.toList < i.cps.toList)) x y H Q) (swapB ltB) := by
  intro g S H x y b xv yv Q l rx ry e k
  cases x <;> cases y <;> try (simp [ltB, swapB] at e; done)
  all_goals (cases rx; cases ry; cases e)
  · exact .inl ⟨_, _, rfl, rfl, k⟩
  · exact .inr ⟨_, _, rfl, rfl, k⟩
theorem u_ge : UCmp K (fun x y H Q => rI0 (fun i j => .bl (decide (j ≤ i))) x y H Q ∨ rStr (fun i j => !decide (i.cps.toList < j.cps.toList)) x y H Q) (notB ltB) := by
  intro g S H x y b xv yv Q l rx ry e k
  cases x <;> cases y <;> try (simp [ltB, notB] at e; done)
  all_goals (cases rx; cases ry; cases e)
  · rename_i i j
    refine .inl ⟨_, _, rfl, rfl, ?_⟩
    have z : decide (j ≤ i) = !decide (i < j) := by
      by_cases h : i < j
      · simp [h]
      · simp [h]; omega
    show Q (.bl (decide (j ≤ i))) H
    rw [z]; exact k
  · exact .inr ⟨_, _, rfl, rfl, k⟩
theorem c_lt : CmpU X .Lt ltB := ⟨_, op_lt.or op_lt_str, u_lt⟩
theorem c_gt : CmpU X .Gt (swapB ltB) := ⟨_, op_gt.or op_gt_str, u_gt⟩
theorem c_ge : CmpU X .GtE (notB ltB) := ⟨_, op_ge.or op_ge_str, u_ge⟩
def inSB : Sto → D → D → Option Bool := fun _ x y => match x, y with
  | .str a, .str b => some (!(Builtin.Str.occurrences b a 0 b.length 1).isEmpty)
  | _, _ => none

theorem seq_view {g : Gh} {S : Sto} {H : Hp} {d : D} {xs : List D} {v : V} (l : Rl K g S H) (r : RelD K g d v) (e : seqOf S d = some xs) : ∃ a vs, v = .ref a ∧ (SqL K H a vs ∨ SqT K H a vs) ∧ RelDs K g xs vs := by
  cases d with
  | tup ys =>
    cases (Option.some.inj e : ys = xs)
    obtain ⟨a, vs, h1, h2, h3⟩ := tup_view l r
    exact ⟨a, vs, h1, .inr h2, h3⟩
  | _ =>
    obtain ⟨a, vs, h1, h2, h3⟩ := lst_view l r e
    exact ⟨a, vs, h1, .inl h2, h3⟩
def flatDs : List D → Option (List V)
  | [] => some []
  | x :: r => match flatD x, flatDs r with
    | some a, some b => some (a :: b)
    | _, _ => none
theorem flats_view {g : Gh} : ∀ {ds : List D} {vs ws : List V}, RelDs K g ds vs → flatDs ds = some ws → vs = ws
  | _, _, _, .nil, e => by cases e; rfl
  | _, _, _, .cons r t, e => by
    simp only [flatDs] at e
    split at e
    · rename_i a b h1 h2
      cases e
      rw [flat_view r h1, flats_view t h2]
    · cases e
def inFB : Sto → D → D → Option Bool := fun S x y => match flatD x, seqOf S y with
  | some a, some ys => (match flatDs ys with
    | some bs => if flatV a = true ∧ bs.all flatV = true then some (inV a bs) else none
    | none => none)
  | _, _ => none
def inB : Sto → D → D → Option Bool := orB inSB inFB
theorem u_inS : UCmp K (fun x y H Q => ∃ i j, x = .str i ∧ y = .str j ∧ Q (.bl (!(Builtin.Str.occurrences j i 0 j.length 1).isEmpty)) H) inSB := by
  intro g S H x y b xv yv Q l rx ry e k
  cases x <;> cases y <;> try (simp [inSB] at e; done)
  cases rx; cases ry; cases e
  exact ⟨_, _, rfl, rfl, k⟩
theorem u_inF : UCmp K (rIn K false) inFB := by
  intro g S H x y b xv yv Q l rx ry e k
  simp only [inFB] at e
  split at e
  · rename_i a ys h1 h2
    split at e
    · rename_i bs h3
      split at e
      · rename_i h
        cases e
        obtain ⟨p, vs, rfl, hs, rs⟩ := seq_view l ry h2
        have e3 := flats_view rs h3
        subst e3
        rw [flat_view rx h1]
        exact ⟨p, vs, rfl, hs, h.1, h.2, k⟩
      · cases e
    · cases e
  · cases e
theorem c_in : CmpU X .In inB := ⟨_, op_in_str.or op_in_seq, u_inS.or u_inF⟩
def isNone : D → Bool
  | .non => true
  | _ => false
theorem isNone_view {g : Gh} {d : D} {v : V} (r : RelD K g d v) : decide (v = .non) = isNone d := by
  cases d with
  | non => cases r; rfl
  | bl b => cases r; rfl
  | int b => cases r; rfl
  | str b => cases r; rfl
  | ty b => cases r; rfl
  | con b => cases r; rfl
  | tup b => obtain ⟨_, a, rfl, _⟩ := r; rfl
  | lst b => obtain ⟨_, a, rfl, _⟩ := r; rfl
  | fz b => obtain ⟨_, a, rfl, _⟩ := r; rfl
  | dic _ b => obtain ⟨_, a, rfl, _⟩ := r; rfl
  | ins _ _ b => obtain ⟨_, a, rfl, _⟩ := r; rfl
  | ref n => obtain ⟨_, rfl⟩ := r; rfl
def refD : D → Bool
  | .non => true
  | .tup _ => true | .lst _ => true | .fz _ => true | .dic _ _ => true | .ins _ _ _ => true
  | .ref _ => true
  | _ => false
theorem refD_view {g : Gh} {d : D} {v : V} (r : RelD K g d v) (h : refD d = true) : v = .non ∨ ∃ a, v = .ref a := by
  cases d with
  | non => exact .inl r
  | tup b => obtain ⟨_, a, rfl, _⟩ := r; exact .inr ⟨a, rfl⟩
  | lst b => obtain ⟨_, a, rfl, _⟩ := r; exact .inr ⟨a, rfl⟩
  | fz b => obtain ⟨_, a, rfl, _⟩ := r; exact .inr ⟨a, rfl⟩
  | dic _ b => obtain ⟨_, a, rfl, _⟩ := r; exact .inr ⟨a, rfl⟩
  | ins _ _ b => obtain ⟨_, a, rfl, _⟩ := r; exact .inr ⟨a, rfl⟩
  | ref n => obtain ⟨_, rfl⟩ := r; exact .inr ⟨_, rfl⟩
  | _ => cases h
def isB : Sto → D → D → Option Bool := fun _ x y => match y with
  | .non => some (isNone x)
  | .bl b => (match x with | .bl a => some (decide (a = b)) | x => if refD x = true then some false else none)
  | _ => none
def rIsO : R2 := fun x y H Q => ∃ b : Bool, y = .bl b ∧ (x = .non ∨ ∃ a, x = .ref a) ∧ Q (.bl false) H
theorem op_isO : OpR X (compareOp .Is) rIsO := by
  intro pins s σ H x y v u Q I rx ry h
  obtain ⟨b, rfl, hx, q⟩ := h
  cases (show u = Value.bool b from ry)
  rcases hx with rfl | ⟨a, rfl⟩
  · cases rx
    exact wpAny_is_other rfl (fun z => by cases z) ⟨.bl false, H, I, rfl, q⟩
  · cases (show v = Value.ref a from rx)
    exact wpAny_is_other rfl (fun z => by cases z) ⟨.bl false, H, I, rfl, q⟩
theorem u_is : UCmp K (fun x y H Q => (y = .non ∧ Q (.bl (decide (x = .non))) H) ∨ (rIsB x y H Q ∨ rIsO x y H Q)) isB := by
  intro g S H x y b xv yv Q l rx ry e k
  cases y with
  | non =>
    cases ry; cases e
    exact .inl ⟨rfl, by rw [isNone_view rx]; exact k⟩
  | bl c =>
    by_cases h : ∃ a, x = .bl a
    · obtain ⟨a, rfl⟩ := h
      cases rx; cases ry; cases e
      exact .inr (.inl ⟨_, _, rfl, rfl, k⟩)
    · have e' : (if refD x = true then some false else none) = some b := by
        cases x <;> first | exact e | exact absurd ⟨_, rfl⟩ h
      split at e'
      · rename_i hr
        cases e'; cases ry
        exact .inr (.inr ⟨_, rfl, refD_view rx hr, k⟩)
      · cases e'
  | _ => cases e
theorem c_is : CmpU X .Is isB := ⟨_, op_isN.or (op_isBl.or op_isO), u_is⟩
end
open PySem PySem.Spec PyProof.Rows

theorem bndL_all {n : Nat} : ∀ {l : List D}, bndL n l = true ↔ ∀ d ∈ l, bnd n d = true
  | [] => by simp [bndL]
  | x :: r => by simp [bndL, bndL_all (l := r)]
section
variable {N : Nat} {S : Sto}
theorem fz_id : ∀ (k : Nat) (d : D), bnd N d = true → fz N S k d = d
  | 0, _, _ => rfl
  | k + 1, d, b => by
    have go : ∀ l : List D, bndL N l = true → l.map (fz N S k) = l := fun l hl => by
      conv => rhs; rw [← List.map_id l]
      exact List.map_congr_left fun x hx => fz_id k x (bndL_all.mp hl x hx)
    cases d with
    | ref n =>
      have h : n < N := by simpa [bnd] using b
      simp [fz, h]
    | tup xs => simp only [fz]; rw [go xs (by simpa [bnd] using b)]
    | lst xs => simp only [fz]; rw [go xs (by simpa [bnd] using b)]
    | fz xs => simp only [fz]; rw [go xs (by simpa [bnd] using b)]
    | dic ks vs =>
      simp only [bnd, Bool.and_eq_true] at b
      simp only [fz]; rw [go ks b.1, go vs b.2]
    | ins C ns vs => simp only [fz]; rw [go vs (by simpa [bnd] using b)]
    | _ => rfl
theorem fz_stable : ∀ (k : Nat) (d : D), bnd N (fz N S k d) = true → fz N S (k + 1) d = fz N S k d
  | 0, d, b => fz_id 1 d b
  | k + 1, d, b => by
    have go : ∀ l : List D, bndL N (l.map (fz N S k)) = true → l.map (fz N S (k + 1)) = l.map (fz N S k) := fun l hl =>
      List.map_congr_left fun x hx => fz_stable k x (bndL_all.mp hl _ (List.mem_map_of_mem hx))
    cases d with
    | ref n =>
      by_cases h : n < N
      · simp [fz, h]
      · have e1 : fz N S (k + 1 + 1) (.ref n) = match S[n]? with
            | some (.lst xs) => .lst (xs.map (fz N S (k + 1)))
            | some (.ins C ns vs) => .ins C ns (vs.map (fz N S (k + 1)))
            | _ => .ref n := by rw [fz, if_neg h]
        have e2 : fz N S (k + 1) (.ref n) = match S[n]? with
            | some (.lst xs) => .lst (xs.map (fz N S k))
            | some (.ins C ns vs) => .ins C ns (vs.map (fz N S k))
            | _ => .ref n := by rw [fz, if_neg h]
        rw [e2] at b
        rw [e1, e2]
        cases q : S[n]? with
        | none => rfl
        | some o =>
          rw [q] at b
          cases o with
          | lst xs => simp only; rw [go xs (by simpa [bnd] using b)]
          | ins C ns vs => simp only; rw [go vs (by simpa [bnd] using b)]
          | dic _ _ => rfl
          | dkn _ _ _ => rfl
          | gone => rfl
    | tup xs =>
      show D.tup (xs.map (fz N S (k + 1))) = D.tup (xs.map (fz N S k))
      rw [go xs (by simpa [fz, bnd] using b)]
    | lst xs =>
      show D.lst (xs.map (fz N S (k + 1))) = D.lst (xs.map (fz N S k))
      rw [go xs (by simpa [fz, bnd] using b)]
    | fz xs =>
      show D.fz (xs.map (fz N S (k + 1))) = D.fz (xs.map (fz N S k))
      rw [go xs (by simpa [fz, bnd] using b)]
    | dic ks vs =>
      have b' : bndL N (ks.map (fz N S k)) = true ∧ bndL N (vs.map (fz N S k)) = true := by simpa [fz, bnd] using b
      show D.dic (ks.map (fz N S (k + 1))) (vs.map (fz N S (k + 1))) = D.dic (ks.map (fz N S k)) (vs.map (fz N S k))
      rw [go ks b'.1, go vs b'.2]
    | ins C ns vs =>
      show D.ins C ns (vs.map (fz N S (k + 1))) = D.ins C ns (vs.map (fz N S k))
      rw [go vs (by simpa [fz, bnd] using b)]
    | _ => rfl
theorem fz_le {k j : Nat} {d : D} (h : k ≤ j) (b : bnd N (fz N S k d) = true) : fz N S j d = fz N S k d := by
  induction h with
  | refl => rfl
  | step h ih => rw [← ih]; exact fz_stable _ d (by rw [ih]; exact b)
theorem fz_eq {k j : Nat} {d : D} (b : bnd N (fz N S k d) = true) (b' : bnd N (fz N S j d) = true) : fz N S k d = fz N S j d := by
  rcases Nat.le_total k j with h | h
  · exact (fz_le h b).symm
  · exact fz_le h b'
end

mutual
theorem kRep_bnd {K : PySem.W.Frag} : ∀ (f : Nat) (d : D) (u : Value), kRep K f d u = true → bnd 0 d = true
  | 0, _, _, h => by simp [kRep] at h
  | f + 1, .non, _, _ => rfl
  | f + 1, .bl _, _, _ => rfl
  | f + 1, .int _, _, _ => rfl
  | f + 1, .str _, _, _ => rfl
  | f + 1, .ty _, _, _ => rfl
  | f + 1, .con _, _, _ => rfl
  | f + 1, .tup ds, u, h => by
    cases u <;> try (simp [kRep] at h; done)
    unfold kRep at h
    split at h
    · simp only [Bool.and_eq_true] at h
      simp only [bnd]
      exact kReps_bnd f ds _ h.2.2
    · cases h
  | f + 1, .fz ds, u, h => by
    cases u <;> try (simp [kRep] at h; done)
    unfold kRep at h
    split at h
    · simp only [Bool.and_eq_true] at h
      simp only [bnd]
      exact kReps_bnd f ds _ h.2.2
    · cases h
  | f + 1, .lst _, u, h => by cases u <;> simp [kRep] at h
  | f + 1, .dic _ _, u, h => by cases u <;> simp [kRep] at h
  | f + 1, .ins _ _ _, u, h => by cases u <;> simp [kRep] at h
  | f + 1, .ref _, u, h => by cases u <;> simp [kRep] at h
theorem kReps_bnd {K : PySem.W.Frag} : ∀ (f : Nat) (ds : List D) (us : List Value), kReps K f ds us = true → bndL 0 ds = true
  | 0, _, _, h => by simp [kReps] at h
  | f + 1, [], _, _ => rfl
  | f + 1, d :: ds, [], h => by simp [kReps] at h
  | f + 1, d :: ds, u :: us, h => by
    simp only [kReps, Bool.and_eq_true] at h
    simp only [bndL, Bool.and_eq_true]
    exact ⟨kRep_bnd f d u h.1, kReps_bnd f ds us h.2⟩
end
section
variable {K : PySem.W.Frag} {g g0 g1 : Gh} {S S1 : Sto} {H H1 : Hp} {N : Nat}
theorem IRep.bnd {a : Addr} {d : D} (h : IRep K g H a d) : U.bnd g.sz d = true := by
  cases d with
  | tup ds => obtain ⟨vs, e1, r⟩ := h; simp only [U.bnd]; exact r.bnd
  | lst ds => obtain ⟨vs, e1, r⟩ := h; simp only [U.bnd]; exact r.bnd
  | fz ds => obtain ⟨vs, e1, r⟩ := h; simp only [U.bnd]; exact r.bnd
  | ins C ns ds => obtain ⟨dx, vs, e1, l, r⟩ := h; simp only [U.bnd]; exact r.bnd
  | dic ks vs => exact dicB_bnd h.1
  | _ => exact h.elim
open Classical in
noncomputable def Gh.settled (g1 : Gh) (N : Nat) (S1 : Sto) : Gh where
  G := fun a => match g1.G a with
    | some e => if h : ∃ k, bnd N (fz N S1 k e) = true then some (fz N S1 h.choose e) else none
    | none => if h : ∃ n : Nat, ∃ k : Nat, N ≤ n ∧ (∃ o, S1[n]? = some o ∧ o ≠ AO.gone) ∧ g1.m n = a ∧ bnd N (fz N S1 k (.ref n)) = true then
        some (fz N S1 h.choose_spec.choose (.ref h.choose)) else none
  m := g1.m
  sz := N
  F := g1.F
open Classical in
theorem settled_some {a : Addr} {e : D} {k : Nat} (h : g1.G a = some e) (b : bnd N (fz N S1 k e) = true) : (g1.settled N S1).G a = some (fz N S1 k e) := by
  show (match g1.G a with
    | some e => if h : ∃ k, bnd N (fz N S1 k e) = true then some (fz N S1 h.choose e) else none
    | none => _) = _
  rw [h]
  have q : ∃ k, bnd N (fz N S1 k e) = true := ⟨k, b⟩
  simp only
  rw [dif_pos q]
  exact congrArg some (fz_eq q.choose_spec b)
open Classical in
theorem settled_ref (l : Rl K g1 S1 H1) {n k : Nat} {o : AO} (hn : N ≤ n) (h : S1[n]? = some o) (ho : o ≠ AO.gone) (b : bnd N (fz N S1 k (.ref n)) = true) : (g1.settled N S1).G (g1.m n) = some (fz N S1 k (.ref n)) := by
  show (match g1.G (g1.m n) with
    | some e => _
    | none => if h : ∃ n' : Nat, ∃ k : Nat, N ≤ n' ∧ (∃ o, S1[n']? = some o ∧ o ≠ AO.gone) ∧ g1.m n' = g1.m n ∧ bnd N (fz N S1 k (.ref n')) = true then
        some (fz N S1 h.choose_spec.choose (.ref h.choose)) else none) = _
  rw [(l.sto n o h ho).1]
  have q : ∃ n' : Nat, ∃ k : Nat, N ≤ n' ∧ (∃ o, S1[n']? = some o ∧ o ≠ AO.gone) ∧ g1.m n' = g1.m n ∧ bnd N (fz N S1 k (.ref n')) = true := ⟨n, k, hn, ⟨o, h, ho⟩, rfl, b⟩
  simp only
  rw [dif_pos q]
  obtain ⟨c1, ⟨o', c2, c3⟩, c4, c5⟩ := q.choose_spec.choose_spec
  have e : q.choose = n := l.inj _ _ o' o c2 c3 h ho c4
  have : ∀ (j : Nat), bnd N (fz N S1 j (.ref q.choose)) = true → fz N S1 j (.ref q.choose) = fz N S1 k (.ref n) := fun j hj => by
    rw [e] at hj ⊢
    exact fz_eq hj b
  exact congrArg some (this _ c5)
theorem settled_rel (l : Rl K g1 S1 H1) (hN : N ≤ g1.sz) : ∀ {k : Nat} {d : D} {v : V}, RelD K g1 d v → bnd N (fz N S1 k d) = true → RelD K (g1.settled N S1) (fz N S1 k d) v := by
  intro k d v r b
  have comp_ : ∀ (xs : List D) (mk : List D → D), (∀ j, fz N S1 (j + 1) (mk xs) = mk (xs.map (fz N S1 j))) → True := fun _ _ _ => trivial
  cases d with
  | non => rw [fz_id k _ rfl]; exact r
  | bl x => rw [fz_id k _ rfl]; exact r
  | int x => rw [fz_id k _ rfl]; exact r
  | str x => rw [fz_id k _ rfl]; exact r
  | ty x => rw [fz_id k _ rfl]; exact r
  | con x => rw [fz_id k _ rfl]; exact r
  | ref n =>
    by_cases h : n < N
    · rw [fz_id k _ (by simp [bnd, h])]
      exact ⟨h, r.2⟩
    · have hS : n < S1.length := by have := r.1; rw [l.sz] at this; exact this
      cases k with
      | zero => simp [fz, bnd] at b; exact absurd b h
      | succ k =>
        have e2 : fz N S1 (k + 1) (.ref n) = match S1[n]? with
            | some (.lst xs) => .lst (xs.map (fz N S1 k))
            | some (.ins C ns vs) => .ins C ns (vs.map (fz N S1 k))
            | _ => .ref n := by rw [fz, if_neg h]
        cases q : S1[n]? with
        | none => rw [e2, q] at b; simp [bnd] at b; exact absurd b h
        | some o =>
          cases o with
          | lst xs =>
            have G := settled_ref l (Nat.le_of_not_lt h) q (by intro z; cases z) b
            rw [q] at e2
            simp only at e2
            rw [e2] at G b ⊢
            exact ⟨(by have b' := b; simp only [bnd] at b'; exact b'), g1.m n, r.2, G⟩
          | ins C ns vs =>
            have G := settled_ref l (Nat.le_of_not_lt h) q (by intro z; cases z) b
            rw [q] at e2
            simp only at e2
            rw [e2] at G b ⊢
            exact ⟨(by have b' := b; simp only [bnd] at b'; exact b'), g1.m n, r.2, G⟩
          | dic _ _ => rw [e2, q] at b; simp [bnd] at b; exact absurd b h
          | dkn _ _ _ => rw [e2, q] at b; simp [bnd] at b; exact absurd b h
          | gone => rw [e2, q] at b; simp [bnd] at b; exact absurd b h
  | tup xs =>
    obtain ⟨bd, a, rfl, q | ⟨f, q⟩⟩ := r
    · have G := settled_some (N := N) (S1 := S1) q b
      cases k with
      | zero => exact ⟨(by have b' := b; simp only [fz, bnd] at b'; exact b'), a, rfl, .inl G⟩
      | succ k => exact ⟨(by have b' := b; simp only [fz, bnd] at b'; exact b'), a, rfl, .inl G⟩
    · have b0 := kRep_bnd f _ _ q
      rw [fz_id k _ (bnd_mono (Nat.zero_le _) _ b0)]
      exact ⟨(by have b' := bnd_mono (Nat.zero_le N) _ b0; simp only [bnd] at b'; exact b'), a, rfl, .inr ⟨f, q⟩⟩
  | fz xs =>
    obtain ⟨bd, a, rfl, q | ⟨f, q⟩⟩ := r
    · have G := settled_some (N := N) (S1 := S1) q b
      cases k with
      | zero => exact ⟨(by have b' := b; simp only [fz, bnd] at b'; exact b'), a, rfl, .inl G⟩
      | succ k => exact ⟨(by have b' := b; simp only [fz, bnd] at b'; exact b'), a, rfl, .inl G⟩
    · have b0 := kRep_bnd f _ _ q
      rw [fz_id k _ (bnd_mono (Nat.zero_le _) _ b0)]
      exact ⟨(by have b' := bnd_mono (Nat.zero_le N) _ b0; simp only [bnd] at b'; exact b'), a, rfl, .inr ⟨f, q⟩⟩
  | lst xs =>
    obtain ⟨bd, a, rfl, q⟩ := r
    have G := settled_some (N := N) (S1 := S1) q b
    cases k with
    | zero => exact ⟨(by have b' := b; simp only [fz, bnd] at b'; exact b'), a, rfl, G⟩
    | succ k => exact ⟨(by have b' := b; simp only [fz, bnd] at b'; exact b'), a, rfl, G⟩
  | dic ks vs =>
    obtain ⟨bd, a, rfl, q⟩ := r
    have G := settled_some (N := N) (S1 := S1) q b
    cases k with
    | zero => exact ⟨(by have b' := b; simp only [fz, bnd] at b'; exact b'), a, rfl, G⟩
    | succ k => exact ⟨(by have b' := b; simp only [fz, bnd] at b'; exact b'), a, rfl, G⟩
  | ins C ns vs =>
    obtain ⟨bd, a, rfl, q⟩ := r
    have G := settled_some (N := N) (S1 := S1) q b
    cases k with
    | zero => exact ⟨(by have b' := b; simp only [fz, bnd] at b'; exact b'), a, rfl, G⟩
    | succ k => exact ⟨(by have b' := b; simp only [fz, bnd] at b'; exact b'), a, rfl, G⟩
theorem settled_rels (l : Rl K g1 S1 H1) (hN : N ≤ g1.sz) {k : Nat} : ∀ {ds : List D} {vs : List V}, RelDs K g1 ds vs → bndL N (ds.map (fz N S1 k)) = true → RelDs K (g1.settled N S1) (ds.map (fz N S1 k)) vs
  | _, _, .nil, _ => .nil
  | _, _, .cons r t, b => by
    simp only [List.map_cons, bndL, Bool.and_eq_true] at b
    exact .cons (settled_rel l hN r b.1) (settled_rels l hN t b.2)
open Classical in
theorem settle (l : Rl K g1 S1 H1) (e : Ext g0 g1) (h0 : g0.sz = N) (b0 : ∀ a d, g0.G a = some d → bnd N d = true) (hS : ∀ (n : Nat) (o : AO), n < N → S1[n]? = some o → bndO N o = true) :
    Ext g0 (g1.settled N S1) ∧ Rl K (g1.settled N S1) (S1.take N) H1 := by
  have hN : N ≤ g1.sz := by rw [← h0]; exact e.sz
  have irep : ∀ {a : Addr} {d : D} {k : Nat}, IRep K g1 H1 a d → bnd N (fz N S1 k d) = true → IRep K (g1.settled N S1) H1 a (fz N S1 k d) := fun {a d k} h b => by
    have up : ∀ {ds : List D} {vs : List V} {k : Nat}, RelDs K g1 ds vs → bndL N (ds.map (fz N S1 k)) = true → RelDs K (g1.settled N S1) (ds.map (fz N S1 k)) vs := fun r b => settled_rels l hN r b
    have z0 : ∀ {ds : List D}, ds.map (fz N S1 0) = ds := fun {ds} => by
      conv => rhs; rw [← List.map_id ds]
      exact List.map_congr_left fun x _ => rfl
    cases d with
    | tup ds =>
      obtain ⟨vs, e1, r⟩ := h
      cases k with
      | zero => exact ⟨vs, e1, by have := up (k := 0) r (by rw [z0]; simpa [fz, bnd] using b); rwa [z0] at this⟩
      | succ k => exact ⟨vs, e1, up r (by simpa [fz, bnd] using b)⟩
    | lst ds =>
      obtain ⟨vs, e1, r⟩ := h
      cases k with
      | zero => exact ⟨vs, e1, by have := up (k := 0) r (by rw [z0]; simpa [fz, bnd] using b); rwa [z0] at this⟩
      | succ k => exact ⟨vs, e1, up r (by simpa [fz, bnd] using b)⟩
    | fz ds =>
      obtain ⟨vs, e1, r⟩ := h
      cases k with
      | zero => exact ⟨vs, e1, by have := up (k := 0) r (by rw [z0]; simpa [fz, bnd] using b); rwa [z0] at this⟩
      | succ k => exact ⟨vs, e1, up r (by simpa [fz, bnd] using b)⟩
    | ins C ns ds =>
      obtain ⟨dx, vs, e1, ln, r⟩ := h
      cases k with
      | zero => exact ⟨dx, vs, e1, ln, by have := up (k := 0) r (by rw [z0]; simpa [fz, bnd] using b); rwa [z0] at this⟩
      | succ k => exact ⟨dx, vs, e1, by rw [List.length_map]; exact ln, up r (by simpa [fz, bnd] using b)⟩
    | dic ks vs =>
      have shut0 : bnd 0 (.dic ks vs) = true → IRep K (g1.settled N S1) H1 a (fz N S1 k (.dic ks vs)) := fun hb0 => by
        rw [fz_id k _ (bnd_mono (Nat.zero_le N) _ hb0)]
        refine ⟨dicB_of0 hb0, DRep.over hb0 (fun a d q hb => ?_) (fun d v r hb => ?_) (fun _ q => q) h.2⟩
        · have hN0 := bnd_mono (Nat.zero_le N) _ hb
          have := settled_some (N := N) (S1 := S1) (k := 0) q (by rw [fz_id 0 d hN0]; exact hN0)
          rwa [fz_id 0 d hN0] at this
        · have hN0 := bnd_mono (Nat.zero_le N) _ hb
          have := settled_rel l hN (k := 0) r (by rw [fz_id 0 d hN0]; exact hN0)
          rwa [fz_id 0 d hN0] at this
      by_cases o : openK ks = true
      · -- what is of the store
        have hk : ∀ (ks : List D), openK ks = true → bndL 0 ks = true ∧ ∀ j, ks.map (fz N S1 j) = ks := fun ks o => by
          unfold openK at o
          split at o
          · exact ⟨rfl, fun j => by cases j <;> rfl⟩
          · exact ⟨rfl, fun j => by cases j <;> rfl⟩
          · cases o
        have lam : ∀ {i b : Int}, LamR g1 H1 a i b → LamR (g1.settled N S1) H1 a i b := fun h => LamR.stay (fun a d q hb => by
          have hN0 := bnd_mono (Nat.zero_le N) _ hb
          have := settled_some (N := N) (S1 := S1) (k := 0) q (by rw [fz_id 0 d hN0]; exact hN0)
          rwa [fz_id 0 d hN0] at this) (fun _ q => q) h
        have cel : ∀ {c : Addr} {d : D} {j : Nat}, g1.G c = some (celD d) → bnd N (fz N S1 j d) = true → (g1.settled N S1).G c = some (celD (fz N S1 j d)) := fun {c d j} q hb => by
          have e0 : fz N S1 (j + 1) (celD d) = celD (fz N S1 j d) := by
            show D.dic _ _ = D.dic _ _
            rw [(hk [.bl false] rfl).2 j]; rfl
          have := settled_some (N := N) (S1 := S1) (k := j + 1) q (by rw [e0]; simp [celD, bnd, bndL, hb])
          rwa [e0] at this
        obtain ⟨k', hf⟩ : ∃ k', fz N S1 k (.dic ks vs) = .dic ks (vs.map (fz N S1 k')) := by
          cases k with
          | zero => exact ⟨0, by rw [z0]; rfl⟩
          | succ k => exact ⟨k, by show D.dic (ks.map (fz N S1 k)) _ = _; rw [(hk ks o).2 k]⟩
        rw [hf] at b ⊢
        have bv : bndL N (vs.map (fz N S1 k')) = true := by
          simp only [bnd, Bool.and_eq_true] at b
          exact b.2
        have hB : dicB (g1.settled N S1).sz ks (vs.map (fz N S1 k')) = true := by
          unfold dicB
          rw [if_pos o, (hk ks o).1]
          exact bv
        refine ⟨hB, ?_⟩
        have h2 := h.2
        unfold openK at o
        split at o
        · match vs, h2, bv with
          | [d], h2, bv =>
            obtain ⟨ob, u, v, e1, e2, e3, e4⟩ := h2
            have bd : bnd N (fz N S1 k' d) = true := by simpa [bndL] using bv
            exact ⟨ob, u, v, e1, e2, e3, settled_rel l hN e4 bd⟩
          | [], h2, _ => exact h2.elim
          | _ :: _ :: _, h2, _ => exact h2.elim
        · have h2 : LamR g1 H1 a _ _ ∧ CelR g1 _ _ vs := h2
          obtain ⟨h1, lk, q1, q2, q3⟩ := h2
          refine ⟨lam h1, lk, q1, by rw [List.length_map]; exact q2, fun j y d e1 e2 => ?_⟩
          rw [List.getElem?_map] at e2
          cases q : vs[j]? with
          | none => rw [q] at e2; cases e2
          | some d0 =>
            rw [q] at e2; cases e2
            obtain ⟨c, c1, c2⟩ := q3 j y d0 e1 q
            exact ⟨c, c1, cel c2 (bndL_all.mp bv _ (List.mem_map_of_mem (List.mem_of_getElem? q)))⟩
        · cases o
      · exact shut0 (dicB_shut h.1 (by simpa using o))
    | _ => exact h.elim
  refine ⟨⟨fun a d q => ?_, by rw [h0]; exact Nat.le_refl _, fun n hn => e.m n hn, e.F⟩, ⟨fun a d q => ?_, fun n o q ho => ?_, fun i j oi oj q1 n1 q2 n2 z => ?_, ?_, fun a o q => ?_, fun t ht => by
    have := settled_some (N := N) (S1 := S1) (k := 0) (l.tab t ht) rfl
    exact this⟩⟩
  · have q1 := e.G a d q
    have b := b0 a d q
    have := settled_some (N := N) (S1 := S1) (k := 0) q1 b
    rwa [fz_id 0 d b] at this
  · have q' : (match g1.G a with
      | some e => if h : ∃ k, bnd N (fz N S1 k e) = true then some (fz N S1 h.choose e) else none
      | none => if h : ∃ n : Nat, ∃ k : Nat, N ≤ n ∧ (∃ o, S1[n]? = some o ∧ o ≠ AO.gone) ∧ g1.m n = a ∧ bnd N (fz N S1 k (.ref n)) = true then
          some (fz N S1 h.choose_spec.choose (.ref h.choose)) else none) = some d := q
    cases w : g1.G a with
    | some e2 =>
      rw [w] at q'
      simp only at q'
      split at q'
      · rename_i h
        cases q'
        exact irep (l.imm a e2 w) h.choose_spec
      · cases q'
    | none =>
      rw [w] at q'
      simp only at q'
      split at q'
      · rename_i h
        cases q'
        obtain ⟨c1, ⟨o, c2, c3⟩, c4, c5⟩ := h.choose_spec.choose_spec
        generalize h.choose_spec.choose = k at c5 ⊢
        generalize h.choose = n at c1 c2 c4 c5 ⊢
        subst c4
        have hnN : ¬ n < N := Nat.not_lt.mpr c1
        have M := (l.sto n o c2 c3).2
        cases k with
        | zero => simp [fz, bnd] at c5; exact absurd c5 hnN
        | succ k =>
          have e2 : fz N S1 (k + 1) (.ref n) = match S1[n]? with
              | some (.lst xs) => .lst (xs.map (fz N S1 k))
              | some (.ins C ns vs) => .ins C ns (vs.map (fz N S1 k))
              | _ => .ref n := by rw [fz, if_neg hnN]
          rw [c2] at e2
          cases o with
          | lst xs =>
            simp only at e2
            rw [e2] at c5 ⊢
            obtain ⟨vs, e3, r⟩ := M
            exact ⟨vs, e3, settled_rels l hN r (by simpa [bnd] using c5)⟩
          | ins C ns xs =>
            simp only at e2
            rw [e2] at c5 ⊢
            obtain ⟨dx, vs, e3, ln, r⟩ := M
            exact ⟨dx, vs, e3, by rw [List.length_map]; exact ln, settled_rels l hN r (by simpa [bnd] using c5)⟩
          | dic _ _ =>
            simp only at e2
            rw [e2] at c5
            simp [bnd] at c5
            exact absurd c5 hnN
          | dkn _ _ _ =>
            simp only at e2
            rw [e2] at c5
            simp [bnd] at c5
            exact absurd c5 hnN
          | gone => exact absurd rfl c3
      · cases q'
  · have hn : n < N := by
      by_cases h : n < N
      · exact h
      · rw [List.getElem?_eq_none (by rw [List.length_take]; omega)] at q; cases q
    rw [List.getElem?_take_of_lt hn] at q
    obtain ⟨m1, m2⟩ := l.sto n o q ho
    refine ⟨?_, ?_⟩
    · show (match g1.G (g1.m n) with
        | some e => _
        | none => if h : ∃ n' : Nat, ∃ k : Nat, N ≤ n' ∧ (∃ o, S1[n']? = some o ∧ o ≠ AO.gone) ∧ g1.m n' = g1.m n ∧ bnd N (fz N S1 k (.ref n')) = true then
            some (fz N S1 h.choose_spec.choose (.ref h.choose)) else none) = none
      rw [m1]
      simp only
      rw [dif_neg]
      rintro ⟨n', k, c1, ⟨o', c2, c3⟩, c4, _⟩
      have := l.inj n' n o' o c2 c3 q ho c4
      omega
    · have bo := hS n o hn q
      have up : ∀ {ds : List D} {vs : List V}, RelDs K g1 ds vs → bndL N ds = true → RelDs K (g1.settled N S1) ds vs := fun {ds vs} r b => by
        have z0 : ds.map (fz N S1 0) = ds := by
          conv => rhs; rw [← List.map_id ds]
          exact List.map_congr_left fun x _ => rfl
        have := settled_rels l hN (k := 0) r (by rw [z0]; exact b)
        rwa [z0] at this
      cases o with
      | lst xs => obtain ⟨vs, e3, r⟩ := m2; exact ⟨vs, e3, up r bo⟩
      | ins C ns xs => obtain ⟨dx, vs, e3, ln, r⟩ := m2; exact ⟨dx, vs, e3, ln, up r bo⟩
      | dic ks ds =>
        obtain ⟨kk, vs, e0, e3, ln, r⟩ := m2
        exact ⟨kk, vs, e0, e3, ln, up r (Bool.and_eq_true_iff.mp (show (bndL N ks && bndL N ds) = true from bo)).2⟩
      | dkn w ks ds =>
        obtain ⟨xs, vs, e1, e2, e3, e4, r, rv, r2⟩ := m2
        have bo' := Bool.and_eq_true_iff.mp (show (bndL N ks && bndL N ds) = true from bo)
        exact ⟨xs, vs, e1, e2, e3, e4, up r bo'.1, rv, up r2 bo'.2⟩
      | gone => trivial
  · have f : ∀ {i : Nat} {o : AO}, (S1.take N)[i]? = some o → S1[i]? = some o := fun {i o} w => by
      by_cases h : i < N
      · rwa [List.getElem?_take_of_lt h] at w
      · rw [List.getElem?_eq_none (by rw [List.length_take]; omega)] at w; cases w
    exact l.inj i j oi oj (f q1) n1 (f q2) n2 z
  · show N = _
    rw [List.length_take, ← l.sz]; omega
  · obtain ⟨x1, x2, x3⟩ := l.fr a o q
    refine ⟨x1, ?_, fun n ob w hw => ?_⟩
    · show (match g1.G a with
        | some e => _
        | none => if h : ∃ n' : Nat, ∃ k : Nat, N ≤ n' ∧ (∃ o, S1[n']? = some o ∧ o ≠ AO.gone) ∧ g1.m n' = a ∧ bnd N (fz N S1 k (.ref n')) = true then
            some (fz N S1 h.choose_spec.choose (.ref h.choose)) else none) = none
      rw [x2]
      simp only
      rw [dif_neg]
      rintro ⟨n', k, c1, ⟨o', c2, c3⟩, c4, _⟩
      exact x3 n' o' c2 c3 c4
    · have f : S1[n]? = some ob := by
        by_cases h : n < N
        · rwa [List.getElem?_take_of_lt h] at w
        · rw [List.getElem?_eq_none (by rw [List.length_take]; omega)] at w; cases w
      exact x3 n ob f hw
end
def Gh.pureAt (g : Gh) (a : Addr) : Option D := match g.G a with
  | some d => if bnd 0 d = true then some d else none
  | none => none
def Gh.sealed (g : Gh) (H : Hp) : Gh where
  G := g.pureAt
  m := g.m
  sz := 0
  F := fun a => match g.pureAt a with
    | some _ => none
    | none => match g.F a with
      | some o => some o
      | none => match H a with
        | some (.tbl _) => none
        | o => o
def Gh.opened (g g1 : Gh) : Gh where
  G := fun a => match g.G a with
    | some e => some e
    | none => g1.pureAt a
  m := g.m
  sz := g.sz
  F := g.F
section
variable {K : PySem.W.Frag} {g g1 : Gh} {S S1 : Sto} {H H1 : Hp}
theorem pureAt_some {a : Addr} {d : D} : g.pureAt a = some d ↔ g.G a = some d ∧ bnd 0 d = true := by
  unfold Gh.pureAt
  cases q : g.G a with
  | none => simp
  | some e =>
    by_cases b : bnd 0 e = true
    · simp only [b, if_true, Option.some.injEq]
      exact ⟨fun z => ⟨z, by rw [← z]; exact b⟩, fun z => z.1⟩
    · simp only [b, reduceCtorEq, Option.some.injEq, false_iff, Bool.false_eq_true, if_false]
      rintro ⟨z, b'⟩
      rw [z] at b; exact b b'
theorem relD_over (hp : ∀ a d, g.G a = some d → bnd 0 d = true → g1.G a = some d) {d : D} {v : V} (r : RelD K g d v) (b : bnd 0 d = true) : RelD K g1 d v := by
  cases d with
  | ref n => simp [bnd] at b
  | tup xs =>
    obtain ⟨_, a, e, q⟩ := r
    exact ⟨bndL_mono (Nat.zero_le _) _ (by simpa [bnd] using b), a, e, q.imp (fun z => hp a _ z b) id⟩
  | fz xs =>
    obtain ⟨_, a, e, q⟩ := r
    exact ⟨bndL_mono (Nat.zero_le _) _ (by simpa [bnd] using b), a, e, q.imp (fun z => hp a _ z b) id⟩
  | lst xs =>
    obtain ⟨_, a, e, q⟩ := r
    exact ⟨bndL_mono (Nat.zero_le _) _ (by simpa [bnd] using b), a, e, hp a _ q b⟩
  | dic ks vs =>
    obtain ⟨_, a, e, q⟩ := r
    have b' := b
    simp only [bnd, Bool.and_eq_true] at b'
    refine ⟨?_, a, e, hp a _ q b⟩
    simp only [Bool.and_eq_true]
    exact ⟨bndL_mono (Nat.zero_le _) _ b'.1, bndL_mono (Nat.zero_le _) _ b'.2⟩
  | ins C ns vs =>
    obtain ⟨_, a, e, q⟩ := r
    exact ⟨bndL_mono (Nat.zero_le _) _ (by simpa [bnd] using b), a, e, hp a _ q b⟩
  | _ => exact r
theorem relDs_over (hp : ∀ a d, g.G a = some d → bnd 0 d = true → g1.G a = some d) : ∀ {ds : List D} {vs : List V}, RelDs K g ds vs → bndL 0 ds = true → RelDs K g1 ds vs
  | _, _, .nil, _ => .nil
  | _, _, .cons r t, b => by
    simp only [bndL, Bool.and_eq_true] at b
    exact .cons (relD_over hp r b.1) (relDs_over hp t b.2)
theorem iRep_over (hp : ∀ a d, g.G a = some d → bnd 0 d = true → g1.G a = some d) {a : Addr} {d : D} (h : IRep K g H a d) (b : bnd 0 d = true) : IRep K g1 H a d := by
  cases d with
  | tup ds => obtain ⟨vs, e1, r⟩ := h; exact ⟨vs, e1, relDs_over hp r (by simpa [bnd] using b)⟩
  | lst ds => obtain ⟨vs, e1, r⟩ := h; exact ⟨vs, e1, relDs_over hp r (by simpa [bnd] using b)⟩
  | fz ds => obtain ⟨vs, e1, r⟩ := h; exact ⟨vs, e1, relDs_over hp r (by simpa [bnd] using b)⟩
  | ins C ns ds => obtain ⟨dx, vs, e1, ln, r⟩ := h; exact ⟨dx, vs, e1, ln, relDs_over hp r (by simpa [bnd] using b)⟩
  | dic ks vs => exact ⟨dicB_of0 b, DRep.over b hp (fun d v r hb => relD_over hp r hb) (fun _ q => q) h.2⟩
  | _ => exact h.elim
theorem iRep_notbl {a : Addr} {d : D} (h : IRep K g H a d) (np : ¬ bnd 0 d = true) : ∃ o, H a = some o ∧ ∀ ps, o ≠ .tbl ps := by
  cases d with
  | tup ds => obtain ⟨vs, e1, r⟩ := h; exact ⟨_, e1, fun _ z => by cases z⟩
  | lst ds => obtain ⟨vs, e1, r⟩ := h; exact ⟨_, e1, fun _ z => by cases z⟩
  | fz ds =>
    obtain ⟨vs, e | ⟨o, e⟩, r⟩ := h
    · exact ⟨_, e, fun _ z => by cases z⟩
    · exact ⟨_, e, fun _ z => by cases z⟩
  | ins C ns ds => obtain ⟨dx, vs, e1, ln, r⟩ := h; exact ⟨_, e1, fun _ z => by cases z⟩
  | dic ks vs =>
    by_cases o : openK ks = true
    · have h2 := h.2
      unfold DRep at h2
      split at h2
      · cases o
      · cases o
      · cases o
      · cases o
      · obtain ⟨_, u, v, e1, _⟩ := h2; exact ⟨_, e1, fun _ z => by cases z⟩
      · cases o
      · obtain ⟨⟨lk, pm, doc, c, ctv, dV, e1, e2, e3, e4⟩, _⟩ := h2; exact ⟨_, e3, fun _ z => by cases z⟩
      · exact h2.elim
    · exact absurd (show bnd 0 (.dic ks vs) = true from dicB_shut h.1 (by simpa using o)) np
  | _ => exact h.elim
theorem mRep_notbl {a : Addr} {o : AO} (h : MRep K g H a o) (n : o ≠ .gone) : ∃ u, H a = some u ∧ ∀ ps, u ≠ .tbl ps := by
  cases o with
  | lst ds => obtain ⟨vs, e1, r⟩ := h; exact ⟨_, e1, fun _ z => by cases z⟩
  | ins C ns ds => obtain ⟨dx, vs, e1, ln, r⟩ := h; exact ⟨_, e1, fun _ z => by cases z⟩
  | dic ks ds => obtain ⟨kk, vs, e0, e1, ln, r⟩ := h; exact ⟨_, e1, fun _ z => by cases z⟩
  | dkn w ks ds => obtain ⟨xs, vs, e1, _⟩ := h; exact ⟨_, e1, fun _ z => by cases z⟩
  | gone => exact absurd rfl n
theorem sealed_G {a : Addr} {d : D} : (g.sealed H).G a = some d ↔ g.G a = some d ∧ bnd 0 d = true := pureAt_some
theorem sealed_F {a : Addr} {o : HO} (hp : g.pureAt a = none) (h : H a = some o) (hf : g.F a = none ∨ g.F a = some o) (nt : ∀ ps, o ≠ .tbl ps) : (g.sealed H).F a = some o := by
  unfold Gh.sealed
  simp only [hp]
  rcases hf with hf | hf
  · simp only [hf, h]
    cases o <;> first | rfl | (rename_i ps; exact absurd rfl (nt ps))
  · simp only [hf]
theorem shut (l : Rl K g S H) : Rl K (g.sealed H) [] H := by
  have hp : ∀ a d, g.G a = some d → bnd 0 d = true → (g.sealed H).G a = some d := fun a d q b => sealed_G.mpr ⟨q, b⟩
  refine ⟨fun a d q => ?_, fun n o q => by simp at q, fun i j oi oj q => by simp at q, rfl, fun a o q => ?_, fun t ht => hp _ _ (l.tab t ht) rfl⟩
  · obtain ⟨q1, q2⟩ := sealed_G.mp q
    exact iRep_over hp (l.imm a d q1) q2
  · have q' : (match g.pureAt a with
      | some _ => none
      | none => match g.F a with
        | some o => some o
        | none => match H a with
          | some (.tbl _) => none
          | o => o) = some o := q
    split at q'
    · cases q'
    · rename_i hn
      refine ⟨?_, hn, fun n ob w => by simp at w⟩
      split at q'
      · rename_i o' hf
        cases q'
        exact (l.fr a o hf).1
      · split at q'
        · cases q'
        · exact q'
theorem sealed_rels {ds : List D} {vs : List V} (r : RelDs K g ds vs) (b : bndL 0 ds = true) : RelDs K (g.sealed H) ds vs := relDs_over (fun _ _ q b => sealed_G.mpr ⟨q, b⟩) r b
theorem opened_ext : Ext g (g.opened g1) := ⟨fun a d q => by
  show (match g.G a with
    | some e => some e
    | none => g1.pureAt a) = some d
  rw [q], Nat.le_refl _, fun _ _ => rfl, rfl⟩
theorem reopen (l : Rl K g S H) (e : Ext (g.sealed H) g1) (l1 : Rl K g1 S1 H1) : Rl K (g.opened g1) S H1 ∧ ∀ a d, g1.G a = some d → bnd 0 d = true → (g.opened g1).G a = some d := by
  -- what is not pure stands as it stood
  have aside : ∀ {a : Addr} {o : HO}, g.pureAt a = none → H a = some o → (g.F a = none ∨ g.F a = some o) → (∀ ps, o ≠ .tbl ps) → H1 a = some o ∧ g1.G a = none := fun {a o} hp h hf nt => by
    have q : g1.F a = some o := by rw [e.F]; exact sealed_F hp h hf nt
    obtain ⟨x1, x2, _⟩ := l1.fr a o q
    exact ⟨x1, x2⟩
  have noF : ∀ {a : Addr} {d : D}, g.G a = some d → g.F a = none := fun {a d} q => by
    cases w : g.F a with
    | none => rfl
    | some o =>
      have := (l.fr a o w).2.1
      rw [q] at this; cases this
  have hp : ∀ a d, g1.G a = some d → bnd 0 d = true → (g.opened g1).G a = some d := fun a d q b => by
    show (match g.G a with
      | some e => some e
      | none => g1.pureAt a) = some d
    cases w : g.G a with
    | none => exact pureAt_some.mpr ⟨q, b⟩
    | some d' =>
      by_cases b' : bnd 0 d' = true
      · have := e.G a d' (sealed_G.mpr ⟨w, b'⟩)
        rw [q] at this
        exact this.symm ▸ rfl
      · obtain ⟨o, ho, nt⟩ := iRep_notbl (l.imm a d' w) b'
        have hn : g.pureAt a = none := by
          cases z : g.pureAt a with
          | none => rfl
          | some y =>
            obtain ⟨z1, z2⟩ := pureAt_some.mp z
            rw [w] at z1; cases z1
            exact absurd z2 b'
        have := (aside hn ho (.inl (noF w)) nt).2
        rw [q] at this; cases this
  refine ⟨⟨fun a d q => ?_, fun n o q ho => ?_, l.inj, l.sz, fun a o q => ?_, fun t ht => opened_ext.G _ _ (l.tab t ht)⟩, hp⟩
  · have q' : (match g.G a with
      | some e => some e
      | none => g1.pureAt a) = some d := q
    cases w : g.G a with
    | some d' =>
      rw [w] at q'
      cases q'
      by_cases b' : bnd 0 d = true
      · exact iRep_over hp (l1.imm a d (e.G a d (sealed_G.mpr ⟨w, b'⟩))) b'
      · obtain ⟨o, ho, nt⟩ := iRep_notbl (l.imm a d w) b'
        have hn : g.pureAt a = none := by
          cases z : g.pureAt a with
          | none => rfl
          | some y =>
            obtain ⟨z1, z2⟩ := pureAt_some.mp z
            rw [w] at z1; cases z1
            exact absurd z2 b'
        have k := (aside hn ho (.inl (noF w)) nt).1
        exact (l.imm a d w).stay opened_ext fun u z => by rw [ho] at z; cases z; exact k
    | none =>
      rw [w] at q'
      obtain ⟨z1, z2⟩ := pureAt_some.mp q'
      exact iRep_over hp (l1.imm a d z1) z2
  · obtain ⟨m1, m2⟩ := l.sto n o q ho
    obtain ⟨u, hu, nt⟩ := mRep_notbl m2 ho
    have hn : g.pureAt (g.m n) = none := by unfold Gh.pureAt; rw [m1]
    have hf : g.F (g.m n) = none := by
      cases w : g.F (g.m n) with
      | none => rfl
      | some o' => exact absurd rfl ((l.fr _ _ w).2.2 n o q ho)
    obtain ⟨k1, k2⟩ := aside hn hu (.inl hf) nt
    refine ⟨?_, m2.stay opened_ext fun u' z => by
      have z' : H (g.m n) = some u' := z
      rw [hu] at z'; cases z'; exact k1⟩
    show (match g.G (g.m n) with
      | some e => some e
      | none => g1.pureAt (g.m n)) = none
    rw [m1]
    simp only
    unfold Gh.pureAt
    rw [k2]
  · have q0 : g.F a = some o := q
    obtain ⟨x1, x2, x3⟩ := l.fr a o q0
    have hn : g.pureAt a = none := by unfold Gh.pureAt; rw [x2]
    have qf : (g.sealed H).F a = some o := by
      unfold Gh.sealed
      simp only [hn, q0]
    have q1 : g1.F a = some o := by rw [e.F]; exact qf
    obtain ⟨y1, y2, _⟩ := l1.fr a o q1
    refine ⟨y1, ?_, x3⟩
    show (match g.G a with
      | some e => some e
      | none => g1.pureAt a) = none
    rw [x2]
    simp only
    unfold Gh.pureAt
    rw [y2]
end
open PySem PySem.Spec PyProof.Rows




def relB : Gh → Bool → Bool → Prop := fun _ a b => a = b
def relI : Gh → Option Int → Option Int → Prop := fun _ a b => a = b
abbrev SE (X : Cx) (W : WX) (e : Expr) (f : EF) : Prop := PE X e (TD X.K W (RelD X.K) f)
abbrev ST (X : Cx) (W : WX) (e : Expr) (f : TF) : Prop := PT X e (TD X.K W relB f)
abbrev SW (X : Cx) (W : WX) (e : Expr) (f : TF) : Prop := PW X e (TD X.K W relB f)
abbrev SA (X : Cx) (W : WX) (es : List Expr) (f : AF) : Prop := PA X es (TD X.K W (RelDs X.K) f)
abbrev SO (X : Cx) (W : WX) (e : Option Expr) (f : OF) : Prop := PO X e (TD X.K W relI f)
theorem pe_imp {X : Cx} {e : Expr} {t t' : TE} (h : PE X e t) (i : ∀ σ H Q, t' σ H Q → t σ H Q) : PE X e t' := ⟨fun pins s σ H Q I w => h.run pins s σ H Q I (i σ H Q w)⟩
theorem pt_imp {X : Cx} {e : Expr} {t t' : TT} (h : PT X e t) (i : ∀ σ H Q, t' σ H Q → t σ H Q) : PT X e t' := ⟨fun pins s σ H Q I w => h.run pins s σ H Q I (i σ H Q w)⟩
theorem pw_imp {X : Cx} {e : Expr} {t t' : TT} (h : PW X e t) (i : ∀ σ H Q, t' σ H Q → t σ H Q) : PW X e t' := ⟨fun wh pins s σ H Q I w => h.run wh pins s σ H Q I (i σ H Q w)⟩
theorem pa_imp {X : Cx} {e : List Expr} {t t' : TA} (h : PA X e t) (i : ∀ σ H Q, t' σ H Q → t σ H Q) : PA X e t' := ⟨fun pos pins s σ H Q I w => h.run pos pins s σ H Q I (i σ H Q w)⟩
theorem po_imp {X : Cx} {e : Option Expr} {t t' : TO} (h : PO X e t) (i : ∀ σ H Q, t' σ H Q → t σ H Q) : PO X e t' := ⟨fun pins s σ H Q I w => h.run pins s σ H Q I (i σ H Q w)⟩
theorem td_seq {α β : Type} {K : PySem.W.Frag} {W : WX} {rel : Gh → α → β → Prop} {f : Env → Sto → R α} {σ : St} {H : Hp} {Q Q' : β → Hp → Prop} (h : TD K W rel f σ H Q) (i : ∀ b H, Q b H → Q' b H) : TD K W rel f σ H Q' := by
  obtain ⟨g, r, S, l, e, p⟩ := h
  exact ⟨g, r, S, l, e, p.imp i⟩
theorem post_ok {α β : Type} {K : PySem.W.Frag} {W : WX} {rel : Gh → α → β → Prop} {g : Gh} {σ : St} {a : α} {r : Env} {S : Sto} {Q : β → Hp → Prop} (h : PostG K W rel g σ (.ok a r S) Q) {H : Hp} {b : β} (l : Rl K g S H) (e : REnv K g r σ) (q : rel g a b) : Q b H :=
  h g H b (.refl g) l e q


section
variable {X : Cx} {W : WX} {pos : Pos}
theorem se_var (i : Nat) {x : Str} {pos : Pos} (hN : X.N[i]? = some x := by rfl) (hv : Vis X.env.scope x := by first | exact Or.inl rfl | exact Or.inr (Or.inl rfl) | exact Or.inr (Or.inr rfl)) (hd : (x == ("__debug__" : Str)) = false := by decide)
    (hcd : (x == ("__classdict__" : Str)) = false := by decide) : SE X W (.Name x pos) (eVar i) := pe_imp (pe_var hN hv hd hcd) fun σ H Q h => by
  obtain ⟨g, r, S, l, e, p⟩ := h
  unfold eVar at p
  split at p
  · rename_i d q
    obtain ⟨v, h1, h2⟩ := e.2 i d q
    exact ⟨v, h1, post_ok p l e h2⟩
  · exact p.elim
theorem tc_of {v : V} {d : D} (h : ∀ g, RelD X.K g d v) (σ : St) (H : Hp) (Q : VK) : TD X.K W (RelD X.K) (eC d) σ H Q → tC v σ H Q := fun ⟨g, r, S, l, e, p⟩ => post_ok p l e (h g)
theorem se_int {i j pos} : SE X W (.Constant (.int i) j pos) (eC (.int i)) := pe_imp pe_int (tc_of fun _ => rfl)
theorem se_bl {b j pos} : SE X W (.Constant (.bool b) j pos) (eC (.bl b)) := pe_imp pe_bl (tc_of fun _ => rfl)
theorem se_non {j pos} : SE X W (.Constant .none j pos) (eC .non) := pe_imp pe_non (tc_of fun _ => rfl)
theorem se_str {x j pos} : SE X W (.Constant (.str x) j pos) (eC (.str x)) := pe_imp pe_str (tc_of fun _ => rfl)
theorem kRep_rel {K : PySem.W.Frag} {f : Nat} {d : D} {u : Value} (h : kRep K f d u = true) : ∃ v, RelV v u ∧ ∀ g, RelD K g d v := by
  have b := kRep_bnd f d u h
  cases f with
  | zero => simp [kRep] at h
  | succ f =>
    cases d with
    | non => cases u <;> first | exact ⟨.non, rfl, fun _ => rfl⟩ | (simp [kRep] at h)
    | bl x => cases u <;> first | (simp [kRep] at h; subst h; exact ⟨.bl _, rfl, fun _ => rfl⟩) | (simp [kRep] at h)
    | int x => cases u <;> first | (simp [kRep] at h; subst h; exact ⟨.int _, ⟨_, rfl⟩, fun _ => rfl⟩) | (simp [kRep] at h)
    | str x => cases u <;> first | (simp [kRep] at h; subst h; exact ⟨.str _, ⟨_, rfl⟩, fun _ => rfl⟩) | (simp [kRep] at h)
    | ty x => cases u <;> first | (simp [kRep] at h; subst h; exact ⟨.ty _, rfl, fun _ => rfl⟩) | (simp [kRep] at h)
    | con x => cases u <;> first | (simp [kRep] at h; subst h; exact ⟨.ref _, rfl, fun _ => rfl⟩) | (simp [kRep] at h)
    | tup x => cases u <;> first | exact ⟨.ref _, rfl, fun g => ⟨bndL_mono (Nat.zero_le _) _ (by simpa [bnd] using b), _, rfl, .inr ⟨_, h⟩⟩⟩ | (simp [kRep] at h)
    | fz x => cases u <;> first | exact ⟨.ref _, rfl, fun g => ⟨bndL_mono (Nat.zero_le _) _ (by simpa [bnd] using b), _, rfl, .inr ⟨_, h⟩⟩⟩ | (simp [kRep] at h)
    | lst x => cases u <;> simp [kRep] at h
    | dic x y => cases u <;> simp [kRep] at h
    | ins x y z => cases u <;> simp [kRep] at h
    | ref x => cases u <;> simp [kRep] at h
def KCon (K : PySem.W.Frag) (mg : Str → Option Value) (x : Str) (d : D) : Prop := ∃ u f, mg x = some u ∧ kRep K f d u = true
theorem se_gc {x : Str} {d : D} (h : KCon X.K X.mg x d) (hg : Gl X x := by rfl) (hd : (x == ("__debug__" : Str)) = false := by decide) : SE X W (.Name x pos) (eC d) := by
  obtain ⟨u, f, hm, hk⟩ := h
  obtain ⟨v, r, q⟩ := kRep_rel hk
  exact pe_imp (pe_glob hg hm r hd) (tc_of q)
theorem se_ty {x : Str} {n : String} (hm : X.mg x = none) (hv : bootBuiltins x = some (.type n) := by decide +kernel) (hg : Gl X x := by rfl) (hn : x ≠ "__name__" := by decide) (hd : (x == ("__debug__" : Str)) = false := by decide) : SE X W (.Name x pos) (eC (.ty n)) :=
  pe_imp (pe_bltn (v := .ty n) hg hm hv rfl hn hd) (tc_of fun _ => rfl)



variable {a b c : Expr} {fa fb fc : EF}
theorem td_two {β γ : Type} {rel : Gh → γ → β → Prop} {k : D → D → Env → Sto → R γ} {σ : St} {H : Hp} {Q : β → Hp → Prop} {R2' : V → V → Hp → Prop}
    (h : TD X.K W rel (fun r S => (fa r S).bind fun x r S => (fb r S).bind fun y r S => k x y r S) σ H Q)
    (i : ∀ g r S H x y xv yv, Rl X.K g S H → REnv X.K g r σ → RelD X.K g x xv → RelD X.K g y yv → PostG X.K W rel g σ (k x y r S) Q → R2' xv yv H) :
    TD X.K W (RelD X.K) fa σ H fun x H1 => TD X.K W (RelD X.K) fb σ H1 fun y H2 => R2' x y H2 := by
  refine td_seq (TD.split (rel := RelD X.K) h) fun xv H1 ⟨g, x, r, S, l, e, rx, p⟩ => ?_
  refine ⟨g, r, S, l, e, ?_⟩
  refine PostG.imp p.split fun yv H2 ⟨g', y, r', S', e', l', re, ry, p'⟩ => ?_
  exact i g' r' S' H2 x y xv yv l' re (rx.mono e') ry p'
theorem se_bin {op : Operator} {o : Sto → D → D → Option D} (u : BinU X op o) (ha : SE X W a fa) (hb : SE X W b fb) : SE X W (.BinOp a op b pos) (eBin o fa fb) := by
  obtain ⟨r, ho, hu⟩ := u
  refine pe_imp (pe_op ho ha hb) fun σ H Q h => td_two h fun g r S H x y xv yv l e rx ry p => ?_
  split at p
  · rename_i d q
    exact hu g S H x y d xv yv Q l rx ry q fun g' H' v x' l' r' => p g' H' v x' l' (e.mono x') r'
  · exact p.elim
theorem se_cmp {op : CmpOp} {o : Sto → D → D → Option Bool} (u : CmpU X op o) (ha : SE X W a fa) (hb : SE X W b fb) (hm : behindInMarks op b = false := by first | exact nomark _ | rfl) : SE X W (.Compare a [op] [b] pos) (eCmp o fa fb) := by
  obtain ⟨r, ho, hu⟩ := u
  refine pe_imp (pe_cmpR ho ha hb hm) fun σ H Q h => td_two h fun g r S H x y xv yv l e rx ry p => ?_
  split at p
  · rename_i d q
    exact hu g S H x y d xv yv Q l rx ry q (post_ok p l e rfl)
  · exact p.elim
theorem st_cmp {op : CmpOp} {o : Sto → D → D → Option Bool} (u : CmpU X op o) (ha : SE X W a fa) (hb : SE X W b fb) (hm : behindInMarks op b = false := by first | exact nomark _ | rfl) : ST X W (.Compare a [op] [b] pos) (tCmp o fa fb) := by
  obtain ⟨r, ho, hu⟩ := u
  refine pt_imp (pt_cmpR ho ha hb hm) fun σ H Q h => td_two h fun g r S H x y xv yv l e rx ry p => ?_
  split at p
  · rename_i d q
    exact hu g S H x y d xv yv _ l rx ry q ⟨d, rfl, post_ok p l e rfl⟩
  · exact p.elim










variable {rest : List Expr} {ta tb tc : TF}
theorem se_one {op} (h : SE X W a fa) : SE X W (.BoolOp op [a] pos) fa := pe_one h
theorem se_and (ha : SE X W a fa) (hb : SE X W (.BoolOp .And (b :: rest) pos) fb) : SE X W (.BoolOp .And (a :: b :: rest) pos) (eAnd fa fb) :=
  pe_imp (pe_and ha hb) fun σ H Q h => td_seq (TD.split (rel := RelD X.K) h) fun xv H1 ⟨g, x, r, S, l, e, rx, p⟩ => by
    split at p
    · cases rx; exact ⟨true, rfl, by rw [if_pos rfl]; exact ⟨g, r, S, l, e, p⟩⟩
    · cases rx; exact ⟨false, rfl, by rw [if_neg Bool.false_ne_true]; exact post_ok p l e rfl⟩
    · exact p.elim
theorem st_val (ha : SE X W a fa) (he : ∀ whole, isTrue a X.env whole = (do let v ← whole; standAt a.pos; holding [v] (truthy v)) := by intro _; rfl) : ST X W a (tVal fa) :=
  pt_imp (pt_val ha he) fun σ H Q h => td_seq (TD.split (rel := RelD X.K) h) fun xv H1 ⟨g, x, r, S, l, e, rx, p⟩ => by
    split at p
    · rename_i b; cases rx; exact ⟨b, rfl, post_ok p l e rfl⟩
    · exact p.elim
theorem st_not (ha : ST X W a ta) : ST X W (.UnaryOp .Not a pos) (tNotB ta) :=
  pt_imp (pt_not ha) fun σ H Q h => td_seq (TD.split (rel := relB) h) fun xv H1 ⟨g, x, r, S, l, e, rx, p⟩ => by
    cases rx
    exact post_ok p l e rfl
theorem st_and1 (ha : ST X W a ta) : SW X W (.BoolOp .And [a] pos) ta := pw_and1 ha
theorem st_or1 (ha : ST X W a ta) : SW X W (.BoolOp .Or [a] pos) ta := pw_or1 ha
theorem st_and (ha : ST X W a ta) (hb : SW X W (.BoolOp .And (b :: rest) pos) tb) : SW X W (.BoolOp .And (a :: b :: rest) pos) (tAndB ta tb) :=
  pw_imp (pw_and ha hb) fun σ H Q h => td_seq (TD.split (rel := relB) h) fun xv H1 ⟨g, x, r, S, l, e, rx, p⟩ => by
    cases rx
    split
    · rename_i hx; rw [if_pos hx] at p; exact ⟨g, r, S, l, e, p⟩
    · rename_i hx; rw [if_neg hx] at p; exact post_ok p l e rfl
theorem st_or (ha : ST X W a ta) (hb : SW X W (.BoolOp .Or (b :: rest) pos) tb) : SW X W (.BoolOp .Or (a :: b :: rest) pos) (tOrB ta tb) :=
  pw_imp (pw_or ha hb) fun σ H Q h => td_seq (TD.split (rel := relB) h) fun xv H1 ⟨g, x, r, S, l, e, rx, p⟩ => by
    cases rx
    split
    · rename_i hx; rw [if_pos hx] at p; exact post_ok p l e rfl
    · rename_i hx; rw [if_neg hx] at p; exact ⟨g, r, S, l, e, p⟩
theorem st_w (h : SW X W a ta) : ST X W a ta := h.pt
theorem se_if {t : Expr} (hc : ST X W t tc) (ha : SE X W a fa) (hb : SE X W b fb) : SE X W (.IfExp t a b pos) (eIf tc fa fb) :=
  pe_imp (pe_ifExp hc ha hb) fun σ H Q h => td_seq (TD.split (rel := relB) h) fun xv H1 ⟨g, x, r, S, l, e, rx, p⟩ => by
    cases rx
    split
    · rename_i hx; rw [if_pos hx] at p; exact ⟨g, r, S, l, e, p⟩
    · rename_i hx; rw [if_neg hx] at p; exact ⟨g, r, S, l, e, p⟩


variable {es : List Expr} {fs : AF}
theorem sa_nil : SA X W [] aNil := pa_imp pa_nil fun σ H Q ⟨g, r, S, l, e, p⟩ => post_ok p l e .nil
theorem sa_cons (ha : SE X W a fa) (hr : SA X W es fs) (hs : starEach (a :: es) X.env = (false, eval a X.env) :: starEach es X.env := by rfl) : SA X W (a :: es) (aCons fa fs) :=
  pa_imp (pa_cons ha hr hs) fun σ H Q h => td_seq (TD.split (rel := RelD X.K) h) fun xv H1 ⟨g, x, r, S, l, e, rx, p⟩ =>
    ⟨g, r, S, l, e, PostG.imp p.split fun zv H2 ⟨g', z, r2, S', e', l', re, rz, p'⟩ => post_ok p' l' re (.cons (rx.mono e') rz)⟩



theorem se_tup {x1} (h : SA X W es fs) : SE X W (.Tuple es x1 pos) (eTup fs) :=
  pe_imp (pe_tup h) fun σ H Q hq => td_seq (TD.split (rel := RelDs X.K) hq) fun xv H1 ⟨g, x, r, S, l, e, rx, p⟩ => by
    split at p
    · rename_i hl
      refine ⟨by rw [← rx.length]; exact hl, fun q hp => ?_⟩
      obtain ⟨g', e1, l1, r1⟩ := l.newTup hp rx
      exact p g' _ _ e1 l1 (e.mono e1) r1
    · exact p.elim
theorem se_lst (h : SA X W es fs) : SE X W (.List es pos) (eLst fs) :=
  pe_imp (pe_lst h) fun σ H Q hq => td_seq (TD.split (rel := RelDs X.K) hq) fun xv H1 ⟨g, x, r, S, l, e, rx, p⟩ => by
    split at p
    · rename_i hl
      refine ⟨by rw [← rx.length]; exact hl, fun q hp => ?_⟩
      obtain ⟨g', e1, l1, r1⟩ := l.newLst hp rx
      exact p g' _ _ e1 l1 (e.mono e1) r1
    · exact p.elim
theorem se_lstS (h : SA X W es fs) : SE X W (.List es pos) (eLstS fs) :=
  pe_imp (pe_lst h) fun σ H Q hq => td_seq (TD.split (rel := RelDs X.K) hq) fun xv H1 ⟨g, x, r, S, l, e, rx, p⟩ => by
    split at p
    · rename_i hl
      refine ⟨by rw [← rx.length]; exact hl, fun q hp => ?_⟩
      obtain ⟨g', e1, l1, r1⟩ := l.newSto hp rx
      exact p g' _ _ e1 l1 (e.mono e1) r1
    · exact p.elim

theorem atI_rel {K : PySem.W.Frag} {g : Gh} {xs : List D} {vs : List V} {i : Int} {d : D} (r : RelDs K g xs vs) (h : atI xs i = some d) : ∃ v, atI vs i = some v ∧ RelD K g d v := by
  unfold atI at h ⊢
  rw [← r.length]
  cases q : ixN xs.length i with
  | none => rw [q] at h; cases h
  | some j =>
    rw [q] at h
    exact r.get h
theorem u_ix {K : PySem.W.Frag} : UOp K (rIx K) oIx := by
  intro g S H x y d xv yv Q l rx ry e k
  have seqs : ∀ {i : Int}, y = .int i → (seqOf S x).bind (fun xs => atI xs i) = some d → rIx K xv yv H Q := fun {i} hy eq => by
    subst hy
    cases ry
    obtain ⟨xs, e1, e2⟩ := Option.bind_eq_some_iff.mp eq
    obtain ⟨a, vs, rfl, hs, rs⟩ := seq_view l rx e1
    obtain ⟨v, e3, rv⟩ := atI_rel rs e2
    rcases hs with hs | hs
    · exact .inl ⟨a, vs, i, v, rfl, rfl, hs, e3, k g H v (.refl g) l rv⟩
    · exact .inr (.inl ⟨a, vs, i, v, rfl, rfl, hs, e3, k g H v (.refl g) l rv⟩)
  cases y with
  | int i =>
    cases x with
    | str z =>
      simp only [oIx] at e
      split at e
      · rename_i hz
        obtain ⟨c, e1, rfl⟩ := Option.map_eq_some_iff.mp e
        cases rx
        cases ry
        exact .inr (.inr ⟨z, i, c, rfl, rfl, hz, e1, k g H _ (.refl g) l rfl⟩)
      · cases e
    | _ => exact seqs rfl e
  | _ => cases x <;> cases e

theorem se_ix (ha : SE X W a fa) (hb : SE X W b fb) (hs : PlainIx b := by exact fun _ _ => rfl) : SE X W (.Subscript a b pos) (eIx fa fb) := by
  refine pe_imp (pe_ix ix_seq ha hb hs) fun σ H Q h => td_two h fun g r S H x y xv yv l e rx ry p => ?_
  split at p
  · rename_i d q
    exact u_ix g S H x y d xv yv Q l rx ry q fun g' H' v x' l' r' => p g' H' v x' l' (e.mono x') r'
  · exact p.elim


theorem so_none : SO X W none oNone := po_imp po_none fun σ H Q ⟨g, r, S, l, e, p⟩ => post_ok p l e rfl
theorem so_some (ha : SE X W a fa) : SO X W (some a) (oSome fa) := po_imp (po_some ha) fun σ H Q h => td_seq (TD.split (rel := RelD X.K) h) fun xv H1 ⟨g, x, r, S, l, e, rx, p⟩ => by
  split at p
  · rename_i i; cases rx; exact ⟨i, rfl, post_ok p l e rfl⟩
  · exact p.elim


theorem cutD_rel {K : PySem.W.Frag} {g : Gh} {xs : List D} {vs : List V} (r : RelDs K g xs vs) (lo hi : Option Int) : RelDs K g (cutD xs lo hi) (cutV vs lo hi) := by
  unfold cutD cutV
  rw [r.length]
  exact (r.drop _).take _

variable {lo hi : Option Expr} {fl fh : OF}
theorem se_sl {p2 : Pos} (ha : SE X W a fa) (hl : SO X W lo fl) (hh : SO X W hi fh) : SE X W (.Subscript a (.Slice lo hi none p2) pos) (eSl fa fl fh) := by
  refine pe_imp (pe_slice (sl_list.or (sl_tupA.or sl_str)) ha hl hh) fun σ H Q h => td_seq (TD.split (rel := RelD X.K) h) fun xv H1 ⟨g, x, r, S, l, e, rx, p⟩ => ?_
  refine ⟨g, r, S, l, e, PostG.imp (PostG.split (rel := relI) p) fun lov H2 ⟨g2, lo2, r2, S2, e2, l2, re2, rlo, p2⟩ => ?_⟩
  refine ⟨g2, r2, S2, l2, re2, PostG.imp (PostG.split (rel := relI) p2) fun hiv H3 ⟨g3, hi3, r3, S3, e3, l3, re3, rhi, p3⟩ => ?_⟩
  have elo : lo2 = lov := rlo
  have ehi : hi3 = hiv := rhi
  subst elo
  subst ehi
  have rx3 := rx.mono (e2.trans e3)
  split at p3
  · rename_i d q
    have lists : (lstOf S3 x).map (fun xs => D.lst (cutD xs lo2 hi3)) = some d → rSlL X.K xv lo2 hi3 H3 Q := fun q => by
      obtain ⟨xs, q1, rfl⟩ := Option.map_eq_some_iff.mp q
      obtain ⟨a, vs, rfl, hs, rs⟩ := lst_view l3 rx3 q1
      refine ⟨a, vs, rfl, hs, fun pp hp => ?_⟩
      obtain ⟨g', e1, l1, r1⟩ := l3.newLst hp (cutD_rel rs lo2 hi3)
      exact p3 g' _ _ e1 l1 (re3.mono e1) r1
    cases x with
    | str z =>
      simp only [sliceD] at q
      split at q
      · rename_i hz
        cases q
        cases rx3
        exact .inr (.inr ⟨z, rfl, hz, post_ok p3 l3 re3 rfl⟩)
      · cases q
    | tup xs =>
      cases q
      obtain ⟨a, vs, rfl, hs, rs⟩ := tup_view l3 rx3
      refine .inr (.inl ⟨a, vs, rfl, hs, fun hw => ?_, fun _ pp hp => ?_⟩)
      · have ew : cutD xs lo2 hi3 = xs := by
          unfold cutD
          rw [rs.length, hw.1, hw.2, List.drop_zero, Nat.sub_zero, ← rs.length, List.take_length]
        rw [ew] at p3
        exact post_ok p3 l3 re3 rx3
      · obtain ⟨g', e1, l1, r1⟩ := l3.newTup hp (cutD_rel rs lo2 hi3)
        exact p3 g' _ _ e1 l1 (re3.mono e1) r1
    | _ => exact .inl (lists q)
  · exact p3.elim
end
open PySem PySem.Spec PyProof.Rows



theorem PostS.ext {K : PySem.W.Frag} {W : WX} {g g' : Gh} {x : R Fl} {E : Ends} (e : Ext g g') (h : PostS K W g x E) : PostS K W g' x E := by
  cases x with
  | ok a r S => cases a <;> exact fun g2 H' b e2 => h g2 H' b (e.trans e2)
  | er x r S => exact fun g2 H' c d od e2 => h g2 H' c d od (e.trans e2)
  | no => exact h
theorem PostS.imp {K : PySem.W.Frag} {W : WX} {g : Gh} {x : R Fl} {E E' : Ends} (h : PostS K W g x E) (h1 : ∀ σ H, E.nx σ H → E'.nx σ H) (h2 : ∀ v H, E.rt v H → E'.rt v H) (h3 : ∀ σ H, E.bk σ H → E'.bk σ H) (h4 : ∀ σ H, E.ct σ H → E'.ct σ H) : PostS K W g x E' := by
  cases x with
  | ok a r S =>
    cases a with
    | nx => exact fun g2 H' b e2 l q => h1 _ _ (h g2 H' b e2 l q)
    | rt d => exact fun g2 H' b e2 l q => h2 _ _ (h g2 H' b e2 l q)
    | bk => exact fun g2 H' b e2 l q => h3 _ _ (h g2 H' b e2 l q)
    | ct => exact fun g2 H' b e2 l q => h4 _ _ (h g2 H' b e2 l q)
  | er x r S => exact h
  | no => exact h
def TSd (K : PySem.W.Frag) (W : WX) (f : SF) : TS := fun E σ H => ∃ g r S, Rl K g S H ∧ REnv K g r σ ∧ PostS K W g (f r S) E
abbrev SS (X : Cx) (W : WX) (st : Stmt) (f : SF) : Prop := PS X st (TSd X.K W f)
abbrev SSs (X : Cx) (W : WX) (st : List Stmt) (f : SF) : Prop := PSs X st (TSd X.K W f)
theorem ps_imp {X : Cx} {st : Stmt} {t t' : TS} (h : PS X st t) (i : ∀ E σ H, t' E σ H → t E σ H) : PS X st t' := ⟨fun pins s σ H E I w => h.run pins s σ H E I (i E σ H w)⟩
theorem pss_imp {X : Cx} {st : List Stmt} {t t' : TS} (h : PSs X st t) (i : ∀ E σ H, t' E σ H → t E σ H) : PSs X st t' := ⟨fun pins s σ H E I w => h.run pins s σ H E I (i E σ H w)⟩
theorem post_s {K : PySem.W.Frag} {W : WX} {α β : Type} {rel : Gh → α → β → Prop} {g : Gh} {σ : St} {x : R α} {k : α → Env → Sto → R Fl} {E : Ends} (h : PostS K W g (x.bind k) E) :
    PostG K W rel g σ x (fun b H' => ∃ g' a r S, Ext g g' ∧ Rl K g' S H' ∧ REnv K g' r σ ∧ rel g' a b ∧ PostS K W g' (k a r S) E) := by
  cases x with
  | ok a r S => exact fun g2 H' b e l re q => ⟨g2, a, r, S, e, l, re, q, PostS.ext e (show PostS K W g (k a r S) E from h)⟩
  | er x r S => exact fun g' H' cls od e l re q => h g' H' σ cls od e l re q
  | no => exact h
theorem ts_seq {K : PySem.W.Frag} {W : WX} {α β : Type} {rel : Gh → α → β → Prop} {f : Env → Sto → R α} {k : α → Env → Sto → R Fl} {σ : St} {H : Hp} {E : Ends} {Q : β → Hp → Prop} (h : TSd K W (fun r S => (f r S).bind k) E σ H)
    (i : ∀ b H' g a r S, Rl K g S H' → REnv K g r σ → rel g a b → PostS K W g (k a r S) E → Q b H') : TD K W rel f σ H Q := by
  obtain ⟨g, r, S, l, e, p⟩ := h
  exact ⟨g, r, S, l, e, PostG.imp (post_s (rel := rel) p) fun b H' ⟨g', a, r', S', _, l', e', q, p'⟩ => i b H' g' a r' S' l' e' q p'⟩
theorem post_nx {K : PySem.W.Frag} {W : WX} {g : Gh} {r : Env} {S : Sto} {E : Ends} (h : PostS K W g (.ok .nx r S) E) {H : Hp} {σ : St} (l : Rl K g S H) (e : REnv K g r σ) : E.nx σ H := h g H σ (.refl g) l e
theorem post_rt {K : PySem.W.Frag} {W : WX} {g : Gh} {r : Env} {S : Sto} {d : D} {E : Ends} (h : PostS K W g (.ok (.rt d) r S) E) {H : Hp} {v : V} (l : Rl K g S H) (q : RelD K g d v) : E.rt v H := h g H v (.refl g) l q








section
variable {X : Cx} {W : WX} {pos : Pos} {st : Stmt} {rest : List Stmt} {f h : SF} {a : Expr} {fa : EF}
theorem sss_nil : SSs X W [] sNext := pss_imp pss_nil fun E σ H ⟨g, r, S, l, e, p⟩ => post_nx p l e
theorem sss_cons (h1 : SS X W st f) (h2 : SSs X W rest h) : SSs X W (st :: rest) (sSeq f h) := pss_imp (pss_cons h1 h2) fun E σ H ⟨g, r, S, l, e, p⟩ => by
  refine ⟨g, r, S, l, e, ?_⟩
  have p' : PostS X.K W g ((f r S).bind fun a r S => match a with
    | .nx => h r S
    | a => .ok a r S) E := p
  cases q : f r S with
  | ok a r1 S1 =>
    rw [q] at p'
    cases a with
    | nx => exact fun g' H' σ' e' l' re => ⟨g', r1, S1, l', re, PostS.ext e' p'⟩
    | rt d => exact p'
    | bk => exact p'
    | ct => exact p'
  | er x r1 S1 => rw [q] at p'; exact p'
  | no => rw [q] at p'; exact p'.elim
theorem sss_one (h1 : SS X W st f) : SSs X W [st] f := pss_one h1
theorem ss_ret (ha : SE X W a fa) : SS X W (.Return (some a) pos) (sRet fa) := ps_imp (ps_ret ha) fun E σ H h => ts_seq h fun v H' g d r S l e q p => post_rt p l q
theorem ss_if {c : Expr} {tc : TF} {sa sb : List Stmt} (hc : ST X W c tc) (ha : SSs X W sa f) (hb : SSs X W sb h) : SS X W (.If c sa sb pos) (sIf tc f h) := ps_imp (ps_if hc ha hb) fun E σ H h => ts_seq h fun b H' g d r S l e q p => by
  cases q
  split
  · rename_i hx; rw [if_pos hx] at p; exact ⟨g, r, S, l, e, p⟩
  · rename_i hx; rw [if_neg hx] at p; exact ⟨g, r, S, l, e, p⟩

def bName (i : Nat) : Bn := fun d r => some (r.set i (some d))
def GU (K : PySem.W.Frag) (t : TG) (b : Bn) (vs : List Nat) : Prop := ∀ g S r σ H d v r' (Q : St → Hp → Prop), Rl K g S H → REnv K g r σ → RelD K g d v → b d r = some r' →
  (∀ σ', REnv K g r' σ' → (∀ ws : List Nat, (∀ i ∈ vs, i ∈ ws) → wipe σ' ws = wipe σ ws) → Q σ' H) → t v σ H Q
structure BU (X : Cx) (tg : Expr) (b : Bn) (vs : List Nat) : Prop where
  ex : ∃ t, PG X tg t ∧ GU X.K t b vs
theorem wipe_set {σ : St} {i : Nat} {v : Option V} : ∀ {ws : List Nat}, i ∈ ws → wipe (σ.set i v) ws = wipe σ ws
  | w :: ws, h => by
    unfold wipe
    rcases List.mem_cons.mp h with e | h
    · subst e
      by_cases q : i ∈ ws
      · rw [wipe_set q]
      · have comm : ∀ ws : List Nat, i ∉ ws → wipe (σ.set i v) ws = (wipe σ ws).set i v := by
          intro ws
          induction ws with
          | nil => intro _; rfl
          | cons w ws ih =>
            intro hn
            have h1 : i ≠ w := fun e => hn (by rw [e]; exact List.mem_cons_self)
            have h2 : i ∉ ws := fun e => hn (List.mem_cons_of_mem _ e)
            unfold wipe
            rw [ih h2, List.set_comm _ _ h1]
        rw [comm ws q, List.set_set]
    · rw [wipe_set h]
theorem gu_name {K : PySem.W.Frag} (i : Nat) : GU K (gName i) (bName i) [i] := fun g S r σ H d v r' Q l e q hb k => by
  cases hb
  exact k _ (e.set i q) fun ws h => wipe_set (h i (List.mem_singleton.mpr rfl))
theorem bu_name (i : Nat) {x : Str} (hN : X.N.Nodup) (hi : X.N[i]? = some x := by rfl) (hx : Loc X.env.scope x := by first | exact Or.inl rfl | exact Or.inr rfl) (hf : X.fn x = true ∨ X.env.scope.names.lookup x = some .local := by first | exact .inl rfl | exact .inr rfl | assumption) :
    BU X (.Name x pos) (bName i) [i] := ⟨_, pg_name hN hi hx hf, gu_name i⟩
abbrev Bns := List D → Env → Option Env
def bNil : Bns := fun ds r => match ds with
  | [] => some r
  | _ => none
def bCons (b : Bn) (bs : Bns) : Bns := fun ds r => match ds with
  | d :: ds => (b d r).bind (bs ds)
  | [] => none
def bTup (n : Nat) (bs : Bns) : Bn := fun d r => match d with
  | .tup xs => if xs.length = n then bs xs r else none
  | _ => none
def GUs (K : PySem.W.Frag) (t : TGs) (b : Bns) (vs : List Nat) : Prop := ∀ g S r σ H ds us r' (Q : St → Hp → Prop), Rl K g S H → REnv K g r σ → RelDs K g ds us → b ds r = some r' →
  (∀ σ', REnv K g r' σ' → (∀ ws : List Nat, (∀ i ∈ vs, i ∈ ws) → wipe σ' ws = wipe σ ws) → Q σ' H) → t us σ H Q
structure BUs (X : Cx) (tgs : List Expr) (b : Bns) (vs : List Nat) : Prop where
  ex : ∃ t, PGs X tgs t ∧ GUs X.K t b vs
theorem bus_nil : BUs X [] bNil [] := ⟨_, pgs_nil, fun g S r σ H ds us r' Q l e q hb k => by
  cases q with
  | nil => cases hb; exact ⟨rfl, k σ e fun _ _ => rfl⟩
  | cons _ _ => cases hb⟩
theorem bus_cons {e : Expr} {es : List Expr} {b : Bn} {bs : Bns} {vs ws : List Nat} (h1 : BU X e b vs) (h2 : BUs X es bs ws) (hs : (assignEach (e :: es) X.env).map (·.2) = assign e X.env :: (assignEach es X.env).map (·.2) := by rfl) : BUs X (e :: es) (bCons b bs) (vs ++ ws) := by
  obtain ⟨t, p, u⟩ := h1
  obtain ⟨t', p', u'⟩ := h2
  refine ⟨_, pgs_cons p p' hs, fun g S r σ H ds us r' Q l e q hb k => ?_⟩
  cases q with
  | nil => cases hb
  | cons q1 q2 =>
    obtain ⟨r1, hb1, hb2⟩ := Option.bind_eq_some_iff.mp (show (b _ r).bind _ = some r' from hb)
    refine ⟨_, _, rfl, u g S r σ H _ _ r1 _ l e q1 hb1 fun σ1 e1 w1 => ?_⟩
    exact u' g S r1 σ1 H _ _ r' _ l e1 q2 hb2 fun σ2 e2 w2 => k σ2 e2 fun zs hz => (w2 zs fun i hi => hz i (List.mem_append_right _ hi)).trans (w1 zs fun i hi => hz i (List.mem_append_left _ hi))
theorem bu_tup {es : List Expr} {k : Nat} {bs : Bns} {n : Nat} {vs : List Nat} (hc : X.calm = true) (h : BUs X es bs vs) (hn : (assignEach es X.env).length = n := by rfl) (hst : (assignEach es X.env).findIdx? (·.1) = none := by rfl) : BU X (.Tuple es k pos) (bTup n bs) vs := by
  obtain ⟨t, p, u⟩ := h
  refine ⟨_, pg_tup hc p hn hst, fun g S r σ H d v r' Q l e q hb k => ?_⟩
  cases d <;> try (cases hb; done)
  rename_i xs
  simp only [bTup] at hb
  split at hb
  · rename_i hl
    obtain ⟨a, us, rfl, hs, rs⟩ := tup_view l q
    exact ⟨a, us, rfl, hs, by rw [← rs.length]; exact hl, u g S r σ H xs us r' Q l e rs hb k⟩
  · cases hb

theorem ss_asg {tg : Expr} {b : Bn} {vs : List Nat} (ha : SE X W a fa) (hb : BU X tg b vs) (hs : swapsWithSole [tg] a pos.line X.env = pure false := by rfl) (hw : swappedStores [tg] a X.env = pure none := by rfl)
    (h1 : (assignEach [tg] X.env).map (·.2) = [assign tg X.env] := by rfl) : SS X W (.Assign [tg] a pos) (sAsg fa b) := by
  obtain ⟨t, p, u⟩ := hb
  refine ps_imp (ps_asg ha p hs hw h1) fun E σ H h => ts_seq h fun v H' g d r S l e q p => ?_
  split at p
  · rename_i r' hr
    exact u g S r σ H' d v r' _ l e q hr fun σ' e' _ => post_nx p l e'
  · exact p.elim
theorem ss_set (i : Nat) {x : Str} {pos' : Pos} (ha : SE X W a fa) (hN : X.N.Nodup) (hi : X.N[i]? = some x := by rfl) (hx : Loc X.env.scope x := by first | exact Or.inl rfl | exact Or.inr rfl) (hs : swapsWith a (some (.Name x pos')) pos.line X.env = pure false := by rfl)
    (hf : X.fn x = true ∨ X.env.scope.names.lookup x = some .local := by first | exact .inl rfl | exact .inr rfl | assumption) : SS X W (.Assign [.Name x pos'] a pos) (sAsg fa (bName i)) :=
  ps_imp (ps_set hN hi hx ha hs hf) fun E σ H h => ts_seq h fun v H' g d r S l e q p => post_nx p l (e.set i q)




theorem ss_sub {o i v : Expr} {fo fi fv : EF} {tpos : Pos} (hv : SE X W v fv) (ho : SE X W o fo) (hi : SE X W i fi) (hs : swapsWithSole [.Subscript o i tpos] v pos.line X.env = pure false := by rfl) (hw : swappedStores [.Subscript o i tpos] v X.env = pure none := by rfl)
    (h1 : (assignEach [.Subscript o i tpos] X.env).map (·.2) = [assign (.Subscript o i tpos) X.env] := by rfl)
    (ha : ∀ v, assign (.Subscript o i tpos) X.env v = (do
      let ov ← holding [v] (eval o X.env)
      let iv ← holding [v, ov] (eval i X.env)
      standAt tpos
      holding [v, ov, iv] (setItem ov iv v)
      release [v, ov, iv] []) := by intro _; rfl) : SS X W (.Assign [.Subscript o i tpos] v pos) (sSub fv fo fi) := by
  refine ps_imp (ps_asg hv (pg_sub ho hi set_list ha) hs hw h1) fun E σ H h => ts_seq (rel := RelD X.K) h fun vv H1 g d r S l e q p => ?_
  refine ⟨g, r, S, l, e, PostG.imp (post_s (rel := RelD X.K) p) fun xv H2 ⟨g2, x, r2, S2, e2, l2, re2, rx, p2⟩ => ?_⟩
  refine ⟨g2, r2, S2, l2, re2, PostG.imp (post_s (rel := RelD X.K) p2) fun yv H3 ⟨g3, y, r3, S3, e3, l3, re3, ry, p3⟩ => ?_⟩
  have rx3 := rx.mono e3
  have q3 := q.mono (e2.trans e3)
  split at p3
  · rename_i S' hS
    cases x with
    | ref n =>
      cases y with
      | int i' =>
        simp only [setD] at hS
        split at hS
        · rename_i xs hx
          obtain ⟨j, hj, rfl⟩ := Option.map_eq_some_iff.mp hS
          obtain ⟨m1, vs, hh, rs⟩ := l3.sto n _ hx (by intro z; cases z)
          obtain ⟨_, rfl⟩ := rx3
          cases ry
          refine ⟨g3.m n, vs, i', j, rfl, rfl, hh, by rw [← rs.length]; exact hj, ?_⟩
          have lw := l3.write (ob' := .lst (xs.set j d)) (o := .lst (vs.set j vv)) hx (by intro z; cases z) ⟨_, upd_same, rs.set q3 j⟩
          exact p3 g3 _ σ (.refl g3) lw re3
        · cases hS
      | _ => cases hS
    | _ => cases y <;> cases hS
  · exact p3.elim
end
open PySem PySem.Spec PyProof.Rows

theorem Ext.w {g g' : Gh} (e : Ext g g') : ExtW g g' := ⟨e.G, e.sz, e.m⟩
theorem ExtW.trans {g1 g2 g3 : Gh} (a : ExtW g1 g2) (b : ExtW g2 g3) : ExtW g1 g3 :=
  ⟨fun x d h => b.G x d (a.G x d h), Nat.le_trans a.sz b.sz, fun n h => (b.m n (Nat.lt_of_lt_of_le h a.sz)).trans (a.m n h)⟩
theorem ExtW.ext {g g' : Gh} (e : ExtW g g') : Ext g { g' with F := g.F } := ⟨e.G, e.sz, e.m, rfl⟩
theorem RelD.monoW {K : PySem.W.Frag} {g g' : Gh} (e : ExtW g g') {d : D} {v : V} (h : RelD K g d v) : RelD K g' d v := (h.mono e.ext).eqG rfl rfl rfl
theorem RelDs.monoW {K : PySem.W.Frag} {g g' : Gh} (e : ExtW g g') {d : List D} {v : List V} (h : RelDs K g d v) : RelDs K g' d v := (h.mono e.ext).eqG rfl rfl rfl
theorem REnv.monoW {K : PySem.W.Frag} {g g' : Gh} (e : ExtW g g') {r : Env} {σ : St} (h : REnv K g r σ) : REnv K g' r σ := (h.mono e.ext).eqG rfl rfl rfl
structure SrcOk (K : PySem.W.Frag) (g : Gh) (xs : List D) (J : It) : Prop where
  ex : ∃ G Y, Walk J xs.length G Y ∧ (∀ g' S H, ExtW g g' → Rl K g' S H → G H) ∧
    ∀ i d g1 S1 H x H2, xs[i]? = some d → ExtW g g1 → Rl K g1 S1 H → Y i H x H2 → ∃ g2, Ext g1 g2 ∧ Rl K g2 S1 H2 ∧ RelD K g2 d x
structure IterU (X : Cx) (W : WX) (tg e : Expr) (f : AF) : Prop where
  ex : ∃ wi, PI X tg e wi ∧ ∀ σ H R, TD X.K W (fun g xs J => SrcOk X.K g xs J) f σ H R → wi σ H R
section
variable {X : Cx} {W : WX} {tg e : Expr} {pos : Pos} {fe : EF}







theorem src_range {K : PySem.W.Frag} {g : Gh} (lo : Int) (n : Nat) : SrcOk K g (rangeD lo n) (Itr lo n) := by
  have hl : (rangeD lo n).length = n := by unfold rangeD; rw [List.length_map, List.length_range]
  refine ⟨_, _, by rw [hl]; exact walk_range, fun _ _ _ _ _ => trivial, fun i d' g1 S1 H' x H2 hi x' l' y => ?_⟩
  obtain ⟨rfl, rfl⟩ := y
  have hn : i < n := by rw [← hl]; exact (List.getElem?_eq_some_iff.mp hi).1
  unfold rangeD at hi
  rw [List.getElem?_map, List.getElem?_range hn] at hi
  cases hi
  exact ⟨g1, .refl g1, l', rfl⟩
theorem rels1 {K : PySem.W.Frag} {g : Gh} {i : Int} {vs : List V} (r : RelDs K g [.int i] vs) : vs = [.int i] := by
  cases r with
  | cons a b => cases b; cases a; rfl
theorem it_range1 {a : Expr} {fs : AF} {p : Pos} (hm : X.mg "range" = none) (ha : SA X W [a] fs) (hg : Gl X "range" := by rfl) (hs : starEach [a] X.env = [(false, eval a X.env)] := by rfl) : IterU X W tg (.Call (.Name "range" p) [a] [] pos) (iRange1 fs) := by
  refine ⟨_, pi_range1 hg hm ha hs, fun σ H R h => td_seq (TD.split (rel := RelDs X.K) h) fun v H1 ⟨g, d, r, S, l, e, rd, p⟩ => ?_⟩
  split at p
  · rename_i j
    split at p
    · rename_i hb
      have := rels1 rd
      subst this
      exact ⟨j, rfl, hb.1, hb.2, post_ok p l e (src_range 0 j.toNat)⟩
    · exact p.elim
  · exact p.elim
end


section
variable {X : Cx} {W : WX} {tg iter : Expr} {body : List Stmt} {pos : Pos} {fi : AF} {b : Bn} {fb : SF} {vs : List Nat}
theorem ss_for (hp : PassesOwn (model X.prog X.w) X.A X.env X.xe) (hc : X.calm = true) (hi : IterU X W tg iter fi) (hg : BU X tg b vs) (hb : SSs X W body fb)
    (hs : ∀ x, foldedSetIterable iter X.env x = pure x := by intro _; rfl) : SS X W (.For tg iter body [] pos) (sFor fi b fb) := by
  obtain ⟨wi, pi, hw⟩ := hi
  obtain ⟨t, pg, gu⟩ := hg
  refine ps_imp (ps_for hp hc pi pg hb hs) fun E σ H h => hw σ H _ (ts_seq h fun J H1 g0 xs r S l e ⟨G, Y, wk, hG, hY⟩ p => ?_)
  refine for_it (n := xs.length) (G := G) (Y := Y) wk (fun i σ' H' => ∃ g r' S', Ext g0 g ∧ Rl X.K g S' H' ∧ REnv X.K g r' σ' ∧ PostS X.K W g (loopF b fb (xs.drop i) r' S') E)
    ⟨g0, r, S, .refl g0, l, e, p⟩ (fun i σ' H' _ ⟨g, r', S', x', l', _⟩ => hG g S' H' x'.w l') (fun i x σ' H' H2 hi ⟨g, r', S', x', l', e', p'⟩ y => ?_) (fun σ' H' ⟨g, r', S', x', l', e', p'⟩ => ?_)
  · rw [List.drop_eq_getElem_cons hi] at p'
    obtain ⟨g2, x2, l2, rx⟩ := hY i xs[i] g S' H' x H2 (by simp [hi]) x'.w l' y
    unfold loopF at p'
    split at p'
    · rename_i r1 hr1
      refine gu g2 S' r' σ' H2 xs[i] x r1 _ l2 (e'.mono x2) rx hr1 fun σ2 e2 _ => ?_
      refine ⟨g2, r1, S', l2, e2, ?_⟩
      have p2 := PostS.ext x2 p'
      cases q : fb r1 S' with
      | ok a r3 S3 =>
        rw [q] at p2
        cases a with
        | nx => exact fun g3 H3 σ3 x3 l3 e3 => ⟨g3, r3, S3, x'.trans (x2.trans x3), l3, e3, PostS.ext x3 p2⟩
        | ct => exact fun g3 H3 σ3 x3 l3 e3 => ⟨g3, r3, S3, x'.trans (x2.trans x3), l3, e3, PostS.ext x3 p2⟩
        | bk => exact p2
        | rt d => exact p2
      | er y r3 S3 => rw [q] at p2; exact p2
      | no => rw [q] at p2; exact p2.elim
    · exact p'.elim
  · rw [List.drop_length] at p'
    exact post_nx p' l' e'
end

def W0 : WX := fun _ _ _ _ => False

theorem wipeE_rel {K : PySem.W.Frag} {g : Gh} {r : Env} {σ : St} (h : REnv K g r σ) : ∀ vs : List Nat, REnv K g (wipeE r vs) (wipe σ vs)
  | [] => h
  | v :: vs => by
    have ih := wipeE_rel h vs
    unfold wipeE wipe
    refine ⟨by simpa using ih.1, fun i d e => ?_⟩
    by_cases hi : v = i
    · subst hi
      by_cases hl : v < (wipeE r vs).length
      · rw [List.getElem?_set_self hl] at e; cases e
      · rw [List.getElem?_eq_none (by simpa using hl)] at e; cases e
    · rw [List.getElem?_set_ne hi] at e
      rw [List.getElem?_set_ne hi]
      exact ih.2 i d e



theorem compF_len {b : Bn} {tt : TF} {fe : EF} {r : Env} {vs : List Nat} : ∀ {xs : List D} {S : Sto} {ys : List D} {r' : Env} {S' : Sto}, compF b tt fe r vs xs S = .ok ys r' S' → ys.length ≤ xs.length ∧ r' = r
  | [], S, ys, r', S', h => by cases h; exact ⟨Nat.le_refl _, rfl⟩
  | x :: xs, S, ys, r', S', h => by
    unfold compF at h
    split at h
    · rename_i r1 _
      cases q : (tt r1 S).calm with
      | ok c r2 S2 =>
        rw [q] at h
        simp only [R.bind] at h
        split at h
        · cases q2 : (fe r2 S2).calm with
          | ok y r3 S3 =>
            rw [q2] at h
            simp only at h
            cases q3 : compF b tt fe r vs xs S3 with
            | ok zs r4 S4 =>
              rw [q3] at h
              cases h
              obtain ⟨h1, h2⟩ := compF_len q3
              exact ⟨Nat.succ_le_succ h1, h2⟩
            | er _ _ _ => rw [q3] at h; cases h
            | no => rw [q3] at h; cases h
          | er _ _ _ => rw [q2] at h; cases h
          | no => rw [q2] at h; cases h
        · obtain ⟨h1, h2⟩ := compF_len h
          exact ⟨Nat.le_succ_of_le h1, h2⟩
      | er _ _ _ => rw [q] at h; cases h
      | no => rw [q] at h; cases h
    · cases h
theorem compF_ner {b : Bn} {tt : TF} {fe : EF} {r : Env} {vs : List Nat} : ∀ {xs : List D} {S : Sto} {x : D} {r' : Env} {S' : Sto}, compF b tt fe r vs xs S ≠ .er x r' S'
  | [], S, x, r', S' => fun h => by cases h
  | y :: xs, S, x, r', S' => fun h => by
    unfold compF at h
    split at h
    · rename_i r1 _
      cases q : tt r1 S with
      | ok c r2 S2 =>
        rw [q] at h
        simp only [R.calm, R.bind] at h
        split at h
        · cases q2 : fe r2 S2 with
          | ok y r3 S3 =>
            rw [q2] at h
            simp only [R.calm] at h
            cases q3 : compF b tt fe r vs xs S3 with
            | ok zs r4 S4 => rw [q3] at h; cases h
            | er _ _ _ => exact compF_ner q3
            | no => rw [q3] at h; cases h
          | er _ _ _ => rw [q2] at h; cases h
          | no => rw [q2] at h; cases h
        · exact compF_ner h
      | er _ _ _ => rw [q] at h; cases h
      | no => rw [q] at h; cases h
    · cases h
section
variable {X : Cx} {W : WX} {tg iter elt : Expr} {ifs : List Expr} {pos : Pos} {fi : AF} {b : Bn} {tt : TF} {fe : EF} {vs : List Nat} {scope : Scope} {own : List (Str × Nat)}
structure BlkU (X : Cx) (scope : Scope) (own : List (Str × Nat)) (tg : Expr) (ifs : List Expr) (elt : Expr) (b : Bn) (tt : TF) (fe : EF) : Prop where
  ex : ∃ (t : TG), (∀ s H C cl fp, PG (X.blk s H scope (compEnvC scope cl C X.env) fp) tg t) ∧ GU X.K t b (own.map (·.2)) ∧
    (∀ s H C cl fp, PTs (X.blk s H scope (compEnvC scope cl C X.env) fp) ifs (TD X.K W0 relB tt)) ∧ ∀ s H C cl fp, SE (X.blk s H scope (compEnvC scope cl C X.env) fp) W0 elt fe
theorem ts_nil {X' : Cx} : PTs X' [] (TD X'.K W0 relB tYesB) := ⟨fun pins s σ H Q I ⟨g, r, S, l, e, p⟩ => pts_nil.run pins s σ H Q I (post_ok p l e rfl)⟩
theorem res_F {g g' : Gh} {p : Addr} {o u : HO} (h : g'.F = (g.res p o).F) : (g'.res p u).F = (g.res p u).F := by
  show (fun a => if a = p then some u else g'.F a) = fun a => if a = p then some u else g.F a
  rw [h]
  funext a
  by_cases q : a = p
  · simp [q]
  · show (if a = p then some u else if a = p then some o else g.F a) = _
    simp [q]
theorem wipe_wipe {σ : St} : ∀ {vs ws : List Nat}, (∀ i ∈ vs, i ∈ ws) → wipe (wipe σ vs) ws = wipe σ ws
  | [], _, _ => rfl
  | v :: vs, ws, h => by
    show wipe ((wipe σ vs).set v none) ws = _
    rw [wipe_set (h v List.mem_cons_self)]
    exact wipe_wipe fun i hi => h i (List.mem_cons_of_mem _ hi)
theorem comp_coreT {te : TE} {Q : VK} {σ : St} {H1 : Hp} {g0 : Gh} {r0 : Env} {S0 Se : Sto} {xs ys : List D} {J : It} {t : TG} (src : SrcOk X.K g0 xs J) (l : Rl X.K g0 S0 H1) (e : REnv X.K g0 r0 σ) (hl : xs.length < sizeLine) (gu : GU X.K t b vs)
    (hrun : compF b tt fe r0 vs xs S0 = .ok ys r0 Se) (D : Addr) (hD : H1 D = none)
    (hte : ∀ σ2 H3 R, wipe σ2 vs = wipe σ vs → TD X.K W0 (RelD X.K) fe σ2 H3 R → te σ2 H3 R)
    (k : ∀ g H zs, ExtW g0 g → g.F = (g0.res D (.lst zs)).F → Rl X.K g Se H → RelDs X.K g ys zs → Q (.ref D) H) :
    ∃ Wl : Nat → Nat → Hp → Prop, (∃ m, Wl 0 m (upd H1 D (.lst []))) ∧ ∀ i m H, Wl i m H →
      (J.stop i H ∧ Q (.ref D) H) ∨ (J.go i H ∧ ∃ Nx : Hp → Prop, (∀ H', Nx H' → ∃ m', m' < m ∧ Wl (i + 1) m' H') ∧ ∀ x H', J.yld i H x H' → t x (wipe σ vs) H' fun σ2 H2 => wipe σ2 vs = wipe σ vs ∧ (TD X.K W0 relB tt) σ2 H2 fun b H3 =>
        if b = true then te σ2 H3 fun y H4 => ∃ acc, H4 D = some (.lst acc) ∧ acc.length < sizeLine ∧ Nx (upd H4 D (.lst (acc ++ [y]))) else Nx H3) := by
  obtain ⟨G, Y, wk, hG, hY⟩ := src
  refine lc_it (n := xs.length) (G := G) (Y := Y) wk (fun i H => ∃ g S zs acc ws, ExtW g0 g ∧ g.F = (g0.res D (.lst acc)).F ∧ Rl X.K g S H ∧ RelDs X.K g zs acc ∧ zs.length ≤ i ∧ compF b tt fe r0 vs (xs.drop i) S = .ok ws r0 Se ∧ ys = zs ++ ws)
    ⟨g0.res D (.lst []), S0, [], [], ys, ⟨fun _ _ h => h, Nat.le_refl _, fun _ _ => rfl⟩, rfl, l.res hD, .nil, Nat.le_refl _, hrun, rfl⟩ ?_ ?_ ?_
  · rintro i H hi ⟨g, S, zs, acc, ws, x, _, l', _⟩
    exact hG g S H x l'
  · rintro i x H H' hi ⟨g, S, zs, acc, ws, x0, hF, l', rz, hz, hr, hy⟩ y
    obtain ⟨g2, x2, l2, rx⟩ := hY i xs[i] g S H x H' (by simp [hi]) x0 l' y
    rw [List.drop_eq_getElem_cons hi] at hr
    unfold compF at hr
    split at hr
    · rename_i r1 hr1
      refine gu g2 S _ _ H' xs[i] x r1 _ l2 ((wipeE_rel e vs).monoW (x0.trans x2.w)) rx hr1 fun σ2 e2 w2 => ?_
      have hw2 : wipe σ2 vs = wipe σ vs := (w2 vs fun _ h => h).trans (wipe_wipe fun _ h => h)
      refine ⟨hw2, g2, r1, S, l2, e2, ?_⟩
      have accl : acc.length < sizeLine := by
        have h1 := rz.length
        omega
      cases q : tt r1 S with
      | ok c r2 S2 =>
        rw [q] at hr
        intro g3 H3 c' x3 l3 e3 rb
        cases rb
        simp only [R.calm, R.bind] at hr
        have xw3 : ExtW g0 g3 := x0.trans (x2.w.trans x3.w)
        have F3 : g3.F = (g0.res D (.lst acc)).F := x3.F.trans (x2.F.trans hF)
        split
        · rename_i hc
          rw [if_pos hc] at hr
          refine hte _ _ _ hw2 ⟨g3, r2, S2, l3, e3, ?_⟩
          cases q2 : fe r2 S2 with
          | ok yd r3 S3 =>
            rw [q2] at hr
            intro g4 H4 yv x4 l4 e4 ry
            simp only [R.calm] at hr
            have F4 : g4.F = (g0.res D (.lst acc)).F := x4.F.trans F3
            have FD : g4.F D = some (.lst acc) := by rw [F4]; exact if_pos rfl
            refine ⟨acc, (l4.fr D _ FD).1, accl, ?_⟩
            cases q3 : compF b tt fe r0 vs (xs.drop (i + 1)) S3 with
            | ok us r4 S4 =>
              rw [q3] at hr
              have e5 := (compF_len q3).2
              cases hr
              refine ⟨g4.res D (.lst (acc ++ [yv])), S3, zs ++ [yd], acc ++ [yv], us, ?_, res_F F4, l4.rewrite FD, ?_, ?_, by rw [q3], by rw [hy]; simp⟩
              · have := xw3.trans x4.w
                exact ⟨this.G, this.sz, this.m⟩
              · have rz4 := (rz.monoW (x2.w.trans (x3.w.trans x4.w)))
                exact (rz4.append (.cons ry .nil)).eqG rfl rfl rfl
              · rw [List.length_append]
                simp only [List.length_cons, List.length_nil]
                omega
            | er _ _ _ => rw [q3] at hr; cases hr
            | no => rw [q3] at hr; cases hr
          | er _ _ _ => rw [q2] at hr; cases hr
          | no => rw [q2] at hr; cases hr
        · rename_i hc
          rw [if_neg hc] at hr
          exact ⟨g3, S2, zs, acc, ws, xw3, F3, l3, rz.monoW (x2.w.trans x3.w), Nat.le_succ_of_le hz, hr, hy⟩
      | er _ _ _ => rw [q] at hr; cases hr
      | no => rw [q] at hr; cases hr
    · cases hr
  · rintro H ⟨g, S, zs, acc, ws, x0, hF, l', rz, hz, hr, hy⟩
    rw [List.drop_length] at hr
    cases hr
    rw [List.append_nil] at hy
    subst hy
    exact k g H acc x0 hF l' rz
theorem comp_core {Q : VK} {σ : St} {H1 : Hp} {g0 : Gh} {r0 : Env} {S0 Se : Sto} {xs ys : List D} {J : It} {t : TG} (src : SrcOk X.K g0 xs J) (l : Rl X.K g0 S0 H1) (e : REnv X.K g0 r0 σ) (hl : xs.length < sizeLine) (gu : GU X.K t b vs)
    (hrun : compF b tt fe r0 vs xs S0 = .ok ys r0 Se) (D : Addr) (hD : H1 D = none)
    (k : ∀ g H zs, ExtW g0 g → g.F = (g0.res D (.lst zs)).F → Rl X.K g Se H → RelDs X.K g ys zs → Q (.ref D) H) :
    ∃ Wl : Nat → Nat → Hp → Prop, (∃ m, Wl 0 m (upd H1 D (.lst []))) ∧ ∀ i m H, Wl i m H →
      (J.stop i H ∧ Q (.ref D) H) ∨ (J.go i H ∧ ∃ Nx : Hp → Prop, (∀ H', Nx H' → ∃ m', m' < m ∧ Wl (i + 1) m' H') ∧ ∀ x H', J.yld i H x H' → t x (wipe σ vs) H' fun σ2 H2 => wipe σ2 vs = wipe σ vs ∧ (TD X.K W0 relB tt) σ2 H2 fun b H3 =>
        if b = true then (TD X.K W0 (RelD X.K) fe) σ2 H3 fun y H4 => ∃ acc, H4 D = some (.lst acc) ∧ acc.length < sizeLine ∧ Nx (upd H4 D (.lst (acc ++ [y]))) else Nx H3) :=
  comp_coreT src l e hl gu hrun D hD (fun _ _ _ _ h => h) k
theorem noF {K : PySem.W.Frag} {g : Gh} {S : Sto} {H : Hp} {p : Addr} (l : Rl K g S H) (hp : H p = none) : g.F p = none := by
  cases q : g.F p with
  | none => rfl
  | some o =>
    have := (l.fr p o q).1
    rw [hp] at this; cases this
theorem se_comp (hc : X.calm = true) (hN : X.N.Nodup) (hi : IterU X W tg iter fi) (ok : BlkOk X.N X.env.scope scope own) (hb : BlkU X scope own tg ifs elt b tt fe) (hs : ∀ x, foldedSetIterable iter X.env x = pure x := by intro _; rfl) :
    SE X W (.ListComp elt [⟨tg, iter, ifs, 0⟩] scope pos) (eComp fi b (own.map (·.2)) tt fe) := by
  obtain ⟨wi, pi, hw⟩ := hi
  obtain ⟨t, h1, gu, h2, h3⟩ := hb
  refine pe_imp (pe_lc (te := TD X.K W0 (RelD X.K) fe) hc hN pi ok h1 h2 h3 hs) fun σ H Q h => hw σ H _ (td_seq (TD.split (rel := fun g xs J => SrcOk X.K g xs J) h) fun J H1 ⟨g0, xs, r0, S0, l, e, src, p⟩ D hD => ?_)
  split at p
  · rename_i hl
    cases q : compF b tt fe r0 (own.map (·.2)) xs S0 with
    | ok ys r1 Se =>
      have e5 := (compF_len q).2
      subst e5
      rw [q] at p
      refine comp_core src l e hl gu q D hD fun g H' zs x hF l' rz => ?_
      have FD : g.F D = some (.lst zs) := by rw [hF]; exact if_pos rfl
      have hb := l'.back (F := g0.F) (d := .lst ys) FD (noF l hD) (fun a ha => by
        rw [hF]
        show g0.F a = if a = D then _ else g0.F a
        rw [if_neg ha]) ⟨zs, (l'.fr D _ FD).1, rz⟩
      have pe := Gh.put_ext (d := .lst ys) (l'.fr D _ FD).2.1
      have xx : Ext g0 (g.back g0.F D (.lst ys)) := ⟨fun a d h => pe.G a d (x.G a d h), x.sz, x.m, rfl⟩
      exact p _ H' _ xx hb (e.mono xx) ⟨rz.bnd, D, rfl, Gh.put_at⟩
    | er _ _ _ => exact absurd q compF_ner
    | no => rw [q] at p; exact p.elim
  · exact p.elim
end
open PySem PySem.Spec PyProof.Rows
def UCall (K : PySem.W.Frag) (r : List V → Hp → VK → Prop) (o : Sto → List D → Option D) : Prop :=
  ∀ g S H ds d vs (Q : VK), Rl K g S H → RelDs K g ds vs → o S ds = some d → (∀ g' H' v, Ext g g' → Rl K g' S H' → RelD K g' d v → Q v H') → r vs H Q
def orL (o o' : Sto → List D → Option D) : Sto → List D → Option D := fun S x => match o S x with
  | some d => some d
  | none => o' S x
theorem UCall.or {K : PySem.W.Frag} {r r' : List V → Hp → VK → Prop} {o o' : Sto → List D → Option D} (h : UCall K r o) (h' : UCall K r' o') : UCall K (fun x H Q => r x H Q ∨ r' x H Q) (orL o o') := by
  intro g S H x d xv Q l rx e k
  unfold orL at e
  cases q : o S x with
  | some z =>
    rw [q] at e
    exact .inl (h g S H x d xv Q l rx (by rw [q]; exact e) k)
  | none =>
    rw [q] at e
    exact .inr (h' g S H x d xv Q l rx e k)
structure CallU (X : Cx) (f : Value) (o : Sto → List D → Option D) : Prop where
  ex : ∃ r, CallR X f r ∧ UCall X.K r o

section
variable {X : Cx} {W : WX} {pos p : Pos} {x : Str} {a : Expr} {es : List Expr} {fs : AF} {o : Sto → List D → Option D}
theorem se_callB {id : String} (u : CallU X (.builtin id) o) (hm : X.mg x = none) (ha : SA X W (a :: es) fs) (hv : bootBuiltins x = some (.builtin id) := by decide +kernel) (hg : Gl X x := by rfl) (hn : x ≠ "__name__" := by decide) (hdb : (x == ("__debug__" : Str)) = false := by decide)
    (he : starEach (a :: es) X.env = (false, eval a X.env) :: starEach es X.env := by rfl) (hpl : (backTo pos (starEach es X.env)).any (·.1) = false := by rfl) : SE X W (.Call (.Name x p) (a :: es) [] pos) (eCallB o fs) := by
  obtain ⟨r, hc, hu⟩ := u
  refine pe_imp (pe_callB hc hg hm hv ha hn hdb he hpl) fun σ H Q h => td_seq (TD.split (rel := RelDs X.K) h) fun vs H1 ⟨g, ds, r, S, l, e, rd, p⟩ => ?_
  split at p
  · rename_i d q
    exact hu g S H1 ds d vs Q l rd q fun g' H' v x' l' r' => p g' H' v x' l' (e.mono x') r'
  · exact p.elim
theorem se_callTy {T : String} (u : CallU X (.type T) o) (hm : X.mg x = none) (ha : SA X W (a :: es) fs) (hv : bootBuiltins x = some (.type T) := by decide +kernel) (hg : Gl X x := by rfl) (hn : x ≠ "__name__" := by decide) (hdb : (x == ("__debug__" : Str)) = false := by decide)
    (he : starEach (a :: es) X.env = (false, eval a X.env) :: starEach es X.env := by rfl) (hpl : (backTo pos (starEach es X.env)).any (·.1) = false := by rfl) : SE X W (.Call (.Name x p) (a :: es) [] pos) (eCallB o fs) := by
  obtain ⟨r, hc, hu⟩ := u
  refine pe_imp (pe_callTy hc hg hm hv ha hn hdb he hpl) fun σ H Q h => td_seq (TD.split (rel := RelDs X.K) h) fun vs H1 ⟨g, ds, r, S, l, e, rd, p⟩ => ?_
  split at p
  · rename_i d q
    exact hu g S H1 ds d vs Q l rd q fun g' H' v x' l' r' => p g' H' v x' l' (e.mono x') r'
  · exact p.elim
end
section
variable {K : PySem.W.Frag} {g : Gh}
theorem rel1 {d : D} {vs : List V} (r : RelDs K g [d] vs) : ∃ v, vs = [v] ∧ RelD K g d v := by
  cases r with
  | cons a b => cases b; exact ⟨_, rfl, a⟩
theorem rel2 {c d : D} {vs : List V} (r : RelDs K g [c, d] vs) : ∃ u v, vs = [u, v] ∧ RelD K g c u ∧ RelD K g d v := by
  cases r with
  | cons a b => cases b with
    | cons b c => cases c; exact ⟨_, _, rfl, a, b⟩

theorem u_len : UCall K (fun xs H Q => ∃ x n, xs = [x] ∧ LenV K x H n ∧ Q (.int n) H) oLen := by
  intro g S H ds d vs Q l rd e k
  match ds, e with
  | [c], e =>
    obtain ⟨v, rfl, r⟩ := rel1 rd
    have seqs : (seqOf S c).map (fun xs => D.int xs.length) = some d → ∃ x n, [v] = [x] ∧ LenV K x H n ∧ Q (.int n) H := fun e => by
      obtain ⟨xs, e1, rfl⟩ := Option.map_eq_some_iff.mp e
      obtain ⟨a, us, rfl, hs, rs⟩ := seq_view l r e1
      exact ⟨_, xs.length, rfl, hs.imp (fun h => ⟨us, h, rs.length⟩) (fun h => ⟨us, h, rs.length⟩), k g H _ (.refl g) l rfl⟩
    cases c with
    | str z =>
      simp only [oLen] at e
      split at e
      · rename_i hz
        cases e
        cases r
        exact ⟨_, z.length, rfl, ⟨hz, rfl⟩, k g H _ (.refl g) l rfl⟩
      · cases e
    | _ => exact seqs e
  | [], e => cases e
  | _ :: _ :: _, e => simp [oLen] at e
end
theorem cu_len {X : Cx} : CallU X (.builtin "len") oLen := ⟨_, call_len, u_len⟩

def subTy (a b : String) : Option Bool := if a ∈ tyNames ∧ b ∈ tyNames then some (decide (a = b) || (a == "bool" && b == "int")) else none
theorem subTy_ok {a b : String} {r : Bool} (h : subTy a b = some r) : kitB a b = some r := by
  unfold subTy at h
  split at h
  · rename_i hm
    cases h
    have all : ∀ a ∈ tyNames, ∀ b ∈ tyNames, kitB a b = some (decide (a = b) || (a == "bool" && b == "int")) := by decide +kernel
    exact all a hm.1 b hm.2
  · cases h

theorem clsI_cls {K : PySem.W.Frag} {C : Addr} (h : clsI K C = true) : Cls K C := by
  simp only [clsI, Bool.and_eq_true, decide_eq_true_eq] at h
  exact ⟨h.1, h.2.1, h.2.2.1, h.2.2.2.1⟩
def tyV (K : PySem.W.Frag) (S : Sto) : D → Option Value
  | .non => some (.type "NoneType")
  | .bl _ => some (.type "bool")
  | .int _ => some (.type "int")
  | .str _ => some (.type "str")
  | .tup _ => some (.type "tuple")
  | .lst _ => some (.type "list")
  | .fz _ => some (.type "list")
  | .ins C _ _ => if clsI K (He.ga K C) = true then some (.ref (He.ga K C)) else none
  | .ref n => (match S[n]? with
    | some (.lst _) => some (.type "list")
    | some (.ins C _ _) => if clsI K (He.ga K C) = true then some (.ref (He.ga K C)) else none
    | _ => none)
  | _ => none
def isaV (K : PySem.W.Frag) : Value → Value → Option Bool
  | .type a, .type b => subTy a b
  | .type a, .ref C => PySem.W.kitOne K (.type a) (.ref C)
  | .ref C, .ref C' => PySem.W.kitOne K (.ref C) (.ref C')
  | .ref C, .type b => PySem.W.kitOne K (.ref C) (.type b)
  | _, _ => none
def isaVs (K : PySem.W.Frag) (t : Value) : List Value → Option Bool
  | [] => some false
  | c :: r => match isaV K t c with
    | some true => some true
    | some false => isaVs K t r
    | none => none
def clsV (K : PySem.W.Frag) : D → Option Value
  | .ty n => some (.type n)
  | .con C => some (.ref (He.ga K C))
  | _ => none
def clsVs (K : PySem.W.Frag) : List D → Option (List Value)
  | [] => some []
  | d :: r => match clsV K d, clsVs K r with
    | some a, some b => some (a :: b)
    | _, _ => none
def oIsi (K : PySem.W.Frag) : Sto → List D → Option D := fun S ds => match ds with
  | [x, .tup cs] => (match tyV K S x, clsVs K cs with
    | some t, some us => (isaVs K t us).map .bl
    | _, _ => none)
  | [x, c] => (match tyV K S x, clsV K c with
    | some t, some u => (isaV K t u).map .bl
    | _, _ => none)
  | _ => none
section
variable {K : PySem.W.Frag} {g : Gh} {S : Sto} {H : Hp}
theorem isaV_ok {t u : Value} {b : Bool} (h : isaV K t u = some b) : PySem.W.kitOne K t u = some b := by
  cases t <;> cases u <;> first | (exact kit_ty (subTy_ok h)) | (cases h; done) | exact h
theorem isaVs_ok {t : Value} : ∀ {us : List Value} {b : Bool}, isaVs K t us = some b → PySem.W.kitAny K t us = some b
  | [], b, h => h
  | c :: r, b, h => by
    unfold isaVs at h
    unfold PySem.W.kitAny
    split at h
    · rename_i q; rw [isaV_ok q]; exact h
    · rename_i q; rw [isaV_ok q]; exact isaVs_ok h
    · cases h
theorem tyX_lst {a : Addr} {vs : List V} (h : SqL K H a vs) : TyX K H (.ref a) (.type "list") := by
  rcases h with (h | ⟨o, h⟩) | ⟨o, its, n, h, c, _⟩
  · exact .base (.lst h)
  · exact .base (.frz h)
  · exact .kList h c
theorem tyX_tup {a : Addr} {vs : List V} (h : SqT K H a vs) : TyX K H (.ref a) (.type "tuple") := by
  rcases h with (h | ⟨o, h⟩) | ⟨o, its, n, h, c, _⟩
  · exact .base (.tup h)
  · exact .fTuple h
  · exact .kTuple h c
theorem tyX_ins {a C dx : Addr} {fs : List (Str × V)} (h : H a = some (.ins C dx fs)) (c : clsI K C = true) : TyX K H (.ref a) (.ref C) := by
  have cl := clsI_cls c
  simp only [clsI, Bool.and_eq_true, decide_eq_true_eq] at c
  exact .base (.ins h cl c.2.2.2.2.1 c.2.2.2.2.2.1 c.2.2.2.2.2.2.1 c.2.2.2.2.2.2.2)
theorem tyV_ok {d : D} {v : V} {t : Value} (l : Rl K g S H) (r : RelD K g d v) (h : tyV K S d = some t) : TyX K H v t := by
  cases d with
  | non => cases h; cases r; exact .base .non
  | bl b => cases h; cases r; exact .base (.bl b)
  | int b => cases h; cases r; exact .base (.int b)
  | str b => cases h; cases r; exact .base (.str b)
  | tup xs => cases h; obtain ⟨a, vs, rfl, hs, _⟩ := tup_view l r; exact tyX_tup hs
  | lst xs => cases h; obtain ⟨a, vs, rfl, hs, _⟩ := lst_view l r rfl; exact tyX_lst hs
  | fz xs => cases h; obtain ⟨a, vs, rfl, hs, _⟩ := lst_view l r rfl; exact tyX_lst hs
  | ins C ns ds =>
    simp only [tyV] at h
    split at h
    · rename_i hc
      cases h
      obtain ⟨_, a, rfl, q⟩ := r
      obtain ⟨dx, vs, e, _⟩ := l.imm a _ q
      exact tyX_ins e hc
    · cases h
  | ref n =>
    simp only [tyV] at h
    split at h
    · rename_i xs q
      cases h
      obtain ⟨a, vs, rfl, hs, _⟩ := lst_view (d := .ref n) (xs := xs) l r (by unfold lstOf; simp only [q])
      exact tyX_lst hs
    · rename_i C ns ds q
      split at h
      · rename_i hc
        cases h
        obtain ⟨_, rfl⟩ := r
        obtain ⟨_, dx, vs, e, _⟩ := l.sto n _ q (by intro z; cases z)
        exact tyX_ins e hc
      · cases h
    · cases h
  | _ => cases h
theorem clsV_ok {d : D} {v : V} {u : Value} (r : RelD K g d v) (h : clsV K d = some u) : ClsV v u := by
  cases d <;> simp only [clsV, reduceCtorEq, Option.some.injEq] at h
  · subst h; cases r; exact .ty _
  · subst h; cases r; exact .own _
theorem clsVs_ok : ∀ {ds : List D} {vs : List V} {us : List Value}, RelDs K g ds vs → clsVs K ds = some us → Paired ClsV vs us
  | _, _, _, .nil, h => by cases h; exact .nil
  | _, _, _, .cons r t, h => by
    unfold clsVs at h
    split at h
    · rename_i a b h1 h2
      cases h
      exact .cons (clsV_ok r h1) (clsVs_ok t h2)
    · cases h
theorem u_isi : UCall K (fun xs H Q => rIsi K xs H Q ∨ ∃ (x : V) (tp : Addr) (cs : List V) (t : Value) (us : List Value) (b : Bool), xs = [x, .ref tp] ∧ SqT K H tp cs ∧ Paired ClsV cs us ∧ TyX K H x t ∧ PySem.W.kitAny K t us = some b ∧ Q (.bl b) H) (oIsi K) := by
  intro g S H ds d vs Q l rd e k
  match ds, e with
  | [x, c], e =>
    obtain ⟨xv, cv, rfl, rx, rc⟩ := rel2 rd
    have one : (match tyV K S x, clsV K c with
        | some t, some u => (isaV K t u).map D.bl
        | _, _ => none) = some d → rIsi K [xv, cv] H Q := fun e => by
      split at e
      · rename_i t u h1 h2
        obtain ⟨b, h3, rfl⟩ := Option.map_eq_some_iff.mp e
        exact ⟨xv, cv, t, u, b, rfl, clsV_ok rc h2, tyV_ok l rx h1, isaV_ok h3, k g H _ (.refl g) l rfl⟩
      · cases e
    cases c with
    | tup cs =>
      simp only [oIsi] at e
      split at e
      · rename_i t us h1 h2
        obtain ⟨b, h3, rfl⟩ := Option.map_eq_some_iff.mp e
        obtain ⟨a, ws, rfl, hs, rs⟩ := tup_view l rc
        exact .inr ⟨xv, a, ws, t, us, b, rfl, hs, clsVs_ok rs h2, tyV_ok l rx h1, isaVs_ok h3, k g H _ (.refl g) l rfl⟩
      · cases e
    | _ => exact .inl (one e)
  | [], e => cases e
  | [_], e => cases e
  | _ :: _ :: _ :: _, e => simp [oIsi] at e
end
theorem call_isiQ {X : Cx} : CallR X (.builtin "isinstance") (fun xs H Q => ∃ (x : V) (tp : Addr) (cs : List V) (t : Value) (us : List Value) (b : Bool), xs = [x, .ref tp] ∧ SqT X.K H tp cs ∧ Paired ClsV cs us ∧ TyX X.K H x t ∧ PySem.W.kitAny X.K t us = some b ∧ Q (.bl b) H) := by
  intro pins s σ H xs us Q I r h
  obtain ⟨x, tp, cs, t, ws, b, rfl, hT, k, ty, e, q⟩ := h
  obtain ⟨u1, u2, rfl, r1, r2⟩ := vals2 r
  cases (show u2 = Value.ref tp from r2)
  obtain ⟨P, Z, p, hx⟩ := kit_of I r1 ty
  obtain ⟨its, rv, ⟨o, h1, h2, n, h3⟩, _⟩ := I.tuple hT
  have e3 := ClsV.all k rv
  subst e3
  obtain ⟨oc, od, dt, sl⟩ := o
  simp only at h2 h3
  subst h2 h3
  exact PySem.W.kia_tup Z I.kIn p h1 e hx fun tk => ⟨.bl b, H, I.tok tk, rfl, q⟩
theorem cu_isi {X : Cx} : CallU X (.builtin "isinstance") (oIsi X.K) := ⟨_, call_isi.or call_isiQ, u_isi⟩
def blsD : List D → Option (List Bool)
  | [] => some []
  | .bl b :: r => (blsD r).map (b :: ·)
  | _ :: _ => none
theorem blsD_ok {K : PySem.W.Frag} {g : Gh} : ∀ {ds : List D} {vs : List V} {bs : List Bool}, RelDs K g ds vs → blsD ds = some bs → vs = bs.map V.bl
  | _, _, _, .nil, h => by cases h; rfl
  | d :: _, _, bs, .cons r t, h => by
    cases d <;> simp only [blsD, reduceCtorEq] at h
    obtain ⟨cs, h1, rfl⟩ := Option.map_eq_some_iff.mp h
    cases r
    rw [blsD_ok t h1]; rfl
def oAll : Sto → List D → Option D := fun S ds => match ds with
  | [d] => ((lstOf S d).bind blsD).map fun bs => .bl (bs.all id)
  | _ => none
theorem u_all {K : PySem.W.Frag} : UCall K (rAll K) oAll := by
  intro g S H ds d vs Q l rd e k
  match ds, e with
  | [c], e =>
    obtain ⟨v, rfl, r⟩ := rel1 rd
    obtain ⟨bs, e1, rfl⟩ := Option.map_eq_some_iff.mp e
    obtain ⟨xs, e2, e3⟩ := Option.bind_eq_some_iff.mp e1
    obtain ⟨a, us, rfl, hs, rs⟩ := lst_view l r e2
    rw [blsD_ok rs e3] at hs
    exact ⟨a, bs, rfl, hs, k g H _ (.refl g) l rfl⟩
  | [], e => cases e
  | _ :: _ :: _, e => cases e
theorem cu_all {X : Cx} (hc : X.calm = true) : CallU X (.builtin "all") oAll := ⟨_, cr_all hc, u_all⟩

theorem cu_abs {X : Cx} : CallU X (.builtin "abs") oAbs := ⟨_, call_abs, fun g S H ds d vs Q l rd e k => by
  match ds, e with
  | [.int i], e =>
    cases e
    rw [rels1 rd]
    exact ⟨i, rfl, k g H _ (.refl g) l rfl⟩⟩

theorem cu_int {X : Cx} : CallU X (.type "int") oIntOf := ⟨_, call_int1, fun g S H ds d vs Q l rd e k => by
  match ds, e with
  | [.int i], e =>
    cases e
    rw [rels1 rd]
    exact .inl ⟨i, rfl, k g H _ (.refl g) l rfl⟩
  | [.bl b], e =>
    cases e
    obtain ⟨v, rfl, r⟩ := rel1 rd
    cases r
    exact .inr ⟨b, rfl, k g H _ (.refl g) l rfl⟩⟩
def oListOf : Sto → List D → Option D := fun S ds => match ds with
  | [d] => (seqOf S d).map .lst
  | _ => none
theorem cu_list {X : Cx} : CallU X (.type "list") oListOf := ⟨_, call_list_of, fun g S H ds d vs Q l rd e k => by
  match ds, e with
  | [c], e =>
    obtain ⟨v, rfl, r⟩ := rel1 rd
    obtain ⟨xs, e1, rfl⟩ := Option.map_eq_some_iff.mp e
    obtain ⟨a, us, rfl, hs, rs⟩ := seq_view l r e1
    refine ⟨a, us, rfl, hs, fun p hp => ?_⟩
    obtain ⟨g', e1, l1, r1⟩ := l.newLst hp rs
    exact k g' _ _ e1 l1 r1
  | [], e => cases e
  | _ :: _ :: _, e => cases e⟩


def PostF (K : PySem.W.Frag) (g : Gh) (x : RF) (Q : VK) (E : XK) : Prop := match x with
  | .ok d S => ∀ g' H' v, Ext g g' → Rl K g' S H' → RelD K g' d v → Q v H'
  | .er x S => ∀ g' H' cls od, Ext g g' → Rl K g' S H' → RelX K g' H' x cls od → E cls od H'
  | .no => False
def spU (K : PySem.W.Frag) (n : Nat) (m : MF) : Sp := fun vs H Q E => vs.length = n ∧ ∃ g ds S, Rl K g S H ∧ RelDs K g ds vs ∧ PostF K g (m ds S) Q E
theorem spU_len {K : PySem.W.Frag} {n : Nat} {m : MF} : ∀ vs H Q E, spU K n m vs H Q E → vs.length = n := fun _ _ _ _ h => h.1

abbrev PF := List D → Out
def pureM (m : PF) : MF := fun ds S => if bndL 0 ds = true then match m ds with
  | .ok d => .ok d S
  | .er x => .er x S
  | .no => .no else .no


abbrev FnU (P : Program) (w : World) (K : PySem.W.Frag) (mg : Str → Option Value) (base : Heap) (k : Nat) (f : Addr) (fd : FuncData) (ps : List Str) (m : MF) : Prop := FnOk P w K mg base (CXU K P w) k f fd ps (spU K ps.length m)
section
variable {X : Cx} {W : WX} {pos p : Pos} {x : Str} {a : Expr} {es : List Expr} {fs : AF} {k : Nat} {f : Addr} {fd : FuncData} {ps : List Str} {m : MF} {dds : List D} {dvs : List V} {dus : List Value}
theorem se_call (F : FnU X.prog X.w X.K X.mg X.base k f fd ps m) (hr : Room k X.A) (hm : X.mg x = some (.ref f)) (hk : PySem.W.keepIn X.K (.ref f) = true) (hb : Binds X.K fd ps dus) (hd : Vals dvs dus) (hdd : ∀ g, RelDs X.K g dds dvs) (tk : Tk X W)
    (ha : SA X W (a :: es) fs) (hg : Gl X x := by rfl) (hdb : (x == ("__debug__" : Str)) = false := by decide) (he : starEach (a :: es) X.env = (false, eval a X.env) :: starEach es X.env := by rfl) (hpl : (backTo pos (starEach es X.env)).any (·.1) = false := by rfl) :
    SE X W (.Call (.Name x p) (a :: es) [] pos) (eCallF ps.length m dds fs) := by
  refine pe_imp (pe_callSD (E := fun σ cls od H => W cls od σ H) F hr hg hm hk hb hd (fun σ => passAtU tk σ) ha hdb he hpl) fun σ H Q h => td_seq (TD.split (rel := RelDs X.K) h) fun vs H1 ⟨g, ds, r, S, l, e, rd, p⟩ => ?_
  split at p
  · rename_i hn
    have rr := rd.append (hdd g)
    refine ⟨by rw [← rr.length]; exact hn, g, ds ++ dds, S, l, rr, ?_⟩
    cases q : m (ds ++ dds) S with
    | ok d S' =>
      rw [q] at p
      exact fun g' H' v x' l' r' => p g' H' v x' l' (e.mono x') r'
    | er d S' =>
      rw [q] at p
      exact fun g' H' cls od x' l' r' => p g' H' cls od x' l' (e.mono x') r'
    | no => rw [q] at p; exact p.elim
  · exact p.elim

abbrev SK (X : Cx) (W : WX) (ks : List Keyword) (f : AF) : Prop := PK X ks (TD X.K W (RelDs X.K) f)
theorem pk_imp {ks : List Keyword} {t t' : TA} (h : PK X ks t) (i : ∀ σ H Q, t' σ H Q → t σ H Q) : PK X ks t' := ⟨fun pos pins s σ H Q I w => h.run pos pins s σ H Q I (i σ H Q w)⟩
theorem sk_nil : SK X W [] aNil := pk_imp pk_nil fun σ H Q ⟨g, r, S, l, e, p⟩ => post_ok p l e .nil
theorem sk_cons {nm : Option Str} {kpos : Pos} {kws : List Keyword} {fa : EF} {fr : AF} (ha : SE X W a fa) (hr : SK X W kws fr) : SK X W (⟨nm, a, kpos⟩ :: kws) (aCons fa fr) :=
  pk_imp (pk_cons ha hr) fun σ H Q h => td_seq (TD.split (rel := RelD X.K) h) fun xv H1 ⟨g, x, r, S, l, e, rx, p⟩ =>
    ⟨g, r, S, l, e, PostG.imp p.split fun zv H2 ⟨g', z, r2, S', e', l', re, rz, p'⟩ => post_ok p' l' re (.cons (rx.mono e') rz)⟩
end
def startE (n : Nat) (ds : List D) : Env := ds.map some ++ List.replicate (n - ds.length) none
theorem start_rel {K : PySem.W.Frag} {g : Gh} {N : List Str} {ds : List D} {vs : List V} (r : RelDs K g ds vs) : REnv K g (startE N.length ds) (start N vs) := by
  unfold startE start
  refine ⟨by simp [r.length], fun i d e => ?_⟩
  by_cases hi : i < ds.length
  · rw [List.getElem?_append_left (by simpa using hi), List.getElem?_map] at e
    obtain ⟨d', h1, h2⟩ := Option.map_eq_some_iff.mp e
    cases h2
    obtain ⟨v, h3, h4⟩ := r.get h1
    exact ⟨v, by rw [List.getElem?_append_left (by rw [List.length_map, ← r.length]; exact hi), List.getElem?_map, h3]; rfl, h4⟩
  · rw [List.getElem?_append_right (by simpa using hi), List.getElem?_replicate] at e
    split at e <;> cases e
def endOf : R Fl → RF
  | .ok (.rt d) _ S => .ok d S
  | .ok .nx _ S => .ok .non S
  | .er x _ S => .er x S
  | _ => .no
def Settled (n : Nat) (x y : RF) : Prop := match y with
  | .no => True
  | .ok d S => ∃ d1 S1 k, x = .ok d1 S1 ∧ (∀ (i : Nat) (o : AO), i < n → S1[i]? = some o → bndO n o = true) ∧ fz n S1 k d1 = d ∧ bnd n d = true ∧ S1.take n = S
  | .er d S => ∃ C ns ds S1 k, x = .er (.ins C ns ds) S1 ∧ (∀ (i : Nat) (o : AO), i < n → S1[i]? = some o → bndO n o = true) ∧ d = .ins C ns (ds.map (fz n S1 k)) ∧ bndL n (ds.map (fz n S1 k)) = true ∧ S1.take n = S
theorem post_settled {K : PySem.W.Frag} {g : Gh} {x y : RF} {n : Nat} {Q : VK} {E : XK} (hn : g.sz = n) (hb : ∀ a d, g.G a = some d → bnd n d = true) (h : Settled n x y) (p : PostF K g y Q E) : PostF K g x Q E := by
  cases y with
  | no => exact p.elim
  | ok d S =>
    obtain ⟨d1, S1, k, rfl, hS, hf, hd, ht⟩ := h
    intro g1 H1 v e l r
    obtain ⟨e2, l2⟩ := settle l e hn hb hS
    rw [ht] at l2
    refine p _ H1 v e2 l2 ?_
    rw [← hf]
    exact settled_rel l (by rw [← hn]; exact e.sz) r (by rw [hf]; exact hd)
  | er d S =>
    obtain ⟨C, ns, ds, S1, k, rfl, hS, hf, hd, ht⟩ := h
    intro g1 H1 cls od e l r
    obtain ⟨e2, l2⟩ := settle l e hn hb hS
    rw [ht] at l2
    obtain ⟨C', ns', ds', dx, q1, q2, q3, q4⟩ := r
    cases q1
    have := settled_some (N := n) (S1 := S1) (k := k + 2) q4 (by simp [xdD, fz, bnd, bndL, hd])
    exact p _ H1 cls od e2 l2 ⟨C, ns, _, dx, hf, q2, q3, this⟩
def Out.at (S : Sto) : Out → RF
  | .ok d => .ok d S
  | .er x => .er x S
  | .no => .no
theorem post_pure {K : PySem.W.Frag} {g : Gh} {S : Sto} {H : Hp} {x : RF} {y : Out} {Q : VK} {E : XK} (l : Rl K g S H) (h : Settled 0 x (y.at [])) (p : PostF K g (y.at S) Q E) : PostF K (g.sealed H) x Q E := by
  refine post_settled (n := 0) rfl (fun a d q => (sealed_G.mp q).2) h ?_
  cases y with
  | no => exact p.elim
  | ok d =>
    obtain ⟨d1, S1, k, _, _, hf, hd, _⟩ := h
    intro g1 H1 v e l1 r
    obtain ⟨l2, hp⟩ := reopen l e l1
    exact p _ H1 v opened_ext l2 (relD_over hp r hd)
  | er d =>
    obtain ⟨C, ns, ds, S1, k, _, _, hf, hd, _⟩ := h
    intro g1 H1 cls od e l1 r
    obtain ⟨l2, hp⟩ := reopen l e l1
    obtain ⟨C', ns', ds', dx, q1, q2, q3, q4⟩ := r
    rw [hf] at q1
    cases q1
    exact p _ H1 cls od opened_ext l2 ⟨C, ns, _, dx, hf, q2, q3, hp _ _ q4 (by simp [xdD, bnd, bndL, hd])⟩
section
variable {P : Program} {w : World} {K : PySem.W.Frag} {mg : Str → Option Value} {base : Heap} {x qual : Str} {params : Arguments} {body : List Stmt} {scope : Scope} {dvs : List V} {kws : List (Str × V)} {f : Addr} {fd : FuncData} {N ps : List Str} {k : Nat}
abbrev bodyCx (P : Program) (w : World) (K : PySem.W.Frag) (mg : Str → Option Value) (base : Heap) (N : List Str) (qual : Str) (scope : Scope) (f : Addr) (cdv : Value) (A : Around) (outer : List PySem.Env) (s : Shared) (H : Hp) (E : XK) : Cx :=
  cxOf (CXU K P w) P w K mg base N qual scope f cdv A outer s H E
def wOf (E : XK) : WX := fun cls d _ H => E cls d H
theorem pu_of (F : FunD K x qual params body scope dvs kws f fd) (S : FnScope N ps scope) (m : PF) (fb : SF)
    (hbody : ∀ (cdv : Value) (A : Around) (outer : List PySem.Env) (s : Shared) (H : Hp) (E : XK), Room k (A.deeper (envOfC qual scope s.heap.objs.size f cdv)) → Tk (bodyCx P w K mg base N qual scope f cdv A outer s H E) (wOf E) →
      PassesOwn (model P w) (A.deeper (envOfC qual scope s.heap.objs.size f cdv)) (envOfC qual scope s.heap.objs.size f cdv) (bodyCx P w K mg base N qual scope f cdv A outer s H E).xe → SSs (bodyCx P w K mg base N qual scope f cdv A outer s H E) (wOf E) body fb)
    (hm : ∀ ds, ds.length = ps.length → bndL 0 ds = true → Settled 0 (endOf (fb (startE N.length ds) [])) ((m ds).at [])) : FnU P w K mg base (k + 1) f fd ps (pureM m) := by
  refine F.ok S spU_len fun cdv A outer s H vs Q E hr h => ⟨TSd K (wOf E) fb, hbody cdv A outer s H E hr (tk_of rfl rfl rfl rfl) (passes_of rfl), ?_⟩
  obtain ⟨hl, g, ds, S, l, rd, p⟩ := h
  unfold pureM at p
  split at p
  · rename_i hb
    refine ⟨g.sealed H, _, [], shut l, start_rel (sealed_rels rd hb), ?_⟩
    have p1 : PostF K g ((m ds).at S) Q E := by
      cases q : m ds <;> (rw [q] at p; exact p)
    have p2 := post_pure l (hm ds (by rw [rd.length]; exact hl) hb) p1
    cases q : fb (startE N.length ds) [] with
    | ok a r S1 =>
      rw [q] at p2
      cases a with
      | nx => exact fun g' H' σ' e l' _ => p2 g' H' .non e l' rfl
      | rt d => exact p2
      | bk => exact p2.elim
      | ct => exact p2.elim
    | er y r S1 =>
      rw [q] at p2
      exact fun g' H' σ' cls od e l' _ r' => p2 g' H' cls od e l' r'
    | no => rw [q] at p2; exact p2.elim
  · exact p.elim
end
open PySem PySem.Spec PyProof.Rows He




theorem funA {K : PySem.W.Frag} {a : Addr} {d : DefD} (e : fnA K a = d.val) (c : okA K a d = true) : ∃ fd, FunD K d.name d.qual d.params d.body d.scope (d.dvs K) (d.kws K) a fd := by
  obtain ⟨kp, c⟩ := ba c
  unfold fnA at e
  split at c
  · rename_i oc od fd osl q
    rw [q] at e
    obtain ⟨n1, n2, n3, n4, n5, n6, n7, n8, n9, n10, n11, n12, n13, n14, n15⟩ := fd
    have e2 : (some (n1, n2, n3, n4, n5, n6, n7, n15) : FnW) = some (d.name, d.qual, d.params, .stmts d.body, d.scope, mainGlobals, [], builtinsNs) := e
    simp only [Option.some.injEq, Prod.mk.injEq] at e2
    obtain ⟨h1, h2, h3, h4, h5, h6, h7, h8⟩ := e2
    subst h1 h2 h3 h4 h5 h6 h7 h8
    have c' : (PySem.W.codeIn K n13 d.qual && (dflB K n8 (d.dvs K) && kwdB K n9 (d.kws K))) = true := c
    obtain ⟨k1, k2⟩ := ba c'
    obtain ⟨k3, k4⟩ := ba k2
    exact ⟨_, ⟨oc, od, n8, n9, n10, n11, n12, n13, n14, osl, rfl, q, k1, dflB_ok k3, kwdB_ok k4⟩, kp⟩
  · cases c


section
variable {ck : PySem.W.Frag → Bool} {fn pn : List DefD} {K : PySem.W.Frag}
theorem SaysU.chk (c : SaysU ck fn pn K) : ck K = true := (ba (congrArg (fun z : AlD => z.1) c)).1
theorem SaysU.two (c : SaysU ck fn pn K) : fn.map (fun d => fnA K (fAd K d.at_)) = fn.map DefD.val ∧ pn.map (fun d => fnA K (fAp K d.at_)) = pn.map DefD.val := by
  have e : fn.map (fun d => fnA K (fAd K d.at_)) ++ pn.map (fun d => fnA K (fAp K d.at_)) = (fn ++ pn).map DefD.val := congrArg (fun z : AlD => z.2) c
  rw [List.map_append] at e
  exact List.append_inj e (by simp)
theorem SaysU.def_ (c : SaysU ck fn pn K) (i : Nat) {d : DefD} (h : fn[i]? = some d := by rfl) : ∃ fd, FunD K d.name d.qual d.params d.body d.scope (d.dvs K) (d.kws K) (fAd K d.at_) fd := by
  have c2 := (ba (ba (congrArg (fun z : AlD => z.1) c)).2).1
  have e2 : (fn.map fun d => fnA K (fAd K d.at_))[i]? = (fn.map DefD.val)[i]? := by rw [c.two.1]
  rw [List.getElem?_map, List.getElem?_map, h] at e2
  exact funA (Option.some.inj e2) (List.all_eq_true.mp c2 d (List.mem_of_getElem? h))
end



structure Nm (K : PySem.W.Frag) (mg : Str → Option Value) : Prop where
  v : ∀ x v, PySem.W.nsIn K mainGlobals x = some v → mg x = v
theorem Nm.of {K : PySem.W.Frag} {h : Heap} {mg : Str → Option Value} (X : K.In h) (G : h.Ns mainGlobals mg) : Nm K mg := ⟨fun x v e => by
  cases v with
  | none => exact PySem.W.mg_none_of X G e
  | some v => exact PySem.W.mg_of X G e⟩
section
variable {K : PySem.W.Frag} {mg : Str → Option Value}
theorem free_at (N : Nm K mg) {xs : List Str} (h : freeB K xs = true) (i : Nat) {x : Str} (hx : xs[i]? = some x := by rfl) : mg x = none :=
  N.v x none (eqO_ok (List.all_eq_true.mp h x (List.mem_of_getElem? hx)))
theorem glo_at (N : Nm K mg) {xs : List Str} (h : gloB K xs = true) (i : Nat) {x : Str} (hx : xs[i]? = some x := by rfl) : mg x = some (.ref (ga K x)) :=
  N.v x _ (eqO_ok (List.all_eq_true.mp h x (List.mem_of_getElem? hx)))
theorem con_at (N : Nm K mg) {xs : List (Str × D)} (h : conB K xs = true) (i : Nat) {x : Str} {d : D} (hx : xs[i]? = some (x, d) := by rfl) : KCon K mg x d := by
  have e := List.all_eq_true.mp h _ (List.mem_of_getElem? hx)
  simp only at e
  split at e
  · rename_i u q
    exact ⟨u, 40, N.v x _ q, e⟩
  · cases e
end
structure Def1 (P : Program) (w : World) (K : PySem.W.Frag) (mg : Str → Option Value) (base : Heap) (x : Str) (k : Nat) (ps : List Str) (m : MF) (dds : List D) : Prop where
  ex : ∃ f fd dvs dus, FnU P w K mg base k f fd ps m ∧ mg x = some (.ref f) ∧ PySem.W.keepIn K (.ref f) = true ∧ Binds K fd ps dus ∧ Vals dvs dus ∧ ∀ g, RelDs K g dds dvs
section
variable {X : Cx} {W : WX} {pos p : Pos} {x : Str} {a : Expr} {es : List Expr} {fs : AF} {k : Nat} {ps : List Str} {m : MF} {dds : List D}
theorem se_fn (F : Def1 X.prog X.w X.K X.mg X.base x k ps m dds) (hr : Room k X.A) (tk : Tk X W) (ha : SA X W (a :: es) fs) (hg : Gl X x := by rfl) (hdb : (x == ("__debug__" : Str)) = false := by decide) (he : starEach (a :: es) X.env = (false, eval a X.env) :: starEach es X.env := by rfl)
    (hpl : (backTo pos (starEach es X.env)).any (·.1) = false := by rfl) : SE X W (.Call (.Name x p) (a :: es) [] pos) (eCallF ps.length m dds fs) := by
  obtain ⟨f, fd, dvs, dus, F, hm, hk, hb, hd, hdd⟩ := F
  exact se_call F hr hm hk hb hd hdd tk ha hg hdb he hpl
end
theorem kReps_ints {K : PySem.W.Frag} : ∀ (ns : List Int) (us : List Value) (f : Nat), Vals (ns.map V.int) us → ns.length + 2 ≤ f → kReps K f (ns.map D.int) us = true
  | [], us, f, r, hf => by
    cases r
    match f, hf with
    | f + 1, _ => rfl
  | n :: ns, us, f, r, hf => by
    rw [List.length_cons] at hf
    cases r with
    | cons r1 r2 =>
      obtain ⟨t, rfl⟩ := r1
      match f, hf with
      | f + 1, hf =>
        show (kRep K f (.int n) (.int n t) && kReps K f (ns.map D.int) _) = true
        rw [kReps_ints ns _ f r2 (by omega)]
        match f, hf with
        | f + 1, _ => simp [kRep]
theorem bndL_ints (n : Nat) : ∀ ns : List Int, bndL n (ns.map D.int) = true
  | [] => rfl
  | _ :: ns => by show (true && bndL n (ns.map D.int)) = true; rw [bndL_ints n ns]; rfl
theorem law_sp {K : PySem.W.Frag} {m : MF} {H : Hp} {a : Addr} {ns : List Int} (hO : Only H) (hS : SqL K H a (ns.map V.int)) (h : ∃ S, m [.fz (ns.map .int)] [] = .ok (.bl true) S) (hT : theTabs K = []) : spU K 1 m [.ref a] H (fun v _ => v = .bl true) fun _ _ _ => False := by
  obtain ⟨S, hm⟩ := h
  have fin : ∀ g : Gh, g.sz = 0 → Rl K g [] H → RelD K g (.fz (ns.map .int)) (.ref a) → spU K 1 m [.ref a] H (fun v _ => v = .bl true) fun _ _ _ => False := fun g _ l r => by
    refine ⟨rfl, g, [.fz (ns.map .int)], [], l, .cons r .nil, ?_⟩
    rw [hm]
    exact fun g' H' v _ _ rv => rv
  rcases hS with hS | ⟨o, its, n, h1, h2, h3, h4, h5, h6⟩
  · have hn : ∀ (ns : List Int) (g : Gh), RelDs K g (ns.map D.int) (ns.map V.int) := fun ns g => by
      induction ns with
      | nil => exact .nil
      | cons n ns ih => exact .cons rfl ih
    refine fin ⟨fun b => if b = a then some (.fz (ns.map .int)) else none, fun _ => 0, 0, fun _ => none⟩ rfl ⟨fun b d q => ?_, fun n o q => by simp at q, fun i j oi oj q => by simp at q, rfl, fun b o q => (by cases q), fun t ht => by rw [hT] at ht; cases ht⟩ ⟨bndL_ints 0 ns, a, rfl, .inl (if_pos rfl)⟩
    have q' : (if b = a then some (D.fz (ns.map .int)) else none) = some d := q
    split at q'
    · rename_i e
      subst e
      cases q'
      exact ⟨_, hS, hn ns _⟩
    · cases q'
  · refine fin ⟨fun _ => none, fun _ => 0, 0, fun _ => none⟩ rfl ⟨fun b d q => (by cases q), fun n o q => by simp at q, fun i j oi oj q => by simp at q, rfl, fun b o q => (by cases q), fun t ht => by rw [hT] at ht; cases ht⟩ ⟨bndL_ints 0 ns, a, rfl, .inr ⟨ns.length + 3, ?_⟩⟩
    obtain ⟨oc, od, dt, sl⟩ := o
    simp only at h2 h3 h4
    subst h2 h3 h4
    unfold kRep
    rw [h1]
    simp only [Bool.and_eq_true, decide_eq_true_eq]
    exact ⟨by first | rfl | trivial, h5, kReps_ints ns _ _ h6 (by omega)⟩
theorem cx_none {K : PySem.W.Frag} {P : Program} {w : World} {H : Hp} {s : Shared} {e : Value} {s' : Shared} (h : CXU K P w [] H s (fun _ _ _ => False) e s') : False := cxU_no h
theorem walk_U {l : PySem.W.OpenLaw} {n k : Nat} {q : Program} {loose : List Str} {XP : (Str → Option Value) → Heap → Prop} {YP : World → Heap → Prop} {d : DefRec} {x : Str}
    (hn : l.most = some n) (hn2 : n ≤ sizeLine) (hdf : d.params.defaults = []) (hr : Room k callerA)
    (F : ∀ (w : World) (mg : Str → Option Value) (fa : Addr) (h : Heap), YP w h → h.Ns mainGlobals mg → mg d.name = some (.ref fa) →
      ∃ (K : PySem.W.Frag) (fd : FuncData) (m : MF), K.In h ∧ (∀ (s : Shared) (u : Value), BindsTo s fd ⟨[u], []⟩ [(x, u)]) ∧
        (∀ ns : List Int, ns.length ≤ n → ∃ S, m [.fz (ns.map .int)] [] = .ok (.bl true) S) ∧
        ∀ base : Heap, K.In base → base.Ns mainGlobals mg → FnU l.prog w K mg base k fa fd [x] m) (hT : ∀ K, theTabs K = [] := by exact fun _ => rfl) :
    PySem.W.WalkO q loose XP YP l.row.toRowW d [] (fun f vs => PySem.call f vs) := by
  refine Att.attach_call hn hdf fun w s₀ s₁ mg mb fa o pm cd doc a vs ns G Y ho hd hcd hmg hobj hints hlen hg => ?_
  obtain ⟨K, fd, m, KX, hb, hsp, hF⟩ := F w mg fa _ Y G.T.g hmg
  exact law_call (CX := CXU K l.prog w) KX G.T.g G.T.b G.T.builtins G.T.nolimit hg hobj hints (Nat.le_trans hlen hn2) hr hF hb (fun H hO hS => law_sp hO hS (hsp ns hlen) (hT K)) fun H e s' => cx_none
open PySem PySem.Spec PyProof.Rows He
def oNeg : Sto → D → Option D := fun _ x => match x with
  | .int i => some (.int (-i))
  | _ => none
structure UnU (X : Cx) (op : UnaryOp) (o : Sto → D → Option D) : Prop where
  ex : ∃ r, UnR X (unaryOp op) r ∧ ∀ g S H x d xv (Q : VK), Rl X.K g S H → RelD X.K g x xv → o S x = some d → (∀ v, RelD X.K g d v → Q v H) → r xv H Q

section
variable {X : Cx} {W : WX} {pos : Pos} {a : Expr} {fa : EF}
theorem un_negU : UnU X .USub oNeg := ⟨_, un_neg, fun g S H x d xv Q l rx e k => by
  cases x <;> simp only [oNeg, reduceCtorEq, Option.some.injEq] at e
  subst e
  cases rx
  exact ⟨_, rfl, k _ rfl⟩⟩
theorem se_un {op : UnaryOp} {o : Sto → D → Option D} (u : UnU X op o) (ha : SE X W a fa) : SE X W (.UnaryOp op a pos) (eUn o fa) := by
  obtain ⟨r0, ho, hu⟩ := u
  refine pe_imp (pe_un ho ha) fun σ H Q h => td_seq (TD.split (rel := RelD X.K) h) fun xv H1 ⟨g, x, r, S, l, e, rx, p⟩ => ?_
  split at p
  · rename_i d q
    exact hu g S H1 x d xv Q l rx q fun v rv => post_ok p l e rv
  · exact p.elim
end
def rawM (n : Nat) (fb : SF) : MF := fun ds S => endOf (fb (startE n ds) S)
def cleanF (n : Nat) : RF → RF
  | .ok d S => if (S.take n).all (bndO n) && bnd n (fz n S 60 d) then .ok (fz n S 60 d) (S.take n) else .no
  | .er (.ins C ns ds) S => if (S.take n).all (bndO n) && bndL n (ds.map (fz n S 60)) then .er (.ins C ns (ds.map (fz n S 60))) (S.take n) else .no
  | _ => .no
theorem take_bnd {n : Nat} {S : Sto} (h : (S.take n).all (bndO n) = true) (i : Nat) (o : AO) (hi : i < n) (e : S[i]? = some o) : bndO n o = true := by
  refine List.all_eq_true.mp h o (List.mem_of_getElem? (i := i) ?_)
  rw [List.getElem?_take, if_pos hi]
  exact e
theorem clean_settled (n : Nat) (x : RF) : Settled n x (cleanF n x) := by
  cases x with
  | no => exact trivial
  | ok d S =>
    show Settled n _ (if (S.take n).all (bndO n) && bnd n (fz n S 60 d) then RF.ok (fz n S 60 d) (S.take n) else .no)
    split
    · rename_i h
      simp only [Bool.and_eq_true] at h
      exact ⟨d, S, 60, rfl, take_bnd h.1, rfl, h.2, rfl⟩
    · exact trivial
  | er d S =>
    cases d with
    | ins C ns ds =>
      show Settled n _ (if (S.take n).all (bndO n) && bndL n (ds.map (fz n S 60)) then RF.er (.ins C ns (ds.map (fz n S 60))) (S.take n) else .no)
      split
      · rename_i h
        simp only [Bool.and_eq_true] at h
        exact ⟨C, ns, ds, S, 60, rfl, take_bnd h.1, rfl, h.2, rfl⟩
      · exact trivial
    | _ => exact trivial
def outF : RF → Out
  | .ok d _ => .ok d
  | .er d _ => .er d
  | .no => .no
theorem out_settled (x : RF) : Settled 0 x ((outF (cleanF 0 x)).at []) := by
  have h := clean_settled 0 x
  have e : (outF (cleanF 0 x)).at [] = cleanF 0 x := by
    cases x with
    | no => rfl
    | ok d S => simp only [cleanF]; split <;> rfl
    | er d S =>
      cases d with
      | ins C ns ds => simp only [cleanF]; split <;> rfl
      | _ => rfl
  rw [e]
  exact h
def purF (n : Nat) (fb : SF) : PF := fun ds => outF (cleanF 0 (endOf (fb (startE n ds) [])))
def purM (n : Nat) (fb : SF) : MF := pureM (purF n fb)
section
variable {P : Program} {w : World} {K : PySem.W.Frag} {mg : Str → Option Value} {base : Heap} {x qual : Str} {params : Arguments} {body : List Stmt} {scope : Scope} {f : Addr} {fd : FuncData} {N ps : List Str} {k : Nat}
abbrev BodyU (P : Program) (w : World) (K : PySem.W.Frag) (mg : Str → Option Value) (base : Heap) (k : Nat) (N : List Str) (qual : Str) (scope : Scope) (f : Addr) (body : List Stmt) (fb : SF) : Prop :=
  ∀ (cdv : Value) (A : Around) (outer : List PySem.Env) (s : Shared) (H : Hp) (E : XK), Room k (A.deeper (envOfC qual scope s.heap.objs.size f cdv)) → Tk (bodyCx P w K mg base N qual scope f cdv A outer s H E) (wOf E) →
      PassesOwn (model P w) (A.deeper (envOfC qual scope s.heap.objs.size f cdv)) (envOfC qual scope s.heap.objs.size f cdv) (bodyCx P w K mg base N qual scope f cdv A outer s H E).xe → SSs (bodyCx P w K mg base N qual scope f cdv A outer s H E) (wOf E) body fb
variable {dvs : List V} {kws : List (Str × V)}
theorem fn_raw (F : FunD K x qual params body scope dvs kws f fd) (S : FnScope N ps scope) (fb : SF) (hbody : BodyU P w K mg base k N qual scope f body fb) : FnU P w K mg base (k + 1) f fd ps (rawM N.length fb) := by
  refine F.ok S spU_len fun cdv A outer s H vs Q E hr h => ⟨TSd K (wOf E) fb, hbody cdv A outer s H E hr (tk_of rfl rfl rfl rfl) (passes_of rfl), ?_⟩
  obtain ⟨hl, g, ds, S, l, rd, p⟩ := h
  refine ⟨g, _, S, l, start_rel rd, ?_⟩
  unfold rawM at p
  cases q : fb (startE N.length ds) S with
  | ok a r S1 =>
    rw [q] at p
    cases a with
    | nx => exact fun g' H' σ' e l' _ => p g' H' .non e l' rfl
    | rt d => exact p
    | bk => exact p.elim
    | ct => exact p.elim
  | er y r S1 =>
    rw [q] at p
    exact fun g' H' σ' cls od e l' _ r' => p g' H' cls od e l' r'
  | no => rw [q] at p; exact p.elim
theorem fn_pur (F : FunD K x qual params body scope dvs kws f fd) (S : FnScope N ps scope) (fb : SF) (hbody : BodyU P w K mg base k N qual scope f body fb) : FnU P w K mg base (k + 1) f fd ps (purM N.length fb) :=
  pu_of F S _ fb hbody fun ds _ _ => out_settled _
theorem fn_no (F : FunD K x qual params body scope dvs kws f fd) (S : FnScope N ps scope) : FnU P w K mg base (k + 1) f fd ps (fun _ _ => .no) :=
  F.ok S spU_len fun cdv A outer s H vs Q E hr h => by
    obtain ⟨hl, g, ds, S, l, rd, p⟩ := h
    exact p.elim
theorem def1_of {m : MF} {k : Nat} (hF : FnU P w K mg base k f fd ps m) (F : FunD K x qual params body scope [] [] f fd) (hm : mg x = some (.ref f))
    (h : ∀ (kV doc pm : Value) (an : Option Addr) (cdv ct : Value) (us : List Value), us.length = ps.length → bindArgs (PySem.W.fnOf x qual params body scope .none kV doc pm an cdv ct) ⟨us, []⟩ = pure (ps.zip us)) : Def1 P w K mg base x k ps m [] :=
  ⟨f, fd, [], [], hF, hm, F.kp, F.bindsN h, .nil, fun _ => .nil⟩
end


section
variable {α β : Type} {Q Q' : α → Env → Sto → Prop} {Z Z' : D → Env → Sto → Prop}
@[simp] theorem wp_ok {a : α} {r : Env} {S : Sto} : wp (.ok a r S) Q Z = Q a r S := propext Iff.rfl
@[simp] theorem wp_er {d : D} {r : Env} {S : Sto} : wp (.er d r S : R α) Q Z = Z d r S := propext Iff.rfl
@[simp] theorem wp_no : wp (.no : R α) Q Z = False := propext Iff.rfl
@[simp] theorem wp_bind {x : R α} {k : α → Env → Sto → R β} {Q : β → Env → Sto → Prop} : wp (x.bind k) Q Z = wp x (fun a r S => wp (k a r S) Q Z) Z := by cases x <;> rfl
theorem wp_imp {x : R α} (h : wp x Q Z) (i : ∀ a r S, Q a r S → Q' a r S) (j : ∀ d r S, Z d r S → Z' d r S) : wp x Q' Z' := by
  cases x with
  | ok a r S => exact i a r S h
  | er d r S => exact j d r S h
  | no => exact h
theorem wp_calm {x : R α} (h : wp x Q fun _ _ _ => False) : wp x.calm Q Z := by
  cases x with
  | ok a r S => exact h
  | er d r S => exact h.elim
  | no => exact h
@[simp] theorem wp_run {x : RF} {r : Env} {Q : D → Env → Sto → Prop} : wp (x.run r) Q Z = wf x (fun d S => Q d r S) (fun d S => Z d r S) := by cases x <;> rfl
@[simp] theorem wf_ok {d : D} {S : Sto} {Q Z : D → Sto → Prop} : wf (.ok d S) Q Z = Q d S := propext Iff.rfl
theorem wf_imp {x : RF} {Q Q' Z Z' : D → Sto → Prop} (h : wf x Q Z) (i : ∀ a S, Q a S → Q' a S) (j : ∀ d S, Z d S → Z' d S) : wf x Q' Z' := by
  cases x with
  | ok a S => exact i a S h
  | er d S => exact j d S h
  | no => exact h
theorem wf_end {x : R Fl} {Q Z : D → Sto → Prop} (h : wp x (fun a _ S => match a with
    | .rt d => Q d S
    | .nx => Q .non S
    | _ => False) fun d _ S => Z d S) : wf (endOf x) Q Z := by
  cases x with
  | ok a r S => cases a <;> exact h
  | er d r S => exact h
  | no => exact h
theorem wp_seq {f h : SF} {r : Env} {S : Sto} {Q : Fl → Env → Sto → Prop} (e : wp (f r S) (fun a r S => match a with
    | .nx => wp (h r S) Q Z
    | a => Q a r S) Z) : wp (sSeq f h r S) Q Z := by
  unfold sSeq
  rw [wp_bind]
  refine wp_imp e (fun a r S q => ?_) (fun _ _ _ z => z)
  cases a <;> exact q
theorem wp_loop {b : Bn} {fb : SF} {Q : Fl → Env → Sto → Prop} (I : List D → Env → Sto → Prop) : ∀ (xs : List D) (r : Env) (S : Sto), I xs r S → (∀ r S, I [] r S → Q .nx r S) →
    (∀ x xs r S, I (x :: xs) r S → ∃ r1, b x r = some r1 ∧ wp (fb r1 S) (fun a r S => match a with
      | .nx => I xs r S
      | .ct => I xs r S
      | .bk => Q .nx r S
      | .rt d => Q (.rt d) r S) Z) → wp (loopF b fb xs r S) Q Z
  | [], r, S, h0, h1, _ => h1 r S h0
  | x :: xs, r, S, h0, h1, h2 => by
    obtain ⟨r1, e1, h3⟩ := h2 x xs r S h0
    unfold loopF
    rw [e1]
    simp only
    rw [wp_bind]
    refine wp_imp h3 (fun a r S q => ?_) (fun _ _ _ z => z)
    cases a with
    | nx => exact wp_loop I xs r S q h1 h2
    | ct => exact wp_loop I xs r S q h1 h2
    | bk => exact q
    | rt d => exact q
theorem wp_comp {b : Bn} {tt : TF} {fe : EF} {r : Env} {vs : List Nat} (I : List D → List D → Sto → Prop) {Q : List D → Env → Sto → Prop} : ∀ (xs ys : List D) (S : Sto), I xs ys S → (∀ ys S, I [] ys S → Q ys r S) →
    (∀ x xs ys S, I (x :: xs) ys S → ∃ r1, b x (wipeE r vs) = some r1 ∧ wp (tt r1 S) (fun c r2 S2 => if c = true then wp (fe r2 S2) (fun y _ S3 => I xs (ys ++ [y]) S3) (fun _ _ _ => False) else I xs ys S2) fun _ _ _ => False) →
    wp (compF b tt fe r vs xs S) (fun zs r S => Q (ys ++ zs) r S) Z
  | [], ys, S, h0, h1, _ => by
    show Q (ys ++ []) r S
    rw [List.append_nil]
    exact h1 ys S h0
  | x :: xs, ys, S, h0, h1, h2 => by
    obtain ⟨r1, e1, h3⟩ := h2 x xs ys S h0
    unfold compF
    rw [e1]
    simp only
    rw [wp_bind]
    refine wp_calm (wp_imp h3 (fun c r2 S2 q => ?_) (fun _ _ _ z => z))
    split
    · rename_i hc
      rw [if_pos hc] at q
      rw [wp_bind]
      refine wp_calm (wp_imp q (fun y _ S3 q => ?_) (fun _ _ _ z => z))
      rw [wp_bind]
      refine wp_imp (wp_comp I xs (ys ++ [y]) S3 q h1 h2) (fun zs r S q => ?_) (fun _ _ _ z => z)
      show Q (ys ++ y :: zs) r S
      rw [List.append_assoc] at q
      exact q
    · rename_i hc
      rw [if_neg hc] at q
      exact wp_comp I xs ys S2 q h1 h2
end
open PySem PySem.Spec PyProof.Rows He
def tyV0 (S : Sto) : D → Option String
  | .non => some "NoneType"
  | .bl _ => some "bool"
  | .int _ => some "int"
  | .str _ => some "str"
  | .tup _ => some "tuple"
  | .lst _ => some "list"
  | .fz _ => some "list"
  | .ref n => (match S[n]? with
    | some (.lst _) => some "list"
    | _ => none)
  | _ => none
theorem tyV0_ok {K : PySem.W.Frag} {S : Sto} {d : D} {t : String} (h : tyV0 S d = some t) : tyV K S d = some (.type t) := by
  cases d <;> simp only [tyV0, reduceCtorEq, Option.some.injEq] at h <;> try (subst h; rfl)
  simp only [tyV]
  split at h
  · rename_i q; rw [q]; cases h; rfl
  · cases h
def isa0 (t : String) : List String → Option Bool
  | [] => some false
  | c :: r => match subTy t c with
    | some true => some true
    | some false => isa0 t r
    | none => none
def tysOf : List D → Option (List String)
  | [] => some []
  | .ty c :: r => (tysOf r).map (c :: ·)
  | _ :: _ => none
theorem tysOf_ok {K : PySem.W.Frag} : ∀ {cs : List D} {ts : List String}, tysOf cs = some ts → clsVs K cs = some (ts.map .type)
  | [], ts, h => by cases h; rfl
  | d :: r, ts, h => by
    cases d <;> simp only [tysOf, reduceCtorEq] at h
    obtain ⟨us, e, rfl⟩ := Option.map_eq_some_iff.mp h
    simp only [clsVs, clsV, tysOf_ok e, List.map_cons]
theorem isa0_ok {K : PySem.W.Frag} {t : String} : ∀ {cs : List String} {b : Bool}, isa0 t cs = some b → isaVs K (.type t) (cs.map .type) = some b
  | [], b, h => h
  | c :: r, b, h => by
    unfold isa0 at h
    show (match isaV K (.type t) (.type c) with
      | some true => some true
      | some false => isaVs K (.type t) (r.map .type)
      | none => none) = some b
    rw [show isaV K (.type t) (.type c) = subTy t c from rfl]
    split at h
    · exact h
    · exact isa0_ok h
    · cases h
def oIsi0 : Sto → List D → Option D := fun S ds => match ds with
  | [x, .tup cs] => (match tyV0 S x, tysOf cs with
    | some t, some us => (isa0 t us).map .bl
    | _, _ => none)
  | [x, .ty c] => (match tyV0 S x with
    | some t => (subTy t c).map .bl
    | none => none)
  | _ => none
theorem isi0_ok {K : PySem.W.Frag} {S : Sto} {ds : List D} {d : D} (h : oIsi0 S ds = some d) : oIsi K S ds = some d := by
  unfold oIsi0 at h
  split at h
  · rename_i x cs
    split at h
    · rename_i t us h1 h2
      simp only [oIsi, tyV0_ok h1, tysOf_ok h2]
      obtain ⟨b, e, rfl⟩ := Option.map_eq_some_iff.mp h
      rw [isa0_ok e]; rfl
    · cases h
  · rename_i x c
    split at h
    · rename_i t h1
      simp only [oIsi, tyV0_ok h1, clsV]
      exact h
    · cases h
  · cases h
theorem cu_isi0 {X : Cx} : CallU X (.builtin "isinstance") oIsi0 := by
  obtain ⟨r, h1, h2⟩ := cu_isi (X := X)
  exact ⟨r, h1, fun g S H ds d vs Q l rd e k => h2 g S H ds d vs Q l rd (isi0_ok e) k⟩
theorem blk_mk {X : Cx} {scope : Scope} {own : List (Str × Nat)} {tg elt : Expr} {ifs : List Expr} {b : Bn} {tt : TF} {fe : EF} {t : TG} (h1 : ∀ s H C cl fp, PG (X.blk s H scope (compEnvC scope cl C X.env) fp) tg t) (h2 : GU X.K t b (own.map (·.2)))
    (h3 : ∀ s H C cl fp, PTs (X.blk s H scope (compEnvC scope cl C X.env) fp) ifs (TD X.K W0 relB tt)) (h4 : ∀ s H C cl fp, SE (X.blk s H scope (compEnvC scope cl C X.env) fp) W0 elt fe) : BlkU X scope own tg ifs elt b tt fe := ⟨t, h1, h2, h3, h4⟩
section
variable {X : Cx} {W : WX} {pos p : Pos} {x : Str} {a : Expr} {es : List Expr} {fs fk : AF} {k n c : Nat} {ps ks : List Str} {m : MF} {dds : List D} {j : Nat} {gD : List D → List D → List D} {kws : List Keyword}
theorem sf_fn (F : Def1 X.prog X.w X.K X.mg X.base x k ps m dds) (hr : Room k X.A) (tk : Tk X W) (ha : SA X W (a :: es) fs) (hl : ps.length = n := by rfl) (hg : Gl X x := by rfl) (hdb : (x == ("__debug__" : Str)) = false := by decide) (he : starEach (a :: es) X.env = (false, eval a X.env) :: starEach es X.env := by rfl)
    (hpl : (backTo pos (starEach es X.env)).any (·.1) = false := by rfl) : SE X W (.Call (.Name x p) (a :: es) [] pos) (eCallF n m dds fs) := by
  subst hl
  exact se_fn F hr tk ha hg hdb he hpl
end
open PySem PySem.Spec PyProof.Rows He
section
variable {Z : D → Env → Sto → Prop} {r : Env} {S : Sto} {fa fb fc : EF} {ta tb : TF} {fs ft : AF}
@[simp] theorem wp_opt {α : Type} {o : Option D} {f : D → R α} {Q : α → Env → Sto → Prop} : wp (match o with
    | some d => f d
    | none => .no) Q Z = match o with
    | some d => wp (f d) Q Z
    | none => False := by cases o <;> rfl
variable {Q : D → Env → Sto → Prop}
@[simp] theorem Wb {d : D} : wp (eC d r S) Q Z = Q d r S := propext Iff.rfl


@[simp] theorem got_some {α : Type} {d : α} {P : α → Prop} : got (some d) P = P d := propext Iff.rfl
@[simp] theorem got_none {α : Type} {P : α → Prop} : got (none : Option α) P = False := propext Iff.rfl
@[simp] theorem got_ite {α : Type} {c : Prop} [Decidable c] {x y : Option α} {P : α → Prop} : got (if c then x else y) P = if c then got x P else got y P := by split <;> rfl
@[simp] theorem rd_cons0 {d : D} {r : Env} : rd (some d :: r) 0 = some d := rfl
@[simp] theorem rd_cons {x : Option D} {r : Env} {i : Nat} : rd (x :: r) (i + 1) = rd r i := rfl
@[simp] theorem Wc {i : Nat} : wp (eVar i r S) Q Z = got (rd r i) fun d => Q d r S := by
  unfold eVar rd; split <;> simp_all





@[simp] theorem Wd {o : Sto → D → D → Option D} : wp (eBin o fa fb r S) Q Z = wp (fa r S) (fun x r S => wp (fb r S) (fun y r S => got (o S x y) fun d => Q d r S) Z) Z := by
  unfold eBin
  simp only [wp_bind]
  congr; funext x r S; congr; funext y r S
  cases o S x y <;> rfl
@[simp] theorem We {o : Sto → D → D → Option Bool} : wp (eCmp o fa fb r S) Q Z = wp (fa r S) (fun x r S => wp (fb r S) (fun y r S => got (o S x y) fun d => Q (.bl d) r S) Z) Z := by
  unfold eCmp
  simp only [wp_bind]
  congr; funext x r S; congr; funext y r S
  cases o S x y <;> rfl
@[simp] theorem Wf {o : Sto → D → Option D} : wp (eUn o fa r S) Q Z = wp (fa r S) (fun x r S => got (o S x) fun d => Q d r S) Z := by
  unfold eUn
  simp only [wp_bind]
  congr; funext x r S
  cases o S x <;> rfl
@[simp] theorem Wg {o : Sto → List D → Option D} : wp (eCallB o fs r S) Q Z = wp (fs r S) (fun x r S => got (o S x) fun d => Q d r S) Z := by
  unfold eCallB
  simp only [wp_bind]
  congr; funext x r S
  cases o S x <;> rfl
@[simp] theorem Wh {fl fh : OF} : wp (eSl fa fl fh r S) Q Z = wp (fa r S) (fun x r S => wp (fl r S) (fun lo r S => wp (fh r S) (fun hi r S => got (sliceD S x lo hi) fun d => Q d r S) Z) Z) Z := by
  unfold eSl
  simp only [wp_bind]
  congr; funext x r S; congr; funext x2 r S; congr; funext x3 r S
  cases sliceD S x x2 x3 <;> rfl
@[simp] theorem Wi {Q : Option Int → Env → Sto → Prop} : wp (oNone r S) Q Z = Q none r S := propext Iff.rfl
@[simp] theorem Wj {Q : Option Int → Env → Sto → Prop} : wp (oSome fa r S) Q Z = wp (fa r S) (fun x r S => got (asI x) fun i => Q (some i) r S) Z := by
  unfold oSome
  simp only [wp_bind]
  congr; funext x r S
  cases x <;> rfl
@[simp] theorem Wm {Q : List D → Env → Sto → Prop} : wp (aNil r S) Q Z = Q [] r S := propext Iff.rfl
@[simp] theorem Wn {Q : List D → Env → Sto → Prop} : wp (aCons fa fs r S) Q Z = wp (fa r S) (fun x r S => wp (fs r S) (fun xs r S => Q (x :: xs) r S) Z) Z := by
  unfold aCons
  simp only [wp_bind, wp_ok]
theorem ite_and {c P : Prop} [Decidable c] : (if c then P else False) = (c ∧ P) := by by_cases h : c <;> simp [h]
@[simp] theorem wp_ite {α : Type} {c : Prop} [Decidable c] {x y : R α} {Q : α → Env → Sto → Prop} : wp (if c then x else y) Q Z = if c then wp x Q Z else wp y Q Z := by split <;> rfl
@[simp] theorem Wo : wp (eTup fs r S) Q Z = wp (fs r S) (fun xs r S => xs.length ≤ sizeLine ∧ Q (.tup xs) r S) Z := by
  unfold eTup
  simp only [wp_bind, wp_ite, wp_ok, wp_no, ite_and]
@[simp] theorem Wp : wp (eLst fs r S) Q Z = wp (fs r S) (fun xs r S => xs.length ≤ sizeLine ∧ Q (.lst xs) r S) Z := by
  unfold eLst
  simp only [wp_bind, wp_ite, wp_ok, wp_no, ite_and]
@[simp] theorem Wq : wp (eLstS fs r S) Q Z = wp (fs r S) (fun xs r S => xs.length ≤ sizeLine ∧ Q (.ref S.length) r (S ++ [.lst xs])) Z := by
  unfold eLstS
  simp only [wp_bind, wp_ite, wp_ok, wp_no, ite_and]
@[simp] theorem Wr : wp (eAnd fa fb r S) Q Z = wp (fa r S) (fun x r S => got (asB x) fun b => if b = true then wp (fb r S) Q Z else Q (.bl false) r S) Z := by
  unfold eAnd
  simp only [wp_bind]
  congr; funext x r S
  cases x with
  | bl b => cases b <;> rfl
  | _ => rfl
@[simp] theorem Ws : wp (eOr fa fb r S) Q Z = wp (fa r S) (fun x r S => got (asB x) fun b => if b = true then Q (.bl true) r S else wp (fb r S) Q Z) Z := by
  unfold eOr
  simp only [wp_bind]
  congr; funext x r S
  cases x with
  | bl b => cases b <;> rfl
  | _ => rfl
@[simp] theorem Wt : wp (eNot fa r S) Q Z = wp (fa r S) (fun x r S => got (asB x) fun b => Q (.bl !b) r S) Z := by
  unfold eNot
  simp only [wp_bind]
  congr; funext x r S
  cases x <;> rfl
@[simp] theorem Wu : wp (eIf ta fa fb r S) Q Z = wp (ta r S) (fun c r S => if c = true then wp (fa r S) Q Z else wp (fb r S) Q Z) Z := by
  unfold eIf
  simp only [wp_bind, wp_ite]
@[simp] theorem Wv {n : Nat} {m : MF} {dds : List D} : wp (eCallF n m dds fs r S) Q Z = wp (fs r S) (fun ds r S => (ds ++ dds).length = n ∧ wf (m (ds ++ dds) S) (fun d S => Q d r S) (fun d S => Z d r S)) Z := by
  unfold eCallF
  simp only [wp_bind, wp_ite, wp_run, wp_no, ite_and]
@[simp] theorem Ww {n j c : Nat} {m : MF} {gD : List D → List D → List D} : wp (eCallK n j c m gD fs ft r S) Q Z = wp (fs r S) (fun ds r S => wp (ft r S) (fun zs r S => (ds.length = j ∧ zs.length = c ∧ (gD ds zs).length = n) ∧ wf (m (gD ds zs) S) (fun d S => Q d r S) (fun d S => Z d r S)) Z) Z := by
  unfold eCallK
  simp only [wp_bind, wp_ite, wp_run, wp_no, ite_and]
variable {T : Bool → Env → Sto → Prop}
@[simp] theorem Wx : wp (tVal fa r S) T Z = wp (fa r S) (fun x r S => got (asB x) fun b => T b r S) Z := by
  unfold tVal
  simp only [wp_bind]
  congr; funext x r S
  cases x <;> rfl
@[simp] theorem Wy {o : Sto → D → D → Option Bool} : wp (tCmp o fa fb r S) T Z = wp (fa r S) (fun x r S => wp (fb r S) (fun y r S => got (o S x y) fun d => T d r S) Z) Z := by
  unfold tCmp
  simp only [wp_bind]
  congr; funext x r S; congr; funext y r S
  cases o S x y <;> rfl
@[simp] theorem Wz : wp (tAndB ta tb r S) T Z = wp (ta r S) (fun c r S => if c = true then wp (tb r S) T Z else T false r S) Z := by
  unfold tAndB
  simp only [wp_bind, wp_ite, wp_ok]
@[simp] theorem WA : wp (tOrB ta tb r S) T Z = wp (ta r S) (fun c r S => if c = true then T true r S else wp (tb r S) T Z) Z := by
  unfold tOrB
  simp only [wp_bind, wp_ite, wp_ok]
@[simp] theorem WB : wp (tNotB ta r S) T Z = wp (ta r S) (fun c r S => T (!c) r S) Z := by
  unfold tNotB
  simp only [wp_bind, wp_ok]
@[simp] theorem WC {o o' : Sto → D → D → Option Bool} : wp (eChain o o' fa fb fc r S) Q Z = wp (fa r S) (fun x r S => wp (fb r S) (fun y r S => got (o S x y) fun c => if c = true then wp (fc r S) (fun z r S => got (o' S y z) fun d => Q (.bl d) r S) Z else Q (.bl false) r S) Z) Z := by
  unfold eChain
  simp only [wp_bind]
  congr; funext x r S; congr; funext y r S
  cases o S x y with
  | none => rfl
  | some c =>
    cases c with
    | false => rfl
    | true =>
      simp only [wp_bind, got, if_pos]
      congr; funext z r S
      cases o' S y z <;> rfl
@[simp] theorem WD {o o' : Sto → D → D → Option Bool} : wp (tChainB o o' fa fb fc r S) T Z = wp (fa r S) (fun x r S => wp (fb r S) (fun y r S => got (o S x y) fun c => if c = true then wp (fc r S) (fun z r S => got (o' S y z) fun d => T d r S) Z else T false r S) Z) Z := by
  unfold tChainB
  simp only [wp_bind]
  congr; funext x r S; congr; funext y r S
  cases o S x y with
  | none => rfl
  | some c =>
    cases c with
    | false => rfl
    | true =>
      simp only [wp_bind, got, if_pos]
      congr; funext z r S
      cases o' S y z <;> rfl
variable {L : Fl → Env → Sto → Prop} {f h : SF}
@[simp] theorem WF : wp (sNext r S) L Z = L .nx r S := propext Iff.rfl
@[simp] theorem WG : wp (sBrk r S) L Z = L .bk r S := propext Iff.rfl
@[simp] theorem WH : wp (sCont r S) L Z = L .ct r S := propext Iff.rfl
@[simp] theorem WI : wp (sRetN r S) L Z = L (.rt .non) r S := propext Iff.rfl
@[simp] theorem WJ : wp (sRet fa r S) L Z = wp (fa r S) (fun d r S => L (.rt d) r S) Z := by
  unfold sRet
  simp only [wp_bind, wp_ok]
@[simp] theorem WK : wp (sExpr fa r S) L Z = wp (fa r S) (fun d r S => L .nx r S) Z := by
  unfold sExpr
  simp only [wp_bind, wp_ok]
@[simp] theorem WL : wp (sIf ta f h r S) L Z = wp (ta r S) (fun c r S => if c = true then wp (f r S) L Z else wp (h r S) L Z) Z := by
  unfold sIf
  simp only [wp_bind, wp_ite]
@[simp] theorem Yj : wp (sSeq f h r S) L Z = wp (f r S) (fun a r S => match a with
    | .nx => wp (h r S) L Z
    | a => L a r S) Z := by
  unfold sSeq
  rw [wp_bind]
  congr; funext a r S
  cases a <;> rfl
@[simp] theorem WM {b : Bn} : wp (sAsg fa b r S) L Z = wp (fa r S) (fun d r S => got (b d r) fun r' => L .nx r' S) Z := by
  unfold sAsg
  simp only [wp_bind]
  congr; funext x r S
  cases b x r <;> rfl
@[simp] theorem WN : wp (sSub fa fb fc r S) L Z = wp (fa r S) (fun d r S => wp (fb r S) (fun x r S => wp (fc r S) (fun y r S => got (setD S x y d) fun S' => L .nx r S') Z) Z) Z := by
  unfold sSub
  simp only [wp_bind]
  congr; funext d r S; congr; funext x r S; congr; funext y r S
  cases setD S x y d <;> rfl
@[simp] theorem WO {i j : Nat} : wp (sPar i j fs r S) L Z = wp (fs r S) (fun ds r S => got (asTwo ds) fun q => L .nx ((r.set i (some q.1)).set j (some q.2)) S) Z := by
  unfold sPar
  simp only [wp_bind]
  congr; funext ds r S
  unfold asTwo
  split <;> simp_all
@[simp] theorem WP {i : Nat} {o : Sto → D → D → Option D} : wp (sAug i o fa r S) L Z = got (rd r i) fun x => wp (fa r S) (fun y r S => got (o S x y) fun d => L .nx (r.set i (some d)) S) Z := by
  unfold sAug rd
  split
  · rename_i x h
    simp only [h, wp_bind, got_some]
    congr; funext y r S
    cases o S _ y <;> rfl
  · simp_all
@[simp] theorem WQ {fi : AF} {b : Bn} : wp (sFor fi b f r S) L Z = wp (fi r S) (fun xs r S => wp (loopF b f xs r S) L Z) Z := by
  unfold sFor
  rw [wp_bind]
@[simp] theorem Zt {A : List D → Env → Sto → Prop} : wp (iRange1 fs r S) A Z = wp (fs r S) (fun ds r S => got (rng1 ds) fun xs => A xs r S) Z := by
  unfold iRange1
  rw [wp_bind]
  congr; funext ds r S
  unfold rng1
  split
  · rename_i j
    by_cases h : -(2 ^ 62) ≤ j ∧ j < 2 ^ 62
    · simp only [if_pos h]; rfl
    · simp only [if_neg h]; rfl
  · first
      | rfl
      | (split
         · rename_i h; exact absurd rfl (h _)
         · rfl)
@[simp] theorem Zu {A : List D → Env → Sto → Prop} : wp (iRange2 fs r S) A Z = wp (fs r S) (fun ds r S => got (rng2 ds) fun xs => A xs r S) Z := by
  unfold iRange2
  rw [wp_bind]
  congr; funext ds r S
  unfold rng2
  split
  · rename_i i j
    by_cases h : -(2 ^ 62) ≤ i ∧ i < 2 ^ 62 ∧ -(2 ^ 62) ≤ j ∧ j < 2 ^ 62
    · simp only [if_pos h]; rfl
    · simp only [if_neg h]; rfl
  · first
      | rfl
      | (split
         · rename_i h; exact absurd rfl (h _ _)
         · rfl)
@[simp] theorem Zs {A : List D → Env → Sto → Prop} : wp (iSeq fa r S) A Z = wp (fa r S) (fun d r S => got (itemsOf d) fun xs => A xs r S) Z := by
  unfold iSeq
  rw [wp_bind]
  congr; funext d r S
  cases itemsOf d <;> rfl
@[simp] theorem WR {fi : AF} {b : Bn} {vs : List Nat} : wp (eComp fi b vs ta fa r S) Q Z = wp (fi r S) (fun xs r S => xs.length < sizeLine ∧ wp (compF b ta fa r vs xs S) (fun ys r S => Q (.lst ys) r S) Z) Z := by
  unfold eComp
  simp only [wp_bind, wp_ite, wp_ok, wp_no, ite_and]
@[simp] theorem Zv : wp (tYesB r S) T Z = T true r S := propext Iff.rfl
end
open PySem PySem.Spec PyProof.Rows He
section
variable {S : Sto} {n : Nat}
theorem oIx_ref {xs : List D} {i : Int} (h : S[n]? = some (.lst xs)) : oIx S (.ref n) (.int i) = atI xs i := by
  simp only [oIx, seqOf, lstOf, h]; rfl
@[simp] theorem at4_0 {α : Type} {a b c d : α} : atI [a, b, c, d] 0 = some a := rfl
@[simp] theorem at4_1 {α : Type} {a b c d : α} : atI [a, b, c, d] 1 = some b := rfl
@[simp] theorem at4_2 {α : Type} {a b c d : α} : atI [a, b, c, d] 2 = some c := rfl
@[simp] theorem at4_3 {α : Type} {a b c d : α} : atI [a, b, c, d] 3 = some d := rfl
theorem set4_1 {a b c d x : D} (h : S[n]? = some (.lst [a, b, c, d])) : setD S (.ref n) (.int 1) x = some (S.set n (.lst [a, x, c, d])) := by
  simp only [setD, h]; rfl
theorem set4_2 {a b c d x : D} (h : S[n]? = some (.lst [a, b, c, d])) : setD S (.ref n) (.int 2) x = some (S.set n (.lst [a, b, x, d])) := by
  simp only [setD, h]; rfl
theorem set4_3 {a b c d x : D} (h : S[n]? = some (.lst [a, b, c, d])) : setD S (.ref n) (.int 3) x = some (S.set n (.lst [a, b, c, x])) := by
  simp only [setD, h]; rfl
theorem atI_nat {α : Type} {xs : List α} {p : Nat} (h : p < xs.length) : atI xs (p : Int) = some xs[p] := by
  unfold atI ixN
  simp [h]
end
@[simp] theorem oAdd_int {S : Sto} {i j : Int} : oAdd S (.int i) (.int j) = some (.int (i + j)) := rfl
@[simp] theorem oSub_int {S : Sto} {i j : Int} : oSub S (.int i) (.int j) = some (.int (i - j)) := rfl
theorem oMul_int {S : Sto} {i j : Int} (h : i.natAbs.log2 + j.natAbs.log2 < 1000000) : oMul S (.int i) (.int j) = some (.int (i * j)) := by
  simp only [oMul, orO, oInt, decide_eq_true h, if_true]
theorem oMod_int {S : Sto} {i j : Int} (h : 0 < j) : oMod S (.int i) (.int j) = some (.int (i % j)) := by
  simp only [oMod, oInt, decide_eq_true h, if_true]
theorem oDiv_int {S : Sto} {i j : Int} (h : 0 < j) (h' : j.natAbs.log2 < 9000) : oDiv S (.int i) (.int j) = some (.int (i / j)) := by
  simp only [oDiv, oInt, decide_eq_true h, decide_eq_true h', Bool.and_self, if_true]
@[simp] theorem eqB_int {S : Sto} {i j : Int} : eqB S (.int i) (.int j) = some (decide (i = j)) := by
  simp only [eqB, orB, eqFB, flatD]
  have h : scal (.int i) (.int j) = true := rfl
  rw [if_pos h]
  simp
@[simp] theorem ltB_int {S : Sto} {i j : Int} : ltB S (.int i) (.int j) = some (decide (i < j)) := rfl
@[simp] theorem gtB_int {S : Sto} {i j : Int} : swapB ltB S (.int i) (.int j) = some (decide (j < i)) := rfl
@[simp] theorem leB_int {S : Sto} {i j : Int} : notB (swapB ltB) S (.int i) (.int j) = some (decide (i ≤ j)) := by
  show some (!decide (j < i)) = _
  by_cases h : j < i
  · simp [h, Int.not_le.mpr h]
  · simp [h, Int.not_lt.mp h]
@[simp] theorem geB_int {S : Sto} {i j : Int} : notB ltB S (.int i) (.int j) = some (decide (j ≤ i)) := by
  show some (!decide (i < j)) = _
  by_cases h : i < j
  · simp [h, Int.not_le.mpr h]
  · simp [h, Int.not_lt.mp h]
@[simp] theorem oIntOf_int {S : Sto} {i : Int} : oIntOf S [.int i] = some (.int i) := rfl
@[simp] theorem oAbs_int {S : Sto} {i : Int} : oAbs S [.int i] = some (.int (i.natAbs : Int)) := by
  simp only [oAbs]
  congr 2
  split <;> omega
def fbBag (c : Int) : SF := (sSeq (sAsg (eCallB oListOf (aCons (eSl (eVar 0) oNone (oSome (eC (.int 63)))) aNil)) (bName 1))
    (sRet (eLstS (aCons (eVar 1) (aCons (eC (.int 0)) (aCons (eC (.int 0)) (aCons (eBin oAdd (eC (.int c)) (eCallB oLen (aCons (eVar 1) aNil))) aNil)))))))
def fbDraw : SF := (sSeq (sIf (tAndB (tCmp eqB (eIx (eVar 0) (eC (.int 2))) (eC (.int 0))) (tCmp ltB (eIx (eVar 0) (eC (.int 1))) (eCallB oLen (aCons (eIx (eVar 0) (eC (.int 0))) aNil)))) (sSeq (sAsg (eIx (eIx (eVar 0) (eC (.int 0))) (eIx (eVar 0) (eC (.int 1)))) (bName 2))
    (sSeq (sSub (eBin oAdd (eIx (eVar 0) (eC (.int 1))) (eC (.int 1))) (eVar 0) (eC (.int 1)))
    (sIf (tCmp (notB ltB) (eCallB oAbs (aCons (eVar 2) aNil)) (eBin oPow (eC (.int 10)) (eC (.int 18)))) (sSub (eCallB oAbs (aCons (eVar 2) aNil)) (eVar 0) (eC (.int 2))) (sSub (eBin oMod (eCallB oIntOf (aCons (eBin oAdd (eBin oAdd (eBin oMul (eIx (eVar 0) (eC (.int 3))) (eC (.int 40961))) (eBin oMul (eBin oMod (eCallB oIntOf (aCons (eVar 2) aNil)) (eC (.int 1000003))) (eC (.int 523)))) (eC (.int 29))) aNil)) (eC (.int 2147483587))) (eVar 0) (eC (.int 3)))))) sNext)
    (sSeq (sIf (tCmp (swapB ltB) (eIx (eVar 0) (eC (.int 2))) (eC (.int 0))) (sSeq (sAsg (eBin oMod (eCallB oIntOf (aCons (eIx (eVar 0) (eC (.int 2))) aNil)) (eVar 1)) (bName 3))
    (sSeq (sSub (eBin oDiv (eIx (eVar 0) (eC (.int 2))) (eVar 1)) (eVar 0) (eC (.int 2)))
    (sRet (eVar 3)))) sNext)
    (sSeq (sSub (eBin oMod (eCallB oIntOf (aCons (eBin oAdd (eBin oAdd (eBin oMul (eIx (eVar 0) (eC (.int 3))) (eIx (eVar 0) (eC (.int 3)))) (eBin oMul (eIx (eVar 0) (eC (.int 3))) (eC (.int 28657)))) (eC (.int 1299709))) aNil)) (eC (.int 2147483579))) (eVar 0) (eC (.int 3)))
    (sRet (eBin oMod (eCallB oIntOf (aCons (eBin oDiv (eIx (eVar 0) (eC (.int 3))) (eC (.int 64))) aNil)) (eVar 1))))))
def fbPick (m : MF) : SF := sRet (eIx (eVar 1) (eCallF 2 m [] (aCons (eVar 0) (aCons (eCallB oLen (aCons (eVar 1) aNil)) aNil))))
structure BagO (o : AO) : Prop where
  ex : ∃ (cs : List Int) (p : Nat) (a m : Int), o = .lst [.lst (cs.map .int), .int p, .int a, .int m] ∧ p ≤ cs.length ∧ 0 ≤ a ∧ 0 ≤ m ∧ m < 2147483587
theorem log2_lt {i : Int} {k : Nat} (h : i.natAbs < 2 ^ k) (hk : 0 < k) : i.natAbs.log2 < k := by
  by_cases h0 : i.natAbs = 0
  · rw [h0]; simpa using hk
  · exact (Nat.log2_lt h0).mpr h
theorem _root_.List.set_getElem?_self' {α : Type} {l : List α} {n : Nat} {x : α} (h : l[n]? = some x) : l.set n x = l := by
  obtain ⟨h1, rfl⟩ := List.getElem?_eq_some_iff.mp h
  exact List.set_getElem_self h1
theorem pow18 {S : Sto} : oPow S (.int 10) (.int 18) = some (.int 1000000000000000000) := by
  simp only [oPow, oInt]
  rfl
theorem log_a : (40961 : Int).natAbs.log2 < 20 := by decide +kernel
theorem log_b : (523 : Int).natAbs.log2 < 20 := by decide +kernel
theorem log_c : (28657 : Int).natAbs.log2 < 20 := by decide +kernel
theorem log_d : (64 : Int).natAbs.log2 < 9000 := by decide +kernel
theorem draw_ok {S : Sto} {n : Nat} {o : AO} {many : Int} {Z : D → Sto → Prop} (hS : S[n]? = some o) (hB : BagO o) (h0 : 0 < many) (hl : many.natAbs.log2 < 9000) :
    wf (rawM 4 fbDraw [.ref n, .int many] S) (fun d S' => ∃ v o', d = .int v ∧ 0 ≤ v ∧ v < many ∧ BagO o' ∧ S' = S.set n o') Z := by
  obtain ⟨cs, p, a, m, rfl, hp, ha, hm, hm'⟩ := hB
  have hn : n < S.length := (List.getElem?_eq_some_iff.mp hS).1
  refine wf_end ?_
  have e0 : startE 4 [.ref n, .int many] = [some (.ref n), some (.int many), none, none] := rfl
  rw [e0]
  unfold fbDraw
  obtain ⟨B, hB⟩ : ∃ B : Int, ∀ S : Sto, oPow S (.int 10) (.int 18) = some (.int B) := ⟨_, fun _ => pow18⟩
  refine wp_seq (wp_imp (Q := fun x r S' => x = .nx ∧ (∃ c, r = [some (.ref n), some (.int many), c, none]) ∧ ∃ (p' : Nat) (a' m' : Int), p' ≤ cs.length ∧ 0 ≤ a' ∧ 0 ≤ m' ∧ m' < 2147483587 ∧ S' = S.set n (.lst [.lst (cs.map .int), .int p', .int a', .int m'])) (Z := fun _ _ _ => False) ?_ ?_ (fun _ _ _ z => z.elim))
  · have hlen : oLen S [.lst (cs.map .int)] = some (.int cs.length) := by
      simp [oLen, seqOf, lstOf]
    have hself : ∀ (x : AO), (S.set n x)[n]? = some x := fun x => List.getElem?_set_self hn
    simp only [WL, Wz, Wy, eIx, Wd, Wc, Wb, rd_cons0, rd_cons, got_some, oIx_ref hS, at4_0, at4_1, at4_2, at4_3, eqB_int, ltB_int, Wg, Wn, Wm, hlen]
    split
    · split
      · rename_i hz hlt
        have hlt' : p < cs.length := by simpa using hlt
        have hc : oIx S (.lst (cs.map .int)) (.int p) = some (.int cs[p]) := by
          show atI (cs.map D.int) (p : Int) = _
          rw [atI_nat (by simpa using hlt')]
          simp
        simp only [Yj, WM, WN, WL, Wy, Wd, Wc, Wb, rd_cons0, rd_cons, got_some, oIx_ref hS, at4_0, at4_1, at4_2, at4_3, hc, bName, List.set_cons_zero, List.set_cons_succ, oAdd_int, set4_1 hS, hB]
        simp only [Wg, Wn, Wm, Wc, rd_cons0, rd_cons, got_some, oAbs_int, geB_int]
        split
        · rename_i hbig
          simp only [WN, Wg, Wn, Wm, Wc, Wb, rd_cons0, rd_cons, got_some, oAbs_int, set4_2 (hself _), List.set_set]
          refine ⟨trivial, ⟨_, rfl⟩, p + 1, _, m, hlt', ?_, hm, hm', rfl⟩
          omega
        · simp only [WN, Wd, Wg, Wn, Wm, Wc, Wb, rd_cons0, rd_cons, got_some, oIx_ref (hself _), at4_3, oIntOf_int]
          have h1 : ∀ S : Sto, oMul S (.int m) (.int 40961) = some (.int (m * 40961)) := fun S => oMul_int (by
            have := log2_lt (i := m) (k := 31) (by omega) (by decide)
            have := log_a
            omega)
          have h2 : ∀ S : Sto, oMod S (.int cs[p]) (.int 1000003) = some (.int (cs[p] % 1000003)) := fun S => oMod_int (by decide)
          have h3 : ∀ S : Sto, oMul S (.int (cs[p] % 1000003)) (.int 523) = some (.int (cs[p] % 1000003 * 523)) := fun S => oMul_int (by
            have := log2_lt (i := cs[p] % 1000003) (k := 31) (by omega) (by decide)
            have := log_b
            omega)
          have h4 : ∀ (S : Sto) (x : Int), oMod S (.int x) (.int 2147483587) = some (.int (x % 2147483587)) := fun S x => oMod_int (by decide)
          simp only [h1, h2, h3, h4, got_some, oAdd_int, oIntOf_int, set4_3 (hself _), List.set_set]
          refine ⟨trivial, ⟨_, rfl⟩, p + 1, a, _, hlt', ha, ?_, ?_, rfl⟩ <;> omega
      · simp only [WF]
        refine ⟨trivial, ⟨_, rfl⟩, p, a, m, hp, ha, hm, hm', ?_⟩
        exact (List.set_getElem?_self' hS).symm
    · simp only [WF]
      refine ⟨trivial, ⟨_, rfl⟩, p, a, m, hp, ha, hm, hm', ?_⟩
      exact (List.set_getElem?_self' hS).symm
  · rintro x r S' ⟨rfl, ⟨c, rfl⟩, p', a', m', hp', ha', hm1, hm2, rfl⟩
    have hself : ∀ (x : AO), (S.set n x)[n]? = some x := fun x => List.getElem?_set_self hn
    simp only [Yj, WL, Wy, eIx, Wd, Wc, Wb, rd_cons0, rd_cons, got_some, oIx_ref (hself _), at4_2, gtB_int]
    split
    · rename_i hpos
      simp only [Yj, WM, WN, WJ, Wd, Wc, Wb, Wg, Wn, Wm, rd_cons0, rd_cons, got_some, oIx_ref (hself _), at4_2, oIntOf_int, oMod_int h0, oDiv_int h0 hl, bName, List.set_cons_zero, List.set_cons_succ, set4_2 (hself _), List.set_set]
      refine ⟨_, _, rfl, Int.emod_nonneg _ (by omega), Int.emod_lt_of_pos _ h0, ⟨cs, p', a' / many, m', rfl, hp', Int.ediv_nonneg ha' (by omega), hm1, hm2⟩, rfl⟩
    · simp only [WF, Yj, WM, WN, WJ, Wd, Wc, Wb, Wg, Wn, Wm, rd_cons0, rd_cons, got_some, oIx_ref (hself _), at4_3, oIntOf_int]
      have l1 := log2_lt (i := m') (k := 31) (by omega) (by decide)
      have h1 : ∀ S : Sto, oMul S (.int m') (.int m') = some (.int (m' * m')) := fun S => oMul_int (by omega)
      have h2 : ∀ S : Sto, oMul S (.int m') (.int 28657) = some (.int (m' * 28657)) := fun S => oMul_int (by
        have := log_c
        omega)
      have h4 : ∀ (S : Sto) (x : Int), oMod S (.int x) (.int 2147483579) = some (.int (x % 2147483579)) := fun S x => oMod_int (by decide)
      have h5 : ∀ (S : Sto) (x : Int), oDiv S (.int x) (.int 64) = some (.int (x / 64)) := fun S x => oDiv_int (by decide) log_d
      simp only [h1, h2, h4, got_some, oAdd_int, oIntOf_int, set4_3 (hself _), List.set_set, oIx_ref (hself _), at4_3, h5, oMod_int h0]
      refine ⟨_, _, rfl, Int.emod_nonneg _ (by omega), Int.emod_lt_of_pos _ h0, ⟨cs, p', a', _, rfl, hp', ha', ?_, ?_⟩, rfl⟩ <;> omega
open PySem PySem.Spec PyProof.Rows He
def fbSame (mself : MF) : SF := (sSeq (sIf (tAndB (tVal (eCallB oIsi0 (aCons (eVar 1) (aCons (eTup (aCons (eC (.ty "list")) (aCons (eC (.ty "tuple")) aNil))) aNil)))) (tVal (eCallB oIsi0 (aCons (eVar 0) (aCons (eTup (aCons (eC (.ty "list")) (aCons (eC (.ty "tuple")) aNil))) aNil))))) (sSeq (sAsg (eAnd (eCmp eqB (eCallB oIsi0 (aCons (eVar 1) (aCons (eC (.ty "list")) aNil))) (eCallB oIsi0 (aCons (eVar 0) (aCons (eC (.ty "list")) aNil)))) (eCmp eqB (eCallB oLen (aCons (eVar 0) aNil)) (eCallB oLen (aCons (eVar 1) aNil)))) (bName 2))
    (sRet (eAnd (eVar 2) (eCallB oAll (aCons (eComp (iRange1 (aCons (eCallB oLen (aCons (eVar 1) aNil)) aNil)) (bName 3) [3] tYesB (eCallF 2 mself [] (aCons (eIx (eVar 0) (eVar 3)) (aCons (eIx (eVar 1) (eVar 3)) aNil)))) aNil))))) sNext)
    (sSeq (sIf (tOrB (tVal (eCallB oIsi0 (aCons (eVar 1) (aCons (eTup (aCons (eC (.ty "list")) (aCons (eC (.ty "tuple")) aNil))) aNil)))) (tOrB (tVal (eCallB oIsi0 (aCons (eVar 0) (aCons (eTup (aCons (eC (.ty "list")) (aCons (eC (.ty "tuple")) aNil))) aNil)))) (tCmp (notB eqB) (eCmp isB (eVar 1) (eC .non)) (eCmp isB (eVar 0) (eC .non))))) (sRet (eC (.bl false))) sNext)
    (sSeq (sAsg (eAnd (eCmp eqB (eCallB oIsi0 (aCons (eVar 1) (aCons (eC (.ty "bool")) aNil))) (eCallB oIsi0 (aCons (eVar 0) (aCons (eC (.ty "bool")) aNil)))) (eCmp eqB (eCallB oIsi0 (aCons (eVar 1) (aCons (eC (.ty "int")) aNil))) (eCallB oIsi0 (aCons (eVar 0) (aCons (eC (.ty "int")) aNil))))) (bName 2))
    (sRet (eAnd (eVar 2) (eAnd (eCmp eqB (eCallB oIsi0 (aCons (eVar 1) (aCons (eC (.ty "str")) aNil))) (eCallB oIsi0 (aCons (eVar 0) (aCons (eC (.ty "str")) aNil)))) (eCmp eqB (eVar 0) (eVar 1))))))))
def sameM : Nat → MF
  | 0 => fun _ _ => .no
  | k + 1 => purM 4 (fbSame (sameM k))
def plainD : Nat → D → Bool
  | 0, _ => false
  | _ + 1, .non => true
  | _ + 1, .bl _ => true
  | _ + 1, .int _ => true
  | _ + 1, .str _ => true
  | k + 1, .tup xs => decide (xs.length < 4000000) && xs.all (plainD k)
  | k + 1, .lst xs => decide (xs.length < 4000000) && xs.all (plainD k)
  | k + 1, .fz xs => decide (xs.length < 4000000) && xs.all (plainD k)
  | _ + 1, _ => false
theorem bndL_of {n : Nat} : ∀ {xs : List D}, (∀ x ∈ xs, bnd n x = true) → bndL n xs = true := fun h => bndL_all.mpr h
theorem plain_bnd : ∀ (k : Nat) (d : D), plainD k d = true → bnd 0 d = true
  | 0, _, h => by simp [plainD] at h
  | k + 1, d, h => by
    cases d with
    | tup xs => simp only [plainD, Bool.and_eq_true, List.all_eq_true] at h; exact bndL_of fun x hx => plain_bnd k x (h.2 x hx)
    | lst xs => simp only [plainD, Bool.and_eq_true, List.all_eq_true] at h; exact bndL_of fun x hx => plain_bnd k x (h.2 x hx)
    | fz xs => simp only [plainD, Bool.and_eq_true, List.all_eq_true] at h; exact bndL_of fun x hx => plain_bnd k x (h.2 x hx)
    | dic _ _ => simp [plainD] at h
    | ins _ _ _ => simp [plainD] at h
    | ty _ => simp [plainD] at h
    | con _ => simp [plainD] at h
    | ref _ => simp [plainD] at h
    | _ => rfl
theorem pur_flat {n : Nat} {fb : SF} {ds : List D} {S : Sto} {d : D} (hd : bnd 0 d = true) (hb : bndL 0 ds = true) (h : wp (fb (startE n ds) []) (fun a _ _ => a = .rt d) fun _ _ _ => False) : purM n fb ds S = .ok d S := by
  unfold purM pureM purF
  rw [if_pos hb]
  cases q : fb (startE n ds) [] with
  | ok a r S1 =>
    rw [q] at h
    cases (show a = .rt d from h)
    simp only [endOf, cleanF]
    have e : fz 0 S1 60 d = d := fz_id 60 d hd
    rw [e]
    simp [hd, outF]
  | er x r S1 => rw [q] at h; exact h.elim
  | no => rw [q] at h; exact h.elim
theorem all_true {n : Nat} : blsD (List.replicate n (.bl true)) = some (List.replicate n true) := by
  induction n with
  | zero => rfl
  | succ n ih => rw [List.replicate_succ, blsD, ih]; rfl
theorem oAll_true {S : Sto} {n : Nat} : oAll S [.lst (List.replicate n (.bl true))] = some (.bl true) := by
  simp only [oAll, lstOf, Option.bind_some, all_true, Option.map_some]
  simp
theorem oIx_seq {S : Sto} {x : D} {xs : List D} {i : Int} (h : seqOf S x = some xs) (hs : ∀ z, x ≠ .str z) : oIx S x (.int i) = atI xs i := by
  cases x with
  | str z => exact absurd rfl (hs z)
  | _ => simp only [oIx, h, Option.bind_some]
theorem oLen_seq {S : Sto} {x : D} {xs : List D} (h : seqOf S x = some xs) (hs : ∀ z, x ≠ .str z) : oLen S [x] = some (.int xs.length) := by
  cases x with
  | str z => exact absurd rfl (hs z)
  | _ => simp only [oLen, h, Option.map_some]
@[simp] theorem eqB_bl {S : Sto} {a b : Bool} : eqB S (.bl a) (.bl b) = some (decide (a = b)) := by
  cases a <;> cases b <;> rfl
theorem rng1_int {j : Int} (h1 : -(2 ^ 62) ≤ j) (h2 : j < 2 ^ 62) : rng1 [.int j] = some (rangeD 0 j.toNat) := by
  show (if -(2 ^ 62) ≤ j ∧ j < 2 ^ 62 then some (rangeD 0 j.toNat) else none) = _
  rw [if_pos ⟨h1, h2⟩]
theorem sz_big : (4000000 : Nat) ≤ sizeLine := by decide +kernel
theorem sz_le {n : Nat} (h : n ≤ 4000000) : n ≤ sizeLine := Nat.le_trans h sz_big
theorem same_seq {m : MF} {x y : D} {xs ys : List D} {t : String} (hx : seqOf [] x = some xs) (hy : seqOf [] y = some ys) (tx : tyV0 [] x = some t) (ty : tyV0 [] y = some t) (ht : t = "list" ∨ t = "tuple") (hl : xs.length = ys.length) (hlt : ys.length < 4000000)
    (he : ∀ (i : Nat) (a b : D), xs[i]? = some a → ys[i]? = some b → m [a, b] [] = .ok (.bl true) []) : wp (fbSame m (startE 4 [x, y]) []) (fun a _ _ => a = .rt (.bl true)) fun _ _ _ => False := by
  have nx : ∀ z, x ≠ .str z := fun z e => by subst e; simp [tyV0] at tx; subst tx; simp at ht
  have ny : ∀ z, y ≠ .str z := fun z e => by subst e; simp [tyV0] at ty; subst ty; simp at ht
  have e0 : startE 4 [x, y] = [some x, some y, none, none] := rfl
  have i1 : ∀ {z : D}, tyV0 [] z = some t → oIsi0 [] [z, .tup [.ty "list", .ty "tuple"]] = some (.bl true) := fun {z} hz => by
    simp only [oIsi0, hz, tysOf]
    rcases ht with rfl | rfl <;> rfl
  have i2 : ∀ {z : D}, tyV0 [] z = some t → oIsi0 [] [z, .ty "list"] = some (.bl (decide (t = "list"))) := fun {z} hz => by
    simp only [oIsi0, hz]
    rcases ht with rfl | rfl <;> rfl
  rw [e0]
  unfold fbSame
  have two : ([D.ty "list", D.ty "tuple"]).length ≤ sizeLine := sz_le (by decide)
  simp only [Yj, WL, Wz, Wx, Wg, Wn, Wm, Wo, Wb, Wc, rd_cons0, rd_cons, two, true_and, i1 tx, i1 ty, got_some, asB, if_true]
  simp only [WM, Wr, We, Wg, Wn, Wm, Wb, Wc, rd_cons0, rd_cons, i2 tx, i2 ty, got_some, asB, eqB_bl, oLen_seq hx nx, oLen_seq hy ny, eqB_int, hl, decide_true, if_true, bName, List.set_cons_succ, List.set_cons_zero, WJ]
  have r1 : rng1 [.int (ys.length : Int)] = some (rangeD 0 ys.length) := by
    rw [rng1_int (by omega) (by omega)]
    simp
  have rl : (rangeD 0 ys.length).length = ys.length := by simp [rangeD]
  have rs : (rangeD 0 ys.length).length < sizeLine := by
    rw [rl]
    exact Nat.lt_of_lt_of_le hlt sz_big
  simp only [WR, Zt, Wg, Wn, Wm, Wb, Wc, rd_cons0, rd_cons, got_some, r1, oLen_seq hy ny, rs, true_and]
  refine wp_imp (wp_comp (Z := fun _ _ _ => False) (fun (l : List D) (zs : List D) (S : Sto) => S = [] ∧ ∃ j : Nat, l = (rangeD 0 ys.length).drop j ∧ j ≤ ys.length ∧ zs = List.replicate j (.bl true))
    (Q := fun zs r S => S = [] ∧ zs = List.replicate ys.length (.bl true)) (rangeD 0 ys.length) [] [] ⟨rfl, 0, rfl, Nat.zero_le _, rfl⟩ ?_ ?_) ?_ (fun _ _ _ z => z)
  · rintro zs S ⟨rfl, j, h1, h2, rfl⟩
    have : ¬ j < ys.length := fun h => by
      have := congrArg List.length h1
      rw [List.length_drop, rl] at this
      simp at this
      omega
    have e : j = ys.length := by omega
    rw [e]
    exact ⟨rfl, rfl⟩
  · rintro z l zs S ⟨rfl, j, h1, h2, rfl⟩
    have hj : j < ys.length := by
      by_cases h : j < ys.length
      · exact h
      · rw [List.drop_eq_nil_of_le (by rw [rl]; omega)] at h1
        cases h1
    have hj' : j < (rangeD 0 ys.length).length := by rw [rl]; exact hj
    rw [List.drop_eq_getElem_cons hj'] at h1
    injection h1 with h3 h4
    have h5 : z = .int (j : Int) := by
      rw [h3]; simp [rangeD]
    subst h5
    refine ⟨_, rfl, ?_⟩
    have hx1 : j < xs.length := by omega
    have a1 : oIx [] x (.int (j : Int)) = some xs[j] := by rw [oIx_seq hx nx, atI_nat hx1]
    have a2 : oIx [] y (.int (j : Int)) = some ys[j] := by rw [oIx_seq hy ny, atI_nat hj]
    have hm := he j xs[j] ys[j] (by simp [hx1]) (by simp [hj])
    simp only [Zv, if_true, true_and, wipeE, bName, List.set_cons_succ, List.set_cons_zero, Wv, Wn, Wm, eIx, Wd, Wc, rd_cons0, rd_cons, got_some, a1, a2, List.append_nil, List.length_cons, List.length_nil, hm, wf_ok, Nat.zero_add, Nat.reduceAdd]
    refine ⟨j + 1, h4, hj, ?_⟩
    rw [List.replicate_succ']
  · rintro zs r S ⟨rfl, rfl⟩
    simp only [List.nil_append, oAll_true, got_some]
def lz : D → D
  | .tup xs => .tup (xs.map lz)
  | .lst xs => .lst (xs.map lz)
  | .fz xs => .lst (xs.map lz)
  | d => d
theorem lz_get {xs ys : List D} (h : xs.map lz = ys.map lz) (i : Nat) (a b : D) (ha : xs[i]? = some a) (hb : ys[i]? = some b) : lz a = lz b := by
  have e := congrArg (fun l : List D => l[i]?) h
  simp only [List.getElem?_map, ha, hb, Option.map_some] at e
  exact Option.some.inj e
theorem same_flat {m : MF} {x : D} (hx : x = .non ∨ (∃ b, x = .bl b) ∨ (∃ i, x = .int i) ∨ ∃ z, x = .str z) : wp (fbSame m (startE 4 [x, x]) []) (fun a _ _ => a = .rt (.bl true)) fun _ _ _ => False := by
  have e0 : startE 4 [x, x] = [some x, some x, none, none] := rfl
  rw [e0]
  unfold fbSame
  have two : ([D.ty "list", D.ty "tuple"]).length ≤ sizeLine := sz_le (by decide)
  have i1 : oIsi0 [] [x, .tup [.ty "list", .ty "tuple"]] = some (.bl false) := by
    rcases hx with rfl | ⟨b, rfl⟩ | ⟨b, rfl⟩ | ⟨b, rfl⟩ <;> rfl
  obtain ⟨b1, i2⟩ : ∃ b, oIsi0 [] [x, .ty "bool"] = some (.bl b) := by
    rcases hx with rfl | ⟨b, rfl⟩ | ⟨b, rfl⟩ | ⟨b, rfl⟩ <;> exact ⟨_, rfl⟩
  obtain ⟨b2, i3⟩ : ∃ b, oIsi0 [] [x, .ty "int"] = some (.bl b) := by
    rcases hx with rfl | ⟨b, rfl⟩ | ⟨b, rfl⟩ | ⟨b, rfl⟩ <;> exact ⟨_, rfl⟩
  obtain ⟨b3, i4⟩ : ∃ b, oIsi0 [] [x, .ty "str"] = some (.bl b) := by
    rcases hx with rfl | ⟨b, rfl⟩ | ⟨b, rfl⟩ | ⟨b, rfl⟩ <;> exact ⟨_, rfl⟩
  obtain ⟨b4, i5⟩ : ∃ b, isB [] x .non = some b := ⟨_, rfl⟩
  have i6 : eqB [] x x = some true := by
    rcases hx with rfl | ⟨b, rfl⟩ | ⟨b, rfl⟩ | ⟨b, rfl⟩
    · rfl
    · cases b <;> rfl
    · simp
    · simp only [eqB, orB, eqFB, flatD]
      have h : scal (.str b) (.str b) = true := rfl
      rw [if_pos h]
      simp
  have i7 : ∀ b : Bool, notB eqB [] (.bl b) (.bl b) = some false := fun b => by cases b <;> rfl
  simp only [Yj, WL, Wz, WA, Wx, Wy, We, Wg, Wn, Wm, Wo, Wb, Wc, rd_cons0, rd_cons, two, true_and, i1, i5, i7, got_some, asB, Bool.false_eq_true, if_false, WF]
  simp only [WM, Wr, We, Wg, Wn, Wm, Wb, Wc, rd_cons0, rd_cons, i2, i3, i4, i6, got_some, asB, eqB_bl, decide_true, if_true, bName, List.set_cons_succ, List.set_cons_zero, WJ]
theorem plain_two {k : Nat} {x y : D} (hx : plainD k x = true) (hy : plainD k y = true) : bndL 0 [x, y] = true := by
  simp [bndL, plain_bnd k x hx, plain_bnd k y hy]
theorem same_ok : ∀ (k : Nat) (x y : D) (S : Sto), plainD k x = true → plainD k y = true → lz x = lz y → sameM k [x, y] S = .ok (.bl true) S
  | 0, _, _, _, h, _, _ => by simp [plainD] at h
  | k + 1, x, y, S, hx, hy, e => by
    refine pur_flat rfl (plain_two hx hy) ?_
    have seqs : ∀ (xs ys : List D) (t : String), seqOf [] x = some xs → seqOf [] y = some ys → tyV0 [] x = some t → tyV0 [] y = some t → (t = "list" ∨ t = "tuple") → xs.map lz = ys.map lz → xs.all (plainD k) = true → ys.all (plainD k) = true → ys.length < 4000000 → wp (fbSame (sameM k) (startE 4 [x, y]) []) (fun a _ _ => a = .rt (.bl true)) fun _ _ _ => False := fun xs ys t h1 h2 h3 h4 h5 h6 h7 h8 h9 => by
      have hl : xs.length = ys.length := by have := congrArg List.length h6; simpa using this
      exact same_seq h1 h2 h3 h4 h5 hl h9 fun i a b ha hb => same_ok k a b [] (List.all_eq_true.mp h7 a (List.mem_of_getElem? ha)) (List.all_eq_true.mp h8 b (List.mem_of_getElem? hb)) (lz_get h6 i a b ha hb)
    cases x <;> cases y <;> first
      | (simp [plainD] at hx; done)
      | (simp [plainD] at hy; done)
      | (simp [lz] at e; done)
      | (simp only [lz] at e; cases e; first | exact same_flat (.inl rfl) | exact same_flat (.inr (.inl ⟨_, rfl⟩)) | exact same_flat (.inr (.inr (.inl ⟨_, rfl⟩))) | exact same_flat (.inr (.inr (.inr ⟨_, rfl⟩))))
      | (simp only [plainD, Bool.and_eq_true, decide_eq_true_eq] at hx hy
         simp only [lz, D.lst.injEq, D.tup.injEq] at e
         first | exact seqs _ _ "list" rfl rfl rfl rfl (.inl rfl) e hx.2 hy.2 hy.1 | exact seqs _ _ "tuple" rfl rfl rfl rfl (.inr rfl) e hx.2 hy.2 hy.1)
theorem bag_ok {c : Int} {ns : List Int} {S : Sto} {Z : D → Sto → Prop} (h0 : 0 ≤ c) (h1 : c < 2147480000) (hl : ns.length ≤ 63) : wf (rawM 2 (fbBag c) [.fz (ns.map .int)] S) (fun d S' => d = .ref S.length ∧ ∃ o, BagO o ∧ S' = S ++ [o]) Z := by
  refine wf_end ?_
  have e0 : startE 2 [.fz (ns.map .int)] = [some (.fz (ns.map .int)), none] := rfl
  rw [e0]
  unfold fbBag
  have sl : sliceD S (.fz (ns.map .int)) none (some 63) = some (.lst (ns.map .int)) := by
    have e : cutD (ns.map D.int) none (some 63) = ns.map D.int := by
      unfold cutD HT.sIx
      simp
      exact List.take_of_length_le (by simp; omega)
    show (lstOf S (.fz (ns.map .int))).map (fun xs => D.lst (cutD xs none (some 63))) = _
    simp only [lstOf, Option.map_some, e]
  have lo : oListOf S [.lst (ns.map .int)] = some (.lst (ns.map .int)) := by simp [oListOf, seqOf, lstOf]
  have ln : oLen S [.lst (ns.map .int)] = some (.int ns.length) := by simp [oLen, seqOf, lstOf]
  simp only [Yj, WM, Wg, Wn, Wm, Wh, Wc, Wb, rd_cons0, rd_cons, got_some, Wi, Wj, asI, sl, lo, bName, List.set_cons_succ, List.set_cons_zero, WJ, Wq, Wd, ln, oAdd_int]
  refine ⟨sz_le (by simp), trivial, _, ⟨ns, 0, 0, _, rfl, Nat.zero_le _, Int.le_refl _, ?_, ?_⟩, rfl⟩ <;> omega
theorem pick_ok {m : MF} {S : Sto} {n : Nat} {x : D} {xs : List D} {Q Z : D → Sto → Prop} (hx : ∀ S : Sto, seqOf S x = some xs) (hs : ∀ z, x ≠ .str z)
    (hm : wf (m [.ref n, .int xs.length] S) (fun d S' => ∃ v : Int, d = .int v ∧ 0 ≤ v ∧ v < xs.length ∧ ∀ y, xs[v.toNat]? = some y → Q y S') Z) : wf (rawM 2 (fbPick m) [.ref n, x] S) Q Z := by
  refine wf_end ?_
  have e0 : startE 2 [.ref n, x] = [some (.ref n), some x] := rfl
  rw [e0]
  unfold fbPick
  simp only [WJ, eIx, Wd, Wc, rd_cons0, rd_cons, got_some, Wv, Wn, Wm, Wg, oLen_seq (hx S) hs, List.append_nil, List.length_cons, List.length_nil, Nat.zero_add, Nat.reduceAdd, true_and]
  refine wf_imp hm (fun d S' ⟨v, h1, h2, h3, h4⟩ => ?_) (fun _ _ z => z)
  subst h1
  have hv : v.toNat < xs.length := by omega
  have e : v = (v.toNat : Int) := by omega
  rw [oIx_seq (hx S') hs]
  rw [e, atI_nat hv]
  exact h4 _ (by simp [hv])
theorem asB_bl {b : Bool} : asB (.bl b) = some b := rfl
theorem asI_int {b : Int} : asI (.int b) = some b := rfl
theorem draw_c {T : Sto} {o : AO} {many : Int} {Z : D → Sto → Prop} (hB : BagO o) (h0 : 0 < many) (hl : many.natAbs.log2 < 9000) :
    wf (rawM 4 fbDraw [.ref 0, .int many] (o :: T)) (fun d S' => ∃ v o', d = .int v ∧ 0 ≤ v ∧ v < many ∧ BagO o' ∧ S' = o' :: T) Z :=
  wf_imp (draw_ok (S := o :: T) (n := 0) (Z := fun _ _ => False) rfl hB h0 hl) (fun d S' ⟨v, o', h1, h2, h3, h4, h5⟩ => ⟨v, o', h1, h2, h3, h4, h5⟩) (fun _ _ z => z.elim)
theorem pick_c {T : Sto} {o : AO} {x : D} {xs : List D} {Z : D → Sto → Prop} (hB : BagO o) (hx : ∀ S : Sto, seqOf S x = some xs) (hs : ∀ z, x ≠ .str z) (h0 : 0 < xs.length) (hl : xs.length < 4000000) :
    wf (rawM 2 (fbPick (rawM 4 fbDraw)) [.ref 0, x] (o :: T)) (fun y S' => y ∈ xs ∧ ∃ o', BagO o' ∧ S' = o' :: T) Z := by
  refine pick_ok hx hs (wf_imp (draw_c (Z := fun _ _ => False) hB (by omega) ?_) (fun d S' ⟨v, o', h1, h2, h3, h4, h5⟩ => ⟨v, h1, h2, h3, fun y hy => ⟨List.mem_of_getElem? hy, o', h4, h5⟩⟩) (fun _ _ z => z.elim))
  have := log2_lt (i := (xs.length : Int)) (k := 30) (by omega) (by decide)
  omega
open PySem PySem.Spec PyProof.Rows He






open PySem PySem.Spec PyProof.Rows He






open PySem PySem.Spec PyProof.Rows He
theorem Rl.over {K : PySem.W.Frag} {g : Gh} {S : Sto} {H : Hp} (l : Rl K g S H) {p : Addr} {o : HO} (hp : H p = none) : Rl K g S (upd H p o) := by
  have l2 := l.res (o := o) hp
  refine ⟨fun a d e => (l2.imm a d e).eqG rfl rfl rfl, fun n ob e q => ?_, l2.inj, l2.sz, fun a u q => ?_, l2.tab⟩
  · obtain ⟨m1, m2⟩ := l2.sto n ob e q
    exact ⟨m1, m2.eqG rfl rfl rfl⟩
  · have ne : a ≠ p := fun z => by
      have := (l.fr a u q).1
      rw [z, hp] at this; cases this
    have q' : (g.res p o).F a = some u := by
      show (if a = p then some o else g.F a) = some u
      rw [if_neg ne]; exact q
    exact l2.fr a u q'



open PySem PySem.Spec PyProof.Rows He

open PySem PySem.Spec PyProof.Rows He







section
variable {X : Cx} {W : WX} {C : Str} {k : Nat} {ps : List Str} {mm : MF} {a b : Expr} {fa fb : EF} {pos : Pos}
variable {es : List Expr} {fs : AF} {p : Pos}

end
open PySem PySem.Spec PyProof.Rows He




open PySem PySem.Spec PyProof.Rows He

open PySem PySem.Spec PyProof.Rows He

open PySem PySem.Spec PyProof.Rows He

open PySem PySem.Spec PyProof.Rows He

open PySem PySem.Spec PyProof.Rows He

@[simp] theorem orGot_some {α : Type} {d : α} {P : α → Prop} {q : Prop} : orGot (some d) P q = P d := propext Iff.rfl
@[simp] theorem orGot_none {α : Type} {P : α → Prop} {q : Prop} : orGot (none : Option α) P q = q := propext Iff.rfl



theorem asS_str {z : Str} : asS (.str z) = some z := rfl
theorem asOne_one {x : D} : asOne [x] = some x := rfl
theorem asTwo_two {x y : D} : asTwo [x, y] = some (x, y) := rfl

section
variable {Z : D → Env → Sto → Prop} {r : Env} {S : Sto} {fa fb fc : EF} {ta tb : TF} {fs ft : AF} {Q : D → Env → Sto → Prop} {T : Bool → Env → Sto → Prop} {L : Fl → Env → Sto → Prop} {f h : SF} {C m : Str} {mm : MF} {n j c : Nat} {cs : List Str} {o : Sto → D → D → Option Bool} {neg : Bool} {dds : List D}
@[simp] theorem wf_er {d : D} {S : Sto} {Q Z : D → Sto → Prop} : wf (.er d S) Q Z = Z d S := propext Iff.rfl
@[simp] theorem wf_no {Q Z : D → Sto → Prop} : wf .no Q Z = False := propext Iff.rfl
@[simp] theorem Zi : wp (eIx fa fb r S) Q Z = wp (fa r S) (fun x r S => wp (fb r S) (fun y r S => got (oIx S x y) fun d => Q d r S) Z) Z := Wd
@[simp] theorem WS : wp (eSettle fa r S) Q Z = wp (fa r S) (fun d _ S1 => ((S1.take S.length).all (bndO S.length) && bnd S.length (fz S.length S1 60 d)) = true ∧ Q (fz S.length S1 60 d) r (S1.take S.length)) Z := by
  unfold eSettle
  cases fa r S with
  | ok d r1 S1 => simp only [wp_ok, wp_ite, wp_no, ite_and]
  | er d r1 S1 => simp only [wp_er]
  | no => simp only [wp_no]
theorem wp_made {x : RF} {n : Nat} : wp (x.made r n) Q Z = wf x (fun d S' => d = .non ∧ Q (.ref n) r S') (fun d S' => Z d r S') := by
  cases x with
  | ok d S' => cases d <;> simp [RF.made]
  | er d S' => simp only [RF.made, wp_er, wf_er]
  | no => simp only [RF.made, wp_no, wf_no]
@[simp] theorem WT : wp (eMake C n mm dds fs r S) Q Z = wp (fs r S) (fun ds r S => (.ref S.length :: (ds ++ dds)).length = n ∧ wf (mm (.ref S.length :: (ds ++ dds)) (S ++ [.ins C [] []])) (fun d S' => d = .non ∧ Q (.ref S.length) r S') (fun d S' => Z d r S')) Z := by
  unfold eMake
  simp only [wp_bind, wp_ite, wp_made, wp_no, ite_and]
@[simp] theorem WU {gD : List D → List D → List D} : wp (eMakeK C n j c mm gD fs ft r S) Q Z = wp (fs r S) (fun ds r S => wp (ft r S) (fun zs r S => (ds.length = j ∧ zs.length = c ∧ (gD (.ref S.length :: ds) zs).length = n) ∧ wf (mm (gD (.ref S.length :: ds) zs) (S ++ [.ins C [] []])) (fun d S' => d = .non ∧ Q (.ref S.length) r S') (fun d S' => Z d r S')) Z) Z := by
  unfold eMakeK
  simp only [wp_bind, wp_ite, wp_made, wp_no, ite_and]
@[simp] theorem WV {f : Str} : wp (eFld cs f fa r S) Q Z = wp (fa r S) (fun x r S => got (fldD cs f S x) fun d => Q d r S) Z := by
  unfold eFld
  simp only [wp_bind]
  congr; funext x r S
  unfold fldD
  cases insOf S x with
  | none => rfl
  | some q =>
    obtain ⟨C, ns, ds⟩ := q
    simp only
    split
    · cases (ns.zip ds).lookup f <;> rfl
    · rfl
@[simp] theorem WW {f : Str} : wp (sFldS cs f fa fb r S) L Z = wp (fa r S) (fun d r S => wp (fb r S) (fun x r S => got (putD cs f S x d) fun S' => L .nx r S') Z) Z := by
  unfold sFldS
  simp only [wp_bind]
  congr; funext d r S; congr; funext x r S
  cases putD cs f S x d <;> rfl
@[simp] theorem WY : wp (eMethC C m n mm dds fa fs r S) Q Z = wp (fa r S) (fun x r S => got (insOf S x) fun q => (q.1 = C ∧ (q.2.1.zip q.2.2).lookup m = none) ∧ wp (fs r S) (fun as r S => (x :: (as ++ dds)).length = n ∧ wf (mm (x :: (as ++ dds)) S) (fun d S => Q d r S) (fun d S => Z d r S)) Z) Z := by
  unfold eMethC
  simp only [wp_bind]
  congr; funext x r S
  cases insOf S x with
  | none => rfl
  | some q =>
    obtain ⟨C', ns, ds⟩ := q
    simp only [got_some, wp_ite, wp_bind, wp_run, wp_no, ite_and]
theorem wp_asBl {x : RF} : wp (x.asBl neg r) T Z = wf x (fun d S' => got (asB d) fun b => T (b != neg) r S') (fun _ _ => False) := by
  cases x with
  | ok d S' => cases d <;> simp [RF.asBl]
  | er d S' => simp [RF.asBl]
  | no => simp [RF.asBl]
theorem wp_inCB {x y : D} : wp (inCB C mm neg o x y r S) T Z = orGot (o S x y) (fun b => T b r S) (got (insOf S y) fun q => q.1 = C ∧ wf (mm [y, x] S) (fun d S' => got (asB d) fun b => T (b != neg) r S') (fun _ _ => False)) := by
  unfold inCB
  cases o S x y with
  | some b => simp only [wp_ok, orGot_some]
  | none =>
    cases insOf S y with
    | none => rfl
    | some q => simp only [wp_ite, wp_asBl, wp_no, ite_and, orGot_none, got_some]
theorem wp_eqCB {x y : D} : wp (eqCB C mm o x y r S) T Z = orGot (o S x y) (fun b => T b r S) (got (insOf S x) fun q => (q.1 = C ∧ tyOk C S y = true) ∧ wf (mm [x, y] S) (fun d S' => got (asB d) fun b => T (b != false) r S') (fun _ _ => False)) := by
  unfold eqCB
  cases o S x y with
  | some b => simp only [wp_ok, orGot_some]
  | none =>
    cases insOf S x with
    | none => rfl
    | some q => simp only [wp_ite, wp_asBl, wp_no, ite_and, orGot_none, got_some]
@[simp] theorem WZ : wp (eInC C mm neg o fa fb r S) Q Z = wp (fa r S) (fun x r S => wp (fb r S) (fun y r S => orGot (o S x y) (fun b => Q (.bl b) r S) (got (insOf S y) fun q => q.1 = C ∧ wf (mm [y, x] S) (fun d S' => got (asB d) fun b => Q (.bl (b != neg)) r S') (fun _ _ => False))) Z) Z := by
  unfold eInC
  simp only [wp_bind, wp_inCB, wp_ok]
@[simp] theorem W4 : wp (tInC C mm neg o fa fb r S) T Z = wp (fa r S) (fun x r S => wp (fb r S) (fun y r S => orGot (o S x y) (fun b => T b r S) (got (insOf S y) fun q => q.1 = C ∧ wf (mm [y, x] S) (fun d S' => got (asB d) fun b => T (b != neg) r S') (fun _ _ => False))) Z) Z := by
  unfold tInC
  simp only [wp_bind, wp_inCB]
@[simp] theorem W5 : wp (eEqC C mm o fa fb r S) Q Z = wp (fa r S) (fun x r S => wp (fb r S) (fun y r S => orGot (o S x y) (fun b => Q (.bl b) r S) (got (insOf S x) fun q => (q.1 = C ∧ tyOk C S y = true) ∧ wf (mm [x, y] S) (fun d S' => got (asB d) fun b => Q (.bl (b != false)) r S') (fun _ _ => False))) Z) Z := by
  unfold eEqC
  simp only [wp_bind, wp_eqCB, wp_ok]
@[simp] theorem W6 : wp (tEqC C mm o fa fb r S) T Z = wp (fa r S) (fun x r S => wp (fb r S) (fun y r S => orGot (o S x y) (fun b => T b r S) (got (insOf S x) fun q => (q.1 = C ∧ tyOk C S y = true) ∧ wf (mm [x, y] S) (fun d S' => got (asB d) fun b => T (b != false) r S') (fun _ _ => False))) Z) Z := by
  unfold tEqC
  simp only [wp_bind, wp_eqCB]
theorem wp_asLen {x : RF} : wp (x.asLen r) Q Z = wf x (fun d S' => got (asI d) fun i => (0 ≤ i ∧ i < 2 ^ 63) ∧ Q (.int i) r S') (fun _ _ => False) := by
  cases x with
  | ok d S' => cases d <;> simp [RF.asLen, ite_and]
  | er d S' => simp [RF.asLen]
  | no => simp [RF.asLen]
theorem wp_asTxt {x : RF} : wp (x.asTxt r) Q Z = wf x (fun d S' => got (asS d) fun i => Q (.str i) r S') (fun _ _ => False) := by
  cases x with
  | ok d S' => cases d <;> simp [RF.asTxt]
  | er d S' => simp [RF.asTxt]
  | no => simp [RF.asTxt]
theorem wp_call1 {o : Sto → List D → Option D} {back : Env → RF → R D} : wp (eCall1C C mm o back fs r S) Q Z = wp (fs r S) (fun ds r S => orGot (o S ds) (fun d => Q d r S) (got (asOne ds) fun x => got (insOf S x) fun q => q.1 = C ∧ wp (back r (mm [x] S)) Q Z)) Z := by
  unfold eCall1C
  simp only [wp_bind]
  congr; funext ds r S
  cases o S ds with
  | some d => rfl
  | none =>
    simp only [orGot_none]
    match ds with
    | [x] =>
      simp only [asOne_one, got_some]
      cases insOf S x with
      | none => rfl
      | some q => simp only [got_some, wp_ite, wp_no, ite_and]
    | [] => rfl
    | _ :: _ :: _ => rfl
@[simp] theorem W7 : wp (eCall1C C mm oLen (fun r y => y.asLen r) fs r S) Q Z = wp (fs r S) (fun ds r S => orGot (oLen S ds) (fun d => Q d r S) (got (asOne ds) fun x => got (insOf S x) fun q => q.1 = C ∧ wf (mm [x] S) (fun d S' => got (asI d) fun i => (0 ≤ i ∧ i < 2 ^ 63) ∧ Q (.int i) r S') (fun _ _ => False))) Z := by
  rw [wp_call1]; simp only [wp_asLen]
@[simp] theorem W8 : wp (eCall1C C mm oNever (fun r y => y.asTxt r) fs r S) Q Z = wp (fs r S) (fun ds r S => got (asOne ds) fun x => got (insOf S x) fun q => q.1 = C ∧ wf (mm [x] S) (fun d S' => got (asS d) fun i => Q (.str i) r S') (fun _ _ => False)) Z := by
  rw [wp_call1]; simp only [wp_asTxt, oNever, orGot_none]
variable {G : Str → Env → Sto → Prop} {k : Str → Env → Sto → R Str} {a : Str}
@[simp] theorem W9 : wp (jNil a r S) G Z = G a r S := propext Iff.rfl
@[simp] theorem Za : wp (jCons fa k a r S) G Z = wp (fa r S) (fun x r S => got (asS x) fun y => (a ++ y).length ≤ sizeLine ∧ wp (k (a ++ y) r S) G Z) Z := by
  unfold jCons
  simp only [wp_bind]
  congr; funext x r S
  cases x <;> simp [ite_and]
@[simp] theorem Zb : wp (eJoined k r S) Q Z = wp (k Str.empty r S) (fun y r S => Q (.str y) r S) Z := by
  unfold eJoined
  simp only [wp_bind, wp_ok]
@[simp] theorem Ze : wp (eFmt fa r S) Q Z = wp (fa r S) (fun x r S => got (fmtD x) fun z => Q (.str z) r S) Z := by
  unfold eFmt
  simp only [wp_bind]
  congr; funext x r S
  cases x <;> simp [fmtD, ite_and]
@[simp] theorem Zf : wp (sCalm f r S) L Z = wp (f r S) L (fun _ _ _ => False) := by
  unfold sCalm
  cases f r S <;> simp [R.calm]
@[simp] theorem Zg {d : D} : wp (eCval C d fa r S) Q Z = wp (fa r S) (fun x r S => x = .con C ∧ Q d r S) Z := by
  unfold eCval
  simp only [wp_bind]
  congr; funext x r S
  cases x <;> simp [ite_and]
@[simp] theorem Zh {t : Sto → D → Bool} {o : Sto → D → List D → Option (D × Sto)} : wp (eMeth t o fa fs r S) Q Z = wp (fa r S) (fun x r S => t S x = true ∧ wp (fs r S) (fun ds r S => got (o S x ds) fun q => Q q.1 r q.2) Z) Z := by
  unfold eMeth
  simp only [wp_bind]
  congr; funext x r S
  simp only [wp_ite, wp_bind, wp_no, ite_and]
  congr; funext ds r S
  cases o S x ds <;> rfl
end
theorem comp_maps {α : Type} {i : Nat} {fe : EF} {r : Env} {vs : List Nat} {S : Sto} (f g : α → D) : ∀ {xs : List α}, (∀ x ∈ xs, wp (fe ((wipeE r vs).set i (some (f x))) S) (fun y _ S' => y = g x ∧ S' = S) fun _ _ _ => False) → compF (bName i) tYesB fe r vs (xs.map f) S = .ok (xs.map g) r S
  | [], _ => rfl
  | x :: xs, h => by
    have h1 := h x (List.mem_cons_self ..)
    have h2 := comp_maps f g (xs := xs) fun y hy => h y (List.mem_cons_of_mem _ hy)
    cases q : fe ((wipeE r vs).set i (some (f x))) S with
    | ok y r' S' =>
      rw [q] at h1
      obtain ⟨rfl, rfl⟩ := h1
      simp only [List.map_cons, compF, bName, tYesB, R.calm, R.bind, if_true, q, h2]
    | er y r' S' => rw [q] at h1; exact h1.elim
    | no => rw [q] at h1; exact h1.elim
open PySem PySem.Spec PyProof.Rows He

@[simp] theorem txt_cps {l : List Nat} : (txt l).cps.toList = l := by simp [txt]
@[simp] theorem txt_len {l : List Nat} : (txt l).length = l.length := by simp [txt, Str.length]
open PySem PySem.Spec PyProof.Rows He
section
variable {X : Cx} {W : WX} {e : Expr} {fs : AF} {p pos tpos : Pos} {elts : List Expr} {kk : Nat}


end
open PySem PySem.Spec PyProof.Rows He



section
variable {X : Cx} {W : WX} {a : Expr} {es : List Expr} {fs : AF} {fe : EF} {C : Str} {k j : Nat} {mm : MF} {p p' pos : Pos}
variable {Z : D → Env → Sto → Prop} {r : Env} {S : Sto} {Q : D → Env → Sto → Prop}
theorem wp_goR {ds : List D} : wp (goR C j mm ds r S) Q Z = ((j ≤ ds.length ∧ ds.length ≤ sizeLine) ∧ wf (mm (.ref S.length :: (ds.take j ++ [.tup (ds.drop j)])) (S ++ [.ins C [] []])) (fun d S' => d = .non ∧ Q (.ref S.length) r S') (fun d S' => Z d r S')) := by
  unfold goR
  rw [wp_ite, wp_made, wp_no, ite_and]
@[simp] theorem Zk : wp (eMakeR C j mm fs r S) Q Z = wp (fs r S) (fun ds r S => (j ≤ ds.length ∧ ds.length ≤ sizeLine) ∧ wf (mm (.ref S.length :: (ds.take j ++ [.tup (ds.drop j)])) (S ++ [.ins C [] []])) (fun d S' => d = .non ∧ Q (.ref S.length) r S') (fun d S' => Z d r S')) Z := by
  unfold eMakeR
  simp only [wp_bind, wp_goR]
@[simp] theorem Zo : wp (eMakeS C j mm fe r S) Q Z = wp (fe r S) (fun x r S => got (seqOf S x) fun ds => (j ≤ ds.length ∧ ds.length ≤ sizeLine) ∧ wf (mm (.ref S.length :: (ds.take j ++ [.tup (ds.drop j)])) (S ++ [.ins C [] []])) (fun d S' => d = .non ∧ Q (.ref S.length) r S') (fun d S' => Z d r S')) Z := by
  unfold eMakeS
  simp only [wp_bind]
  congr; funext x r S
  cases seqOf S x with
  | none => rfl
  | some ds => exact wp_goR
@[simp] theorem Zq {A : List D → Env → Sto → Prop} : wp (iEnumU fs r S) A Z = wp (fs r S) (fun ds r S => got ((asOne ds).bind fun d => match d with
    | .tup xs => some xs
    | d => vlst d) fun xs => A (enumD xs) r S) Z := by
  unfold iEnumU
  simp only [wp_bind]
  congr; funext ds r S
  match ds with
  | [.tup xs] => rfl
  | [.lst xs] => rfl
  | [.fz xs] => rfl
  | [.non] | [.bl _] | [.int _] | [.str _] | [.ty _] | [.con _] | [.dic _ _] | [.ins _ _ _] | [.ref _] => rfl
  | [] => rfl
  | x :: _ :: _ => cases x <;> rfl
end
open PySem PySem.Spec PyProof.Rows He
section
variable {X : Cx}
theorem CallU.or {f : Value} {o o' : Sto → List D → Option D} (h : CallU X f o) (h' : CallU X f o') : CallU X f (orL o o') := by
  obtain ⟨r, h1, h2⟩ := h
  obtain ⟨r', h1', h2'⟩ := h'
  exact ⟨_, h1.or h1', h2.or h2'⟩
end

section
variable {X : Cx} {W : WX} {pos p : Pos} {a : Expr} {es : List Expr} {fs : AF}
variable {Z : D → Env → Sto → Prop} {r : Env} {S : Sto} {Q : D → Env → Sto → Prop}
@[simp] theorem Zr : wp (eListS fs r S) Q Z = wp (fs r S) (fun ds r S => got ((asOne ds).bind (seqOf S)) fun xs => Q (.ref S.length) r (S ++ [.lst xs])) Z := by
  unfold eListS
  simp only [wp_bind]
  congr; funext ds r S
  cases (asOne ds).bind (seqOf S) <;> rfl
end
open PySem PySem.Spec PyProof.Rows He
section
variable {T : Sto} {o : AO} {Q Z : D → Sto → Prop}
theorem draw_to {many : Int} (hB : BagO o) (h0 : 0 < many) (hl : many < 1000000000) (h : ∀ (v : Int) (o' : AO), 0 ≤ v → v < many → BagO o' → Q (.int v) (o' :: T)) : wf (rawM 4 fbDraw [.ref 0, .int many] (o :: T)) Q Z :=
  wf_imp (draw_c (Z := fun _ _ => False) hB h0 (by
    have := log2_lt (i := many) (k := 30) (by omega) (by decide)
    omega)) (fun d S ⟨v, o', e, h1, h2, h3, h4⟩ => by subst e h4; exact h v o' h1 h2 h3) (fun _ _ z => z.elim)
theorem pick_to {x : D} (xs : List D) (hB : BagO o) (hx : ∀ S : Sto, seqOf S x = some xs) (hs : ∀ z, x ≠ .str z) (h0 : 0 < xs.length) (hl : xs.length < 4000000) (h : ∀ y o', y ∈ xs → BagO o' → Q y (o' :: T)) :
    wf (rawM 2 (fbPick (rawM 4 fbDraw)) [.ref 0, x] (o :: T)) Q Z :=
  wf_imp (pick_c (Z := fun _ _ => False) hB hx hs h0 hl) (fun d S ⟨hy, o', h1, h2⟩ => by subst h2; exact h d o' hy h1) (fun _ _ z => z.elim)
end
theorem rangeD_map {n : Nat} : rangeD 0 n = (List.range n).map fun i : Nat => .int (i : Int) := by
  unfold rangeD
  refine List.map_congr_left fun i _ => ?_
  rw [Int.zero_add]
open PySem PySem.Spec PyProof.Rows He
def dataB : Nat → D → Bool
  | _, .non => true
  | _, .bl _ => true
  | _, .int _ => true
  | _, .str z => PyData.strOk z
  | k + 1, .tup xs => xs.all (dataB k)
  | k + 1, .lst xs => xs.all (dataB k)
  | k + 1, .fz xs => xs.all (dataB k)
  | _, _ => false
theorem pyDs_data {k : Nat} (ih : ∀ d, dataB k d = true → ∃ p, pyD d = some p ∧ p.canLay0 = true ∧ p.depth ≤ k) : ∀ xs : List D, xs.all (dataB k) = true → ∃ ps, pyDs xs = some ps ∧ PyData.canLayAll0 ps = true ∧ PyData.depthAll ps ≤ k ∧ ps.length = xs.length
  | [], _ => ⟨[], rfl, rfl, by simp [PyData.depthAll], rfl⟩
  | x :: xs, h => by
    simp only [List.all_cons, Bool.and_eq_true] at h
    obtain ⟨p, h1, h2, h3⟩ := ih x h.1
    obtain ⟨ps, h4, h5, h6, h7⟩ := pyDs_data ih xs h.2
    refine ⟨p :: ps, by simp only [pyDs, h1, h4], by simp only [PyData.canLayAll0, h2, h5, Bool.and_self], by simp only [PyData.depthAll]; omega, by simp [h7]⟩
theorem pyD_data : ∀ (k : Nat) (d : D), dataB k d = true → ∃ p, pyD d = some p ∧ p.canLay0 = true ∧ p.depth ≤ k
  | k, .non, _ => ⟨.none, rfl, rfl, by simp [PyData.depth]⟩
  | k, .bl b, _ => ⟨.bool b, rfl, rfl, by simp [PyData.depth]⟩
  | k, .int i, _ => ⟨.int i, rfl, rfl, by simp [PyData.depth]⟩
  | k, .str z, h => ⟨.str z, rfl, by simpa [dataB, PyData.canLay0] using h, by simp [PyData.depth]⟩
  | 0, .tup _, h => by simp [dataB] at h
  | 0, .lst _, h => by simp [dataB] at h
  | 0, .fz _, h => by simp [dataB] at h
  | k + 1, .tup xs, h => by
    obtain ⟨ps, h1, h2, h3, _⟩ := pyDs_data (pyD_data k) xs (by simpa only [dataB] using h)
    exact ⟨.tuple ps, by simp only [pyD, h1, Option.map_some], by simpa only [PyData.canLay0] using h2, by simp only [PyData.depth]; omega⟩
  | k + 1, .lst xs, h => by
    obtain ⟨ps, h1, h2, h3, _⟩ := pyDs_data (pyD_data k) xs (by simpa only [dataB] using h)
    exact ⟨.list ps, by simp only [pyD, h1, Option.map_some], by simpa only [PyData.canLay0] using h2, by simp only [PyData.depth]; omega⟩
  | k + 1, .fz xs, h => by
    obtain ⟨ps, h1, h2, h3, _⟩ := pyDs_data (pyD_data k) xs (by simpa only [dataB] using h)
    exact ⟨.list ps, by simp only [pyD, h1, Option.map_some], by simpa only [PyData.canLay0] using h2, by simp only [PyData.depth]; omega⟩
  | _, .ty _, h => by simp [dataB] at h
  | _, .con _, h => by simp [dataB] at h
  | _, .dic _ _, h => by simp [dataB] at h
  | _, .ins _ _ _, h => by simp [dataB] at h
  | _, .ref _, h => by simp [dataB] at h
theorem shaped_of {p : PyData} (h1 : p.canLay0 = true) (h2 : p.depth ≤ 64) : SeqAt.shaped p = true := by
  unfold SeqAt.shaped
  rw [h1, decide_eq_true h2]; rfl
open PySem PySem.Spec PyProof.Rows He

section
variable {X : Cx} {W : WX} {pos : Pos}
variable {Z : D → Env → Sto → Prop} {r : Env} {S : Sto} {fs : AF} {L : Fl → Env → Sto → Prop}

theorem asThree_three {x y z : D} : asThree [x, y, z] = some (x, y, z) := rfl
@[simp] theorem ZJ {i j k : Nat} : wp (sPar3 i j k fs r S) L Z = wp (fs r S) (fun ds r S => got (asThree ds) fun q => L .nx (((r.set i (some q.1)).set j (some q.2.1)).set k (some q.2.2)) S) Z := by
  unfold sPar3
  simp only [wp_bind]
  congr; funext ds r S
  match ds with
  | [x, y, z] => rfl
  | [] => rfl
  | [x] => rfl
  | [x, y] => rfl
  | x :: y :: z :: _ :: _ => rfl
end
theorem nil_appD {l : List D} : [] ++ l = l := List.nil_append l
open PySem PySem.Spec PyProof.Rows He

section
variable {X : Cx} {W : WX} {e : Expr} {es : List Expr} {fe : EF} {fs : AF} {p : Pos}
variable {Z : D → Env → Sto → Prop} {r : Env} {S : Sto}
@[simp] theorem Zm {Q : List D → Env → Sto → Prop} : wp (aStar fe fs r S) Q Z = wp (fe r S) (fun x r S => got (seqOf S x) fun xs => wp (fs r S) (fun ys r S => Q (xs ++ ys) r S) Z) Z := by
  unfold aStar
  simp only [wp_bind]
  congr; funext x r S
  cases seqOf S x with
  | none => rfl
  | some xs => simp only [wp_bind, wp_ok, got_some]
end




section
variable {X : Cx} {W : WX} {a : Expr} {es : List Expr} {fs fk : AF} {C : Str} {k j n c : Nat} {mm : MF} {p pos : Pos} {ks : List Str} {gD : List D → List D → List D} {kws : List Keyword}
variable {Z : D → Env → Sto → Prop} {r : Env} {S : Sto} {Q : D → Env → Sto → Prop}
@[simp] theorem Zl : wp (eMakeRK C j n c gD mm fs fk r S) Q Z = wp (fs r S) (fun ds r S => wp (fk r S) (fun zd r S => ((j ≤ ds.length ∧ zd.length = c ∧ ds.length ≤ sizeLine) ∧ (gD (.ref S.length :: ds.take j) zd).length + 1 = n) ∧ wf (mm (gD (.ref S.length :: ds.take j) zd ++ [.tup (ds.drop j)]) (S ++ [.ins C [] []])) (fun d S' => d = .non ∧ Q (.ref S.length) r S') (fun d S' => Z d r S')) Z) Z := by
  unfold eMakeRK goRK
  simp only [wp_bind, wp_ite, wp_made, wp_no, ite_and]
end
open PySem PySem.Spec PyProof.Rows He


section
variable {X : Cx} {W : WX} {e : Expr} {fs : AF} {x : Str} {d : D} {p0 apos cpos : Pos}
variable {Z : D → Env → Sto → Prop} {r : Env} {S : Sto} {Q : D → Env → Sto → Prop}
@[simp] theorem ZW : wp (eIndexC d fs r S) Q Z = wp (fs r S) (fun ds r S => got (mIndex S d ds) fun q => Q q.1 r q.2) Z := by
  unfold eIndexC
  simp only [wp_bind]
  congr; funext ds r S
  cases mIndex S d ds <;> rfl
end
open PySem PySem.Spec PyProof.Rows He











open PySem PySem.Spec PyProof.Rows He


open PySem PySem.Spec PyProof.Rows He


section
variable {X : Cx} {W : WX} {a : Expr} {fa : EF} {pos : Pos}
variable {Z : D → Env → Sto → Prop} {r : Env} {S : Sto} {L : Fl → Env → Sto → Prop}
@[simp] theorem ZX {i : Nat} : wp (sAugL i fa r S) L Z = got (rd r i) fun x => wp (fa r S) (fun y r S => got (oExt S x y) fun S' => L .nx (r.set i (some x)) S') Z := by
  unfold sAugL rd
  split
  · rename_i x h
    simp only [h, wp_bind, got_some]
    congr; funext y r S
    cases oExt S _ y <;> rfl
  · simp_all
end

open PySem PySem.Spec PyProof.Rows He

open PySem PySem.Spec PyProof.Rows He




open PySem PySem.Spec PyProof.Rows He

open PySem PySem.Spec PyProof.Rows He
section
variable {Z : D → Env → Sto → Prop} {r : Env} {S : Sto} {fa fb fc : EF} {ta tb : TF} {fs ft : AF} {Q : D → Env → Sto → Prop} {T : Bool → Env → Sto → Prop} {L : Fl → Env → Sto → Prop} {C m : Str} {mm : MF} {n c : Nat} {o : Sto → D → D → Option Bool} {neg : Bool}
@[simp] theorem ZL : wp (eProp C mm fa r S) Q Z = wp (fa r S) (fun x r S => got (insOf S x) fun q => q.1 = C ∧ wf (mm [x] S) (fun d S' => Q d r S') (fun _ _ => False)) Z := by
  unfold eProp
  simp only [wp_bind]
  congr; funext x r S
  cases insOf S x with
  | none => rfl
  | some q =>
    simp only [got_some, wp_ite, wp_no, ite_and]
    congr
    cases mm [x] S <;> simp
theorem wp_neCB {x y : D} : wp (neCB C mm o x y r S) T Z = orGot (o S x y) (fun b => T b r S) (got (insOf S x) fun q => (q.1 = C ∧ tyOk C S y = true) ∧ wf (mm [x, y] S) (fun d S' => got (asB d) fun b => T (b != true) r S') (fun _ _ => False)) := by
  unfold neCB
  cases o S x y with
  | some b => simp only [wp_ok, orGot_some]
  | none =>
    cases insOf S x with
    | none => rfl
    | some q => simp only [wp_ite, wp_asBl, wp_no, ite_and, orGot_none, got_some]
@[simp] theorem ZM : wp (eNeC C mm o fa fb r S) Q Z = wp (fa r S) (fun x r S => wp (fb r S) (fun y r S => orGot (o S x y) (fun b => Q (.bl b) r S) (got (insOf S x) fun q => (q.1 = C ∧ tyOk C S y = true) ∧ wf (mm [x, y] S) (fun d S' => got (asB d) fun b => Q (.bl (b != true)) r S') (fun _ _ => False))) Z) Z := by
  unfold eNeC
  simp only [wp_bind, wp_neCB, wp_ok]
@[simp] theorem ZN : wp (tNeC C mm o fa fb r S) T Z = wp (fa r S) (fun x r S => wp (fb r S) (fun y r S => orGot (o S x y) (fun b => T b r S) (got (insOf S x) fun q => (q.1 = C ∧ tyOk C S y = true) ∧ wf (mm [x, y] S) (fun d S' => got (asB d) fun b => T (b != true) r S') (fun _ _ => False))) Z) Z := by
  unfold tNeC
  simp only [wp_bind, wp_neCB]
@[simp] theorem ZO {gD : List D → List D → List D} : wp (eMethK C m n c mm gD fa ft r S) Q Z = wp (fa r S) (fun x r S => got (insOf S x) fun q => (q.1 = C ∧ (q.2.1.zip q.2.2).lookup m = none) ∧ wp (ft r S) (fun zs r S => (zs.length = c ∧ (gD [x] zs).length = n) ∧ wf (mm (gD [x] zs) S) (fun d S => Q d r S) (fun d S => Z d r S)) Z) Z := by
  unfold eMethK
  simp only [wp_bind]
  congr; funext x r S
  cases insOf S x with
  | none => rfl
  | some q =>
    obtain ⟨C', ns, ds⟩ := q
    simp only [got_some, wp_ite, wp_bind, wp_run, wp_no, ite_and]
@[simp] theorem ZP : wp (eDGet fa fb r S) Q Z = wp (fa r S) (fun x r S => wp (fb r S) (fun y r S => got (oDGet S x y) fun d => Q d r S) Z) Z := by
  unfold eDGet
  simp only [wp_bind]
  congr; funext x r S; congr; funext y r S
  cases oDGet S x y <;> rfl
@[simp] theorem ZQ : wp (eDHas neg fa fb r S) Q Z = wp (fa r S) (fun y r S => wp (fb r S) (fun x r S => got (oDHas S y x) fun b => Q (.bl (b != neg)) r S) Z) Z := by
  unfold eDHas
  simp only [wp_bind]
  congr; funext x r S; congr; funext y r S
  cases oDHas S x y <;> rfl
@[simp] theorem ZR : wp (tDHas neg fa fb r S) T Z = wp (fa r S) (fun y r S => wp (fb r S) (fun x r S => got (oDHas S y x) fun b => T (b != neg) r S) Z) Z := by
  unfold tDHas
  simp only [wp_bind]
  congr; funext x r S; congr; funext y r S
  cases oDHas S x y <;> rfl
@[simp] theorem ZS : wp (sDPutU fa fb fc r S) L Z = wp (fa r S) (fun d r S => wp (fb r S) (fun x r S => wp (fc r S) (fun y r S => got (oDPut S x y d) fun S' => L .nx r S') Z) Z) Z := by
  unfold sDPutU
  simp only [wp_bind]
  congr; funext d r S; congr; funext x r S; congr; funext y r S
  cases oDPut S x y d <;> rfl

@[simp] theorem ZT : wp (eListDS fs r S) Q Z = wp (fs r S) (fun ds r S => got (keysD S ds) fun ks => Q (.ref S.length) r (S ++ [.lst ks])) Z := by
  unfold eListDS
  simp only [wp_bind]
  congr; funext ds r S
  unfold keysD
  match ds with
  | [] => rfl
  | [x] =>
    cases x <;> try rfl
    rename_i n
    simp only
    cases S[n]? with
    | none => rfl
    | some o => cases o <;> rfl
  | x :: _ :: _ => cases x <;> rfl

@[simp] theorem ZU : wp (eListTS fs r S) Q Z = wp (fs r S) (fun ds r S => got (strOne ds) fun z => Q (.ref S.length) r (S ++ [.lst (signsD z)])) Z := by
  unfold eListTS
  simp only [wp_bind]
  congr; funext ds r S
  unfold strOne
  match ds with
  | [] => rfl
  | [x] =>
    cases x <;> try rfl
    rename_i z
    simp only
    split <;> rfl
  | x :: _ :: _ => cases x <;> rfl
@[simp] theorem ZV {fi : AF} {b : Bn} {vs : List Nat} {tt : TF} {fk fv : EF} : wp (eDcS fi b vs tt fk fv r S) Q Z = wp (fi r S) (fun xs r S => xs.length < sizeLine ∧ wp (dcF b tt fk fv r vs xs [] [] S) (fun q r S => Q (.ref S.length) r (S ++ [.dic q.1 q.2])) Z) Z := by
  unfold eDcS
  simp only [wp_bind, wp_ite, wp_no, ite_and, wp_ok]
end
open PySem PySem.Spec PyProof.Rows He

section
variable {X : Cx} {W : WX} {pos : Pos} {a b : Expr} {fa fb : EF}
variable {Z : D → Env → Sto → Prop} {r : Env} {S : Sto} {Q : D → Env → Sto → Prop}

@[simp] theorem ZY : wp (eCatLS fa fb r S) Q Z = wp (fa r S) (fun x r S => wp (fb r S) (fun y r S => got (lstCat S x y) fun zs => Q (.ref S.length) r (S ++ [.lst zs])) Z) Z := by
  unfold eCatLS
  simp only [wp_bind]
  congr; funext x r S; congr; funext y r S
  unfold lstCat
  cases lstMOf S x with
  | none => rfl
  | some xs =>
    cases lstMOf S y with
    | none => rfl
    | some ys =>
      simp only
      split
      · rfl
      · rfl
end
open PySem PySem.Spec PyProof.Rows He
def Wk (w : World) (h : Heap) (a : Addr) (es : Array (Int × Value)) : Prop :=
  ∃ (o : Obj) (ep : Nat) (t : SetTable), (h.get? a = some o ∧ o.ExactSet ∧ o.data = .set es ep t) ∧ t.fits es.size = true ∧ Ris t.place.toList ∧ (w.params.followText "set-order" = true ∨ t.led = true)
theorem Wk.stay {w : World} {h h' : Heap} {a : Addr} {es : Array (Int × Value)} (W : Wk w h a es) (k : ∀ o, h.get? a = some o → h'.get? a = some o) : Wk w h' a es :=
  let ⟨o, ep, t, ⟨e, x⟩, r⟩ := W
  ⟨o, ep, t, ⟨k o e, x⟩, r⟩
section
variable {P : Program} {w : World} {A : Around} {E : Value → Shared → Prop} {s : Shared} {a : Addr}
theorem say_any {M : Model} {b : Bool} {x : String} {s1 : Shared} {Q : Unit → Shared → Prop} (q : Q () s1) : wpAny M A (match b with | true => rule x | false => pure ()) Q E s1 := by
  cases b
  · exact wpAny_pure q
  · exact wpAny_rule q
theorem wk_store {say : Bool → Sem Unit} (hs : ∀ (b : Bool) (s1 : Shared) (Q : Unit → Shared → Prop), Q () s1 → wpAny (model P w) A (say b) Q E s1) {o : Obj} {es es1 : Array (Int × Value)} {ep : Nat} {t t1 : SetTable}
    (at_ : s.heap.get? a = some o ∧ o.ExactSet ∧ o.data = .set es ep t) (room : es1.size < scanBound) (ok : t1.fits es1.size = true ∧ Ris t1.place.toList ∧ (w.params.followText "set-order" = true ∨ t1.led = true)) {dm : Bool} {R : Option Bool → Shared → Prop}
    (done : ∀ (h' : Heap) (es2 : Array (Int × Value)), Heap.SameBut a s.heap h' → Wk w h' a es2 → es2.toList.Perm es1.toList → R (some true) { s with heap := h' }) :
    wpAny (model P w) A (do
        storeSet a es1 t1
        if (!dm && t1.tooFull) = true then do
            say (relayAll t1 es1 (SetTable.grown es1.size)).2.2
            storeSet a (relayAll t1 es1 (SetTable.grown es1.size)).1 (relayAll t1 es1 (SetTable.grown es1.size)).2.1
            pure (some true)
          else pure (some true)) R E s := by
  obtain ⟨ho, hex, hd⟩ := at_
  obtain ⟨hf, hr, hl⟩ := ok
  have first := store_at (es' := es1) (t' := t1) ho hd
  have moved := Heap.SameBut.update s.heap a (Obj.putSet es1 t1)
  refine wpAny_bind (wpAny_storeSet_of ho hd ?_ (fits_of_scanBound room))
  by_cases full : (!dm && t1.tooFull) = true
  · rw [if_pos full]
    have p2 := relayAll_perm t1 es1 (SetTable.grown es1.size)
    have f2 := relayAll_fits t1 es1 (SetTable.grown es1.size)
    have r2 := relayAll_ris t1 es1 (SetTable.grown es1.size)
    have l2 := relayAll_led t1 es1 (SetTable.grown es1.size)
    generalize relayAll t1 es1 (SetTable.grown es1.size) = z at p2 f2 r2 l2 ⊢
    obtain ⟨es2, t2, gave⟩ := z
    dsimp only at p2 f2 r2 l2 ⊢
    have n2 : es2.size = es1.size := by simpa using p2.length_eq
    refine wpAny_bind (hs _ _ _ (wpAny_bind (wpAny_storeSet_of first rfl ?_ (fits_of_scanBound (by rw [n2]; exact room)))))
    exact wpAny_pure (done _ es2 (moved.trans (Heap.SameBut.update _ a _)) ⟨_, _, t2, ⟨store_at (es' := es2) (t' := t2) first rfl, hex, rfl⟩, f2, r2, hl.imp id fun z => l2.trans z⟩ p2)
  · rw [if_neg full]
    exact wpAny_pure (done _ es1 moved ⟨_, _, t1, ⟨first, hex, rfl⟩, hf, hr, hl⟩ .rfl)
variable {K : Type} [DecidableEq K] {knd : KeyKind P w K}
theorem wk_add {k : K} {v : Value} {es : Array (Int × Value)} {Q : Bool → Shared → Prop} (hk : knd.is k v = true) (hv : v.scannable = true) (W : Wk w s.heap a es) (hel : ElemsOf knd es.toList) (room : es.size + 1 < scanBound)
    (old : (∃ e ∈ es.toList, knd.is k e.2 = true) → Q false s)
    (new : (∀ e ∈ es.toList, knd.is k e.2 = false) → ∀ (h' : Heap) (es1 : Array (Int × Value)), Heap.SameBut a s.heap h' → Wk w h' a es1 → es1.toList.Perm ((knd.hash k, v) :: es.toList) → Q true { s with heap := h' }) :
    wpAny (model P w) A (setAddHashed a v (knd.hash k)) Q E s := by
  obtain ⟨o, ep, t, ⟨ho, hex, hd⟩, hf, hr, hl⟩ := W
  unfold setAddHashed setAddHashedIn
  refine wpAny_holding (wpAny_bind (wpAny_setState_of ho hd hf ?_))
  dsimp only
  rw [byScan_of hv (by omega) hel]
  simp only [↓reduceIte]
  unfold setAddByScan
  refine wpAny_bind (wpAny_bind (wpAny_rule (wpAny_bind (wpAny_setScan_of hk ho hd hf hel ?_))))
  cases met : List.findIdx? (fun e => knd.is k e.2) es.toList with
  | some j =>
    dsimp only
    obtain ⟨hj, pj, _⟩ := List.findIdx?_eq_some_iff_getElem.mp met
    exact wpAny_pure (wpAny_pure (old ⟨_, List.getElem_mem hj, pj⟩))
  | none =>
    dsimp only
    have fresh := List.findIdx?_eq_none_iff.mp met
    have p1 := layNew_perm t es (knd.hash k) v
    have f1 := layNew_fits t es (knd.hash k) v
    have r1 := layNew_ris t es (knd.hash k) v hr
    have l1 := layNew_led t es (knd.hash k) v
    generalize layNew t es (knd.hash k) v = z at p1 f1 r1 l1 ⊢
    obtain ⟨es1, t1, dm, gave⟩ := z
    dsimp only at p1 f1 r1 l1 ⊢
    rw [Array.toList_push] at p1
    have p2 := p1.trans (List.perm_append_singleton (knd.hash k, v) es.toList)
    have n1 : es1.size < scanBound := by
      have e : es1.size = es.size + 1 := by simpa using p2.length_eq
      omega
    have led1 : w.params.followText "set-order" = true ∨ t1.led = true := hl.imp id fun z => by rw [l1]; exact z
    have fin : ∀ (h' : Heap) (es2 : Array (Int × Value)), Heap.SameBut a s.heap h' → Wk w h' a es2 → es2.toList.Perm es1.toList → Q true { s with heap := h' } := fun h' es2 sb W2 p => new (fun e he => by simpa using fresh e he) h' es2 sb W2 (p.trans p2)
    have say : ∀ (x : String) (b : Bool) (s1 : Shared) (Q' : Unit → Shared → Prop), Q' () s1 → wpAny (model P w) A (match b with | true => rule x | false => pure ()) Q' E s1 := fun x b s1 Q' q => say_any q
    refine wpAny_bind ?_
    refine (show ∀ (b : Bool) {s1 : Shared} {Q' : Unit → Shared → Prop}, Q' () s1 → wpAny (model P w) A (match b with | true => rule "set.scan.the-table-gave-way" | false => pure ()) Q' E s1 from fun b {s1 Q'} q => say_any q) _ ?_
    split
    · rw [hashByValue_scannable 8 hv]
      refine wpAny_bind ?_
      refine wpAny_pure ?_
      refine wk_store (fun b s1 Q' q => ?_) ⟨ho, hex, hd⟩ n1 ⟨?_, ?_, ?_⟩ fun h' es2 sb W2 p => ?_
      · cases b <;> first | exact wpAny_pure q | exact wpAny_rule q
      · first | (split <;> first | exact f1 | exact SetTable.fits_plain_off f1) | exact f1
      · first | (split <;> exact r1) | exact r1
      · first | (split <;> exact led1) | exact led1
      · dsimp only; exact wpAny_pure (fin h' es2 sb W2 p)
    · refine wpAny_bind (wpAny_pure ?_)
      simp only [↓reduceIte]
      refine wk_store (fun b s1 Q' q => ?_) ⟨ho, hex, hd⟩ n1 ⟨f1, r1, led1⟩ fun h' es2 sb W2 p => ?_
      · cases b <;> first | exact wpAny_pure q | exact wpAny_rule q
      · dsimp only; exact wpAny_pure (fin h' es2 sb W2 p)
end
def kyT (e : Int × Value) : Str := match e.2 with
  | .str k _ => k
  | _ => Str.empty
structure TxE (w : World) (es : Array (Int × Value)) (l : List Str) : Prop where
  good : ∀ e ∈ es.toList, ∃ k t, e = (hashStr w k, Value.str k t)
  nd : (es.toList.map kyT).Nodup
  mem : ∀ k, k ∈ es.toList.map kyT ↔ k ∈ l
section
variable {P : Program} {w : World} {es : Array (Int × Value)} {l : List Str}
theorem TxE.elems (h : TxE w es l) : ElemsOf (strKind P w) es.toList := fun e he => by
  obtain ⟨k, t, rfl⟩ := h.good e he
  exact ⟨⟨k, strKind_is P w k t, rfl⟩, rfl⟩
theorem TxE.is_iff (h : TxE w es l) {e : Int × Value} (he : e ∈ es.toList) (k : Str) : (strKind P w).is k e.2 = true ↔ kyT e = k := by
  obtain ⟨k0, t, rfl⟩ := h.good e he
  show (k0 == k) = true ↔ k0 = k
  exact beq_iff_eq
theorem TxE.more {es1 : Array (Int × Value)} {k : Str} {u : Tok} (h : TxE w es l) (fresh : ∀ e ∈ es.toList, (strKind P w).is k e.2 = false) (p : es1.toList.Perm ((hashStr w k, Value.str k u) :: es.toList)) : TxE w es1 (l ++ [k]) := by
  have nin : k ∉ es.toList.map kyT := fun hm => by
    obtain ⟨e, he, q⟩ := List.mem_map.mp hm
    have := (h.is_iff (P := P) he k).mpr q
    rw [fresh e he] at this
    cases this
  have pk : (es1.toList.map kyT).Perm (k :: es.toList.map kyT) := p.map kyT
  refine ⟨fun e he => ?_, pk.nodup_iff.mpr (List.nodup_cons.mpr ⟨nin, h.nd⟩), fun x => ?_⟩
  · rcases List.mem_cons.mp (p.mem_iff.mp he) with rfl | he
    · exact ⟨k, u, rfl⟩
    · exact h.good e he
  · rw [pk.mem_iff, List.mem_cons, List.mem_append, List.mem_singleton, h.mem x]
    exact Or.comm
theorem TxE.same {k : Str} (h : TxE w es l) (old : ∃ e ∈ es.toList, (strKind P w).is k e.2 = true) : TxE w es (l ++ [k]) := by
  obtain ⟨e, he, q⟩ := old
  have hk : k ∈ l := (h.mem k).mp (List.mem_map.mpr ⟨e, he, (h.is_iff (P := P) he k).mp q⟩)
  refine ⟨h.good, h.nd, fun x => ?_⟩
  rw [h.mem x, List.mem_append, List.mem_singleton]
  exact ⟨.inl, fun z => z.elim id fun e => e ▸ hk⟩
theorem TxE.size_le (h : TxE w es l) : es.size ≤ l.length := by
  have := List.Nodup.length_le_of_subset h.nd fun x hx => (h.mem x).mp hx
  simpa using this
end
section
variable {P : Program} {w : World} {A : Around} {E : Value → Shared → Prop} {s : Shared}
theorem upd_texts {I : Addr} {fp wr : List Addr} {G : Array GenState → Array GenState → Prop} {n : Nat} {Pv : Nat → Value → Prop} {St : Nat → Shared → Prop} {R : Result → Shared → Prop} {l : List Str} {a : Addr}
    (W : WalksS P w A.in1 I fp wr G n Pv St) (off : a ∉ fp) (hn : l.length = n) (room : n + 1 < scanBound) (val : ∀ i v, Pv i v → ∃ (h : i < l.length) (t : Tok), v = .str l[i] t)
    (done : ∀ s' es, Moved (a :: wr) G s s' → Wk w s'.heap a es → TxE w es l → R (.ok (.ret .none)) s') (m i : Nat) :
    ∀ s1 es, n - i = m → i ≤ n → St i s1 → Moved (a :: wr) G s s1 → Wk w s1.heap a es → TxE w es (l.take i) → codeAny (model P w) A (.builtin "set.update.loop" ⟨[.ref a, .ref I], []⟩) R s1 := by
  have aw : a ∉ wr := fun h => off (W.sub _ h)
  have more : ∀ b ∈ wr, b ∈ a :: wr := fun b hb => List.mem_cons_of_mem _ hb
  induction m generalizing i with
  | zero =>
    intro s1 es hm hi st mv Wa T
    have e : i = n := by omega
    subst e
    rw [show l.take i = l from List.take_of_length_le (by omega)] at T
    refine codeAny_builtin F.entry_set_update_loop ?_
    rw [Around.under_plainId F.plain_set_update_loop _]
    show wpAny _ A.in1 (pyNext (.ref I) >>= _) _ _ s1
    refine wpAny_bind (W.done s1 _ _ st fun s2 mv2 => ?_)
    show wpAny _ A.in1 (ret Value.none) _ _ s2
    exact wpAny_pure (done s2 es (Moved.trans W.gtrans mv (mv2.mono more)) (Wa.stay fun o e => mv2.heap a o aw e) T)
  | succ m ih =>
    intro s1 es hm hi st mv Wa T
    have lt : i < n := by omega
    refine codeAny_builtin F.entry_set_update_loop ?_
    rw [Around.under_plainId F.plain_set_update_loop _]
    show wpAny _ A.in1 (pyNext (.ref I) >>= _) _ _ s1
    refine wpAny_bind (W.item i s1 _ _ lt st fun v s2 hv st2 mv2 => ?_)
    obtain ⟨hl, t, rfl⟩ := val i v hv
    have W2 : Wk w s2.heap a es := Wa.stay fun o e => mv2.heap a o aw e
    have mvs := Moved.trans W.gtrans mv (mv2.mono more)
    have tk : l.take (i + 1) = l.take i ++ [l[i]] := by rw [List.take_add_one, List.getElem?_eq_getElem hl]; rfl
    have sz := T.size_le
    rw [List.length_take] at sz
    show wpAny _ A.in1 (holding [Value.str l[i] t] (setAdd a (.str l[i] t)) >>= _) _ _ s2
    refine wpAny_bind (wpAny_holding ?_)
    unfold setAdd
    refine wpAny_holding (wpAny_bind ((strKind P w).pyHash (strKind_is _ _ _ _) ?_))
    refine wk_add (s := { s2 with toks := s2.toks + 1 }) (strKind_is _ _ _ _) rfl W2 (T.elems (P := P)) (by omega) (fun old => ?_) (fun fresh h' es1 sb W3 p => ?_)
    · refine wpAny_pure ⟨plainId_quiet F.plain_set_update_loop _, ih (i + 1) { s2 with toks := s2.toks + 1 } es (by omega) lt ?_ ?_ W2 (by rw [tk]; exact T.same (P := P) old)⟩
      · exact W.frame _ s2 _ _ st2 (Nat.le_succ _) fun b hb o e => e
      · exact ⟨mvs.heap, mvs.gens, mvs.drawn, mvs.os, Nat.le_succ_of_le mvs.toks⟩
    · refine wpAny_pure ⟨plainId_quiet F.plain_set_update_loop _, ih (i + 1) { s2 with heap := h', toks := s2.toks + 1 } es1 (by omega) lt ?_ ?_ W3 (by rw [tk]; exact T.more (P := P) fresh p)⟩
      · exact W.frame _ s2 _ _ st2 (Nat.le_succ _) fun b hb o e => by rw [sb.2 b (fun z => off (z ▸ hb))]; exact e
      · exact ⟨fun b o hb e => by rw [sb.2 b (fun z => hb (z ▸ List.mem_cons_self ..))]; exact mvs.heap b o hb e, mvs.gens, mvs.drawn, mvs.os, Nat.le_succ_of_le mvs.toks⟩
abbrev set0 (w : World) : Obj := { cls := .type "set", dict := none, data := .set #[] 0 (.fresh 0 0 (!w.params.followText "set-order")) }
theorem wk_new {h : Heap} {b : Addr} (e : h.get? b = some (set0 w)) : Wk w h b #[] := by
  refine ⟨_, 0, _, ⟨e, ⟨rfl, rfl, rfl⟩, rfl⟩, by rfl, List.Pairwise.nil, ?_⟩
  show _ ∨ (!w.params.followText "set-order") = true
  cases w.params.followText "set-order"
  · exact .inr rfl
  · exact .inl rfl
theorem txe_new : TxE w #[] [] := ⟨fun e he => by simp at he, by simp, fun k => by simp⟩
abbrev SetEnd (w : World) (s : Shared) (l : List Str) : Value → Shared → Prop := fun v s2 => v = .none ∧ ∃ (h' : Heap) (tk : Nat) (es : Array (Int × Value)), s2 = { s with heap := h', toks := tk } ∧ Wk w h' s.heap.objs.size es ∧ TxE w es l ∧ ∀ b o, s.heap.get? b = some o → h'.get? b = some o
set_option maxHeartbeats 3200000 in
theorem set_core {x : Value} {l : List Str} {Q : Value → Shared → Prop}
    (init : wpAny (model P w) A.in1.in1 (Builtin.«set.__init__» ⟨[.ref s.heap.objs.size] ++ [x], []⟩) (fun fin s' => match fin with
      | .done f => wants (SetEnd w s l) E (.ok f) s'
      | .again c' => c'.quiet = true ∧ codeAny (model P w) A.in1 c' (wants (SetEnd w s l) E) s') (fun e s' => wants (SetEnd w s l) E (.error e) s') { s with heap := s.heap.push (set0 w) })
    (q : ∀ (h' : Heap) (tk : Nat) (es : Array (Int × Value)), Wk w h' s.heap.objs.size es → TxE w es l → (∀ b o, s.heap.get? b = some o → h'.get? b = some o) → Q (.ref s.heap.objs.size) { s with heap := h', toks := tk }) :
    wpAny (model P w) A (call (.type "set") [x]) Q E s := by
  obtain ⟨c, tl, hmro⟩ := F.called_set.mro
  have g1 := F.called_set.made
  have g2 := F.called_set.sub
  have g3 := F.called_set.notType
  have g4 := F.called_set.canCreate
  have g5 := F.typeCall_set_1 x
  refine wpAny_call (codeAny_of_tree ?_)
  show wpAny _ _ (callAny (.type "set") _) _ _ _
  refine wpAny_pure ⟨Code.quiet_builtin _ (by decide +kernel), codeAny_builtin F.entry_type_call ?_⟩
  rw [Around.under_plain (weight_type_call_type "set" [x] []) rfl]
  repeat (any_goals (first | assumption | wp_step))
  refine codeAny_mono (code_set_led1 x (E := E) (Q₁ := fun v s1 => v = .ref s.heap.objs.size ∧ s1 = { s with heap := s.heap.push (set0 w) }) ⟨rfl, rfl⟩) fun r s1 made => ?_
  cases r with
  | error e => exact made
  | ok f =>
    cases f with
    | ret v =>
      obtain ⟨rfl, rfl⟩ := made
      have at_ : (s.heap.push (set0 w)).get? s.heap.objs.size = some (set0 w) := Heap.get?_push_size _ rfl
      have ty : Shared.TypeIs { s with heap := s.heap.push (set0 w) } (.ref s.heap.objs.size) "set" := ⟨_, at_, rfl⟩
      have g6 := F.called_set.init.lookup
      have g7 := F.called_set.init.bind (.ref s.heap.objs.size)
      repeat (any_goals (first | assumption | wp_step))
      refine codeAny_mono (codeAny_call_builtin (R := wants (SetEnd w s l) E) F.called_set.init.plain F.entry_set_init (check_set_init_1 ty init)) fun r s2 out => ?_
      cases r with
      | error e => exact out
      | ok f =>
        cases f with
        | ret v =>
          obtain ⟨rfl, h', tk, es, rfl, W, T, kp⟩ := out
          repeat (any_goals (first | assumption | wp_step))
          exact q _ _ _ W T kp
        | _ => exact out.elim
    | _ => exact made.elim
theorem upd_end {I : Addr} {fp wr : List Addr} {n : Nat} {Pv : Nat → Value → Prop} {St : Nat → Heap → Prop} {l : List Str} {B : Around} {h1 : Heap}
    (W : Walks P w B.in1 I fp wr n Pv St) (off : s.heap.objs.size ∉ fp) (wrI : ∀ b ∈ wr, s.heap.objs.size < b) (hn : l.length = n) (room : n + 1 < scanBound) (val : ∀ i v, Pv i v → ∃ (h : i < l.length) (t : Tok), v = .str l[i] t)
    (st : St 0 h1) (kp : ∀ b o, (s.heap.push (set0 w)).get? b = some o → h1.get? b = some o) {R : Result → Shared → Prop} (done : ∀ s2, SetEnd w s l .none s2 → R (.ok (.ret .none)) s2) :
    codeAny (model P w) B (.builtin "set.update.loop" ⟨[.ref s.heap.objs.size, .ref I], []⟩) R { s with heap := h1 } := by
  have at_ : (s.heap.push (set0 w)).get? s.heap.objs.size = some (set0 w) := Heap.get?_push_size _ rfl
  refine upd_texts (l := l) W.toS off hn room val (fun s3 es mv Wa T => done _ ?_) n 0 { s with heap := h1 } #[] (by omega) (Nat.zero_le _) st ⟨fun b o _ e => e, rfl, rfl, rfl, Nat.le_refl _⟩ (wk_new (kp _ _ at_)) txe_new
  obtain ⟨h', g', d', tk', os'⟩ := s3
  obtain rfl : g' = s.gens := mv.gens
  obtain rfl : d' = s.drawn := mv.drawn
  obtain rfl : os' = s.os := mv.os
  refine ⟨rfl, h', tk', es, rfl, Wa, T, fun b o e => ?_⟩
  have lb : b < s.heap.objs.size := Heap.lt_size e
  refine mv.heap b o (fun hm => ?_) (kp _ _ (Heap.get?_push_of_some _ e))
  rcases List.mem_cons.mp hm with z | z
  · rw [z] at lb; exact Nat.lt_irrefl _ lb
  · exact Nat.lt_irrefl _ (Nat.lt_trans lb (wrI b z))
theorem set_list {a : Addr} {its : Array Value} {l : List Str} {Q : Value → Shared → Prop} (hh : A.handled = none) (hl : s.heap.IsList a its) (tx : StrsAre its.toList l) (room : l.length + 1 < scanBound)
    (q : ∀ (h' : Heap) (tk : Nat) (es : Array (Int × Value)), Wk w h' s.heap.objs.size es → TxE w es l → (∀ b o, s.heap.get? b = some o → h'.get? b = some o) → Q (.ref s.heap.objs.size) { s with heap := h', toks := tk }) :
    wpAny (model P w) A (call (.type "set") [.ref a]) Q E s := by
  have size : its.size = l.length := by simpa using StrsAre.len_eq tx
  refine set_core (l := l) ?_ q
  obtain ⟨⟨oc, od, ob, os⟩, ho, e1, n, e2⟩ := hl
  simp only at e1 e2
  subst e1
  subst e2
  have there : (s.heap.push (set0 w)).get? a = some { cls := .type "list", dict := od, data := .seq its n, slots := os } := Heap.get?_push_of_some _ ho
  have isl : (s.heap.push (set0 w)).IsList a its := ⟨_, there, rfl, n, rfl⟩
  have k1 := F.sub_list_set
  have k2 := F.sub_list_frozenset
  have k3 : (Value.type "list" == Value.type "dict") = false := by decide
  have lt : a < s.heap.objs.size := Heap.lt_size ho
  have sz1 : (s.heap.push (set0 w)).objs.size = s.heap.objs.size + 1 := Heap.size_push ..
  have ne : a ≠ (s.heap.push (set0 w)).objs.size := by rw [sz1]; exact Nat.ne_of_lt (Nat.lt_succ_of_lt lt)
  have h3 : A.in1.in1.in1.handled = none := by simp [hh]
  unfold Builtin.«set.__init__» noKeywords Builtin.Frozenset.updateFrom
  generalize hPI : pyIter = PI
  wp_walk
  subst hPI
  refine wpAny_pyIter_list isl ?_
  refine wpAny_bind (wpAny_runValue ?_)
  refine upd_end (l := l) (Walks.list h3 _ a ne its) ?_ (fun b hb => ?_) size.symm (by rw [size]; exact room) (fun i v hv => ?_) ⟨⟨_, Heap.get?_push_size _ rfl, rfl, rfl⟩, isl.push _⟩ (fun b o e => Heap.get?_push_of_some _ e) fun s2 out => ?_
  · rw [sz1]
    simp only [List.mem_cons, List.not_mem_nil, or_false, not_or]
    exact ⟨Nat.ne_of_lt (Nat.lt_succ_self _), Nat.ne_of_gt lt⟩
  · rw [List.mem_singleton.mp hb, sz1]; exact Nat.lt_succ_self _
  · have hi : i < l.length := by rw [← size]; exact (Array.getElem?_eq_some_iff.mp hv).1
    obtain ⟨y, u, rfl, hy⟩ := tx.item i v (by rw [Array.getElem?_toList]; exact hv)
    rw [List.getElem?_eq_getElem hi] at hy
    exact ⟨hi, u, by rw [Option.some.inj hy]⟩
  · show wpAny _ _ _ _ _ _
    refine wpAny_pure ?_
    show wpAny _ _ (ret Value.none) _ _ _
    exact wpAny_pure out
end
open PySem PySem.Spec PyProof.Rows He



open PySem PySem.Spec PyProof.Rows He



section
variable {X : Cx} {W : WX} {pos p p2 p3 : Pos} {a : Expr} {fa : EF}
variable {Z : D → Env → Sto → Prop} {r : Env} {S : Sto} {Q : D → Env → Sto → Prop}
@[simp] theorem ZZ : wp (eSortSet fa r S) Q Z = wp (fa r S) (fun x r S => got (txtsOf S x) fun l => l.length < 4000 ∧ Q (.lst ((sortT l).map .str)) r S) Z := by
  unfold eSortSet
  simp only [wp_bind]
  congr; funext x r S
  cases txtsOf S x with
  | none => rfl
  | some l =>
    by_cases h : l.length < 4000
    · simp only [got_some, if_pos h, h, true_and]; rfl
    · simp only [got_some, if_neg h, h, false_and]; rfl
@[simp] theorem Z0 : wp (eSortSetS fa r S) Q Z = wp (fa r S) (fun x r S => got (txtsOf S x) fun l => l.length < 4000 ∧ Q (.ref S.length) r (S ++ [.lst ((sortT l).map .str)])) Z := by
  unfold eSortSetS
  simp only [wp_bind]
  congr; funext x r S
  cases txtsOf S x with
  | none => rfl
  | some l =>
    by_cases h : l.length < 4000
    · simp only [got_some, if_pos h, h, true_and]; rfl
    · simp only [got_some, if_neg h, h, false_and]; rfl
end
open PySem PySem.Spec PyProof.Rows He

def XBase.nm : XBase → String
  | .ve => "ValueError" | .le => "LookupError" | .ie => "IndexError"

def XBase.it : XBase → String
  | .ve => "ValueError.__init__" | .le => "LookupError.__init__" | .ie => "IndexError.__init__"

theorem XBase.base : ∀ b : XBase, ExcBaseFacts b.nm b.nw b.it b.tl
  | .ve => F.excBase_ValueError | .le => F.excBase_LookupError | .ie => F.excBase_IndexError
theorem XBase.sto : ∀ b : XBase, StoreFacts b.nm b.tl "object.__setattr__" "object"
  | .ve => F.store_ValueError | .le => F.store_LookupError | .ie => F.store_IndexError
structure OexG (K : PySem.W.Frag) (C : Addr) : Prop where
  cls : ∃ (B : XBase) (nm q : Str) (N : Addr) (bs bm : List Value) (sn : List Str) (sub : List Value) (ab : Bool) (col : Option Bool) (dd : Option Addr) (k0 k1 k2 k3 k5 : Option Value),
    K.lookup C = some (excClassObj nm q C N bs bm true sn sub ab col dd k0 k1 k2 k3 k5 B.nw) ∧ PySem.W.excTail B.tl bm = true
  sat : PySem.W.findIn K (.ref C) "__setattr__" = some (some (.builtin "object.__setattr__"))
  exC : PySem.W.subIn K (.ref C) (.type "BaseException") = some true
  tyC : PySem.W.typeIn K (.ref C) = some (.type "type")
  kC : PySem.W.keepIn K (.ref C) = true
section
open PySem.Calls Builtin Builtin.ObjectAttr
variable {K : PySem.W.Frag} {C : Addr}
theorem OexG.over (T : OexG K C) : ∃ (B : XBase) (cd : ClassData), PySem.W.clsIn K C = some cd ∧ cd.hasDict = true ∧ PySem.W.excOver K C B.tl = true := by
  obtain ⟨B, nm, q, N, bs, bm, sn, sub, ab, col, dd, k0, k1, k2, k3, k5, hC, hbm⟩ := T.cls
  have e : PySem.W.clsIn K C = some { name := nm, bases := bs, mro := .ref C :: bm, ns := N, qualname := q, hasDict := true, slotNames := sn, subclasses := sub, abstract := ab, collection := col, hasDel := false } := by
    unfold PySem.W.clsIn
    rw [hC]
  refine ⟨B, _, e, rfl, ?_⟩
  unfold PySem.W.excOver
  rw [e]
  show ((C == C) && PySem.W.excTail B.tl bm) = true
  rw [hbm, beq_self_eq_true]
  rfl
theorem OexG.taker {f : Str} (h : PySem.W.findIn K (.ref C) f = some none) : PySem.W.takerIn K C f = some none := by
  unfold PySem.W.takerIn
  rw [h]
  rfl
variable {prog : Program} {w : World} {A : Around} {R : Result → Shared → Prop} {hp : Heap} {g : Array GenState} {d : Drawn} {t : Nat} {os : OsState} {f : Str} {tk : Tok} {v : Value} {x : Addr} {fv : Array Value}
theorem setX_new (T : OexG K C) (X : K.In hp) (hx : hp.get? x = some { cls := .ref C, data := .fields fv }) (hno : PySem.W.findIn K (.ref C) f = some none)
    (fin : ∀ h2 t2 dx, (∀ b o, b ≠ x → hp.get? b = some o → h2.get? b = some o) → hp.objs.size ≤ dx → dx ≠ x → h2.get? x = some { cls := .ref C, dict := some dx, data := .fields fv } → h2.Ns1 dx (fun z => if z = f then some v else none) → R (.ok (.ret .none)) ⟨h2, g, d, t2, os⟩) :
    codeAny (model prog w) A (.call (.builtin "object.__setattr__") ⟨[.ref x, .str f tk, v], []⟩) R ⟨hp, g, d, t, os⟩ := by
  obtain ⟨B, cd, hc, hd, ho⟩ := T.over
  have ne : x ≠ hp.objs.size := Nat.ne_of_lt (Heap.lt_size hx)
  refine PySem.W.osa_openX (od := none) B.sto X ⟨hx, rfl, rfl, trivial⟩ ho (OexG.taker hno) fun b => ?_
  have look : PySem.W.Looks (model prog w) hp (classData C) cd := PySem.W.looks_clsIn X hc
  obtain ⟨c1, c2, c3, c4, c5, c6, c7, c8, c9, c10, c11⟩ := cd
  dsimp only at hd
  subst hd
  show wpAny _ _ (storeInOwnDict (.ref x) (.ref C) (.str f tk) f v b) _ _ _
  unfold storeInOwnDict ownDictForStores
  repeat (first | with_reducible refine look.at ?_ | with_reducible refine wpAny_loadPart_at hx ?_ | with_reducible refine PySem.HandSPX.store_in_new ?_ ?_ | wp_step)
  · exact ⟨_, #[], _, (Heap.get?_update_ne _ _ _ _ ne.symm).trans (Heap.get?_push_at rfl rfl), rfl, fun e he => absurd he (by simp), fun _ => rfl⟩
  · intro h2 t2 n2 same
    have hx2 : (hp.push { cls := .type "dict", data := .dict #[] }).get? x = some { cls := .ref C, data := .fields fv } := Heap.get?_push_of_some _ hx
    exact fin h2 t2 hp.objs.size (fun b o hb e => (same.2 b (Nat.ne_of_lt (Heap.lt_size e))).trans ((Heap.get?_update_ne _ _ _ _ hb).trans (Heap.get?_push_of_some _ e))) (Nat.le_refl _) ne.symm
      ((same.2 x ne).trans (Heap.get?_update_self _ hx2 rfl)) n2
theorem setX_old {dx : Addr} {m0 : Str → Option Value} {nl : List Str} (T : OexG K C) (X : K.In hp) (hx : hp.get? x = some { cls := .ref C, dict := some dx, data := .fields fv }) (hn : hp.Ns1 dx m0) (hw : Within m0 nl) (hz : nl.length ≤ 1000) (hno : PySem.W.findIn K (.ref C) f = some none)
    (fin : ∀ h2 t2, (∀ b o, b ≠ dx → hp.get? b = some o → h2.get? b = some o) → h2.Ns1 dx (fun z => if z = f then some v else m0 z) → R (.ok (.ret .none)) ⟨h2, g, d, t2, os⟩) :
    codeAny (model prog w) A (.call (.builtin "object.__setattr__") ⟨[.ref x, .str f tk, v], []⟩) R ⟨hp, g, d, t, os⟩ := by
  obtain ⟨B, cd, hc, hd, ho⟩ := T.over
  obtain ⟨oD, _, _, lD, _, _⟩ := hn.count hw
  refine PySem.W.osa_openX (od := some oD) B.sto X ⟨hx, rfl, rfl, lD⟩ ho (OexG.taker hno) fun b => ?_
  have look : PySem.W.Looks (model prog w) hp (classData C) cd := PySem.W.looks_clsIn X hc
  obtain ⟨c1, c2, c3, c4, c5, c6, c7, c8, c9, c10, c11⟩ := cd
  dsimp only at hd
  subst hd
  show wpAny _ _ (storeInOwnDict (.ref x) (.ref C) (.str f tk) f v b) _ _ _
  unfold storeInOwnDict ownDictForStores
  repeat (first | with_reducible refine look.at ?_ | with_reducible refine wpAny_loadPart_at hx ?_ | with_reducible refine PySem.OEX.store_in_old hn hw hz ?_ | wp_step)
  exact fun h2 t2 n2 same => fin h2 t2 (fun b o hb e => (same.2 b hb).trans e) n2
end
section
variable {X : Cx} {pins : List (Addr × Obj)} {σ : St} {H : Hp} {s : Shared} {a C dx : Addr} {f : Str} {y : V} {u : Value} {fs : List (Str × V)} {Q : Unit → Shared → Prop} {E : Value → Shared → Prop} {A : Around}
theorem xst_new (T : OexG X.K C) (I : Inv X pins σ H s) (e : H a = some (exo a C none)) (hno : PySem.W.findIn X.K (.ref C) f = some none) (ry : RelV y u)
    (h : ∀ dx s', H dx = none → dx ≠ a → Inv X pins σ (upd (upd H dx (exd dx [(f, y)])) a (exo a C (some dx))) s' → Q () s') : wpAny (model X.prog X.w) A (setAttr (.ref a) f u) Q E s := by
  obtain ⟨t1, lx⟩ := exo_at I.hok e
  obtain ⟨hp, g, dr, t, os⟩ := s
  refine PySem.W.set_plain I.kIn (ox := PySem.HandSPX.excO C t1) (od := none) ⟨lx, rfl, rfl, trivial⟩ T.sat (setX_new T I.kIn lx hno fun h2 t2 dx k low dne l2 n2 => ?_)
  have fresh : H dx = none := I.hok.fresh low
  have old : ∀ {b : Addr} {o : Obj}, hp.get? b = some o → b ≠ dx := fun {b o} z => Nat.ne_of_lt (Nat.lt_of_lt_of_le (Heap.lt_size z) low)
  have off : ∀ {b : Addr}, H b = none → b ≠ a := fun {b} z w => by rw [w, e] at z; cases z
  refine h dx _ fresh dne (I.un (t' := t2) (show Un X.fs [] H (upd (upd H dx (exd dx [(f, y)])) a (exo a C (some dx))) hp h2 from
    ⟨fun b o z n _ _ => k b o (off n) z, fun b o z n _ _ => ⟨_, k b o (off n) z⟩, fun b o z n _ => by rw [upd_ne (off n), upd_ne (old z)]; exact n, fun b o z _ => by
        by_cases hb : b = a
        · exact ⟨_, hb ▸ l2⟩
        · exact ⟨_, k b o hb z⟩,
      fun b xs z => by rw [upd_ne (at_ne e z exo_tup), upd_ne (ne_of_none z fresh)]; exact z, fun b o v z => by rw [upd_ne (at_ne e z exo_frz), upd_ne (ne_of_none z fresh)]; exact z,
      fun b ps z => ⟨#[], by rw [upd_ne (at_ne e z exo_tbl), upd_ne (ne_of_none z fresh), z]; simp⟩⟩) fun b o z => ?_)
  by_cases hb : b = a
  · subst hb
    rw [upd_same] at z
    obtain rfl := Option.some.inj z
    exact exo_ok l2
  by_cases hd : b = dx
  · subst hd
    rw [upd_ne hb, upd_same] at z
    obtain rfl := Option.some.inj z
    exact exd_ok n2 (relO_put (fs := []) ry fun _ => True.intro)
  rw [upd_ne hb, upd_ne hd] at z
  refine (I.hok b o z).stay (fun c v hc w => k c v (hc.elim (fun e1 => e1 ▸ hb) fun e1 => at_ne e e1 exo_own) w) (fun c hc => ?_) fun c xs hc => ?_
  · rw [upd_ne (at_ne e hc exo_own), upd_ne (ne_of_none hc fresh), hc]
  · rw [upd_ne (at_ne e hc exo_tup), upd_ne (ne_of_none hc fresh), hc]
theorem xst_old (T : OexG X.K C) (I : Inv X pins σ H s) (e : H a = some (exo a C (some dx))) (ed : H dx = some (exd dx fs)) (hl : fs.length ≤ 900) (hno : PySem.W.findIn X.K (.ref C) f = some none) (ry : RelV y u)
    (h : ∀ s', Inv X pins σ (upd H dx (exd dx ((f, y) :: fs))) s' → Q () s') : wpAny (model X.prog X.w) A (setAttr (.ref a) f u) Q E s := by
  obtain ⟨t1, lx⟩ := exo_at I.hok e
  obtain ⟨mA, ns, rel⟩ := exd_at I.hok ed
  obtain ⟨hp, g, dr, t, os⟩ := s
  obtain ⟨oD, _, _, lD, _, _⟩ := ns.count (within_of rel)
  refine PySem.W.set_plain I.kIn (ox := { PySem.HandSPX.excO C t1 with dict := some dx }) (od := some oD) ⟨lx, rfl, rfl, lD⟩ T.sat
    (setX_old T I.kIn lx ns (within_of rel) (by rw [List.length_map]; omega) hno fun h2 t2 k n2 => h _ (I.write (t' := t2) (x := dx) (e := dx) (o := exd dx ((f, y) :: fs)) (by rw [ed]; exact True.intro) (.inl rfl) k ?_ (exd_ok n2 (relO_put ry rel))))
  obtain ⟨o, _, _, l2, _⟩ := n2
  exact ⟨o, l2⟩
def tXst (K : PySem.W.Frag) (f : Str) (to te : TE) : TS := fun D σ H => te σ H fun y H1 => to σ H1 fun x H2 => ∃ a C : Addr, x = .ref a ∧ OexG K C ∧ PySem.W.findIn K (.ref C) f = some none ∧
  ((H2 a = some (exo a C none) ∧ ∀ dx, H2 dx = none → dx ≠ a → D.nx σ (upd (upd H2 dx (exd dx [(f, y)])) a (exo a C (some dx)))) ∨
    ∃ (dx : Addr) (fs : List (Str × V)), H2 a = some (exo a C (some dx)) ∧ H2 dx = some (exd dx fs) ∧ fs.length ≤ 900 ∧ D.nx σ (upd H2 dx (exd dx ((f, y) :: fs))))
theorem ps_xst {o e : Expr} {to te : TE} {p' pos : Pos} (ho : PE X o to) (he : PE X e te) (hs : swapsWith e (some (.Attribute o f p')) pos.line X.env = pure false := by rfl) : PS X (.Assign [.Attribute o f p'] e pos) (tXst X.K f to te) := by
  refine ⟨fun pins s σ H D I h => plainObj_wpAny_Assign_Attribute (thn (he.run pins s σ H _ I h) fun v s1 ⟨y, H1, I1, r1, q1⟩ => thn (ho.run pins s1 σ H1 _ I1 q1) fun u s2 hh => ?_) hs⟩
  obtain ⟨x, H2, I2, r2, a, C, rfl, T, hno, q⟩ := hh
  obtain rfl : u = Value.ref a := r2
  rcases q with ⟨ea, q⟩ | ⟨dx, fs, ea, ed, hl, q⟩
  · exact xst_new T I2 ea hno r1 fun dx s' n ne J => ⟨_, _, J, q dx n ne⟩
  · exact xst_old T I2 ea ed hl hno r1 fun s' J => ⟨_, _, J, q⟩
end


theorem oexB_ok {K : PySem.W.Frag} {C : Addr} (h : oexB K C = true) : OexG K C := by
  obtain ⟨q, h⟩ := ba h
  obtain ⟨h1, h⟩ := ba h
  obtain ⟨h2, h⟩ := ba h
  obtain ⟨h3, h4⟩ := ba h
  refine ⟨?_, eqO_ok h1, of_decide_eq_true h2, of_decide_eq_true h3, h4⟩
  split at q
  · rename_i dd cd sl ho
    split at q
    · rename_i C' bm k0 k1 k2 k3 n k5 hm hs
      simp only [Bool.and_eq_true, beq_iff_eq, Bool.not_eq_true', List.any_eq_true] at q
      obtain ⟨rfl, hdel, hd, B, _, rfl, hok⟩ := q
      obtain ⟨nm, bs, mro, ns, qn, hd', sn, sub, ab, col, del⟩ := cd
      dsimp only at hm hdel hd
      subst hm hdel hd
      have hsl : sl = #[k0, k1, k2, k3, some (.builtin B.nw), k5] := by
        obtain ⟨l⟩ := sl
        simp only at hs
        rw [hs]
      subst hsl
      exact ⟨B, nm, qn, ns, bs, bm, sn, sub, ab, col, dd, k0, k1, k2, k3, k5, ho, hok⟩
    · cases q
  · cases q

structure Xcl (K : PySem.W.Frag) (C : Str) (fs : List Str) : Prop where
  oex : OexG K (ga K C)
  xf : XfC K (ga K C)
  noc : PySem.W.findIn K (.ref (ga K C)) "code" = some none
  no : ∀ f ∈ fs, PySem.W.findIn K (.ref (ga K C)) f = some none
  ini : PySem.W.findIn K (.ref (ga K C)) "__init__" = some (some (.ref (fAd K (C, some "__init__"))))
  ty : PySem.W.typeIn K (.ref (fAd K (C, some "__init__"))) = some (.type "function")
theorem xclB_ok {K : PySem.W.Frag} {C : Str} {fs : List Str} (h : xclB K (C, fs) = true) : Xcl K C fs := by
  obtain ⟨h1, h⟩ := ba h
  obtain ⟨h2, h⟩ := ba h
  obtain ⟨h3, h⟩ := ba h
  obtain ⟨h4, h5⟩ := ba h
  have n := List.all_eq_true.mp h3
  exact ⟨oexB_ok h1, xfB_ok h2, eqO_ok (n _ (List.mem_cons_self ..)), fun f hf => eqO_ok (n f (List.mem_cons_of_mem _ hf)), eqO_ok h4, of_decide_eq_true h5⟩
def spX1 (K : PySem.W.Frag) (f code : Str) : Sp := fun vs H Q E => ∃ (a C : Addr) (y : V), vs = [.ref a, y] ∧ OexG K C ∧ PySem.W.findIn K (.ref C) f = some none ∧ PySem.W.findIn K (.ref C) "code" = some none ∧ H a = some (exo a C none) ∧
  ∀ dx, H dx = none → dx ≠ a → Q .non (upd (upd (upd H dx (exd dx [(f, y)])) a (exo a C (some dx))) dx (exd dx [("code", .str code), (f, y)]))
def spX0 (K : PySem.W.Frag) (code : Str) : Sp := fun vs H Q E => ∃ (a C : Addr), vs = [.ref a] ∧ OexG K C ∧ PySem.W.findIn K (.ref C) "code" = some none ∧ H a = some (exo a C none) ∧
  ∀ dx, H dx = none → dx ≠ a → Q .non (upd (upd H dx (exd dx [("code", .str code)])) a (exo a C (some dx)))
section
variable {P : Program} {w : World} {K : PySem.W.Frag} {mg : Str → Option Value} {base : Heap} {x qual f code : Str} {params : Arguments} {scope : Scope} {fI : Addr} {fd : FuncData} {j : Nat} {p1 p2 p3 p4 p5 p6 p7 p8 : Pos}
theorem exc1_ok (F : FunD K x qual params [.Assign [.Attribute (.Name "self" p1) f p2] (.Name f p3) p4, .Assign [.Attribute (.Name "self" p5) "code" p6] (.Constant (.str code) j p7) p8] scope [] [] fI fd)
    (S : FnScope ["self", f] ["self", f] scope) (v0 : Vis scope "self") (v1 : Vis scope f) (hd : (f == ("__debug__" : Str)) = false) (hcd : (f == ("__classdict__" : Str)) = false) : FnOk P w K mg base (CXU K P w) 1 fI fd ["self", f] (spX1 K f code) := by
  refine F.ok S (fun vs H Q E ⟨a, C, y, e, _⟩ => by rw [e]; rfl) fun cdv A outer s H vs Q E hr ⟨a, C, y, e, T, n1, n2, ha, q⟩ => ⟨_, pss_cons (ps_xst (pe_var (i := 0) rfl v0) (pe_var (i := 1) rfl v1 hd hcd)) (pss_one (ps_xst (pe_var (i := 0) rfl v0) pe_str)), ?_⟩
  subst e
  refine ⟨y, rfl, .ref a, rfl, a, C, rfl, T, n1, .inl ⟨ha, fun dx h1 h2 => ?_⟩⟩
  refine ⟨.ref a, rfl, a, C, rfl, T, n2, .inr ⟨dx, [(f, y)], upd_same, ?_, by simp, q dx h1 h2⟩⟩
  rw [upd_ne h2, upd_same]
theorem exc0_ok (F : FunD K x qual params [.Assign [.Attribute (.Name "self" p5) "code" p6] (.Constant (.str code) j p7) p8] scope [] [] fI fd)
    (S : FnScope ["self"] ["self"] scope) (v0 : Vis scope "self") : FnOk P w K mg base (CXU K P w) 1 fI fd ["self"] (spX0 K code) := by
  refine F.ok S (fun vs H Q E ⟨a, C, e, _⟩ => by rw [e]; rfl) fun cdv A outer s H vs Q E hr ⟨a, C, e, T, n2, ha, q⟩ => ⟨_, pss_one (ps_xst (pe_var (i := 0) rfl v0) pe_str), ?_⟩
  subst e
  exact ⟨.ref a, rfl, a, C, rfl, T, n2, .inl ⟨ha, fun dx h1 h2 => q dx h1 h2⟩⟩
end
structure DefX1 (P : Program) (w : World) (K : PySem.W.Frag) (mg : Str → Option Value) (base : Heap) (C f code : Str) : Prop where
  ex : ∃ fI fd, FnOk P w K mg base (CXU K P w) 1 fI fd ["self", f] (spX1 K f code) ∧ Binds K fd ["self", f] [] ∧ Xcl K C [f] ∧ fAd K (C, some "__init__") = fI ∧ mg C = some (.ref (ga K C))
structure DefX0 (P : Program) (w : World) (K : PySem.W.Frag) (mg : Str → Option Value) (base : Heap) (C code : Str) : Prop where
  ex : ∃ fI fd, FnOk P w K mg base (CXU K P w) 1 fI fd ["self"] (spX0 K code) ∧ Binds K fd ["self"] [] ∧ Xcl K C [] ∧ fAd K (C, some "__init__") = fI ∧ mg C = some (.ref (ga K C))


section
variable {X : Cx} {W : WX} {e : Expr} {es : List Expr} {fs : AF} {C f code : Str} {p pos pos' : Pos}
theorem run_oexG {CX : CXT} {C fI : Addr} {sp : Sp} {pins : List (Addr × Obj)} {σ : St} {H : Hp} {Q : XK} {s : Shared} {us : List Value} {vs : List V} (T : OexG X.K C) (iC : PySem.W.findIn X.K (.ref C) "__init__" = some (some (.ref fI))) (tI : PySem.W.typeIn X.K (.ref fI) = some (.type "function"))
    (body : ∀ (s2 : Shared) (H2 : Hp) (a : Addr) (Q2 : VK), Inv X pins σ H2 s2 → Vals (.ref a :: vs) (.ref a :: us) → sp (.ref a :: vs) H2 Q2 (fun _ _ _ => False) →
      codeAny (model X.prog X.w) (X.A.under (.builtin "type.__call__" ⟨.ref C :: us, []⟩)) (.call (.ref fI) ⟨.ref a :: us, []⟩) (CR CX X.stack X.prog X.w H2 s2 Q2 (fun _ _ _ => False)) s2)
    (hx : Passes CX X (fun _ _ _ => False)) (I : Inv X pins σ H s) (r1 : Vals vs us) (hus : us.length ≤ sizeLine)
    (q1 : ∀ a, H a = none → sp (.ref a :: vs) (upd H a (exo a C none)) (fun v H2 => v = .non ∧ ∃ (d : Addr) (fs : List (Str × V)), H2 a = some (exo a C (some d)) ∧ H2 d = some (exd d fs) ∧ H d = none ∧ Q (.ref C) (some d) (upd (del H2 a) d (.xd fs))) (fun _ _ _ => False)) :
    wpAny (model X.prog X.w) X.A (call (.ref C) us) (fun u s' => L2N.MkP X pins σ Q u s' ∧ L2H.Six u s') X.xe s := by
  obtain ⟨B, nm, q, N, bs, bm, sn, sub, ab, col, dd, k0, k1, k2, k3, k5, hC, hbm⟩ := T.cls
  obtain ⟨hp, g, dr, tk, os⟩ := s
  obtain ⟨z, hz⟩ : ∃ z, z = hp.objs.size := ⟨_, rfl⟩
  have hsz : hp.objs.size ≤ z + 1 := by omega
  have hn : H (z + 1) = none := I.hok.fresh hsz
  obtain ⟨G, hG⟩ : ∃ G, G = (hp.push (PySem.W.kdv_tup us)).push (PySem.HandSPX.excO C z) := ⟨_, rfl⟩
  have kk : ∀ b o, hp.get? b = some o → G.get? b = some o := fun b o e => by rw [hG]; exact Heap.get?_push_of_some _ (Heap.get?_push_of_some _ e)
  have hget : G.get? (z + 1) = some (PySem.HandSPX.excO C z) := by rw [hG, hz]; heap_get
  have I2 : Inv X pins σ (upd H (z + 1) (exo (z + 1) C none)) ⟨G, g, dr, tk, os⟩ := I.laid (t' := tk) (a := z + 1) (o := exo (z + 1) C none) (h' := G) kk hsz (exo_ok hget)
  have run := body _ _ (z + 1) _ I2 (.cons rfl r1) (q1 (z + 1) hn)
  subst hG hz
  refine wpAny_call (PySem.HandSPX.call_own B.base (fun Y => PySem.W.excTail_contains Y bm hbm) (I.kIn _ _ hC) (PySem.W.looks_findIn I.kIn iC) (fun self => PySem.W.bind_fn I.kIn self tI) hus (codeAny_mono run fun r s' hq' => ?_))
  match r, hq' with
  | .error er, hq' => exact hx pins σ _ _ er s' I2 hq'
  | .ok .next, hq' => exact False.elim hq'
  | .ok .brk, hq' => exact False.elim hq'
  | .ok .cont, hq' => exact False.elim hq'
  | .ok (.ret u), hq' =>
    obtain ⟨v, H2, os2, bare2, un2, hok2, rv, ev, d, fs, ea, ed, hd1, q2⟩ := hq'
    subst ev
    obtain ⟨h2, g2, d2, t2, os'⟩ := s'
    obtain ⟨t0, G2, J, kG, ge, hoe, na⟩ := mk_end0 (d2 := d2) (t2 := t2) I hsz kk un2 hok2 os2 bare2 ea ed hd1
    refine ⟨rv, ⟨_, _, _, ⟨G2, g2, d2, t2, os'⟩, _, .ref C, some d, rfl, J, kG, ge, hoe, ⟨rfl, rfl, fun vs e => ?_⟩, rfl, rfl, na, rfl, bare2, raises_own T.exC T.tyC, q2⟩, fun a oe vs e1 e2 e3 => ?_⟩
    · cases e
      rfl
    · cases e1
      have e4 : h2.get? (hp.objs.size + 1) = some oe := e2
      rw [hoe] at e4
      cases e4
      cases e3
      exact (by decide : (4 : Nat) < 6)
theorem run_oex {CX : CXT} {C fI : Addr} {k : Nat} {fd : FuncData} {ps : List Str} {sp : Sp} {pins : List (Addr × Obj)} {σ : St} {H : Hp} {Q : XK} {s : Shared} {us : List Value} {vs : List V} (T : OexG X.K C) (iC : PySem.W.findIn X.K (.ref C) "__init__" = some (some (.ref fI))) (tI : PySem.W.typeIn X.K (.ref fI) = some (.type "function"))
    (F1 : FnOk X.prog X.w X.K X.mg X.base CX k fI fd ps sp) (hr : Room (k + 1) X.A) (hb : Binds X.K fd ps []) (hx : Passes CX X (fun _ _ _ => False)) (I : Inv X pins σ H s) (r1 : Vals vs us) (hus : us.length ≤ sizeLine)
    (q1 : ∀ a, H a = none → sp (.ref a :: vs) (upd H a (exo a C none)) (fun v H2 => v = .non ∧ ∃ (d : Addr) (fs : List (Str × V)), H2 a = some (exo a C (some d)) ∧ H2 d = some (exd d fs) ∧ H d = none ∧ Q (.ref C) (some d) (upd (del H2 a) d (.xd fs))) (fun _ _ _ => False)) :
    wpAny (model X.prog X.w) X.A (call (.ref C) us) (L2N.MkP X pins σ Q) X.xe s :=
  thn (run_oexG (fI := fI) T iC tI (fun s2 H2 a Q2 I2 r2 hq => by
    have hb' := hb s2 (.ref a :: us) I2.kIn (by rw [List.append_nil, ← r2.length]; exact F1.len _ _ _ _ hq)
    rw [List.append_nil] at hb'
    exact F1.run _ X.stack _ _ ⟨.ref a :: us, []⟩ (.ref a :: us) _ _ (fun _ _ _ => False) (hr.make C us []) (I2.env0.make C us []) hb' r2 hq) hx I r1 hus q1) fun _ _ x => x.1
def tMkO0 (C : Addr) (sp : Sp) : St → Hp → XK → Prop := fun σ H Q => ∀ a, H a = none → sp [.ref a] (upd H a (exo a C none))
  (fun v H2 => v = .non ∧ ∃ (d : Addr) (fs : List (Str × V)), H2 a = some (exo a C (some d)) ∧ H2 d = some (exd d fs) ∧ H d = none ∧ Q (.ref C) (some d) (upd (del H2 a) d (.xd fs))) (fun _ _ _ => False)
theorem pmk_oex0 {CX : CXT} {x : Str} {C fI : Addr} {k : Nat} {fd : FuncData} {ps : List Str} {sp : Sp} (T : OexG X.K C) (iC : PySem.W.findIn X.K (.ref C) "__init__" = some (some (.ref fI))) (tI : PySem.W.typeIn X.K (.ref fI) = some (.type "function"))
    (F1 : FnOk X.prog X.w X.K X.mg X.base CX k fI fd ps sp) (hr : Room (k + 1) X.A) (hb : Binds X.K fd ps []) (hx : Passes CX X (fun _ _ _ => False)) (hg : Gl X x) (hm : X.mg x = some (.ref C))
    (hdb : (x == ("__debug__" : Str)) = false := by decide) : L2N.PMk X (.Call (.Name x p) [] [] pos) (tMkO0 C sp) := fun pins s σ H Q I q1 =>
  wpAny_Call_Name_kw (ld_glob I hg hm (PySem.W.callWith_K0 I.kIn T.kC (run_oex (us := []) (vs := []) T iC tI F1 hr hb hx I .nil (Nat.zero_le _) q1)) hdb)
theorem pmk_oex1 {CX : CXT} {x : Str} {C fI : Addr} {k : Nat} {fd : FuncData} {ps : List Str} {sp : Sp} {ta : TA} (T : OexG X.K C) (iC : PySem.W.findIn X.K (.ref C) "__init__" = some (some (.ref fI))) (tI : PySem.W.typeIn X.K (.ref fI) = some (.type "function"))
    (F1 : FnOk X.prog X.w X.K X.mg X.base CX k fI fd ps sp) (hr : Room (k + 1) X.A) (hb : Binds X.K fd ps []) (hx : Passes CX X (fun _ _ _ => False)) (hg : Gl X x) (hm : X.mg x = some (.ref C)) (ha : PA X (e :: es) ta)
    (hdb : (x == ("__debug__" : Str)) = false := by decide) (he : starEach (e :: es) X.env = (false, eval e X.env) :: starEach es X.env := by rfl) (hpl : (backTo pos (starEach es X.env)).any (·.1) = false := by rfl) :
    L2N.PMk X (.Call (.Name x p) (e :: es) [] pos) (tMkO C sp [] ta) := fun pins s σ H Q I h =>
  wpAny_Call_Name_kw (ld_glob I hg hm (PySem.W.callWith_K (h₀ := X.base) I.ok.mod.kin T.kC (thn (ha.run pos pins s σ H _ I h) fun us s1 ⟨vs, H1, I1, r1, hz, q1⟩ => ⟨I1.kIn, run_oex T iC tI F1 hr hb hx I1 r1 (by have y := Paired.length r1; rw [List.nil_append, sizeLine_eq]; omega) fun a ha => by
    have z := q1 a ha
    rw [List.append_nil] at z
    exact z⟩) he hpl) hdb)
theorem passes_no (tk : Tk X W) : Passes (CXU X.K X.prog X.w) X (fun _ _ _ => False) := fun pins σ H s e s' I h => (cxU_no h).elim
end
open PySem PySem.Spec PyProof.Rows He

open PySem PySem.Spec PyProof.Rows He


theorem zip_lookupR {K : PySem.W.Frag} {g : Gh} {f : Str} {d : D} : ∀ {ns : List Str} {ds : List D} {vs : List V}, RelDs K g ds vs → (ns.zip ds).lookup f = some d → ∃ v, (ns.zip vs).lookup f = some v ∧ RelD K g d v
  | [], _, _, _, e => by simp at e
  | _ :: _, _, _, .nil, e => by simp at e
  | n :: ns, _, _, .cons r t, e => by
    simp only [List.zip_cons_cons, List.lookup_cons] at e ⊢
    split
    · rename_i h; rw [h] at e; cases e; exact ⟨_, rfl, r⟩
    · rename_i h; rw [h] at e; exact zip_lookupR t e
section
variable {X : Cx} {W : WX} {e : Expr} {fo : EF} {cs : List Str} {f : Str} {pos : Pos}
theorem se_xf (hF : xfLB X.K cs f = true) (he : SE X W e fo) (hb : attributeBase e f X.env (eval e X.env) = eval e X.env := by rfl) : SE X W (.Attribute e f pos) (eXf cs f fo) := by
  refine ⟨fun pins s σ H Q I h => ?_⟩
  refine attr_of hb (thn (he.run pins s σ H _ I (TD.split (rel := RelD X.K) h)) fun u s1 hh => ?_)
  obtain ⟨x, H1, I1, rx, g, d, r, S, l, en, rd, p⟩ := hh
  split at p
  · rename_i C ns ds
    split at p
    · rename_i hc
      split at p
      · rename_i d' hl
        obtain ⟨k1, k2⟩ := ba (List.all_eq_true.mp hF C (List.contains_iff_mem.mp hc))
        have T := xfB_ok k1
        have hno := eqO_ok k2
        obtain ⟨_, a, rfl, ea⟩ := rd
        obtain rfl : u = Value.ref a := rx
        obtain ⟨_, oe, dx, h1, h2, h3, ⟨fv, h4⟩, h5⟩ := l.imm a _ ea
        obtain ⟨_, vs, h6, h7, h8⟩ := l.imm dx _ h5
        obtain ⟨v, lv, rv⟩ := zip_lookupR h8 hl
        obtain ⟨ha, _⟩ := I1.hok a _ h1
        have hx : ObjOk X.prog X.w H1 s1.heap dx (.xd (ns.zip vs)) := I1.hok dx _ h6
        obtain ⟨mA, hns, hr⟩ := hx
        obtain ⟨od, ho, hlk⟩ := lookIn_ns hns
        obtain ⟨u, hu, ru⟩ := RelO.some_of (v := v) (o := mA f) (by rw [← lv]; exact hr f)
        have J : PySem.W.InstAt s1.heap a oe (ga X.K C) (some od) := ⟨ha, h2, by unfold PySem.W.notCls; rw [h4] <;> rfl, by rw [h3]; exact ho⟩
        exact HandSPX.exc_get I1.kIn J T.ga T.gg T.exC (PySem.W.findObj_own T.hdC hno rfl (by rw [hlk, hu])) (handed_of ru) ⟨v, H1, I1.tok _, ru, post_ok p l en rv⟩
      · exact p.elim
    · exact p.elim
  · exact p.elim
end
open PySem PySem.Spec PyProof.Rows He

open PySem PySem.Spec PyProof.Rows He

open PySem PySem.Spec PyProof.Rows He
section
variable {α : Type} {fa fb : EF} {fs : AF} {f h : SF} {r : Env} {S : Sto} {Q : D → Env → Sto → Prop} {L : Fl → Env → Sto → Prop} {Z : D → Env → Sto → Prop}
@[simp] theorem wp_Raise1 {C g code : Str} : wp (sRaise1 C g code fs r S) L Z = wp (fs r S) (fun ds r S => got (asOne ds) fun d => bnd 0 d = true ∧ Z (.ins C ["code", g] [.str code, d]) r S) Z := by
  unfold sRaise1
  rw [wp_bind]
  refine congrArg (fun q => wp (fs r S) q Z) ?_
  funext ds r S
  match ds with
  | [d] =>
    show wp (if bnd 0 d = true then _ else _) L Z = _
    rw [wp_ite]
    show (if bnd 0 d = true then Z _ r S else False) = (bnd 0 d = true ∧ Z _ r S)
    exact ite_and
  | [] => rfl
  | _ :: _ :: _ => rfl
@[simp] theorem wp_Raise0 {C code : Str} : wp (sRaise0 C code r S) L Z = Z (.ins C ["code"] [.str code]) r S := propext Iff.rfl

@[simp] theorem asX_ins {C : Str} {ns : List Str} {ds : List D} : asX (.ins C ns ds) = some (C, ns, ds) := rfl
@[simp] theorem wp_Try {cs : List Str} {i : Nat} : wp (sTry cs i f h r S) L Z = wp (f r S) L (fun x r1 S1 => got (asX x) fun q => (cs.contains q.1 && bndL 0 q.2.2) = true ∧ wp (h (r1.set i (some (exD q.1 q.2.1 q.2.2))) S1) (fun a r2 S2 => L a (r2.set i none) S2) (fun _ _ _ => False)) := by
  unfold sTry
  cases f r S with
  | ok a r1 S1 => rfl
  | no => rfl
  | er x r1 S1 =>
    cases x with
    | ins C ns ds =>
      show wp (if (cs.contains C && bndL 0 ds) = true then _ else _) L Z = ((cs.contains C && bndL 0 ds) = true ∧ _)
      rw [wp_ite, ← ite_and]
      refine congrArg (fun q => if (cs.contains C && bndL 0 ds) = true then q else False) ?_
      cases h (r1.set i (some (exD C ns ds))) S1 with
      | ok a r2 S2 => rfl
      | er x r2 S2 => rfl
      | no => rfl
    | _ => rfl

@[simp] theorem asE_ex {C : Str} {ns : List Str} {ds : List D} : asE (exD C ns ds) = some (C, ns, ds) := rfl
@[simp] theorem wp_Xf {cs : List Str} {g : Str} : wp (eXf cs g fa r S) Q Z = wp (fa r S) (fun x r S => got (asE x) fun q => cs.contains q.1 = true ∧ got ((q.2.1.zip q.2.2).lookup g) fun d => Q d r S) Z := by
  unfold eXf
  rw [wp_bind]
  refine congrArg (fun q => wp (fa r S) q Z) ?_
  funext x r S
  unfold asE
  split
  · rename_i C ns ds
    rw [wp_ite]
    show (if cs.contains C = true then _ else False) = (cs.contains C = true ∧ _)
    rw [ite_and]
    refine congrArg (And _) ?_
    cases (ns.zip ds).lookup g <;> rfl
  · rename_i hn
    first
    | rfl
    | (split
       · rename_i C ns ds
         exact absurd rfl (hn C ns ds)
       · rfl)
@[simp] theorem wp_Lam {i b P t : Nat} {q : Str} : wp (eLam i b P t q r S) Q Z = (rd r t = some (tabD q P) ∧ Q (lamD i b) r S) := by
  unfold eLam rd
  split
  · rename_i q' p' hr
    rw [hr]
    show wp (if q' = q ∧ p' = (P : Int) then _ else _) Q Z = (some (D.dic [.str q', .int p'] []) = some (tabD q P) ∧ _)
    rw [wp_ite, show (wp (R.no : R D) Q Z) = False from rfl, ite_and]
    refine propext (and_congr ?_ Iff.rfl)
    constructor
    · rintro ⟨rfl, rfl⟩; rfl
    · intro h; cases h; exact ⟨rfl, rfl⟩
  · rename_i hn
    refine propext ⟨fun h => h.elim, fun ⟨h, _⟩ => ?_⟩
    split at h
    · rename_i d hd
      cases h
      exact absurd hd (hn q P)
    · cases h

@[simp] theorem asL_cls {i b : Int} {ds : List D} : asL (clsD i b ds) = some (i, ds) := rfl

@[simp] theorem wo_ok {d : D} {Q Z : D → Prop} : wo (.ok d) Q Z = Q d := propext Iff.rfl
@[simp] theorem wo_er {d : D} {Q Z : D → Prop} : wo (.er d) Q Z = Z d := propext Iff.rfl
end
section
variable {P : Program} {w : World} {K : PySem.W.Frag} {mg : Str → Option Value} {base : Heap} {C f code : Str} {x qual : Str} {params : Arguments} {scope : Scope} {fd : FuncData} {j : Nat} {p1 p2 p3 p4 p5 p6 p7 p8 : Pos}
theorem defX1_of (F : FunD K x qual params [.Assign [.Attribute (.Name "self" p1) f p2] (.Name f p3) p4, .Assign [.Attribute (.Name "self" p5) "code" p6] (.Constant (.str code) j p7) p8] scope [] [] (fAd K (C, some "__init__")) fd)
    (S : FnScope ["self", f] ["self", f] scope) (hx : xclB K (C, [f]) = true) (hm : mg C = some (.ref (ga K C))) (v0 : Vis scope "self" := by first | exact Or.inl rfl | exact Or.inr (Or.inl rfl)) (v1 : Vis scope f := by first | exact Or.inl rfl | exact Or.inr (Or.inl rfl)) (hd : (f == ("__debug__" : Str)) = false := by decide) (hcd : (f == ("__classdict__" : Str)) = false := by decide)
    (h : ∀ (kV doc pm : Value) (an : Option Addr) (cdv ct : Value) (us : List Value), us.length = 2 → bindArgs (PySem.W.fnOf x qual params [.Assign [.Attribute (.Name "self" p1) f p2] (.Name f p3) p4, .Assign [.Attribute (.Name "self" p5) "code" p6] (.Constant (.str code) j p7) p8] scope .none kV doc pm an cdv ct) ⟨us, []⟩ = pure ((["self", f] : List Str).zip us) := by exact fun _ _ _ _ _ _ us h => by match us, h with | [_, _], _ => rfl) : DefX1 P w K mg base C f code :=
  ⟨_, fd, exc1_ok F S v0 v1 hd hcd, F.bindsN h, xclB_ok hx, rfl, hm⟩
theorem defX0_of (F : FunD K x qual params [.Assign [.Attribute (.Name "self" p5) "code" p6] (.Constant (.str code) j p7) p8] scope [] [] (fAd K (C, some "__init__")) fd)
    (S : FnScope ["self"] ["self"] scope) (hx : xclB K (C, []) = true) (hm : mg C = some (.ref (ga K C))) (v0 : Vis scope "self" := by first | exact Or.inl rfl | exact Or.inr (Or.inl rfl))
    (h : ∀ (kV doc pm : Value) (an : Option Addr) (cdv ct : Value) (us : List Value), us.length = 1 → bindArgs (PySem.W.fnOf x qual params [.Assign [.Attribute (.Name "self" p5) "code" p6] (.Constant (.str code) j p7) p8] scope .none kV doc pm an cdv ct) ⟨us, []⟩ = pure ((["self"] : List Str).zip us) := by exact fun _ _ _ _ _ _ us h => by match us, h with | [_], _ => rfl) : DefX0 P w K mg base C code :=
  ⟨_, fd, exc0_ok F S v0, F.bindsN h, xclB_ok hx, rfl, hm⟩
end
section
variable {X : Cx} {W : WX} {pos p : Pos} {x : Str} {a : Expr} {es : List Expr} {fs : AF} {k n : Nat} {ps : List Str} {m : MF} {slots : Nat → List Nat} {b : Nat}
theorem _root_.L2H.RoomH.units {k : Nat} {A : Around} (h : L2H.RoomH k A) : A.units + 64 < cLine := by have := h.un; omega
end
open PySem PySem.Spec PyProof.Rows He


section
variable {fi fi1 : AF} {b b1 : Bn} {tt tt1 : TF} {fe : EF} {vs vs1 : List Nat} {r : Env} {S : Sto} {Q : D → Env → Sto → Prop} {Z : D → Env → Sto → Prop}
@[simp] theorem wp_Comp2 : wp (eComp2 fi b vs tt fi1 b1 vs1 tt1 fe r S) Q Z = wp (fi r S) (fun xs r S => wp (compF2 b tt fi1 b1 tt1 fe r vs vs1 xs S) (fun ys r S => ys.length ≤ sizeLine ∧ Q (.lst ys) r S) Z) Z := by
  unfold eComp2
  rw [wp_bind]
  refine congrArg (fun q => wp (fi r S) q Z) ?_
  funext xs r S
  rw [wp_bind]
  refine congrArg (fun q => wp (compF2 b tt fi1 b1 tt1 fe r vs vs1 xs S) q Z) ?_
  funext ys r S
  rw [wp_ite]
  exact ite_and
end
open PySem PySem.Spec PyProof.Rows He

open PySem PySem.Spec PyProof.Rows He
section
variable {X : Cx} {W : WX} {o : Expr} {to : TE} {fo fa : EF} {y z : Str} {j k : Nat} {c0 c1 apos pos : Pos} {r : Env} {S : Sto} {Q Z : D → Env → Sto → Prop}

@[simp] theorem wp_ReplC : wp (eReplC fa y z r S) Q Z = wp (fa r S) (fun x r S => got (asS x) fun a => a.length + (a.length + 1) * z.length ≤ 16777216 ∧ Q (.str (Txt.replace a y z)) r S) Z := by
  unfold eReplC
  rw [wp_bind]
  refine congrArg (fun q => wp (fa r S) q Z) ?_
  funext x r S
  cases x with
  | str a =>
    show wp (if _ then _ else _) Q Z = (_ ∧ _)
    rw [wp_ite]
    show (if _ then Q _ r S else False) = _
    rw [ite_and]
  | _ => rfl
end
end L2.U
section
open PySem PySem.W PySem.Calls PyProof.Rows PySem.SeqAt MeetsSeq
namespace L2.U

abbrev lx (a b : List (Int ⊕ List Nat)) : Bool := PyProof.Rows.lexLt itemOrd a b
end L2.U
end
open PySem PySem.Spec PyProof.Rows He
namespace L2.U





open PySem PySem.Spec PyProof.Rows He



theorem obsUR_eq {b n : Nat} {ck : PySem.W.Frag → Bool} {fn pn : List DefD} {g : Addr → Option Obj} {s : Shared} (h : ∀ a, g a = s.heap.get? a) : obsUR b n ck fn pn g = (hookUR b n ck fn pn).obs s := by
  have e : g = s.heap.get? := funext h
  rw [e] <;> rfl

open PySem PySem.Spec PyProof.Rows He
section
variable {X : Cx} {W : WX} {tg iter elt : Expr} {ifs : List Expr} {pos : Pos} {fi : AF} {b : Bn} {tt : TF} {fe : EF} {vs : List Nat} {scope : Scope} {own : List (Str × Nat)}
def KX (X : Cx) (W : WX) (g0 : Gh) (σ : St) (Q : VK) (zs : List D) (x : R (List D)) : Prop := PostG X.K W (RelD X.K) g0 σ (x.bind fun ws r S => .ok (.lst (zs ++ ws)) r S) Q
end
open PySem PySem.Spec PyProof.Rows He

section
variable {K : PySem.W.Frag} {g : Gh} {S : Sto} {H : Hp}
mutual
theorem nk_of (l : Rl K g S H) : ∀ (d : D) (v : V) (k : NestedKey), RelD K g d v → nkOf d = some k → Nk K H k v
  | .non, _, _, r, e => by cases e; cases r; exact .non
  | .bl b, _, _, r, e => by simp only [nkOf, Option.some.injEq] at e; subst e; cases r; exact .bl b
  | .int i, _, _, r, e => by cases e; cases r; exact .int i
  | .str x, _, _, r, e => by cases e; cases r; exact .str x
  | .tup xs, v, k, r, e => by
    obtain ⟨q, e1, rfl⟩ := Option.map_eq_some_iff.mp (show (nkOfs xs).map .tup = some k by simpa only [nkOf] using e)
    obtain ⟨a, vs, rfl, h, rs⟩ := tup_view l r
    exact .tup h (nks_of l xs vs q rs e1)
  | .lst _, _, _, _, e => by simp [nkOf] at e
  | .fz _, _, _, _, e => by simp [nkOf] at e
  | .ty _, _, _, _, e => by simp [nkOf] at e
  | .con _, _, _, _, e => by simp [nkOf] at e
  | .dic _ _, _, _, _, e => by simp [nkOf] at e
  | .ins _ _ _, _, _, _, e => by simp [nkOf] at e
  | .ref _, _, _, _, e => by simp [nkOf] at e
theorem nks_of (l : Rl K g S H) : ∀ (ds : List D) (vs : List V) (ks : List NestedKey), RelDs K g ds vs → nkOfs ds = some ks → NkAll K H ks vs
  | [], _, _, r, e => by cases r; simp only [nkOfs, Option.some.injEq] at e; subst e; exact .nil
  | x :: xs, _, ks, r, e => by
    cases r with
    | cons r1 r2 =>
      simp only [nkOfs] at e
      split at e
      · rename_i a b e1 e2
        cases e
        exact .cons (nk_of l x _ a r1 e1) (nks_of l xs _ b r2 e2)
      · cases e
end
end
section
variable {X : Cx} {pins : List (Addr × Obj)} {σ : St} {H : Hp} {s : Shared}

end
abbrev EntN := NestedKey × Addr × Value
def KeysN (K : PySem.W.Frag) (H : Hp) (xs : List EntN) : Prop := ∀ x ∈ xs, Nk K H x.1 (.ref x.2.1) ∧ x.1.depth ≤ 8
def nGet (k : NestedKey) : List D → List D → Option D
  | q :: ks, v :: vs => if nkOf q = some k then some v else nGet k ks vs
  | _, _ => none
def nHas (k : NestedKey) (ks : List D) : Bool := ks.any fun q => decide (nkOf q = some k)
def nPut (k : NestedKey) (y d : D) (ks vs : List D) : List D × List D :=
  if nHas k ks = true then (ks, (ks.zip vs).map fun q => if nkOf q.1 = some k then d else q.2) else (ks ++ [y], vs ++ [d])
structure EntO (K : PySem.W.Frag) (g : Gh) (ks ds : List D) (xs : List EntN) (vs : List V) : Prop where
  nk : ks.map nkOf = xs.map (fun x => some x.1)
  dp : ∀ x ∈ xs, x.1.depth ≤ 8
  rk : RelDs K g ks (xs.map fun x => V.ref x.2.1)
  vl : Vals vs (xs.map (·.2.2))
  rd : RelDs K g ds vs
section
variable {K : PySem.W.Frag} {g : Gh} {S : Sto} {H : Hp}
theorem EntO.keys {ks ds : List D} {xs : List EntN} {vs : List V} (l : Rl K g S H) (h : EntO K g ks ds xs vs) : KeysN K H xs := by
  obtain ⟨nk, dp, rk, _, _⟩ := h
  have : ∀ {ks : List D} {xs : List EntN}, ks.map nkOf = xs.map (fun x => some x.1) → RelDs K g ks (xs.map fun x => V.ref x.2.1) → ∀ x ∈ xs, Nk K H x.1 (.ref x.2.1) := by
    intro ks
    induction ks with
    | nil => intro xs e _ x hx; cases xs with
      | nil => cases hx
      | cons _ _ => simp at e
    | cons q ks ih =>
      intro xs e r x hx
      cases xs with
      | nil => cases hx
      | cons z xs =>
        simp only [List.map_cons, List.cons.injEq] at e
        cases r with
        | cons r1 r2 =>
          rcases List.mem_cons.mp hx with rfl | hx
          · exact nk_of l _ _ _ r1 e.1
          · exact ih e.2 r2 x hx
  exact fun x hx => ⟨this nk rk x hx, dp x hx⟩
theorem EntO.get {k : NestedKey} : ∀ {ks ds : List D} {xs : List EntN} {vs : List V}, EntO K g ks ds xs vs → (nGet k ks ds = none ∧ atKey xs k = none) ∨ ∃ d p v, nGet k ks ds = some d ∧ atKey xs k = some p ∧ RelV v p.2 ∧ RelD K g d v
  | [], _, [], _, _ => .inl ⟨rfl, rfl⟩
  | [], _, _ :: _, _, h => by have := h.nk; simp at this
  | _ :: _, _, [], _, h => by have := h.nk; simp at this
  | q :: ks, ds, x :: xs, vs, h => by
    obtain ⟨nk, dp, rk, vl, rd⟩ := h
    simp only [List.map_cons, List.cons.injEq] at nk
    cases rk with
    | cons rk1 rk2 =>
      cases vl with
      | cons v1 v2 =>
        cases rd with
        | @cons d0 _ ds' _ r1 r2 =>
          by_cases e : x.1 = k
          · right
            refine ⟨d0, x.2, _, ?_, ?_, v1, r1⟩
            · show (if nkOf q = some k then some d0 else _) = _
              rw [if_pos (by rw [nk.1, e])]
            · simp [atKey, List.find?_cons, e]
          · have e1 : nGet k (q :: ks) (d0 :: ds') = nGet k ks ds' := by
              show (if nkOf q = some k then some d0 else _) = _
              rw [if_neg (by rw [nk.1]; exact fun z => e (Option.some.inj z))]
            have e2 : atKey (x :: xs) k = atKey xs k := by simp [atKey, List.find?_cons, e]
            rw [e1, e2]
            exact EntO.get ⟨nk.2, fun y hy => dp y (List.mem_cons_of_mem _ hy), rk2, v2, r2⟩
theorem EntO.len {ks ds : List D} {xs : List EntN} {vs : List V} (h : EntO K g ks ds xs vs) : ks.length = xs.length ∧ ds.length = xs.length := by
  have h1 := congrArg List.length h.nk
  have h2 := h.vl.length
  have h3 := h.rd.length
  simp only [List.length_map] at h1 h2
  omega
theorem EntO.has {k : NestedKey} {ks ds : List D} {xs : List EntN} {vs : List V} (h : EntO K g ks ds xs vs) : nHas k ks = (atKey xs k).isSome := by
  have : ∀ {ks : List D} {xs : List EntN}, ks.map nkOf = xs.map (fun x => some x.1) → nHas k ks = (atKey xs k).isSome := by
    intro ks
    induction ks with
    | nil => intro xs e; cases xs with
      | nil => rfl
      | cons _ _ => simp at e
    | cons q ks ih =>
      intro xs e
      cases xs with
      | nil => simp at e
      | cons x xs =>
        simp only [List.map_cons, List.cons.injEq] at e
        have i := ih e.2
        unfold nHas at i ⊢
        rw [List.any_cons, i, e.1]
        by_cases c : x.1 = k
        · simp [atKey, List.find?_cons, c]
        · have c' : ¬ some x.1 = some k := fun z => c (Option.some.inj z)
          simp [atKey, List.find?_cons, c, c']
  exact this h.nk
theorem EntO.repl {k : NestedKey} {d : D} {v : V} {u : Value} (rd0 : RelD K g d v) (rv0 : RelV v u) : ∀ {ks ds : List D} {xs : List EntN} {vs : List V}, EntO K g ks ds xs vs →
    ∃ ws, EntO K g ks ((ks.zip ds).map fun q => if nkOf q.1 = some k then d else q.2) (xs.map (putAt k u)) ws
  | [], _, [], _, h => ⟨[], ⟨rfl, fun _ hx => (nomatch hx), .nil, .nil, .nil⟩⟩
  | [], _, _ :: _, _, h => by have := h.nk; simp at this
  | _ :: _, _, [], _, h => by have := h.nk; simp at this
  | q :: ks, ds, x :: xs, vs, h => by
    obtain ⟨nk, dp, rk, vl, rd⟩ := h
    simp only [List.map_cons, List.cons.injEq] at nk
    cases rk with
    | cons rk1 rk2 =>
      cases vl with
      | @cons v' _ vs' _ v1 v2 =>
        cases rd with
        | cons r1 r2 =>
          obtain ⟨ws, i⟩ := EntO.repl (k := k) rd0 rv0 (EntO.mk nk.2 (fun y hy => dp y (List.mem_cons_of_mem _ hy)) rk2 v2 r2)
          by_cases e : x.1 = k
          · have e1 : putAt k u x = (x.1, x.2.1, u) := by unfold putAt; rw [if_pos e]
            refine ⟨v :: ws, ⟨?_, ?_, ?_, ?_, ?_⟩⟩
            · rw [List.map_cons, List.map_cons, List.map_cons, e1, i.nk, nk.1]
            · rw [List.map_cons, e1]
              intro y hy
              rcases List.mem_cons.mp hy with rfl | hy
              · exact dp x (List.mem_cons_self)
              · exact i.dp y hy
            · rw [List.map_cons, List.map_cons, e1]; exact .cons rk1 i.rk
            · rw [List.map_cons, List.map_cons, e1]; exact .cons rv0 i.vl
            · simp only [List.zip_cons_cons, List.map_cons]
              rw [if_pos (by rw [nk.1, e])]
              exact .cons rd0 i.rd
          · have e1 : putAt k u x = x := by unfold putAt; rw [if_neg e]
            refine ⟨v' :: ws, ⟨?_, ?_, ?_, ?_, ?_⟩⟩
            · rw [List.map_cons, List.map_cons, List.map_cons, e1, i.nk, nk.1]
            · rw [List.map_cons, e1]
              intro y hy
              rcases List.mem_cons.mp hy with rfl | hy
              · exact dp _ (List.mem_cons_self)
              · exact i.dp y hy
            · rw [List.map_cons, List.map_cons, e1]; exact .cons rk1 i.rk
            · rw [List.map_cons, List.map_cons, e1]; exact .cons v1 i.vl
            · simp only [List.zip_cons_cons, List.map_cons]
              rw [if_neg (by rw [nk.1]; exact fun z => e (Option.some.inj z))]
              exact .cons r1 i.rd
theorem EntO.put {k : NestedKey} {y d : D} {b : Addr} {v : V} {u : Value} {ks ds : List D} {xs : List EntN} {vs : List V} (h : EntO K g ks ds xs vs) (ky : nkOf y = some k) (hd : k.depth ≤ 8) (ry : RelD K g y (.ref b)) (rd0 : RelD K g d v) (rv0 : RelV v u) :
    ∃ ws, EntO K g (nPut k y d ks ds).1 (nPut k y d ks ds).2 (storedH xs k b u) ws := by
  unfold nPut storedH
  rw [h.has]
  cases q : (atKey xs k).isSome with
  | true => exact h.repl rd0 rv0
  | false =>
    obtain ⟨nk, dp, rk, vl, rd⟩ := h
    refine ⟨vs ++ [v], ⟨?_, ?_, ?_, ?_, ?_⟩⟩
    · simp [nk, ky]
    · intro x hx
      simp only [Bool.false_eq_true, if_false] at hx
      rcases List.mem_append.mp hx with hx | hx
      · exact dp x hx
      · rw [List.mem_singleton.mp hx]; exact hd
    · simp only [Bool.false_eq_true, if_false, List.map_append]
      exact rk.append (.cons ry .nil)
    · simp only [Bool.false_eq_true, if_false, List.map_append]
      exact vl.append (.cons rv0 .nil)
    · exact rd.append (.cons rd0 .nil)
end

open PySem PySem.Spec PyProof.Rows He
theorem EntO.monoW {K : PySem.W.Frag} {g g' : Gh} {ks ds : List D} {xs : List EntN} {vs : List V} (e : ExtW g g') (h : EntO K g ks ds xs vs) : EntO K g' ks ds xs vs := ⟨h.nk, h.dp, h.rk.monoW e, h.vl, h.rd.monoW e⟩
theorem EntO.eqG {K : PySem.W.Frag} {g g' : Gh} {ks ds : List D} {xs : List EntN} {vs : List V} (h : EntO K g ks ds xs vs) (hG : g'.G = g.G) (hm : g'.m = g.m) (hs : g'.sz = g.sz) : EntO K g' ks ds xs vs := ⟨h.nk, h.dp, h.rk.eqG hG hm hs, h.vl, h.rd.eqG hG hm hs⟩
open PySem PySem.Spec PyProof.Rows He GenW
structure GLoop (X : Cx) (pins : List (Addr × Obj)) (σ : L2.St) (H : Hp) (vs : List V) (l L it D C a : Addr) (g : Nat) (i : Nat) (s : Shared) : Prop where
  inv : Inv X pins σ H s
  lst : SqL X.K H l vs
  fL : FpOk X pins H L
  fI : FpOk X pins H it
  fD : FpOk X pins H D
  fC : FpOk X pins H C
  LI : L ≠ it
  LD : L ≠ D
  LC : L ≠ C
  ID : it ≠ D
  IC : it ≠ C
  DC : D ≠ C
  aL : a ≠ L
  aI : a ≠ it
  aD : a ≠ D
  aC : a ≠ C
  ns : ∃ m, s.heap.Ns L m
  iter : s.heap.IsListIter it l i
  own : ∃ (acc : Array Value) (c : Nat), s.heap.get? D = some (lstObj acc c) ∧ Vals (vs.take i) acc.toList
  nsC : ∃ m, s.heap.Ns C m
  gen : s.heap.IsGen a g
section
variable {X : Cx} {pins : List (Addr × Obj)} {σ : L2.St} {H : Hp} {vs : List V} {l L it D C a : Addr} {g : Nat} {P : List V → Hp → Prop} {Er : Value → Shared → Prop} {i : Nat} {s : Shared}
theorem IsGen.but {h h' : Heap} {a b : Addr} {g : Nat} (x : h.IsGen a g) (hs : ∀ c o, c ≠ b → h.get? c = some o → h'.get? c = some o) (ne : a ≠ b) : h'.IsGen a g := by
  obtain ⟨o, nm, qn, ho, r⟩ := x
  exact ⟨o, nm, qn, hs a o ne ho, r⟩
theorem Ns.but {h h' : Heap} {a b : Addr} {m : Str → Option Value} (x : h.Ns a m) (hs : ∀ c o, c ≠ b → h.get? c = some o → h'.get? c = some o) (ne : a ≠ b) : h'.Ns a m := by
  obtain ⟨o, es, ep, ho, r⟩ := x
  exact ⟨o, es, ep, hs a o ne ho, r⟩
theorem GLoop.next {h' : Heap} (G : GLoop X pins σ H vs l L it D C a g i s) (hi : i < vs.length) (e : h'.IsListIter it l (i + 1)) (sb : Heap.SameBut it s.heap h') :
    Inv X pins σ H { s with heap := h' } ∧ (∃ m, h'.Ns L m) ∧ (∃ (acc : Array Value) (c : Nat), h'.get? D = some (lstObj acc c) ∧ Vals (vs.take i) acc.toList) ∧ (∃ m, h'.Ns C m) ∧ h'.IsGen a g := by
  have k : ∀ c o, c ≠ it → s.heap.get? c = some o → h'.get? c = some o := fun c o hc q => (sb.2 c hc).trans q
  obtain ⟨f0, f1, f2, f3, f4, f5⟩ := G.fI
  refine ⟨G.inv.turned (t' := s.toks) (fun b o hb q => k b o hb q) f0 f1 f3 f4 f5, ?_, ?_, ?_, IsGen.but G.gen k G.aI⟩
  · obtain ⟨m, hm⟩ := G.ns
    exact ⟨m, Ns.but hm k G.LI⟩
  · obtain ⟨acc, c, h1, h2⟩ := G.own
    exact ⟨acc, c, k D _ G.ID.symm h1, h2⟩
  · obtain ⟨m, hm⟩ := G.nsC
    exact ⟨m, Ns.but hm k G.IC.symm⟩
end
open PySem PySem.Spec PyProof.Rows He




@[simp] theorem wp_FldAdd {cs : List Str} {f : Str} {fo fv : EF} {r : Env} {S : Sto} {L : Fl → Env → Sto → Prop} {Z : D → Env → Sto → Prop} :
    wp (sFldAdd cs f fo fv r S) L Z = wp (fo r S) (fun x r S => got (fldOf cs f S x) fun q => wp (fv r S) (fun y r S => got ((addI q.2 y).bind fun z => putC q.1 f S x z) fun S' => L .nx r S') Z) Z := by
  unfold sFldAdd
  rw [wp_bind]
  congr 1
  funext x r S
  cases fldOf cs f S x with
  | none => rfl
  | some q =>
    simp only [wp_bind]
    show _ = wp (fv r S) _ Z
    congr 1
    funext y r S
    cases (addI q.2 y).bind fun z => putC q.1 f S x z with
    | none => rfl
    | some S' => rfl
open PySem PySem.Spec PyProof.Rows He


@[simp] theorem wp_AsgN {fe : EF} {b : Bs} {r : Env} {S : Sto} {L : Fl → Env → Sto → Prop} {Z : D → Env → Sto → Prop} :
    wp (sAsgN fe b r S) L Z = wp (fe r S) (fun d r S => got (b d r S) fun q => L .nx q.1 q.2) Z := by
  unfold sAsgN
  rw [wp_bind]
  congr 1
  funext d r S
  cases b d r S <;> rfl
open PySem PySem.Spec PyProof.Rows He GenW
section
variable {P : Program} {w : World} {s : Shared}
structure Asks (P : Program) (w : World) (s : Shared) (R : Bool → Prop) (m : Sem Bool) : Prop where
  ans : ∀ {A : Around} {E : Value → Shared → Prop} {Q : Bool → Shared → Prop}, (∀ x, R x → Q x s) → wpAny (model P w) A m Q E s
theorem Asks.say {R : Bool → Prop} {b : Bool} (h : R b) : Asks P w s R (pure b) := ⟨fun q => wpAny_pure (q b h)⟩
theorem asks_hash {n : Nat} {a : Addr} {o : Obj} {vs : Array Value} {m : Nat} (ho : s.heap.get? a = some o) (hc : o.cls = .type "tuple") (hd : o.data = .seq vs m) (each : ∀ v ∈ vs.toList, Asks P w s (fun _ => True) (hashByValue n v)) :
    Asks P w s (fun _ => True) (hashByValue (n + 1) (.ref a)) := ⟨fun {A E Q} q => by
  unfold hashByValue
  refine wpAny_bind (wpAny_specialOf (T := "tuple") ⟨o, ho, hc⟩ F.slot_tuple_hash.lookup ?_)
  refine wpAny_bind (m := seqItems? (.ref a)) (wpAny_seqItems ho hd (wpAny_bind ?_))
  show wpAny _ _ (forIn vs _ _) _ _ s
  rw [← Array.forIn_toList]
  refine wpAny_forIn_list _ (fun rest r s' => (s' = s ∧ r.1 = none) ∧ ∀ v ∈ rest, Asks P w s (fun _ => True) (hashByValue n v)) _ ?_ ?_ _ _ ⟨⟨rfl, rfl⟩, each⟩
  · rintro v rest r s' ⟨⟨rfl, hr⟩, all⟩
    refine wpAny_bind ((all v (List.mem_cons_self ..)).ans fun b _ => ?_)
    cases b
    · exact wpAny_pure (wpAny_pure (q false trivial))
    · exact wpAny_pure ⟨⟨rfl, rfl⟩, fun u hu => all u (List.mem_cons_of_mem _ hu)⟩
  · rintro ⟨r1, _⟩ s' ⟨⟨rfl, hr⟩, _⟩
    obtain rfl : r1 = none := hr
    exact wpAny_pure (q true trivial)⟩
theorem asks_class {n : Nat} {a : Addr} {o : Obj} {vs : Array Value} {m : Nat} (ho : s.heap.get? a = some o) (hc : o.cls = .type "tuple") (hd : o.data = .seq vs m) (each : ∀ v ∈ vs.toList, Asks P w s (· = false) (ofAClassStatement n v)) :
    Asks P w s (· = false) (ofAClassStatement (n + 1) (.ref a)) := ⟨fun {A E Q} q => by
  unfold ofAClassStatement
  refine wpAny_bind (wpAny_typeOf (T := "tuple") ⟨o, ho, hc⟩ ?_)
  dsimp only
  have e : (("tuple" : String) == "tuple") = true := by decide
  rw [e]
  refine wpAny_bind ?_
  refine wpAny_pure ?_
  refine wp_if_neg (by decide) ?_
  refine wpAny_bind (m := seqItems? (.ref a)) (wpAny_seqItems ho hd (wpAny_bind ?_))
  show wpAny _ _ (forIn vs _ _) _ _ s
  rw [← Array.forIn_toList]
  refine wpAny_forIn_list _ (fun rest r s' => (s' = s ∧ r.1 = none) ∧ ∀ v ∈ rest, Asks P w s (· = false) (ofAClassStatement n v)) _ ?_ ?_ _ _ ⟨⟨rfl, rfl⟩, each⟩
  · rintro v rest r s' ⟨⟨rfl, hr⟩, all⟩
    refine wpAny_bind ((all v (List.mem_cons_self ..)).ans fun b hb => ?_)
    subst hb
    exact wpAny_pure ⟨⟨rfl, rfl⟩, fun u hu => all u (List.mem_cons_of_mem _ hu)⟩
  · rintro ⟨r1, _⟩ s' ⟨⟨rfl, hr⟩, _⟩
    obtain rfl : r1 = none := hr
    exact wpAny_pure (q false rfl)⟩
mutual
theorem key_hash : ∀ (k : NestedKey) (v : Value) (n : Nat), NestedIs s.heap k v → Asks P w s (fun _ => True) (hashByValue n v)
  | .none, _, n, h => by cases h; cases n <;> exact Asks.say trivial
  | .num _, _, n, h => by cases h <;> cases n <;> exact Asks.say trivial
  | .text _, _, n, h => by cases h; cases n <;> exact Asks.say trivial
  | .tup ks, _, 0, h => by cases h; exact Asks.say trivial
  | .tup ks, _, n + 1, h => by
    cases h with
    | tup ho hc hd ha => exact asks_hash ho hc hd (keys_hash ks _ n ha)
theorem keys_hash : ∀ (ks : List NestedKey) (vs : List Value) (n : Nat), NestedAll s.heap ks vs → ∀ v ∈ vs, Asks P w s (fun _ => True) (hashByValue n v)
  | [], _, n, h, v, hv => by cases h; cases hv
  | k :: ks, _, n, h, v, hv => by
    cases h with
    | cons h1 h2 => exact (List.mem_cons.mp hv).elim (fun e => e ▸ key_hash k _ n h1) (keys_hash ks _ n h2 v)
end
mutual
theorem key_class : ∀ (k : NestedKey) (v : Value) (n : Nat), NestedIs s.heap k v → k.depth ≤ n → Asks P w s (· = false) (ofAClassStatement n v)
  | .none, _, n, h, _ => by cases h; cases n <;> exact Asks.say rfl
  | .num _, _, n, h, _ => by cases h <;> cases n <;> exact Asks.say rfl
  | .text _, _, n, h, _ => by cases h; cases n <;> exact Asks.say rfl
  | .tup ks, _, 0, _, hn => absurd hn (by simp [NestedKey.depth])
  | .tup ks, _, n + 1, h, hn => by
    cases h with
    | tup ho hc hd ha => exact asks_class ho hc hd (keys_class ks _ n ha (by simpa [NestedKey.depth] using hn))
theorem keys_class : ∀ (ks : List NestedKey) (vs : List Value) (n : Nat), NestedAll s.heap ks vs → NestedKey.depthAll ks ≤ n → ∀ v ∈ vs, Asks P w s (· = false) (ofAClassStatement n v)
  | [], _, n, h, _, v, hv => by cases h; cases hv
  | k :: ks, _, n, h, hn, v, hv => by
    have hn' := Nat.max_le.mp (show max k.depth (NestedKey.depthAll ks) ≤ n from hn)
    cases h with
    | cons h1 h2 => exact (List.mem_cons.mp hv).elim (fun e => e ▸ key_class k _ n h1 hn'.1) (keys_class ks _ n h2 hn'.2 v)
end
end

section
variable {P : Program} {w : World} {A : Around} {E : Value → Shared → Prop} {s : Shared}
theorem unseen {k : NestedKey} {b : Addr} (hk : isN P w s.heap k b) {ys : List Value} (hy : ∀ y ∈ ys, ∃ k' c, y = .ref c ∧ isN P w s.heap k' c) : Asks P w s (· = false) (searchCouldBeSeen (.ref b) ys) := ⟨fun {A E Q} q => by
  unfold searchCouldBeSeen
  refine wpAny_bind (wpAny_forIn_list _ (fun rest r s' => (s' = s ∧ r.1 = none) ∧ ∀ y ∈ rest, ∃ k' c, y = .ref c ∧ isN P w s.heap k' c) _ ?_ ?_ _ _ ⟨⟨rfl, rfl⟩, hy⟩)
  · rintro v rest r s' ⟨⟨rfl, hr⟩, all⟩
    obtain ⟨k', c, rfl, hc⟩ := all v (List.mem_cons_self ..)
    have next : ∀ y ∈ rest, ∃ k' c, y = Value.ref c ∧ isN P w s'.heap k' c := fun u hu => all u (List.mem_cons_of_mem _ hu)
    by_cases same : (b == c || (carriedByValue (.ref b) && carriedByValue (.ref c))) = true
    · exact wp_if_pos same (wpAny_pure ⟨⟨rfl, rfl⟩, next⟩)
    · refine wp_if_neg same (wpAny_bind ((nestedKind P w).quiet hk (wp_if_neg (by decide) (wpAny_bind ((nestedKind P w).quiet hc (wp_if_neg (by decide) ?_))))))
      refine wpAny_bind ((key_class k _ 8 hk.1 hk.2).ans fun x hx => ?_)
      subst hx
      refine wp_if_neg (by decide) (wpAny_bind ((key_class k' _ 8 hc.1 hc.2).ans fun x hx => ?_))
      subst hx
      exact wp_if_neg (by decide) (wpAny_pure ⟨⟨rfl, rfl⟩, next⟩)
  · rintro ⟨r1, _⟩ s' ⟨⟨rfl, hr⟩, _⟩
    obtain rfl : r1 = none := hr
    exact wpAny_pure (q false rfl)⟩
end
abbrev stepN (m : Nat) (h : Int) (c : Nat) : SetTable.Probe := nth m (runAt m (SetTable.bits h % (m + 1)) (SetTable.bits h)) c
theorem stepN_add (m : Nat) (h : Int) (c q : Nat) : nth m (stepN m h c) q = stepN m h (c + q) := (nth_add m c _ q).symm
theorem stepN_dummy (m : Nat) (h : Int) : ∀ c, (stepN m h c).dummy = none
  | 0 => rfl
  | c + 1 => by
    have e := stepN_dummy m h c
    rw [show stepN m h (c + 1) = adv m (stepN m h c) from nth_succ ..]
    unfold adv
    split <;> exact e
theorem probe_way {t : SetTable} {hs : List Int} (T : TabOk t hs) (f : Nat → Int) {h : Int} {K c : Nat} (le : c ≤ K) (far : K < 10 * SetTable.turns t.mask) (free : way t.mask h K ∉ t.place.toList) (taken : ∀ q, q < K → way t.mask h q ∈ t.place.toList) :
    (∃ q i, (c ≤ q ∧ q < K) ∧ t.place.toList[i]? = some (way t.mask h q) ∧ f i = h ∧ (∀ q' i', c ≤ q' → q' < q → t.place.toList[i']? = some (way t.mask h q') → f i' ≠ h) ∧
      t.probe f h (stepN t.mask h c) = some (.candidate (way t.mask h q) i (stepN t.mask h (q + 1)))) ∨
    ((∀ q' i', c ≤ q' → q' < K → t.place.toList[i']? = some (way t.mask h q') → f i' ≠ h) ∧ t.probe f h (stepN t.mask h c) = some (.empty (way t.mask h K) none)) := by
  have shift : ∀ q, (nth t.mask (stepN t.mask h c) q).j = way t.mask h (c + q) := fun q => congrArg SetTable.Probe.j (stepN_add ..)
  have at_ : ∀ q, c ≤ q → (nth t.mask (stepN t.mask h c) (q - c)).j = way t.mask h q := fun q hq => (shift _).trans (by rw [show c + (q - c) = q by omega])
  rcases go_spec t T.ris T.dm f h (10 * SetTable.turns t.mask) (K - c) (stepN t.mask h c) (stepN_dummy ..) (by omega) (fun q hq => by rw [shift]; exact taken _ (by omega)) (by rw [at_ K le]; exact free) with ⟨q, i, hq, hi, hf, no, e⟩ | ⟨no, e⟩
  · refine .inl ⟨c + q, i, ⟨by omega, by omega⟩, by rw [← shift]; exact hi, hf, fun q' i' h1 h2 h3 => no (q' - c) i' (by omega) (by rw [at_ q' h1]; exact h3), ?_⟩
    rw [shift, stepN_add] at e
    exact e
  · refine .inr ⟨fun q' i' h1 h2 h3 => no (q' - c) i' (by omega) (by rw [at_ q' h1]; exact h3), ?_⟩
    rw [at_ K le] at e
    exact e


def NS (P : Program) (w : World) (h : Heap) (a : Addr) (L : List (Addr × NestedKey)) : Prop := ∃ o es ep t, NSet P w h a L o es ep t ∧ L.length * 5 < t.mask * 3
section
variable {P : Program} {w : World} {A : Around} {E : Value → Shared → Prop} {s : Shared} {h : Heap} {a x : Addr} {L : List (Addr × NestedKey)} {o : Obj} {es : Array (Int × Value)} {ep : Nat} {t : SetTable} {k : NestedKey}
theorem NSet.size (N : NSet P w h a L o es ep t) : es.size = L.length := by simpa using congrArg List.length N.ents
theorem NSet.fits (N : NSet P w h a L o es ep t) (le : L.length ≤ t.mask) : t.fits es.size = true := by
  have h1 : t.place.size = L.length := by simpa using N.tab.sz
  have h2 : t.dummies.size = 0 := by rw [N.tab.dm]; rfl
  simp only [SetTable.fits, SetTable.fill, Bool.and_eq_true, beq_iff_eq, decide_eq_true_eq, N.size, h1]
  exact ⟨trivial, by omega⟩
theorem NSet.at (N : NSet P w h a L o es ep t) {i : Nat} {p : Addr × NestedKey} (e : L[i]? = some p) : es[i]? = some (p.2.hash w, .ref p.1) := by
  rw [← Array.getElem?_toList, N.ents, List.getElem?_map, e]
  rfl
theorem isN_but {h' : Heap} (ho : h.get? a = some o) (hd : o.data = .set es ep t) (sb : Heap.SameBut a h h') (y : isN P w h k x) : isN P w h' k x :=
  nestedKind_stays.stays (fun c u vs n e ed => (sb.2 c fun z => by
    subst z
    cases ho.symm.trans e
    cases hd.symm.trans ed).trans e) y
theorem NSet.look (N : NSet P w s.heap a L o es ep t) (le : L.length ≤ t.mask) (hx : isN P w s.heap k x) (hu : A.units + 8 < cLine) {K : Nat} (far : K < 10 * SetTable.turns t.mask) (free : way t.mask (k.hash w) K ∉ t.place.toList)
    (taken : ∀ q, q < K → way t.mask (k.hash w) q ∈ t.place.toList) {Q : SetFound → Shared → Prop} (old : k ∈ L.map Prod.snd → Q (.there none) s) (new : k ∉ L.map Prod.snd → Q (.free (way t.mask (k.hash w) K) false) s) (f : Nat) :
    ∀ (c : Nat) (st : Option SetTable.Probe), st.getD (t.probeStart (k.hash w)) = stepN t.mask (k.hash w) c → c ≤ K → K < f + c → (∀ (i : Nat) p, L[i]? = some p → p.2 = k → ∃ q, (c ≤ q ∧ q < K) ∧ t.place.toList[i]? = some (way t.mask (k.hash w) q)) →
      wpAny (model P w) A (setSearchFrom a (.ref x) (k.hash w) true f st) Q E s := by
  induction f with
  | zero => exact fun c _ _ h1 h2 => absurd h2 (by omega)
  | succ f ih =>
    intro c st e hc hf ahead
    have lists : ∀ {i : Nat}, i < t.place.toList.length → i < L.length := fun {i} hi => by
      have : t.place.size = L.length := by simpa using N.tab.sz
      rw [Array.length_toList] at hi
      omega
    have hashes : ∀ {i : Nat} {p}, L[i]? = some p → (es[i]?.map (·.1)).getD 0 = p.2.hash w := fun {i p} hp => by rw [N.at hp]; rfl
    rw [setSearchFrom_succ]
    refine wpAny_bind (wpAny_setState_of N.obj N.data (N.fits le) ?_)
    dsimp only
    refine wp_if_neg (by unfold SetTable.gaveWay; rw [mask_odd N.tab.mok]; decide) ?_
    rcases probe_way N.tab (fun i => (es[i]?.map (·.1)).getD 0) hc far free taken with ⟨q, i, hq, hi, _, no, met⟩ | ⟨no, met⟩
    · -- an entry of the same hash
      rw [e, met]
      dsimp only
      obtain ⟨p, hp⟩ : ∃ p, L[i]? = some p := ⟨_, List.getElem?_eq_getElem (lists (List.getElem?_eq_some_iff.mp hi).1)⟩
      have mem := List.mem_of_getElem? hp
      have live : t.slot (way t.mask (k.hash w) q) = .live i := slot_live N.tab.ris hi
      have rest : wpAny (model P w) A (searchRest a (.ref x) (k.hash w) true f es t (way t.mask (k.hash w) q) i (stepN t.mask (k.hash w) (q + 1))) Q E s := by
        unfold searchRest
        rw [N.at hp]
        dsimp only
        refine wpAny_bind (wpAny_holding ((nestedKind P w).eqBool hu (N.keys p mem) hx (wpAny_bind (wpAny_setState_of N.obj N.data (N.fits le) ?_))))
        dsimp only
        by_cases same : p.2 = k
        · exact wp_if_pos (by simp [same]) (wpAny_pure (old (List.mem_map.mpr ⟨p, mem, same⟩)))
        · refine wp_if_neg (by simp [same]) ?_
          rw [sameMem]
          simp only [if_true, live, N.at hp]
          refine wpAny_bind (wpAny_isSame_ref_self (wpAny_bind (wpAny_pure ?_)))
          simp only [if_true]
          refine wp_if_neg (by simp [same]) (ih (q + 1) _ rfl (by omega) (by omega) fun i' p' hp' hk' => ?_)
          obtain ⟨r, hr, er⟩ := ahead i' p' hp' hk'
          refine ⟨r, ⟨?_, hr.2⟩, er⟩
          rcases Nat.lt_trichotomy r q with z | rfl | z
          · exact absurd ((hashes hp').trans (by rw [hk'])) (no r i' hr.1 z er)
          · have := slot_live N.tab.ris er
            rw [live] at this
            injection this with this
            subst this
            cases hp.symm.trans hp'
            exact absurd hk' same
          · exact z
      by_cases hl : t.led = true
      · exact wp_if_neg (by simp [hl]) rest
      · refine wp_if_pos (by simp [hl]) (wpAny_bind ((unseen hx fun y hy => ?_).ans fun b hb => by subst hb; exact wp_if_neg (by decide) rest))
        obtain ⟨z, hz, rfl⟩ := List.mem_map.mp hy
        have hz : z ∈ es.toList := Array.mem_toList_iff.mpr (show z ∈ es ∧ z.1 = k.hash w by simpa using hz).1
        rw [N.ents] at hz
        obtain ⟨p', hp', rfl⟩ := List.mem_map.mp hz
        exact ⟨p'.2, p'.1, rfl, N.keys p' hp'⟩
    · -- the free slot
      rw [e, met]
      dsimp only
      refine wpAny_pure (new fun hm => ?_)
      obtain ⟨p, hp, rfl⟩ := List.mem_map.mp hm
      obtain ⟨i, hi⟩ := List.getElem?_of_mem hp
      obtain ⟨r, hr, er⟩ := ahead i p hi rfl
      exact no r i hr.1 hr.2 er (hashes hi)
theorem all_at {α : Type} : ∀ l : List α, (List.range l.length).filterMap (fun i => l[i]?) = l
  | [] => rfl
  | x :: l => by
    have e := all_at l
    simp [List.range_succ_eq_map, List.filterMap_map, Function.comp_def, e]
theorem found_all (m : List Int) : ∀ l : List Nat, (∀ i ∈ l, i < m.length) → l.filterMap (fun i => m[i]?) = l.map fun i => m[i]?.getD 0
  | [], _ => rfl
  | i :: l, h => by
    have hi := h i (List.mem_cons_self ..)
    rw [List.filterMap_cons_some (List.getElem?_eq_getElem hi), List.map_cons, found_all m l fun j hj => h j (List.mem_cons_of_mem _ hj), List.getElem?_eq_getElem hi]
    rfl
theorem NSet.relay (N : NSet P w s.heap a L o es ep t) (le : L.length ≤ t.mask) {n M : Nat} (hn : SetTable.sizeAbove n = M + 1) (hM : MaskOk M) (room : L.length * 5 < M * 3) {Q : Unit → Shared → Prop}
    (q : ∀ h' L', Heap.SameBut a s.heap h' → NS P w h' a L' → L'.Perm L → Q () { s with heap := h' }) : wpAny (model P w) A (setRelay a n) Q E s := by
  have M128 : M < 128 := by rcases hM with e | e | e <;> omega
  obtain ⟨t', order, e, perm, T, em, el, _, _⟩ := relaid_ok t (hs := es.map (·.1)) (wanted := n) (M := M) (by rw [hn]; rfl) hM (by rw [Array.size_map, N.size]; omega)
  rw [Array.size_map, N.size] at perm
  -- the entries, in the order in which they are laid
  have pl : (order.toList.filterMap fun i => L[i]?).Perm L := (perm.filterMap _).trans (.of_eq (all_at L))
  have laid : (order.filterMap (es[·]?)).toList = (order.toList.filterMap fun i => L[i]?).map (setEnt w) := by
    rw [Array.toList_filterMap, List.map_filterMap]
    refine congrArg (fun f => List.filterMap f order.toList) (funext fun i => ?_)
    rw [← Array.getElem?_toList, N.ents, List.getElem?_map]
  have hashes : (order.toList.filterMap fun i => L[i]?).map (fun p => p.2.hash w) = order.toList.map fun i => (es.map (·.1)).getD i 0 := by
    have low : ∀ i ∈ order.toList, i < (L.map fun p => p.2.hash w).length := fun i hi => by
      rw [List.length_map]
      exact List.mem_range.mp (perm.mem_iff.mp hi)
    have e1 := found_all (L.map fun p => p.2.hash w) order.toList low
    rw [List.map_filterMap]
    refine (congrArg (fun f => List.filterMap f order.toList) (funext fun i => ?_)).trans (e1.trans (congrArg (fun f => List.map f order.toList) (funext fun i => ?_)))
    · rw [List.getElem?_map]
    · rw [Array.getD_eq_getD_getElem?, Array.getElem?_map, ← Array.getElem?_toList, N.ents, List.getElem?_map, List.getElem?_map]
      cases L[i]? <;> rfl
  rw [← hashes] at T
  generalize (order.toList.filterMap fun i => L[i]?) = L' at pl laid T
  have size : (order.filterMap (es[·]?)).size = L.length := by
    rw [← Array.length_toList, laid, List.length_map, pl.length_eq]
  rw [setRelay_eq]
  refine wpAny_bind (wpAny_setState_of N.obj N.data (N.fits le) ?_)
  dsimp only
  refine wp_if_neg (by rw [hn, sizeLine_eq]; omega) ?_
  rw [e]
  dsimp only
  refine wpAny_bind (wp_if_neg (by rw [size, N.size]; simp) (wpAny_pure ?_))
  dsimp only
  have sb := Heap.SameBut.update s.heap a (Obj.putSet (order.filterMap (es[·]?)) t')
  refine wpAny_storeSet_of N.obj N.data (q _ L' sb ⟨_, _, _, t', ⟨store_at N.obj N.data, ⟨N.exact.1, N.exact.2.1, N.exact.2.2⟩, rfl, laid, T, (pl.map _).nodup_iff.mpr N.diff, fun p hp => isN_but N.obj N.data sb (N.keys p (pl.mem_iff.mp hp)), by rw [el]; exact N.led⟩, ?_⟩ pl) ?_
  · rw [pl.length_eq, em]; exact room
  · rw [size, sizeLine_eq]; omega
theorem NSet.add (N : NSet P w s.heap a L o es ep t) (room : L.length * 5 < t.mask * 3) (few : L.length < 63) (hx : isN P w s.heap k x) (hu : A.units + 8 < cLine) {Q : Bool → Shared → Prop}
    (q : ∀ b h' L', Heap.SameBut a s.heap h' → NS P w h' a L' → (k ∈ L.map Prod.snd ∧ L' = L ∨ k ∉ L.map Prod.snd ∧ L'.Perm ((x, k) :: L)) → Q b { s with heap := h' }) :
    wpAny (model P w) A (setAddHashed a (.ref x) (k.hash w)) Q E s := by
  have le : L.length ≤ t.mask := by omega
  obtain ⟨K, far, free, taken⟩ := N.tab.first (by rw [List.length_map]; exact le) (k.hash w)
  have turns : 10 * SetTable.turns t.mask < 100000 := by
    unfold SetTable.turns
    rcases N.tab.mok with e | e | e <;> rw [e] <;> decide
  refine wpAny_holding ?_
  rw [show (100000 : Nat) = 99999 + 1 from rfl, setAddHashedIn_succ]
  refine wpAny_bind (wpAny_setState_of N.obj N.data (N.fits le) ?_)
  dsimp only
  refine wp_if_neg (by simp [byScan, Value.scannable]) (wpAny_bind ?_)
  refine N.look (s := s) le hx hu far free taken (fun hm => ?_) (fun hm => ?_) 100000 0 none rfl (Nat.zero_le _) (by omega) fun i p hp hk => ?_
  · exact wpAny_pure (q false s.heap L (.refl ..) ⟨o, es, ep, t, N, room⟩ (.inl ⟨hm, rfl⟩))
  · dsimp only
    refine wpAny_bind (wpAny_setState_of N.obj N.data (N.fits le) ?_)
    dsimp only
    obtain ⟨q1, q2, q3, q4, q5, _, _, _, q9⟩ := N.tab.put free taken
    generalize t.put (way t.mask (k.hash w) K) = z at q1 q3 q4 q5 q9 ⊢
    obtain ⟨t1, i⟩ := z
    dsimp only at q1 q3 q4 q5 q9 ⊢
    subst q1
    generalize SetTable.below t.place (way t.mask (k.hash w) K) = i at q2 q3 ⊢
    have pl : (L.take i ++ (x, k) :: L.drop i).Perm ((x, k) :: L) := List.perm_middle.trans (.of_eq (by rw [List.take_append_drop]))
    have ents : (SetTable.insertAt es i (k.hash w, Value.ref x)).toList = (L.take i ++ (x, k) :: L.drop i).map (setEnt w) := by
      rw [SetTable.toList_insertAt, N.ents, List.map_append, List.map_cons, List.map_take, List.map_drop]
      rfl
    replace q3 : TabOk t1 ((L.take i ++ (x, k) :: L.drop i).map fun p => p.2.hash w) := by
      rw [List.map_append, List.map_cons, List.map_take, List.map_drop]
      exact q3
    rw [List.length_map] at q9
    generalize L.take i ++ (x, k) :: L.drop i = L1 at pl ents q3
    have size : (SetTable.insertAt es i (k.hash w, Value.ref x)).size = L.length + 1 := by
      rw [← Array.length_toList, ents, List.length_map, pl.length_eq]
      rfl
    generalize SetTable.insertAt es i (k.hash w, Value.ref x) = es1 at ents size ⊢
    -- whatever is said of the hash
    have fin : ∀ b : Bool, wpAny (model P w) A (do
        storeSet a es1 (if b = true then t1 else { t1 with plain := false })
        if (!false && (if b = true then t1 else { t1 with plain := false }).tooFull) = true then setRelay a (SetTable.grown (es.size + 1))
        return true) Q E s := fun b => by
      have T2 : TabOk (if b = true then t1 else { t1 with plain := false }) (L1.map fun p => p.2.hash w) := by
        cases b
        · exact ⟨q3.ris, q3.dm, q3.sz, q3.mok, q3.bd, q3.reach⟩
        · exact q3
      have m2 : (if b = true then t1 else { t1 with plain := false }).mask = t.mask := by cases b <;> exact q4
      have l2 : (if b = true then t1 else { t1 with plain := false }).led = t.led := by cases b <;> exact q5
      have f2 : (if b = true then t1 else { t1 with plain := false }).fill = L.length + 1 := by cases b <;> exact q9
      generalize (if b = true then t1 else { t1 with plain := false }) = t2 at T2 m2 l2 f2 ⊢
      have sb := Heap.SameBut.update s.heap a (Obj.putSet es1 t2)
      have N2 : NSet P w (s.heap.update a (Obj.putSet es1 t2)) a L1 _ es1 (ep + 1) t2 := ⟨store_at N.obj N.data, ⟨N.exact.1, N.exact.2.1, N.exact.2.2⟩, rfl, ents, T2,
        (pl.map _).nodup_iff.mpr (List.nodup_cons.mpr ⟨hm, N.diff⟩), fun p hp => isN_but N.obj N.data sb ((List.mem_cons.mp (pl.mem_iff.mp hp)).elim (fun z => z ▸ hx) (N.keys p)), by rw [l2]; exact N.led⟩
      have len : L1.length = L.length + 1 := pl.length_eq
      refine wpAny_bind (wpAny_storeSet_of N.obj N.data ?_ (by rw [size, sizeLine_eq]; omega))
      have full : t2.tooFull = decide ((L.length + 1) * 5 ≥ t.mask * 3) := by unfold SetTable.tooFull; rw [f2, m2]
      by_cases big : (L.length + 1) * 5 ≥ t.mask * 3
      · refine wp_if_pos (by simp [full, big]) (wpAny_bind ?_)
        rw [N.size]
        have cases_ : (t.mask = 7 ∧ L.length = 4) ∨ (t.mask = 31 ∧ L.length = 18) := by rcases N.tab.mok with z | z | z <;> omega
        have go : ∀ M, SetTable.sizeAbove (SetTable.grown (L.length + 1)) = M + 1 → MaskOk M → (L.length + 1) * 5 < M * 3 →
            wpAny (model P w) A (setRelay a (SetTable.grown (L.length + 1))) (fun _ s' => wpAny (model P w) A (pure true) Q E s') E { s with heap := s.heap.update a (Obj.putSet es1 t2) } := fun M h1 h2 h3 =>
          N2.relay (s := { s with heap := s.heap.update a (Obj.putSet es1 t2) }) (by rw [len, m2]; omega) h1 h2 (by rw [len]; exact h3) fun h' L' sb' NS' pl' => wpAny_pure (q true h' L' (sb.trans sb') NS' (.inr ⟨hm, pl'.trans pl⟩))
        rcases cases_ with ⟨_, z⟩ | ⟨_, z⟩ <;> rw [z] at go ⊢
        · exact go 31 size_20 (.inr (.inl rfl)) (by decide)
        · exact go 127 size_76 (.inr (.inr rfl)) (by decide)
      · exact wp_if_neg (by simp [full, big]) (wpAny_pure (q true _ L1 sb ⟨_, es1, _, t2, N2, by rw [len, m2]; omega⟩ (.inr ⟨hm, pl⟩)))
    by_cases pn : t1.plain = true
    · rw [if_pos pn]
      exact wpAny_bind ((key_hash k _ 8 hx.1).ans fun b _ => fin b)
    · rw [if_neg pn]
      exact wpAny_bind (wpAny_pure (fin true))
  · -- where a key that is there stands
    have hi : i < t.place.toList.length := by
      have h1 : t.place.size = L.length := by simpa using N.tab.sz
      rw [Array.length_toList, h1]
      exact (List.getElem?_eq_some_iff.mp hp).1
    obtain ⟨r, hr, er⟩ := N.tab.before free (i := i) (by rw [List.getElem?_map, hp, ← hk]; rfl) (List.getElem?_eq_getElem hi)
    exact ⟨r, ⟨Nat.zero_le _, hr⟩, by rw [er]; exact List.getElem?_eq_getElem hi⟩
end
open PySem PySem.Spec PyProof.Rows He GenW


section
variable {P : Program} {w : World} {A : Around} {E : Value → Shared → Prop} {s : Shared} {a : Addr} {L : List (Addr × NestedKey)}
theorem NS.stay {h h' : Heap} (N : NS P w h a L) (kp : ∀ o, h.get? a = some o → h'.get? a = some o) (ks : ∀ p ∈ L, isN P w h' p.2 p.1) : NS P w h' a L :=
  let ⟨o, es, ep, t, n, r⟩ := N
  ⟨o, es, ep, t, ⟨kp o n.obj, n.exact, n.data, n.ents, n.tab, n.diff, ks, n.led⟩, r⟩
end
open PySem PySem.Spec PyProof.Rows He GenW




section
variable {fa : EF} {Z : D → Env → Sto → Prop} {r : Env} {S : Sto} {Q : D → Env → Sto → Prop}
@[simp] theorem wp_SortSetN : wp (eSortSetN fa r S) Q Z = wp (fa r S) (fun x r S => got ((lstOf S x).bind setRows) fun l => Q (.lst l) r S) Z := by
  unfold eSortSetN
  simp only [wp_bind]
  congr; funext x r S
  cases (lstOf S x).bind setRows <;> rfl
@[simp] theorem wp_SortSetNS : wp (eSortSetNS fa r S) Q Z = wp (fa r S) (fun x r S => got ((lstOf S x).bind setRows) fun l => Q (.ref S.length) r (S ++ [.lst l])) Z := by
  unfold eSortSetNS
  simp only [wp_bind]
  congr; funext x r S
  cases (lstOf S x).bind setRows <;> rfl
end
open PySem PySem.Spec PyProof.Rows He
section
open Builtin Builtin.ObjectAttr PySem.HandSPX
variable {prog : Program} {w : World} {A : Around} {E : Value → Shared → Prop} {R : Result → Shared → Prop} {h : Heap} {g : Array GenState} {d : Drawn} {t : Nat} {os : OsState}
variable {nm q : Str} {C N : Addr} {bs bm bmB : List Value} {hdct : Bool} {sn : List Str} {sub : List Value} {ab : Bool} {col : Option Bool} {dd : Option Addr} {k0 k1 k2 k3 k5 : Option Value} {B newId initId : String} {n : Str} {u : Value}
theorem newK_check {M : Model} (F : ExcBaseFacts B newId initId bmB) (hT : ∀ X : String, bm.contains (.type X) = bmB.contains (.type X)) {Q : Unit → Shared → Prop}
    (hC : h.get? C = some (excClassObj nm q C N bs bm hdct sn sub ab col dd k0 k1 k2 k3 k5 newId)) (fin : Q () ⟨h, g, d, t, os⟩) : wpAny M A (checkBuiltinCall newId ⟨[.ref C], [(n, u)]⟩) Q E ⟨h, g, d, t, os⟩ := by
  have c1 : (Value.ref C :: bm).contains (.type B) = true := by rw [List.contains_cons, hT, F.hasB, Bool.or_true]
  have c2 := F.noStar
  simp only [checkBuiltinCall, F.newKind, F.newSplit, F.newRow]
  repeat (first | refine wpAny_madeBy_exc hC ?_ | refine wpAny_staticBase_exc hC ?_ | refine wpAny_loadPart_at hC ?_ | (refine wpAny_isSubtype_exc hC ?_; rw [c1]) | simp only [bne_self_eq_false, Bool.false_eq_true, if_false] | wp_step)
  exact fin
theorem newK_run (F : ExcBaseFacts B newId initId bmB) (hT : ∀ X : String, bm.contains (.type X) = bmB.contains (.type X))
    (hC : h.get? C = some (excClassObj nm q C N bs bm hdct sn sub ab col dd k0 k1 k2 k3 k5 newId))
    (fin : R (.ok (.ret (.ref (h.objs.size + 1)))) ⟨(h.push (W.kdv_tup [])).push (excO C h.objs.size), g, d, t, os⟩) :
    codeAny (model prog w) A (.builtin newId ⟨[.ref C], [(n, u)]⟩) R ⟨h, g, d, t, os⟩ := by
  have e := F.ends
  have c1 : (Value.ref C :: bm).contains (.type B) = true := by rw [List.contains_cons, hT, F.hasB, Bool.or_true]
  have c2 : (Value.ref C :: bm).contains (.type "AttributeError") = false := by rw [List.contains_cons, hT, F.noAttr]; rfl
  have c3 : (Value.ref C :: bm).contains (.type "NameError") = false := by rw [List.contains_cons, hT, F.noName]; rfl
  refine codeAny_builtinAt F.entry ?_
  unfold Builtin.«BaseException.__new__»
  refine PyProof.Rows.wpAt_bind ?_
  show PyProof.Rows.wpAt _ _ _ (stack >>= _) _ _ _
  refine PyProof.Rows.wpAt_bind (PyProof.Rows.wpAt_stack fun p below => PySem.wpAt_of_wpAny ?_)
  wp_walk
  refine PySem.wpAt_of_wpAny ?_
  rw [F.owner]
  repeat (first | (with_reducible refine wpAny_isSubtype_exc hC ?_; first | rw [c1] | rw [c2] | rw [c3]) | with_reducible refine wpAny_loadPart_at hC ?_ | with_reducible refine wpAny_madeHere_exc F.canon hC ?_ | wp_step)
  show R _ _
  rw [Heap.size_push]
  exact fin
theorem typeK_check {M : Model} {Q : Unit → Shared → Prop} (hC : h.get? C = some (excClassObj nm q C N bs bm hdct sn sub ab col dd k0 k1 k2 k3 k5 newId))
    (fin : Q () ⟨h, g, d, t, os⟩) : wpAny M A (checkBuiltinCall "type.__call__" ⟨[.ref C], [(n, u)]⟩) Q E ⟨h, g, d, t, os⟩ := by
  have f := tc_sub
  have ty : (⟨h, g, d, t, os⟩ : Shared).TypeIs (.ref C) "type" := ⟨_, hC, rfl⟩
  simp only [checkBuiltinCall, tc_kind, tc_split]
  repeat (any_goals (first | assumption | with_reducible refine wpAny_loadPart_at hC ?_ | with_reducible refine wpAny_map ?_ | with_reducible refine wpAny_onRaise ?_ | wp_step))
theorem typeK_call (F : ExcBaseFacts B newId initId bmB) (hT : ∀ X : String, bm.contains (.type X) = bmB.contains (.type X)) {fI : Addr} {Q : Fin → Shared → Prop}
    (hC : h.get? C = some (excClassObj nm q C N bs bm hdct sn sub ab col dd k0 k1 k2 k3 k5 newId))
    (hi : W.Looks (model prog w) h (typeLookup (.ref C) "__init__") (some (.ref fI))) (hb : ∀ self, W.Looks (model prog w) h (bindSpecial (.ref fI) self) (.ref fI, [self]))
    (fin : codeAny (model prog w) A (.call (.ref fI) ⟨[.ref (h.objs.size + 1)], [(n, u)]⟩)
      (fun r s' => match r with | .ok (.ret v) => v = .none ∧ Q (.done (.ret (.ref (h.objs.size + 1)))) s' | .ok _ => False | .error e => E e s') ⟨(h.push (W.kdv_tup [])).push (excO C h.objs.size), g, d, t, os⟩) :
    wpAny (model prog w) A (Builtin.«type.__call__» ⟨[.ref C], [(n, u)]⟩) Q E ⟨h, g, d, t, os⟩ := by
  repeat (first | with_reducible refine wpAny_madeBy_exc hC ?_ | with_reducible refine wpAny_loadPart_at hC ?_ | wp_step)
  refine codeAny_call_builtin_code (Code.quiet_builtin _ F.quiet) (newK_check F hT hC ?_)
  refine newK_run F hT hC ?_
  show wpAny _ _ _ _ _ _
  have kk : ∀ b o, h.get? b = some o → ((h.push (W.kdv_tup [])).push (excO C h.objs.size)).get? b = some o := fun b o z => Heap.get?_push_of_some _ (Heap.get?_push_of_some _ z)
  have hC2 := kk _ _ hC
  have there : ((h.push (W.kdv_tup [])).push (excO C h.objs.size)).get? (h.objs.size + 1) = some (excO C h.objs.size) := by heap_get
  have cc : (Value.ref C :: bm).contains (.ref C) = true := by simp
  have i2 := hi.keeps kk
  have b2 := (hb (.ref (h.objs.size + 1))).keeps kk
  unfold isInstance
  repeat (first | (with_reducible refine wpAny_isSubtype_exc hC2 ?_; rw [cc]) | with_reducible refine wpAny_loadPart_at there ?_ | wp_step)
  show wpAny _ _ (typeLookup (.ref C) _) _ _ _
  refine i2.at (wpAny_holding (wpAny_bind (b2.at (wpAny_bind (wpAny_call (codeAny_mono fin fun r s' z => ?_))))))
  rcases r with x | (v | _ | _ | _) <;> first | exact z | exact z.elim | skip
  obtain ⟨rfl, z⟩ := z
  first | exact wpAny_pure (wpAny_pure z) | (wp_walk; exact z)
theorem callK_own (F : ExcBaseFacts B newId initId bmB) (hT : ∀ X : String, bm.contains (.type X) = bmB.contains (.type X)) {fI : Addr}
    (hC : h.get? C = some (excClassObj nm q C N bs bm hdct sn sub ab col dd k0 k1 k2 k3 k5 newId))
    (hi : W.Looks (model prog w) h (typeLookup (.ref C) "__init__") (some (.ref fI))) (hb : ∀ self, W.Looks (model prog w) h (bindSpecial (.ref fI) self) (.ref fI, [self]))
    (fin : codeAny (model prog w) (A.under (.builtin "type.__call__" ⟨[.ref C], [(n, u)]⟩)) (.call (.ref fI) ⟨[.ref (h.objs.size + 1)], [(n, u)]⟩) (W.InitBack (h.objs.size + 1) R)
      ⟨(h.push (W.kdv_tup [])).push (excO C h.objs.size), g, d, t, os⟩) :
    codeAny (model prog w) A (.call (.ref C) ⟨[], [(n, u)]⟩) R ⟨h, g, d, t, os⟩ := by
  have f1 := tc_lookup
  have f2 := tc_bind (.ref C)
  have ty : (⟨h, g, d, t, os⟩ : Shared).TypeIs (.ref C) "type" := ⟨_, hC, rfl⟩
  refine codeAny_of_tree ?_
  show wpAny _ _ (callAny (.ref C) _) _ _ _
  repeat (any_goals (first | assumption | with_reducible refine wpAny_loadPart_at hC ?_ | wp_step))
  refine ⟨rfl, codeAny_call_builtin_at (Code.quiet_builtin _ (by decide +kernel)) entry_typeCall (typeK_check hC (typeK_call F hT hC hi hb (codeAny_mono fin fun r s' z => ?_)))⟩
  rcases r with x | (v | _ | _ | _) <;> exact z
end
section
variable {X : Cx} {pins : List (Addr × Obj)} {σ : St} {H : Hp} {sI s' : Shared} {a : Addr} {oe : Obj}
theorem laidX (I : Inv X pins σ H sI) (k : ∀ b o, sI.heap.get? b = some o → s'.heap.get? b = some o) (os : s'.os = sI.os) (ag : AllBare s'.gens) (na : H a = none) (n0 : sI.heap.get? a = none) (he : s'.heap.get? a = some oe) :
    Inv X pins σ (upd H a (stillO oe a)) s' := by
  have nab : ∀ {b : Addr} {o : Obj}, sI.heap.get? b = some o → b ≠ a := fun {b o} e z => by rw [z, n0] at e; cases e
  have nah : ∀ {b : Addr} {o : HO}, H b = some o → b ≠ a := fun {b o} e z => by rw [z, na] at e; cases e
  have hok : HOk X.prog X.w (upd H a (stillO oe a)) s'.heap := fun b o q => by
    by_cases hb : b = a
    · subst hb
      rw [upd_same] at q
      cases q
      exact ⟨he, ⟨_, he⟩, ⟨_, he⟩, fun h1 h2 ⟨o, z⟩ k => ⟨o, k o z⟩⟩
    · rw [upd_ne hb] at q
      exact (I.hok b o q).stay (fun c v _ z => k c v z) (fun c z => by rw [upd_ne (nah z)]; exact z) fun c xs z => by rw [upd_ne (nah z)]; exact z
  have J := I.call (ch := []) (h' := s'.heap) (g' := s'.gens) (t' := s'.toks) (d' := s'.drawn) (H' := upd H a (stillO oe a))
    ⟨fun b o e _ _ _ => k b o e, fun b o e _ _ _ => ⟨o.slots, k b o e⟩, fun b o e n _ => by rw [upd_ne (nab e)]; exact n, fun b o e _ => ⟨o, k b o e⟩, fun b _ e => by rw [upd_ne (nah e)]; exact e, fun b _ _ e => by rw [upd_ne (nah e)]; exact e,
      fun b ps e => ⟨#[], by rw [upd_ne (nah e), e]; simp⟩⟩ hok ag (fun _ z => nomatch z)
  obtain ⟨a1, a2, a3, a4, a5⟩ := s'
  have e5 : a5 = sI.os := os
  subst e5
  exact J
theorem mk_ep {Q : VK} {t : XK} {u : Value} (hu : L2N.MkP X pins σ t u s') (q : ∀ cls d H', t cls d H' → ∀ (a : Addr) (oe : Obj), H' a = none → oe.cls = cls → oe.dict = d → (∃ vs, oe.data = .fields vs) → Q (.ref a) (upd H' a (stillO oe a))) : EP X pins σ Q u s' := by
  obtain ⟨a, oe, vs, sI, H', cls, d, rfl, J, k, n0, he, hz, hd, h1, na, os, ag, r, q2⟩ := hu
  exact ⟨.ref a, _, laidX J k os ag na n0 he, rfl, q cls d H' q2 a oe na hz.1 hz.2.1 ⟨vs, hd⟩⟩
end
def eMkX1 (C f code : Str) (fs : AF) : EF := fun r S => (fs r S).bind fun ds r S => match ds with
  | [d] => if bnd 0 d = true then .ok (exD C ["code", f] [.str code, d]) r S else .no
  | _ => .no
def eMkX0 (C code : Str) : EF := fun r S => .ok (exD C ["code"] [.str code]) r S
section
theorem mk1_post {K : PySem.W.Frag} {g : Gh} {S : Sto} {H1 H2 : Hp} {C : Str} {ns : List Str} {ds : List D} {ys : List V} {dx b : Addr} {oe : Obj}
    (l : Rl K g S H1) (h1 : H1 dx = none) (kp : ∀ b o, upd H1 dx (.xd (ns.zip ys)) b = some o → H2 b = some o) (hb : bndL 0 ds = true) (hn : ns.length = ds.length) (ry : RelDs K g ds ys)
    (na : H2 b = none) (hc : oe.cls = .ref (ga K C)) (hd : oe.dict = some dx) (hv : ∃ vs, oe.data = .fields vs) :
    ∃ g2, Ext g g2 ∧ Rl K g2 S (upd H2 b (stillO oe b)) ∧ RelD K g2 (exD C ns ds) (.ref b) := by
  have x1 := Gh.put_ext (d := xdD C ns ds) (l.free h1)
  have l1 : Rl K (g.put dx (xdD C ns ds)) S (upd H1 dx (.xd (ns.zip ys))) := l.put h1 ⟨dicB_of0 (by simp [bndL, bnd, hb]), ys, upd_same, hn, ry⟩
  have l2 : Rl K (g.put dx (xdD C ns ds)) S H2 := l1.keep kp
  have x2 := Gh.put_ext (d := exD C ns ds) (l2.free na)
  exact ⟨_, x1.trans x2, l2.put na ⟨dicB_of0 (by simp [bndL, bnd, hb]), oe, dx, upd_same, hc, hd, hv, Gh.put_at⟩, by simp [bndL, bnd, bndL_mono (Nat.zero_le _) _ hb], b, rfl, Gh.put_at⟩
variable {X : Cx} {W : WX} {e : Expr} {fs fk : AF} {C f code : Str} {p pos kp : Pos}
theorem mk1_sp {g : Gh} {S : Sto} {H1 : Hp} {d : D} {y : V} {Q : VK} {E : XK} (xc : Xcl X.K C [f]) (l : Rl X.K g S H1) (hb : bnd 0 d = true) (ry : RelD X.K g d y)
    (p : ∀ g' H' v, Ext g g' → Rl X.K g' S H' → RelD X.K g' (exD C ["code", f] [.str code, d]) v → Q v H') (a : Addr) (ha : H1 a = none) :
    spX1 X.K f code [.ref a, y] (upd H1 a (exo a (ga X.K C) none)) (fun v H2 => v = .non ∧ ∃ (dx : Addr) (fs : List (Str × V)), H2 a = some (exo a (ga X.K C) (some dx)) ∧ H2 dx = some (exd dx fs) ∧ H1 dx = none ∧
      ∀ (b : Addr) (oe : Obj), upd (del H2 a) dx (.xd fs) b = none → oe.cls = .ref (ga X.K C) → oe.dict = some dx → (∃ vs, oe.data = .fields vs) → Q (.ref b) (upd (upd (del H2 a) dx (.xd fs)) b (stillO oe b))) E := by
  refine ⟨a, ga X.K C, y, rfl, xc.oex, xc.no f (List.mem_singleton_self _), xc.noc, upd_same, fun dx h1 h2 => ⟨rfl, dx, [("code", .str code), (f, y)], ?_, upd_same, ?_, fun b oe nb hc hd hv => ?_⟩⟩
  · rw [upd_ne (Ne.symm h2), upd_same]
  · rw [upd_ne h2] at h1; exact h1
  · have h1' : H1 dx = none := by rw [upd_ne h2] at h1; exact h1
    obtain ⟨g2, x, l2, r2⟩ := mk1_post (C := C) (ns := ["code", f]) (ds := [.str code, d]) (ys := [.str code, y]) l h1' (fun b o hb => by
      by_cases nb2 : b = dx
      · rw [nb2, upd_same] at hb ⊢; exact hb
      · rw [upd_ne nb2] at hb
        have nb1 : b ≠ a := fun z => by rw [z, ha] at hb; cases hb
        rw [upd_ne nb2, del_ne nb1, upd_ne nb2, upd_ne nb1, upd_ne nb2, upd_ne nb1]
        exact hb) (by simp [bndL, bnd, hb]) rfl (.cons rfl (.cons ry .nil)) nb hc hd hv
    exact p g2 _ _ x l2 r2
theorem se_mkX1 (D : DefX1 X.prog X.w X.K X.mg X.base C f code) (hr : Room 2 X.A) (tk : Tk X W) (ha : SA X W [e] fs) (hg : Gl X C := by rfl) (hdb : (C == ("__debug__" : Str)) = false := by decide)
    (he : starEach [e] X.env = (false, eval e X.env) :: starEach [] X.env := by rfl) (hpl : (backTo pos (starEach [] X.env)).any (·.1) = false := by rfl) : SE X W (.Call (.Name C p) [e] [] pos) (eMkX1 C f code fs) := by
  obtain ⟨fI, fd, F1, hb, xc, hf, hm⟩ := D
  refine ⟨fun pins s σ H Q I h => wpAny_mono (pmk_oex1 xc.oex (by rw [xc.ini, hf]) (by rw [← hf]; exact xc.ty) F1 hr hb (passes_no tk) hg hm ha hdb he hpl pins s σ H
    (fun cls d H' => ∀ (a : Addr) (oe : Obj), H' a = none → oe.cls = cls → oe.dict = d → (∃ vs, oe.data = .fields vs) → Q (.ref a) (upd H' a (stillO oe a))) I ?_) (fun u s' hu => mk_ep hu fun _ _ _ z => z) fun _ _ x => x⟩
  refine td_seq (TD.split (rel := RelDs X.K) h) fun vs H1 ⟨g, ds, r, S, l, en, rd, q⟩ => ?_
  split at q
  · rename_i d
    split at q
    · rename_i hbd
      obtain ⟨y, rfl, ry⟩ := rel1 rd
      exact ⟨(show 1 ≤ 1000 by decide), fun a ha => mk1_sp xc l hbd ry (fun g' H' v x' l' r' => q g' H' v x' l' (en.mono x') r') a ha⟩
    · exact q.elim
  · exact q.elim
theorem se_mkX0 (D : DefX0 X.prog X.w X.K X.mg X.base C code) (hr : Room 2 X.A) (tk : Tk X W) (hg : Gl X C := by rfl) (hdb : (C == ("__debug__" : Str)) = false := by decide) : SE X W (.Call (.Name C p) [] [] pos) (eMkX0 C code) := by
  obtain ⟨fI, fd, F1, hb, xc, hf, hm⟩ := D
  refine ⟨fun pins s σ H Q I h => wpAny_mono (pmk_oex0 xc.oex (by rw [xc.ini, hf]) (by rw [← hf]; exact xc.ty) F1 hr hb (passes_no tk) hg hm hdb pins s σ H
    (fun cls d H' => ∀ (a : Addr) (oe : Obj), H' a = none → oe.cls = cls → oe.dict = d → (∃ vs, oe.data = .fields vs) → Q (.ref a) (upd H' a (stillO oe a))) I ?_) (fun u s' hu => mk_ep hu fun _ _ _ z => z) fun _ _ x => x⟩
  obtain ⟨g, r, S, l, en, q⟩ := h
  intro a ha
  refine ⟨a, ga X.K C, rfl, xc.oex, xc.noc, upd_same, fun dx h1 h2 => ⟨rfl, dx, [("code", .str code)], upd_same, ?_, ?_, fun b oe nb hc hd hv => ?_⟩⟩
  · rw [upd_ne h2, upd_same]
  · rw [upd_ne h2] at h1; exact h1
  · have h1' : H dx = none := by rw [upd_ne h2] at h1; exact h1
    obtain ⟨g2, x, l2, r2⟩ := mk1_post (C := C) (ns := ["code"]) (ds := [.str code]) (ys := [.str code]) l h1' (fun b o hb => by
      by_cases nb2 : b = dx
      · rw [nb2, upd_same] at hb ⊢; exact hb
      · rw [upd_ne nb2] at hb
        have nb1 : b ≠ a := fun z => by rw [z, ha] at hb; cases hb
        rw [upd_ne nb2, del_ne nb1, upd_ne nb1, upd_ne nb2, upd_ne nb1]
        exact hb) rfl rfl (.cons rfl .nil) nb hc hd hv
    exact q g2 _ _ x l2 (en.mono x) r2
structure DefX1K (P : Program) (w : World) (K : PySem.W.Frag) (mg : Str → Option Value) (base : Heap) (C f code : Str) : Prop where
  ex : ∃ fI fd, FnOk P w K mg base (CXU K P w) 1 fI fd ["self", f] (spX1 K f code) ∧ (∀ (s : Shared) (a b : Value), BindsTo s fd ⟨[a], [(f, b)]⟩ [(("self" : Str), a), (f, b)]) ∧ Xcl K C [f] ∧ fAd K (C, some "__init__") = fI ∧ mg C = some (.ref (ga K C))
theorem defX1K_of {P : Program} {w : World} {K : PySem.W.Frag} {mg : Str → Option Value} {base : Heap} {x qual : Str} {params : Arguments} {scope : Scope} {fd : FuncData} {j : Nat} {p1 p2 p3 p4 p5 p6 p7 p8 : Pos}
    (F : FunD K x qual params [.Assign [.Attribute (.Name "self" p1) f p2] (.Name f p3) p4, .Assign [.Attribute (.Name "self" p5) "code" p6] (.Constant (.str code) j p7) p8] scope [] [] (fAd K (C, some "__init__")) fd)
    (S : FnScope ["self", f] ["self", f] scope) (hx : xclB K (C, [f]) = true) (hm : mg C = some (.ref (ga K C))) (v0 : Vis scope "self" := by first | exact Or.inl rfl | exact Or.inr (Or.inl rfl)) (v1 : Vis scope f := by first | exact Or.inl rfl | exact Or.inr (Or.inl rfl)) (hd : (f == ("__debug__" : Str)) = false := by decide) (hcd : (f == ("__classdict__" : Str)) = false := by decide)
    (h : ∀ (kV doc pm : Value) (an : Option Addr) (cdv ct a b : Value), bindArgs (PySem.W.fnOf x qual params [.Assign [.Attribute (.Name "self" p1) f p2] (.Name f p3) p4, .Assign [.Attribute (.Name "self" p5) "code" p6] (.Constant (.str code) j p7) p8] scope .none kV doc pm an cdv ct) ⟨[a], [(f, b)]⟩ = pure [(("self" : Str), a), (f, b)] := by exact fun _ _ _ _ _ _ _ _ => rfl) : DefX1K P w K mg base C f code := by
  refine ⟨_, fd, exc1_ok F S v0 v1 hd hcd, fun s a b => ?_, xclB_ok hx, rfl, hm⟩
  obtain ⟨oc, od, dV, kV, doc, pm, an, cdv, ct, osl, rfl, lk, hcd, hD, hK⟩ := F.ex
  rcases hD with ⟨_, rfl⟩ | ⟨e, _⟩
  · exact BindsTo.of_looks fun M => by rw [h kV doc pm an cdv ct a b]; exact .now
  · exact absurd rfl e
open PySem.HandSPX in
theorem se_mkXK (D : DefX1K X.prog X.w X.K X.mg X.base C f code) (hr : Room 2 X.A) (tk : Tk X W) (hkw : SK X W [⟨some f, e, kp⟩] fk) (hg : Gl X C := by rfl) (hdb : (C == ("__debug__" : Str)) = false := by decide)
    (hall : (backToKw pos (keywordEach [⟨some f, e, kp⟩] X.env)).all (·.1.isSome) = true := by rfl) (hks : (backToKw pos (keywordEach [⟨some f, e, kp⟩] X.env)).filterMap (·.1) = [f] := by rfl)
    (hpl : ((backTo pos (starEach [] X.env)).any (·.1) || (backToKw pos (keywordEach [⟨some f, e, kp⟩] X.env)).any (·.1.isNone)) = false := by rfl) : SE X W (.Call (.Name C p) [] [⟨some f, e, kp⟩] pos) (eMkX1 C f code fk) := by
  obtain ⟨fI, fd, F1, hb, xc, hf, hm⟩ := D
  refine ⟨fun pins s σ H Q I h => ?_⟩
  refine wpAny_Call_Name_kw (ld_glob I hg hm ?_ hdb)
  refine PySem.W.callWith_KW0 (h₀ := X.base) I.ok.mod.kin xc.oex.kC hall (thn (hkw.run pos pins s σ H _ I (TD.split (rel := RelDs X.K) h)) fun us s2 ⟨vs, H1, I1, r1, g, ds, r, S, l, en, rd, q⟩ => ⟨I1.kIn, ?_⟩) hpl
  rw [hks]
  split at q
  · rename_i d
    split at q
    · rename_i hbd
      obtain ⟨y, rfl, ry⟩ := rel1 rd
      obtain ⟨u, rfl, ru⟩ := vals1 r1
      have hq := mk1_sp (E := fun _ _ _ => False) (code := code) xc l hbd ry (fun g' H' v x' l' r' => q g' H' v x' l' (en.mono x') r')
      obtain ⟨B, nm, qn, N, bs, bm, sn, sub, ab, col, dd, k0, k1, k2, k3, k5, hC, hbm⟩ := xc.oex.cls
      obtain ⟨hp, gg, dr, t, os⟩ := s2
      obtain ⟨z, hz⟩ : ∃ z, z = hp.objs.size := ⟨_, rfl⟩
      have hsz : hp.objs.size ≤ z + 1 := by omega
      have hn : H1 (z + 1) = none := I1.hok.fresh hsz
      obtain ⟨G, hG⟩ : ∃ G, G = (hp.push (PySem.W.kdv_tup [])).push (excO (ga X.K C) z) := ⟨_, rfl⟩
      have kk : ∀ b o, hp.get? b = some o → G.get? b = some o := fun b o e => by rw [hG]; exact Heap.get?_push_of_some _ (Heap.get?_push_of_some _ e)
      have hget : G.get? (z + 1) = some (excO (ga X.K C) z) := by rw [hG, hz]; heap_get
      have I2 : Inv X pins σ (upd H1 (z + 1) (exo (z + 1) (ga X.K C) none)) ⟨G, gg, dr, t, os⟩ := I1.laid (t' := t) (a := z + 1) (o := exo (z + 1) (ga X.K C) none) (h' := G) kk hsz (exo_ok hget)
      have run := F1.run (X.A.under (.builtin "type.__call__" ⟨[.ref (ga X.K C)], [(f, u)]⟩)) X.stack _ _ ⟨[.ref (z + 1)], [(f, u)]⟩ [.ref (z + 1), u] _ _ (fun _ _ _ => False) (hr.make (ga X.K C) [] [(f, u)]) (I2.env0.make (ga X.K C) [] [(f, u)]) (hb _ _ _) (.cons (show RelV (.ref (z + 1)) (.ref (z + 1)) from rfl) (.cons ru .nil)) (hq (z + 1) hn)
      subst hG hz
      show wpAny (model X.prog X.w) X.A (call (.ref (ga X.K C)) [] [(f, u)]) _ _ _
      refine wpAny_call (callK_own B.base (fun Y => PySem.W.excTail_contains Y bm hbm) (I1.kIn _ _ hC) (PySem.W.looks_findIn I1.kIn (by rw [xc.ini, hf])) (fun self => PySem.W.bind_fn I1.kIn self (by rw [← hf]; exact xc.ty)) (codeAny_mono run fun r s' hq' => ?_))
      match r, hq' with
      | .error er, hq' => exact (cxU_no hq').elim
      | .ok .next, hq' => exact False.elim hq'
      | .ok .brk, hq' => exact False.elim hq'
      | .ok .cont, hq' => exact False.elim hq'
      | .ok (.ret u'), hq' =>
        obtain ⟨v, H2, os2, bare2, un2, hok2, rv, ev, dx, fs, ea, ed, hd1, q2⟩ := hq'
        subst ev
        obtain ⟨h2, g2, d2, t2, os'⟩ := s'
        obtain ⟨t0, G2, J, kG, ge, hoe, na⟩ := mk_end0 (d2 := d2) (t2 := t2) I1 hsz kk un2 hok2 os2 bare2 ea ed hd1
        exact ⟨rv, .ref (hp.objs.size + 1), _, laidX J kG rfl bare2 na ge hoe, rfl, q2 _ _ na rfl rfl ⟨_, rfl⟩⟩
    · exact q.elim
  · exact q.elim
end

def tgOf : D → Option Tg
  | .ty n => some (.ty n)
  | .con C => some (.con C)
  | _ => none

def oIsiX (tab : List (Str × List Tg)) (tg : List Tg) : Sto → List D → Option D := fun _ ds => match ds with
  | [.dic [.non] [.ins C _ _], c] => (match tab.lookup C, tgOf c with
    | some l, some t => if tg.contains t = true then some (.bl (l.contains t)) else none
    | _, _ => none)
  | _ => none

theorem lookup_mem {α : Type} {x : Str} {y : α} : ∀ {l : List (Str × α)}, l.lookup x = some y → (x, y) ∈ l
  | [], h => by cases h
  | (k, v) :: r, h => by
    rw [List.lookup_cons] at h
    split at h
    · rename_i e
      cases h
      rw [eq_of_beq e]
      exact List.mem_cons_self ..
    · exact List.mem_cons_of_mem _ (lookup_mem h)
theorem call_isX {X : Cx} {tab : List (Str × List Tg)} {tg : List Tg} (hk : isxB X.K tab tg = true) : CallR X (.builtin "isinstance") (fun xs H Q => ∃ (a : Addr) (c : V) (oe : Obj) (dx : Addr) (C : Str) (fs : List (Str × V)) (l : List Tg) (t : Tg),
    xs = [.ref a, c] ∧ H a = some (stillO oe a) ∧ oe.cls = .ref (ga X.K C) ∧ oe.dict = some dx ∧ (∃ vs, oe.data = .fields vs) ∧ H dx = some (.xd fs) ∧ tab.lookup C = some l ∧ tg.contains t = true ∧ (∀ u, RelV c u → u = tgV X.K t) ∧ Q (.bl (l.contains t)) H) := by
  intro pins s σ H xs us Q I r h
  obtain ⟨a, c, oe, dx, C, fs, l, t, rfl, h1, h2, h3, ⟨fv, h4⟩, h5, h6, h7, h8, q⟩ := h
  obtain ⟨u1, u2, rfl, r1, r2⟩ := vals2 r
  obtain rfl : u1 = Value.ref a := r1
  rw [h8 u2 r2]
  obtain ⟨k1, k⟩ := ba hk
  obtain ⟨k2, k⟩ := ba k
  obtain ⟨k3, k⟩ := ba (List.all_eq_true.mp k _ (lookup_mem h6))
  obtain ⟨k4, k⟩ := ba k
  obtain ⟨k5, k⟩ := ba k
  obtain ⟨k6, k7⟩ := ba k
  have T := xfB_ok k4
  obtain ⟨ha, _⟩ := I.hok a _ h1
  have hx : ObjOk X.prog X.w H s.heap dx (.xd fs) := I.hok dx _ h5
  obtain ⟨mA, hns, _⟩ := hx
  obtain ⟨od, ho, _⟩ := lookIn_ns hns
  have J : PySem.W.InstAt s.heap a oe (ga X.K C) (some od) := ⟨ha, h2, by unfold PySem.W.notCls; rw [h4] <;> rfl, by rw [h3]; exact ho⟩
  exact PySem.W.kia_one (PySem.W.kitx_exc (ox := oe) (od := some od) k3 T.ga T.gg T.exC (of_decide_eq_true k5) (of_decide_eq_true k1) (of_decide_eq_true k2) (of_decide_eq_true k6)) I.kIn J (eq_of_beq (List.all_eq_true.mp k7 t (List.contains_iff_mem.mp h7))) (fun z => nomatch z) fun tk => ⟨.bl _, H, I.tok tk, rfl, q⟩
theorem cu_isX {X : Cx} {tab : List (Str × List Tg)} {tg : List Tg} (hk : isxB X.K tab tg = true) : CallU X (.builtin "isinstance") (oIsiX tab tg) := by
  refine ⟨_, call_isX hk, fun g S H ds d vs Q l rd e k => ?_⟩
  unfold oIsiX at e
  split at e
  · rename_i C ns es c
    split at e
    · rename_i lt t e1 e2
      split at e
      · rename_i hc
        cases e
        obtain ⟨v1, v2, rfl, x1, x2⟩ := rel2 rd
        obtain ⟨_, a, rfl, ea⟩ := x1
        obtain ⟨_, oe, dx, h1, h2, h3, h4, h5⟩ := l.imm a _ ea
        obtain ⟨_, ws, h6, _, _⟩ := l.imm dx _ h5
        refine ⟨a, v2, oe, dx, C, _, lt, t, rfl, h1, h2, h3, h4, h6, e1, hc, fun u ru => ?_, k g H _ (.refl g) l rfl⟩
        cases c <;> simp only [tgOf, reduceCtorEq, Option.some.injEq] at e2
        · subst e2; cases x2; exact ru
        · subst e2; cases x2; exact ru
      · cases e
    · cases e
  · cases e
end L2.U
namespace L2.U.K68
open PySem PySem.Spec PyProof.Rows He


abbrev N_law_bag : List Str := ["_law_script", "_law_cells"]
abbrev ps_law_bag : List Str := ["_law_script"]

abbrev N_law_draw : List Str := ["_law_bag_here", "_law_many", "_law_cell", "_law_got"]
abbrev ps_law_draw : List Str := ["_law_bag_here", "_law_many"]

abbrev N_law_pick : List Str := ["_law_bag_here", "_law_some"]
abbrev ps_law_pick : List Str := ["_law_bag_here", "_law_some"]

abbrev N_law_same : List Str := ["_law_found", "_law_due", "_law_good", "_law_my_at"]
abbrev ps_law_same : List Str := ["_law_found", "_law_due"]

abbrev N_law_field : List Str := ["_law_e"]
abbrev ps_law_field : List Str := ["_law_e"]

abbrev N_law_caught : List Str := ["_law_e", "_law_flags"]
abbrev ps_law_caught : List Str := ["_law_e"]

abbrev N_law_kinds : List Str := ["_law_e", "_law_first_z"]
abbrev ps_law_kinds : List Str := ["_law_e"]

abbrev N_law_all_errors : List Str := ["_law_far", "_law_found"]
abbrev ps_law_all_errors : List Str := ["_law_far"]

abbrev N_law : List Str := ["_law_script", "_law_bag_here", "_law_far", "_law_pairs_z", "_law_bare", "_law_place", "_law_due", "_law_e", "_law_title", "_law_k"]
abbrev ps_law : List Str := ["_law_script"]

abbrev N_invalidstate_init : List Str := ["self", "given"]
abbrev ps_invalidstate_init : List Str := ["self", "given"]

abbrev N_invalidkey_init : List Str := ["self", "given"]
abbrev ps_invalidkey_init : List Str := ["self", "given"]

abbrev N_takenkey_init : List Str := ["self", "given"]
abbrev ps_takenkey_init : List Str := ["self", "given"]

abbrev N_invalidtable_init : List Str := ["self"]
abbrev ps_invalidtable_init : List Str := ["self"]

abbrev N_invalidact_init : List Str := ["self", "given"]
abbrev ps_invalidact_init : List Str := ["self", "given"]

abbrev N_invalidjob_init : List Str := ["self"]
abbrev ps_invalidjob_init : List Str := ["self"]

abbrev N_invalidrules_init : List Str := ["self", "at"]
abbrev ps_invalidrules_init : List Str := ["self", "at"]

abbrev N_misfit_init : List Str := ["self", "letter"]
abbrev ps_misfit_init : List Str := ["self", "letter"]

abbrev N_invalidnumber_init : List Str := ["self", "given"]
abbrev ps_invalidnumber_init : List Str := ["self", "given"]

abbrev N_invalidtext_init : List Str := ["self"]
abbrev ps_invalidtext_init : List Str := ["self"]

abbrev N_invalidwish_init : List Str := ["self", "given"]
abbrev ps_invalidwish_init : List Str := ["self", "given"]

abbrev N_invalidedit_init : List Str := ["self", "given"]
abbrev ps_invalidedit_init : List Str := ["self", "given"]

abbrev N_invalidstory_init : List Str := ["self", "at"]
abbrev ps_invalidstory_init : List Str := ["self", "at"]

abbrev N_invalidstanding_init : List Str := ["self", "given"]
abbrev ps_invalidstanding_init : List Str := ["self", "given"]

abbrev N_invalidevent_init : List Str := ["self", "at"]
abbrev ps_invalidevent_init : List Str := ["self", "at"]

abbrev N_invalidlimit_init : List Str := ["self", "given"]
abbrev ps_invalidlimit_init : List Str := ["self", "given"]

abbrev N_invalidpage_init : List Str := ["self", "line"]
abbrev ps_invalidpage_init : List Str := ["self", "line"]

abbrev N_wrongstate_init : List Str := ["self", "row"]
abbrev ps_wrongstate_init : List Str := ["self", "row"]

abbrev N_notready_init : List Str := ["self"]
abbrev ps_notready_init : List Str := ["self"]

abbrev N_notworking_init : List Str := ["self"]
abbrev ps_notworking_init : List Str := ["self"]

abbrev N_ended_init : List Str := ["self"]
abbrev ps_ended_init : List Str := ["self"]

abbrev N_toomany_init : List Str := ["self", "most"]
abbrev ps_toomany_init : List Str := ["self", "most"]

abbrev N_full_init : List Str := ["self", "most"]
abbrev ps_full_init : List Str := ["self", "most"]

abbrev N_norow_init : List Str := ["self", "row"]
abbrev ps_norow_init : List Str := ["self", "row"]

abbrev N_nothingleft_init : List Str := ["self"]
abbrev ps_nothingleft_init : List Str := ["self"]




structure Tp (K : PySem.W.Frag) (mg : Str → Option Value) : Prop where
  zz : True
  f_IndexError : mg "IndexError" = none
  f_LookupError : mg "LookupError" = none
  f_ValueError : mg "ValueError" = none
  f_abs : mg "abs" = none
  f_all : mg "all" = none
  f_bool : mg "bool" = none
  f_int : mg "int" = none
  f_isinstance : mg "isinstance" = none
  f_len : mg "len" = none
  f_list : mg "list" = none
  f_range : mg "range" = none
  f_str : mg "str" = none
  f_tuple : mg "tuple" = none
  c_Ended : KCon K mg "Ended" (.con "Ended")
  c_Full : KCon K mg "Full" (.con "Full")
  c_InvalidAct : KCon K mg "InvalidAct" (.con "InvalidAct")
  c_InvalidEdit : KCon K mg "InvalidEdit" (.con "InvalidEdit")
  c_InvalidEvent : KCon K mg "InvalidEvent" (.con "InvalidEvent")
  c_InvalidJob : KCon K mg "InvalidJob" (.con "InvalidJob")
  c_InvalidKey : KCon K mg "InvalidKey" (.con "InvalidKey")
  c_InvalidLimit : KCon K mg "InvalidLimit" (.con "InvalidLimit")
  c_InvalidNumber : KCon K mg "InvalidNumber" (.con "InvalidNumber")
  c_InvalidPage : KCon K mg "InvalidPage" (.con "InvalidPage")
  c_InvalidRules : KCon K mg "InvalidRules" (.con "InvalidRules")
  c_InvalidStanding : KCon K mg "InvalidStanding" (.con "InvalidStanding")
  c_InvalidState : KCon K mg "InvalidState" (.con "InvalidState")
  c_InvalidStory : KCon K mg "InvalidStory" (.con "InvalidStory")
  c_InvalidTable : KCon K mg "InvalidTable" (.con "InvalidTable")
  c_InvalidText : KCon K mg "InvalidText" (.con "InvalidText")
  c_InvalidWish : KCon K mg "InvalidWish" (.con "InvalidWish")
  c_Misfit : KCon K mg "Misfit" (.con "Misfit")
  c_Missing : KCon K mg "Missing" (.con "Missing")
  c_NoRow : KCon K mg "NoRow" (.con "NoRow")
  c_NotReady : KCon K mg "NotReady" (.con "NotReady")
  c_NotWorking : KCon K mg "NotWorking" (.con "NotWorking")
  c_NothingLeft : KCon K mg "NothingLeft" (.con "NothingLeft")
  c_RunError : KCon K mg "RunError" (.con "RunError")
  c_TakenKey : KCon K mg "TakenKey" (.con "TakenKey")
  c_TooMany : KCon K mg "TooMany" (.con "TooMany")
  c_WrongState : KCon K mg "WrongState" (.con "WrongState")
  isi : isiB K isiL = true
  xc_InvalidState : xclB K ("InvalidState", ["given"]) = true
  xc_InvalidKey : xclB K ("InvalidKey", ["given"]) = true
  xc_TakenKey : xclB K ("TakenKey", ["given"]) = true
  xc_InvalidTable : xclB K ("InvalidTable", []) = true
  xc_InvalidAct : xclB K ("InvalidAct", ["given"]) = true
  xc_InvalidJob : xclB K ("InvalidJob", []) = true
  xc_InvalidRules : xclB K ("InvalidRules", ["at"]) = true
  xc_Misfit : xclB K ("Misfit", ["letter"]) = true
  xc_InvalidNumber : xclB K ("InvalidNumber", ["given"]) = true
  xc_InvalidText : xclB K ("InvalidText", []) = true
  xc_InvalidWish : xclB K ("InvalidWish", ["given"]) = true
  xc_InvalidEdit : xclB K ("InvalidEdit", ["given"]) = true
  xc_InvalidStory : xclB K ("InvalidStory", ["at"]) = true
  xc_InvalidStanding : xclB K ("InvalidStanding", ["given"]) = true
  xc_InvalidEvent : xclB K ("InvalidEvent", ["at"]) = true
  xc_InvalidLimit : xclB K ("InvalidLimit", ["given"]) = true
  xc_InvalidPage : xclB K ("InvalidPage", ["line"]) = true
  xc_WrongState : xclB K ("WrongState", ["row"]) = true
  xc_NotReady : xclB K ("NotReady", []) = true
  xc_NotWorking : xclB K ("NotWorking", []) = true
  xc_Ended : xclB K ("Ended", []) = true
  xc_TooMany : xclB K ("TooMany", ["most"]) = true
  xc_Full : xclB K ("Full", ["most"]) = true
  xc_NoRow : xclB K ("NoRow", ["row"]) = true
  xc_NothingLeft : xclB K ("NothingLeft", []) = true
  isx : isxB K xisT xisG = true
  xf_at : xfLB K xcs "at" = true
  xf_code : xfLB K xcs "code" = true
  xf_given : xfLB K xcs "given" = true
  xf_letter : xfLB K xcs "letter" = true
  xf_line : xfLB K xcs "line" = true
  xf_most : xfLB K xcs "most" = true
  xf_row : xfLB K xcs "row" = true
  g_Ended : mg "Ended" = some (.ref (ga K "Ended"))
  g_Full : mg "Full" = some (.ref (ga K "Full"))
  g_InvalidAct : mg "InvalidAct" = some (.ref (ga K "InvalidAct"))
  g_InvalidEdit : mg "InvalidEdit" = some (.ref (ga K "InvalidEdit"))
  g_InvalidEvent : mg "InvalidEvent" = some (.ref (ga K "InvalidEvent"))
  g_InvalidJob : mg "InvalidJob" = some (.ref (ga K "InvalidJob"))
  g_InvalidKey : mg "InvalidKey" = some (.ref (ga K "InvalidKey"))
  g_InvalidLimit : mg "InvalidLimit" = some (.ref (ga K "InvalidLimit"))
  g_InvalidNumber : mg "InvalidNumber" = some (.ref (ga K "InvalidNumber"))
  g_InvalidPage : mg "InvalidPage" = some (.ref (ga K "InvalidPage"))
  g_InvalidRules : mg "InvalidRules" = some (.ref (ga K "InvalidRules"))
  g_InvalidStanding : mg "InvalidStanding" = some (.ref (ga K "InvalidStanding"))
  g_InvalidState : mg "InvalidState" = some (.ref (ga K "InvalidState"))
  g_InvalidStory : mg "InvalidStory" = some (.ref (ga K "InvalidStory"))
  g_InvalidTable : mg "InvalidTable" = some (.ref (ga K "InvalidTable"))
  g_InvalidText : mg "InvalidText" = some (.ref (ga K "InvalidText"))
  g_InvalidWish : mg "InvalidWish" = some (.ref (ga K "InvalidWish"))
  g_Misfit : mg "Misfit" = some (.ref (ga K "Misfit"))
  g_NoRow : mg "NoRow" = some (.ref (ga K "NoRow"))
  g_NotReady : mg "NotReady" = some (.ref (ga K "NotReady"))
  g_NotWorking : mg "NotWorking" = some (.ref (ga K "NotWorking"))
  g_NothingLeft : mg "NothingLeft" = some (.ref (ga K "NothingLeft"))
  g_TakenKey : mg "TakenKey" = some (.ref (ga K "TakenKey"))
  g_TooMany : mg "TooMany" = some (.ref (ga K "TooMany"))
  g_WrongState : mg "WrongState" = some (.ref (ga K "WrongState"))










































theorem gl_of {K : PySem.W.Frag} (c : chk K = true) : gloB K gloL = true := (ba (ba (ba c).2).2).1
theorem fa_of {K : PySem.W.Frag} (c : chk K = true) : faB K faL = true := (ba (ba (ba (ba c).2).2).2).1
theorem tp_of {K : PySem.W.Frag} {mg : Str → Option Value} (N : Nm K mg) (c : chk K = true) : Tp K mg := by
  have cf := fa_of c
  obtain ⟨c1, c2⟩ := ba c
  obtain ⟨c2, c3⟩ := ba c2
  obtain ⟨c3, c4⟩ := ba c3
  obtain ⟨c4, c5⟩ := ba c4
  obtain ⟨c5, c6⟩ := ba c5
  exact ⟨trivial, free_at N c1 0, free_at N c1 1, free_at N c1 2, free_at N c1 3, free_at N c1 4, free_at N c1 5, free_at N c1 6, free_at N c1 7, free_at N c1 8, free_at N c1 9, free_at N c1 10, free_at N c1 11, free_at N c1 12, con_at N c2 0, con_at N c2 1, con_at N c2 2, con_at N c2 3, con_at N c2 4, con_at N c2 5, con_at N c2 6, con_at N c2 7, con_at N c2 8, con_at N c2 9, con_at N c2 10, con_at N c2 11, con_at N c2 12, con_at N c2 13, con_at N c2 14, con_at N c2 15, con_at N c2 16, con_at N c2 17, con_at N c2 18, con_at N c2 19, con_at N c2 20, con_at N c2 21, con_at N c2 22, con_at N c2 23, con_at N c2 24, con_at N c2 25, con_at N c2 26, c5, (ba c6).1, (ba (ba c6).2).1, (ba (ba (ba c6).2).2).1, (ba (ba (ba (ba c6).2).2).2).1, (ba (ba (ba (ba (ba c6).2).2).2).2).1, (ba (ba (ba (ba (ba (ba c6).2).2).2).2).2).1, (ba (ba (ba (ba (ba (ba (ba c6).2).2).2).2).2).2).1, (ba (ba (ba (ba (ba (ba (ba (ba c6).2).2).2).2).2).2).2).1, (ba (ba (ba (ba (ba (ba (ba (ba (ba c6).2).2).2).2).2).2).2).2).1, (ba (ba (ba (ba (ba (ba (ba (ba (ba (ba c6).2).2).2).2).2).2).2).2).2).1, (ba (ba (ba (ba (ba (ba (ba (ba (ba (ba (ba c6).2).2).2).2).2).2).2).2).2).2).1, (ba (ba (ba (ba (ba (ba (ba (ba (ba (ba (ba (ba c6).2).2).2).2).2).2).2).2).2).2).2).1, (ba (ba (ba (ba (ba (ba (ba (ba (ba (ba (ba (ba (ba c6).2).2).2).2).2).2).2).2).2).2).2).2).1, (ba (ba (ba (ba (ba (ba (ba (ba (ba (ba (ba (ba (ba (ba c6).2).2).2).2).2).2).2).2).2).2).2).2).2).1, (ba (ba (ba (ba (ba (ba (ba (ba (ba (ba (ba (ba (ba (ba (ba c6).2).2).2).2).2).2).2).2).2).2).2).2).2).2).1, (ba (ba (ba (ba (ba (ba (ba (ba (ba (ba (ba (ba (ba (ba (ba (ba c6).2).2).2).2).2).2).2).2).2).2).2).2).2).2).2).1, (ba (ba (ba (ba (ba (ba (ba (ba (ba (ba (ba (ba (ba (ba (ba (ba (ba c6).2).2).2).2).2).2).2).2).2).2).2).2).2).2).2).2).1, (ba (ba (ba (ba (ba (ba (ba (ba (ba (ba (ba (ba (ba (ba (ba (ba (ba (ba c6).2).2).2).2).2).2).2).2).2).2).2).2).2).2).2).2).2).1, (ba (ba (ba (ba (ba (ba (ba (ba (ba (ba (ba (ba (ba (ba (ba (ba (ba (ba (ba c6).2).2).2).2).2).2).2).2).2).2).2).2).2).2).2).2).2).2).1, (ba (ba (ba (ba (ba (ba (ba (ba (ba (ba (ba (ba (ba (ba (ba (ba (ba (ba (ba (ba c6).2).2).2).2).2).2).2).2).2).2).2).2).2).2).2).2).2).2).2).1, (ba (ba (ba (ba (ba (ba (ba (ba (ba (ba (ba (ba (ba (ba (ba (ba (ba (ba (ba (ba (ba c6).2).2).2).2).2).2).2).2).2).2).2).2).2).2).2).2).2).2).2).2).1, (ba (ba (ba (ba (ba (ba (ba (ba (ba (ba (ba (ba (ba (ba (ba (ba (ba (ba (ba (ba (ba (ba c6).2).2).2).2).2).2).2).2).2).2).2).2).2).2).2).2).2).2).2).2).2).1, (ba (ba (ba (ba (ba (ba (ba (ba (ba (ba (ba (ba (ba (ba (ba (ba (ba (ba (ba (ba (ba (ba (ba c6).2).2).2).2).2).2).2).2).2).2).2).2).2).2).2).2).2).2).2).2).2).2).1, (ba (ba (ba (ba (ba (ba (ba (ba (ba (ba (ba (ba (ba (ba (ba (ba (ba (ba (ba (ba (ba (ba (ba (ba c6).2).2).2).2).2).2).2).2).2).2).2).2).2).2).2).2).2).2).2).2).2).2).2).1, (ba (ba (ba (ba (ba (ba (ba (ba (ba (ba (ba (ba (ba (ba (ba (ba (ba (ba (ba (ba (ba (ba (ba (ba (ba c6).2).2).2).2).2).2).2).2).2).2).2).2).2).2).2).2).2).2).2).2).2).2).2).2).1, (ba (ba (ba (ba (ba (ba (ba (ba (ba (ba (ba (ba (ba (ba (ba (ba (ba (ba (ba (ba (ba (ba (ba (ba (ba (ba c6).2).2).2).2).2).2).2).2).2).2).2).2).2).2).2).2).2).2).2).2).2).2).2).2).2).1, (ba (ba (ba (ba (ba (ba (ba (ba (ba (ba (ba (ba (ba (ba (ba (ba (ba (ba (ba (ba (ba (ba (ba (ba (ba (ba (ba c6).2).2).2).2).2).2).2).2).2).2).2).2).2).2).2).2).2).2).2).2).2).2).2).2).2).2).1, (ba (ba (ba (ba (ba (ba (ba (ba (ba (ba (ba (ba (ba (ba (ba (ba (ba (ba (ba (ba (ba (ba (ba (ba (ba (ba (ba (ba c6).2).2).2).2).2).2).2).2).2).2).2).2).2).2).2).2).2).2).2).2).2).2).2).2).2).2).2).1, (ba (ba (ba (ba (ba (ba (ba (ba (ba (ba (ba (ba (ba (ba (ba (ba (ba (ba (ba (ba (ba (ba (ba (ba (ba (ba (ba (ba (ba c6).2).2).2).2).2).2).2).2).2).2).2).2).2).2).2).2).2).2).2).2).2).2).2).2).2).2).2).2).1, (ba (ba (ba (ba (ba (ba (ba (ba (ba (ba (ba (ba (ba (ba (ba (ba (ba (ba (ba (ba (ba (ba (ba (ba (ba (ba (ba (ba (ba (ba c6).2).2).2).2).2).2).2).2).2).2).2).2).2).2).2).2).2).2).2).2).2).2).2).2).2).2).2).2).2).1, (ba (ba (ba (ba (ba (ba (ba (ba (ba (ba (ba (ba (ba (ba (ba (ba (ba (ba (ba (ba (ba (ba (ba (ba (ba (ba (ba (ba (ba (ba (ba c6).2).2).2).2).2).2).2).2).2).2).2).2).2).2).2).2).2).2).2).2).2).2).2).2).2).2).2).2).2).2).1, (ba (ba (ba (ba (ba (ba (ba (ba (ba (ba (ba (ba (ba (ba (ba (ba (ba (ba (ba (ba (ba (ba (ba (ba (ba (ba (ba (ba (ba (ba (ba (ba c6).2).2).2).2).2).2).2).2).2).2).2).2).2).2).2).2).2).2).2).2).2).2).2).2).2).2).2).2).2).2).2).1, (ba (ba (ba (ba (ba (ba (ba (ba (ba (ba (ba (ba (ba (ba (ba (ba (ba (ba (ba (ba (ba (ba (ba (ba (ba (ba (ba (ba (ba (ba (ba (ba c6).2).2).2).2).2).2).2).2).2).2).2).2).2).2).2).2).2).2).2).2).2).2).2).2).2).2).2).2).2).2).2).2, glo_at N c3 9, glo_at N c3 10, glo_at N c3 11, glo_at N c3 12, glo_at N c3 13, glo_at N c3 14, glo_at N c3 15, glo_at N c3 16, glo_at N c3 17, glo_at N c3 18, glo_at N c3 19, glo_at N c3 20, glo_at N c3 21, glo_at N c3 22, glo_at N c3 23, glo_at N c3 24, glo_at N c3 25, glo_at N c3 26, glo_at N c3 27, glo_at N c3 28, glo_at N c3 29, glo_at N c3 30, glo_at N c3 31, glo_at N c3 32, glo_at N c3 33⟩
theorem sc_law_bag : FnScope N_law_bag ps_law_bag (defScope s_law_bag) := ⟨rfl, rfl, rfl, by decide +kernel, rfl, by decide +kernel, by decide +kernel⟩
theorem sc_law_draw : FnScope N_law_draw ps_law_draw (defScope s_law_draw) := ⟨rfl, rfl, rfl, by decide +kernel, rfl, by decide +kernel, by decide +kernel⟩
theorem sc_law_pick : FnScope N_law_pick ps_law_pick (defScope s_law_pick) := ⟨rfl, rfl, rfl, by decide +kernel, rfl, by decide +kernel, by decide +kernel⟩
theorem sc_law_same : FnScope N_law_same ps_law_same (defScope s_law_same) := ⟨rfl, rfl, rfl, by decide +kernel, rfl, by decide +kernel, by decide +kernel⟩
theorem sc_law_field : FnScope N_law_field ps_law_field (defScope s_law_field) := ⟨rfl, rfl, rfl, by decide +kernel, rfl, by decide +kernel, by decide +kernel⟩
theorem sc_law_caught : FnScope N_law_caught ps_law_caught (defScope s_law_caught) := ⟨rfl, rfl, rfl, by decide +kernel, rfl, by decide +kernel, by decide +kernel⟩
theorem sc_law_kinds : FnScope N_law_kinds ps_law_kinds (defScope s_law_kinds) := ⟨rfl, rfl, rfl, by decide +kernel, rfl, by decide +kernel, by decide +kernel⟩
theorem sc_law_all_errors : FnScope N_law_all_errors ps_law_all_errors (defScope s_law_all_errors) := ⟨rfl, rfl, rfl, by decide +kernel, rfl, by decide +kernel, by decide +kernel⟩
theorem sc_law : FnScope N_law ps_law (defScope s_law) := ⟨rfl, rfl, rfl, by decide +kernel, rfl, by decide +kernel, by decide +kernel⟩
theorem sc_invalidstate_init : FnScope N_invalidstate_init ps_invalidstate_init (defScope s_invalidstate_init) := ⟨rfl, rfl, rfl, by decide +kernel, rfl, by decide +kernel, by decide +kernel⟩
theorem sc_invalidkey_init : FnScope N_invalidkey_init ps_invalidkey_init (defScope s_invalidkey_init) := ⟨rfl, rfl, rfl, by decide +kernel, rfl, by decide +kernel, by decide +kernel⟩
theorem sc_takenkey_init : FnScope N_takenkey_init ps_takenkey_init (defScope s_takenkey_init) := ⟨rfl, rfl, rfl, by decide +kernel, rfl, by decide +kernel, by decide +kernel⟩
theorem sc_invalidtable_init : FnScope N_invalidtable_init ps_invalidtable_init (defScope s_invalidtable_init) := ⟨rfl, rfl, rfl, by decide +kernel, rfl, by decide +kernel, by decide +kernel⟩
theorem sc_invalidact_init : FnScope N_invalidact_init ps_invalidact_init (defScope s_invalidact_init) := ⟨rfl, rfl, rfl, by decide +kernel, rfl, by decide +kernel, by decide +kernel⟩
theorem sc_invalidjob_init : FnScope N_invalidjob_init ps_invalidjob_init (defScope s_invalidjob_init) := ⟨rfl, rfl, rfl, by decide +kernel, rfl, by decide +kernel, by decide +kernel⟩
theorem sc_invalidrules_init : FnScope N_invalidrules_init ps_invalidrules_init (defScope s_invalidrules_init) := ⟨rfl, rfl, rfl, by decide +kernel, rfl, by decide +kernel, by decide +kernel⟩
theorem sc_misfit_init : FnScope N_misfit_init ps_misfit_init (defScope s_misfit_init) := ⟨rfl, rfl, rfl, by decide +kernel, rfl, by decide +kernel, by decide +kernel⟩
theorem sc_invalidnumber_init : FnScope N_invalidnumber_init ps_invalidnumber_init (defScope s_invalidnumber_init) := ⟨rfl, rfl, rfl, by decide +kernel, rfl, by decide +kernel, by decide +kernel⟩
theorem sc_invalidtext_init : FnScope N_invalidtext_init ps_invalidtext_init (defScope s_invalidtext_init) := ⟨rfl, rfl, rfl, by decide +kernel, rfl, by decide +kernel, by decide +kernel⟩
theorem sc_invalidwish_init : FnScope N_invalidwish_init ps_invalidwish_init (defScope s_invalidwish_init) := ⟨rfl, rfl, rfl, by decide +kernel, rfl, by decide +kernel, by decide +kernel⟩
theorem sc_invalidedit_init : FnScope N_invalidedit_init ps_invalidedit_init (defScope s_invalidedit_init) := ⟨rfl, rfl, rfl, by decide +kernel, rfl, by decide +kernel, by decide +kernel⟩
theorem sc_invalidstory_init : FnScope N_invalidstory_init ps_invalidstory_init (defScope s_invalidstory_init) := ⟨rfl, rfl, rfl, by decide +kernel, rfl, by decide +kernel, by decide +kernel⟩
theorem sc_invalidstanding_init : FnScope N_invalidstanding_init ps_invalidstanding_init (defScope s_invalidstanding_init) := ⟨rfl, rfl, rfl, by decide +kernel, rfl, by decide +kernel, by decide +kernel⟩
theorem sc_invalidevent_init : FnScope N_invalidevent_init ps_invalidevent_init (defScope s_invalidevent_init) := ⟨rfl, rfl, rfl, by decide +kernel, rfl, by decide +kernel, by decide +kernel⟩
theorem sc_invalidlimit_init : FnScope N_invalidlimit_init ps_invalidlimit_init (defScope s_invalidlimit_init) := ⟨rfl, rfl, rfl, by decide +kernel, rfl, by decide +kernel, by decide +kernel⟩
theorem sc_invalidpage_init : FnScope N_invalidpage_init ps_invalidpage_init (defScope s_invalidpage_init) := ⟨rfl, rfl, rfl, by decide +kernel, rfl, by decide +kernel, by decide +kernel⟩
theorem sc_wrongstate_init : FnScope N_wrongstate_init ps_wrongstate_init (defScope s_wrongstate_init) := ⟨rfl, rfl, rfl, by decide +kernel, rfl, by decide +kernel, by decide +kernel⟩
theorem sc_notready_init : FnScope N_notready_init ps_notready_init (defScope s_notready_init) := ⟨rfl, rfl, rfl, by decide +kernel, rfl, by decide +kernel, by decide +kernel⟩
theorem sc_notworking_init : FnScope N_notworking_init ps_notworking_init (defScope s_notworking_init) := ⟨rfl, rfl, rfl, by decide +kernel, rfl, by decide +kernel, by decide +kernel⟩
theorem sc_ended_init : FnScope N_ended_init ps_ended_init (defScope s_ended_init) := ⟨rfl, rfl, rfl, by decide +kernel, rfl, by decide +kernel, by decide +kernel⟩
theorem sc_toomany_init : FnScope N_toomany_init ps_toomany_init (defScope s_toomany_init) := ⟨rfl, rfl, rfl, by decide +kernel, rfl, by decide +kernel, by decide +kernel⟩
theorem sc_full_init : FnScope N_full_init ps_full_init (defScope s_full_init) := ⟨rfl, rfl, rfl, by decide +kernel, rfl, by decide +kernel, by decide +kernel⟩
theorem sc_norow_init : FnScope N_norow_init ps_norow_init (defScope s_norow_init) := ⟨rfl, rfl, rfl, by decide +kernel, rfl, by decide +kernel, by decide +kernel⟩
theorem sc_nothingleft_init : FnScope N_nothingleft_init ps_nothingleft_init (defScope s_nothingleft_init) := ⟨rfl, rfl, rfl, by decide +kernel, rfl, by decide +kernel, by decide +kernel⟩
theorem defx_InvalidTable {P : Program} {w : World} {K : PySem.W.Frag} {mg : Str → Option Value} {base : Heap} (C : SaysU chk fnL pnL K) (N : Nm K mg) : DefX0 P w K mg base "InvalidTable" "InvalidTable" := by
  obtain ⟨fd, F⟩ := C.def_ 12
  exact defX0_of F sc_invalidtable_init (tp_of N C.chk).xc_InvalidTable (tp_of N C.chk).g_InvalidTable
theorem defx_InvalidJob {P : Program} {w : World} {K : PySem.W.Frag} {mg : Str → Option Value} {base : Heap} (C : SaysU chk fnL pnL K) (N : Nm K mg) : DefX0 P w K mg base "InvalidJob" "InvalidJob" := by
  obtain ⟨fd, F⟩ := C.def_ 14
  exact defX0_of F sc_invalidjob_init (tp_of N C.chk).xc_InvalidJob (tp_of N C.chk).g_InvalidJob
theorem defx_InvalidNumber {P : Program} {w : World} {K : PySem.W.Frag} {mg : Str → Option Value} {base : Heap} (C : SaysU chk fnL pnL K) (N : Nm K mg) : DefX1 P w K mg base "InvalidNumber" "given" "InvalidNumber" := by
  obtain ⟨fd, F⟩ := C.def_ 17
  exact defX1_of F sc_invalidnumber_init (tp_of N C.chk).xc_InvalidNumber (tp_of N C.chk).g_InvalidNumber
theorem defx_InvalidText {P : Program} {w : World} {K : PySem.W.Frag} {mg : Str → Option Value} {base : Heap} (C : SaysU chk fnL pnL K) (N : Nm K mg) : DefX0 P w K mg base "InvalidText" "InvalidText" := by
  obtain ⟨fd, F⟩ := C.def_ 18
  exact defX0_of F sc_invalidtext_init (tp_of N C.chk).xc_InvalidText (tp_of N C.chk).g_InvalidText
theorem defx_InvalidEdit {P : Program} {w : World} {K : PySem.W.Frag} {mg : Str → Option Value} {base : Heap} (C : SaysU chk fnL pnL K) (N : Nm K mg) : DefX1 P w K mg base "InvalidEdit" "given" "InvalidEdit" := by
  obtain ⟨fd, F⟩ := C.def_ 20
  exact defX1_of F sc_invalidedit_init (tp_of N C.chk).xc_InvalidEdit (tp_of N C.chk).g_InvalidEdit
theorem defx_InvalidLimit {P : Program} {w : World} {K : PySem.W.Frag} {mg : Str → Option Value} {base : Heap} (C : SaysU chk fnL pnL K) (N : Nm K mg) : DefX1 P w K mg base "InvalidLimit" "given" "InvalidLimit" := by
  obtain ⟨fd, F⟩ := C.def_ 24
  exact defX1_of F sc_invalidlimit_init (tp_of N C.chk).xc_InvalidLimit (tp_of N C.chk).g_InvalidLimit
theorem defx_NotReady {P : Program} {w : World} {K : PySem.W.Frag} {mg : Str → Option Value} {base : Heap} (C : SaysU chk fnL pnL K) (N : Nm K mg) : DefX0 P w K mg base "NotReady" "NotReady" := by
  obtain ⟨fd, F⟩ := C.def_ 27
  exact defX0_of F sc_notready_init (tp_of N C.chk).xc_NotReady (tp_of N C.chk).g_NotReady
theorem defx_NotWorking {P : Program} {w : World} {K : PySem.W.Frag} {mg : Str → Option Value} {base : Heap} (C : SaysU chk fnL pnL K) (N : Nm K mg) : DefX0 P w K mg base "NotWorking" "NotWorking" := by
  obtain ⟨fd, F⟩ := C.def_ 28
  exact defX0_of F sc_notworking_init (tp_of N C.chk).xc_NotWorking (tp_of N C.chk).g_NotWorking
theorem defx_Ended {P : Program} {w : World} {K : PySem.W.Frag} {mg : Str → Option Value} {base : Heap} (C : SaysU chk fnL pnL K) (N : Nm K mg) : DefX0 P w K mg base "Ended" "Ended" := by
  obtain ⟨fd, F⟩ := C.def_ 29
  exact defX0_of F sc_ended_init (tp_of N C.chk).xc_Ended (tp_of N C.chk).g_Ended
theorem defx_Full {P : Program} {w : World} {K : PySem.W.Frag} {mg : Str → Option Value} {base : Heap} (C : SaysU chk fnL pnL K) (N : Nm K mg) : DefX1 P w K mg base "Full" "most" "Full" := by
  obtain ⟨fd, F⟩ := C.def_ 31
  exact defX1_of F sc_full_init (tp_of N C.chk).xc_Full (tp_of N C.chk).g_Full
theorem defx_NothingLeft {P : Program} {w : World} {K : PySem.W.Frag} {mg : Str → Option Value} {base : Heap} (C : SaysU chk fnL pnL K) (N : Nm K mg) : DefX0 P w K mg base "NothingLeft" "NothingLeft" := by
  obtain ⟨fd, F⟩ := C.def_ 33
  exact defX0_of F sc_nothingleft_init (tp_of N C.chk).xc_NothingLeft (tp_of N C.chk).g_NothingLeft
theorem defxk_InvalidState {P : Program} {w : World} {K : PySem.W.Frag} {mg : Str → Option Value} {base : Heap} (C : SaysU chk fnL pnL K) (N : Nm K mg) : DefX1K P w K mg base "InvalidState" "given" "InvalidState" := by
  obtain ⟨fd, F⟩ := C.def_ 9
  exact defX1K_of F sc_invalidstate_init (tp_of N C.chk).xc_InvalidState (tp_of N C.chk).g_InvalidState
theorem defxk_InvalidKey {P : Program} {w : World} {K : PySem.W.Frag} {mg : Str → Option Value} {base : Heap} (C : SaysU chk fnL pnL K) (N : Nm K mg) : DefX1K P w K mg base "InvalidKey" "given" "InvalidKey" := by
  obtain ⟨fd, F⟩ := C.def_ 10
  exact defX1K_of F sc_invalidkey_init (tp_of N C.chk).xc_InvalidKey (tp_of N C.chk).g_InvalidKey
theorem defxk_TakenKey {P : Program} {w : World} {K : PySem.W.Frag} {mg : Str → Option Value} {base : Heap} (C : SaysU chk fnL pnL K) (N : Nm K mg) : DefX1K P w K mg base "TakenKey" "given" "TakenKey" := by
  obtain ⟨fd, F⟩ := C.def_ 11
  exact defX1K_of F sc_takenkey_init (tp_of N C.chk).xc_TakenKey (tp_of N C.chk).g_TakenKey
theorem defxk_InvalidAct {P : Program} {w : World} {K : PySem.W.Frag} {mg : Str → Option Value} {base : Heap} (C : SaysU chk fnL pnL K) (N : Nm K mg) : DefX1K P w K mg base "InvalidAct" "given" "InvalidAct" := by
  obtain ⟨fd, F⟩ := C.def_ 13
  exact defX1K_of F sc_invalidact_init (tp_of N C.chk).xc_InvalidAct (tp_of N C.chk).g_InvalidAct
theorem defxk_InvalidRules {P : Program} {w : World} {K : PySem.W.Frag} {mg : Str → Option Value} {base : Heap} (C : SaysU chk fnL pnL K) (N : Nm K mg) : DefX1K P w K mg base "InvalidRules" "at" "InvalidRules" := by
  obtain ⟨fd, F⟩ := C.def_ 15
  exact defX1K_of F sc_invalidrules_init (tp_of N C.chk).xc_InvalidRules (tp_of N C.chk).g_InvalidRules
theorem defxk_Misfit {P : Program} {w : World} {K : PySem.W.Frag} {mg : Str → Option Value} {base : Heap} (C : SaysU chk fnL pnL K) (N : Nm K mg) : DefX1K P w K mg base "Misfit" "letter" "Misfit" := by
  obtain ⟨fd, F⟩ := C.def_ 16
  exact defX1K_of F sc_misfit_init (tp_of N C.chk).xc_Misfit (tp_of N C.chk).g_Misfit
theorem defxk_InvalidWish {P : Program} {w : World} {K : PySem.W.Frag} {mg : Str → Option Value} {base : Heap} (C : SaysU chk fnL pnL K) (N : Nm K mg) : DefX1K P w K mg base "InvalidWish" "given" "InvalidWish" := by
  obtain ⟨fd, F⟩ := C.def_ 19
  exact defX1K_of F sc_invalidwish_init (tp_of N C.chk).xc_InvalidWish (tp_of N C.chk).g_InvalidWish
theorem defxk_InvalidStory {P : Program} {w : World} {K : PySem.W.Frag} {mg : Str → Option Value} {base : Heap} (C : SaysU chk fnL pnL K) (N : Nm K mg) : DefX1K P w K mg base "InvalidStory" "at" "InvalidStory" := by
  obtain ⟨fd, F⟩ := C.def_ 21
  exact defX1K_of F sc_invalidstory_init (tp_of N C.chk).xc_InvalidStory (tp_of N C.chk).g_InvalidStory
theorem defxk_InvalidStanding {P : Program} {w : World} {K : PySem.W.Frag} {mg : Str → Option Value} {base : Heap} (C : SaysU chk fnL pnL K) (N : Nm K mg) : DefX1K P w K mg base "InvalidStanding" "given" "InvalidStanding" := by
  obtain ⟨fd, F⟩ := C.def_ 22
  exact defX1K_of F sc_invalidstanding_init (tp_of N C.chk).xc_InvalidStanding (tp_of N C.chk).g_InvalidStanding
theorem defxk_InvalidEvent {P : Program} {w : World} {K : PySem.W.Frag} {mg : Str → Option Value} {base : Heap} (C : SaysU chk fnL pnL K) (N : Nm K mg) : DefX1K P w K mg base "InvalidEvent" "at" "InvalidEvent" := by
  obtain ⟨fd, F⟩ := C.def_ 23
  exact defX1K_of F sc_invalidevent_init (tp_of N C.chk).xc_InvalidEvent (tp_of N C.chk).g_InvalidEvent
theorem defxk_InvalidPage {P : Program} {w : World} {K : PySem.W.Frag} {mg : Str → Option Value} {base : Heap} (C : SaysU chk fnL pnL K) (N : Nm K mg) : DefX1K P w K mg base "InvalidPage" "line" "InvalidPage" := by
  obtain ⟨fd, F⟩ := C.def_ 25
  exact defX1K_of F sc_invalidpage_init (tp_of N C.chk).xc_InvalidPage (tp_of N C.chk).g_InvalidPage
theorem defxk_WrongState {P : Program} {w : World} {K : PySem.W.Frag} {mg : Str → Option Value} {base : Heap} (C : SaysU chk fnL pnL K) (N : Nm K mg) : DefX1K P w K mg base "WrongState" "row" "WrongState" := by
  obtain ⟨fd, F⟩ := C.def_ 26
  exact defX1K_of F sc_wrongstate_init (tp_of N C.chk).xc_WrongState (tp_of N C.chk).g_WrongState
theorem defxk_TooMany {P : Program} {w : World} {K : PySem.W.Frag} {mg : Str → Option Value} {base : Heap} (C : SaysU chk fnL pnL K) (N : Nm K mg) : DefX1K P w K mg base "TooMany" "most" "TooMany" := by
  obtain ⟨fd, F⟩ := C.def_ 30
  exact defX1K_of F sc_toomany_init (tp_of N C.chk).xc_TooMany (tp_of N C.chk).g_TooMany
theorem defxk_NoRow {P : Program} {w : World} {K : PySem.W.Frag} {mg : Str → Option Value} {base : Heap} (C : SaysU chk fnL pnL K) (N : Nm K mg) : DefX1K P w K mg base "NoRow" "row" "NoRow" := by
  obtain ⟨fd, F⟩ := C.def_ 32
  exact defX1K_of F sc_norow_init (tp_of N C.chk).xc_NoRow (tp_of N C.chk).g_NoRow



theorem ob_eq (s : PySem.W.SharedT) : ob s = hk.obs s.abs := obsUR_eq (HandSHeadRun.getT_eq s)








abbrev fb_law_bag : SF := fbBag 5784
theorem okb_law_bag {P : Program} {w : World} {K : PySem.W.Frag} {mg : Str → Option Value} {base : Heap} {f : Addr} {cdv : Value} {A : Around} {outer : List PySem.Env} {s : Shared} {H : Hp} {E : XK} (T : Tp K mg)
    (hr : Room 0 (A.deeper (envOfC "_law_bag" (defScope s_law_bag) s.heap.objs.size f cdv))) (tk : Tk (bodyCx P w K mg base N_law_bag "_law_bag" (defScope s_law_bag) f cdv A outer s H E) (wOf E)) (hp : PassesOwn (model P w) (A.deeper (envOfC "_law_bag" (defScope s_law_bag) s.heap.objs.size f cdv)) (envOfC "_law_bag" (defScope s_law_bag) s.heap.objs.size f cdv) (bodyCx P w K mg base N_law_bag "_law_bag" (defScope s_law_bag) f cdv A outer s H E).xe) :
    SSs (bodyCx P w K mg base N_law_bag "_law_bag" (defScope s_law_bag) f cdv A outer s H E) (wOf E) (defBody s_law_bag) (fb_law_bag) :=
  (sss_cons (ss_set 1 (se_callTy cu_list T.f_list (sa_cons (se_sl (se_var 0) so_none (so_some (se_int))) sa_nil)) sc_law_bag.nd)
    (sss_one (ss_ret (se_lstS (sa_cons (se_var 1) (sa_cons (se_int) (sa_cons (se_int) (sa_cons (se_bin b_add (se_int) (se_callB cu_len T.f_len (sa_cons (se_var 1) sa_nil))) sa_nil))))))))
def m_law_bag : MF := rawM 2 fb_law_bag
theorem fn_law_bag {P : Program} {w : World} {K : PySem.W.Frag} {mg : Str → Option Value} {base : Heap} (C : SaysU chk fnL pnL K) (N : Nm K mg) {fd : FuncData} (F : FunD K "_law_bag" "_law_bag" (defArgs s_law_bag) (defBody s_law_bag) (defScope s_law_bag) [] [] (fAd K (d_law_bag).at_) fd) : FnU P w K mg base 1 (fAd K (d_law_bag).at_) fd ps_law_bag m_law_bag :=
  fn_raw F sc_law_bag fb_law_bag fun cdv A outer s H E hr tk hp => okb_law_bag (tp_of N C.chk)  hr tk hp
theorem def_law_bag {P : Program} {w : World} {K : PySem.W.Frag} {mg : Str → Option Value} {base : Heap} (C : SaysU chk fnL pnL K) (N : Nm K mg) : Def1 P w K mg base "_law_bag" 1 ps_law_bag m_law_bag [] := by
  obtain ⟨fd, F⟩ := C.def_ 0
  exact def1_of (fn_law_bag C N F) F (glo_at N (gl_of C.chk) 0) (fun _ _ _ _ _ _ us h => by match us, h with | [_], _ => rfl)
abbrev fb_law_draw : SF := fbDraw
theorem okb_law_draw {P : Program} {w : World} {K : PySem.W.Frag} {mg : Str → Option Value} {base : Heap} {f : Addr} {cdv : Value} {A : Around} {outer : List PySem.Env} {s : Shared} {H : Hp} {E : XK} (T : Tp K mg)
    (hr : Room 0 (A.deeper (envOfC "_law_draw" (defScope s_law_draw) s.heap.objs.size f cdv))) (tk : Tk (bodyCx P w K mg base N_law_draw "_law_draw" (defScope s_law_draw) f cdv A outer s H E) (wOf E)) (hp : PassesOwn (model P w) (A.deeper (envOfC "_law_draw" (defScope s_law_draw) s.heap.objs.size f cdv)) (envOfC "_law_draw" (defScope s_law_draw) s.heap.objs.size f cdv) (bodyCx P w K mg base N_law_draw "_law_draw" (defScope s_law_draw) f cdv A outer s H E).xe) :
    SSs (bodyCx P w K mg base N_law_draw "_law_draw" (defScope s_law_draw) f cdv A outer s H E) (wOf E) (defBody s_law_draw) (fb_law_draw) :=
  (sss_cons (ss_if (st_w (st_and (st_cmp (c_eq hr.units) (se_ix (se_var 0) (se_int)) (se_int)) (st_and1 (st_cmp c_lt (se_ix (se_var 0) (se_int)) (se_callB cu_len T.f_len (sa_cons (se_ix (se_var 0) (se_int)) sa_nil)))))) (sss_cons (ss_set 2 (se_ix (se_ix (se_var 0) (se_int)) (se_ix (se_var 0) (se_int))) sc_law_draw.nd)
    (sss_cons (ss_sub (se_bin b_add (se_ix (se_var 0) (se_int)) (se_int)) (se_var 0) (se_int))
    (sss_one (ss_if (st_cmp c_ge (se_callB cu_abs T.f_abs (sa_cons (se_var 2) sa_nil)) (se_bin b_pow (se_int) (se_int))) (sss_one (ss_sub (se_callB cu_abs T.f_abs (sa_cons (se_var 2) sa_nil)) (se_var 0) (se_int))) (sss_one (ss_sub (se_bin b_mod (se_callTy cu_int T.f_int (sa_cons (se_bin b_add (se_bin b_add (se_bin b_mul (se_ix (se_var 0) (se_int)) (se_int)) (se_bin b_mul (se_bin b_mod (se_callTy cu_int T.f_int (sa_cons (se_var 2) sa_nil)) (se_int)) (se_int))) (se_int)) sa_nil)) (se_int)) (se_var 0) (se_int))))))) sss_nil)
    (sss_cons (ss_if (st_cmp c_gt (se_ix (se_var 0) (se_int)) (se_int)) (sss_cons (ss_set 3 (se_bin b_mod (se_callTy cu_int T.f_int (sa_cons (se_ix (se_var 0) (se_int)) sa_nil)) (se_var 1)) sc_law_draw.nd)
    (sss_cons (ss_sub (se_bin b_div (se_ix (se_var 0) (se_int)) (se_var 1)) (se_var 0) (se_int))
    (sss_one (ss_ret (se_var 3))))) sss_nil)
    (sss_cons (ss_sub (se_bin b_mod (se_callTy cu_int T.f_int (sa_cons (se_bin b_add (se_bin b_add (se_bin b_mul (se_ix (se_var 0) (se_int)) (se_ix (se_var 0) (se_int))) (se_bin b_mul (se_ix (se_var 0) (se_int)) (se_int))) (se_int)) sa_nil)) (se_int)) (se_var 0) (se_int))
    (sss_one (ss_ret (se_bin b_mod (se_callTy cu_int T.f_int (sa_cons (se_bin b_div (se_ix (se_var 0) (se_int)) (se_int)) sa_nil)) (se_var 1)))))))
def m_law_draw : MF := rawM 4 fb_law_draw
theorem fn_law_draw {P : Program} {w : World} {K : PySem.W.Frag} {mg : Str → Option Value} {base : Heap} (C : SaysU chk fnL pnL K) (N : Nm K mg) {fd : FuncData} (F : FunD K "_law_draw" "_law_draw" (defArgs s_law_draw) (defBody s_law_draw) (defScope s_law_draw) [] [] (fAd K (d_law_draw).at_) fd) : FnU P w K mg base 1 (fAd K (d_law_draw).at_) fd ps_law_draw m_law_draw :=
  fn_raw F sc_law_draw fb_law_draw fun cdv A outer s H E hr tk hp => okb_law_draw (tp_of N C.chk)  hr tk hp
theorem def_law_draw {P : Program} {w : World} {K : PySem.W.Frag} {mg : Str → Option Value} {base : Heap} (C : SaysU chk fnL pnL K) (N : Nm K mg) : Def1 P w K mg base "_law_draw" 1 ps_law_draw m_law_draw [] := by
  obtain ⟨fd, F⟩ := C.def_ 1
  exact def1_of (fn_law_draw C N F) F (glo_at N (gl_of C.chk) 1) (fun _ _ _ _ _ _ us h => by match us, h with | [_, _], _ => rfl)
abbrev fb_law_pick : SF := fbPick m_law_draw
theorem okb_law_pick {P : Program} {w : World} {K : PySem.W.Frag} {mg : Str → Option Value} {base : Heap} {f : Addr} {cdv : Value} {A : Around} {outer : List PySem.Env} {s : Shared} {H : Hp} {E : XK} (T : Tp K mg) (h_law_draw : Def1 P w K mg base "_law_draw" 1 ps_law_draw m_law_draw [])
    (hr : Room 1 (A.deeper (envOfC "_law_pick" (defScope s_law_pick) s.heap.objs.size f cdv))) (tk : Tk (bodyCx P w K mg base N_law_pick "_law_pick" (defScope s_law_pick) f cdv A outer s H E) (wOf E)) (hp : PassesOwn (model P w) (A.deeper (envOfC "_law_pick" (defScope s_law_pick) s.heap.objs.size f cdv)) (envOfC "_law_pick" (defScope s_law_pick) s.heap.objs.size f cdv) (bodyCx P w K mg base N_law_pick "_law_pick" (defScope s_law_pick) f cdv A outer s H E).xe) :
    SSs (bodyCx P w K mg base N_law_pick "_law_pick" (defScope s_law_pick) f cdv A outer s H E) (wOf E) (defBody s_law_pick) (fb_law_pick) :=
  (sss_one (ss_ret (se_ix (se_var 1) (sf_fn h_law_draw (hr.mono (by decide)) tk (sa_cons (se_var 0) (sa_cons (se_callB cu_len T.f_len (sa_cons (se_var 1) sa_nil)) sa_nil))))))
def m_law_pick : MF := rawM 2 fb_law_pick
theorem fn_law_pick {P : Program} {w : World} {K : PySem.W.Frag} {mg : Str → Option Value} {base : Heap} (C : SaysU chk fnL pnL K) (N : Nm K mg) {fd : FuncData} (F : FunD K "_law_pick" "_law_pick" (defArgs s_law_pick) (defBody s_law_pick) (defScope s_law_pick) [] [] (fAd K (d_law_pick).at_) fd) : FnU P w K mg base 2 (fAd K (d_law_pick).at_) fd ps_law_pick m_law_pick :=
  fn_raw F sc_law_pick fb_law_pick fun cdv A outer s H E hr tk hp => okb_law_pick (tp_of N C.chk) (def_law_draw C N) hr tk hp
theorem def_law_pick {P : Program} {w : World} {K : PySem.W.Frag} {mg : Str → Option Value} {base : Heap} (C : SaysU chk fnL pnL K) (N : Nm K mg) : Def1 P w K mg base "_law_pick" 2 ps_law_pick m_law_pick [] := by
  obtain ⟨fd, F⟩ := C.def_ 2
  exact def1_of (fn_law_pick C N F) F (glo_at N (gl_of C.chk) 2) (fun _ _ _ _ _ _ us h => by match us, h with | [_, _], _ => rfl)
abbrev fb_law_same (mself : MF) : SF := fbSame mself
theorem okb_law_same {P : Program} {w : World} {K : PySem.W.Frag} {mg : Str → Option Value} {base : Heap} {f : Addr} {cdv : Value} {A : Around} {outer : List PySem.Env} {s : Shared} {H : Hp} {E : XK} {k : Nat} (T : Tp K mg) (mself : MF) (h_law_same : Def1 P w K mg base "_law_same" (k + 1) ps_law_same mself [])
    (hr : Room (k + 1) (A.deeper (envOfC "_law_same" (defScope s_law_same) s.heap.objs.size f cdv))) (tk : Tk (bodyCx P w K mg base N_law_same "_law_same" (defScope s_law_same) f cdv A outer s H E) (wOf E)) (hp : PassesOwn (model P w) (A.deeper (envOfC "_law_same" (defScope s_law_same) s.heap.objs.size f cdv)) (envOfC "_law_same" (defScope s_law_same) s.heap.objs.size f cdv) (bodyCx P w K mg base N_law_same "_law_same" (defScope s_law_same) f cdv A outer s H E).xe) :
    SSs (bodyCx P w K mg base N_law_same "_law_same" (defScope s_law_same) f cdv A outer s H E) (wOf E) (defBody s_law_same) (fb_law_same mself) :=
  (sss_cons (ss_if (st_w (st_and (st_val (se_callB cu_isi0 T.f_isinstance (sa_cons (se_var 1) (sa_cons (se_tup (sa_cons (se_ty T.f_list) (sa_cons (se_ty T.f_tuple) sa_nil))) sa_nil)))) (st_and1 (st_val (se_callB cu_isi0 T.f_isinstance (sa_cons (se_var 0) (sa_cons (se_tup (sa_cons (se_ty T.f_list) (sa_cons (se_ty T.f_tuple) sa_nil))) sa_nil))))))) (sss_cons (ss_set 2 (se_and (se_cmp (c_eq hr.units) (se_callB cu_isi0 T.f_isinstance (sa_cons (se_var 1) (sa_cons (se_ty T.f_list) sa_nil))) (se_callB cu_isi0 T.f_isinstance (sa_cons (se_var 0) (sa_cons (se_ty T.f_list) sa_nil)))) (se_one (se_cmp (c_eq hr.units) (se_callB cu_len T.f_len (sa_cons (se_var 0) sa_nil)) (se_callB cu_len T.f_len (sa_cons (se_var 1) sa_nil))))) sc_law_same.nd)
    (sss_one (ss_ret (se_and (se_var 2) (se_one (se_callB (cu_all rfl) T.f_all (sa_cons (by exact se_comp (own := [("_law_my_at", 3)]) rfl sc_law_same.nd (by exact it_range1 T.f_range (sa_cons (se_callB cu_len T.f_len (sa_cons (se_var 1) sa_nil)) sa_nil)) (blkOk_by (N := N_law_same) (sc := defScope s_law_same) (by decide +kernel)) (by exact blk_mk (t := gName 3) (fun _ _ _ _ _ => by exact pg_name (i := 3) sc_law_same.nd rfl (by first | exact Or.inl rfl | exact Or.inr rfl)) (by exact gu_name 3) (fun _ _ _ _ _ => by exact ts_nil) (fun _ _ _ _ _ => by exact sf_fn h_law_same hr tk0 (sa_cons (se_ix (se_var 0) (se_var 3)) (sa_cons (se_ix (se_var 1) (se_var 3)) sa_nil))))) sa_nil))))))) sss_nil)
    (sss_cons (ss_if (st_w (st_or (st_val (se_callB cu_isi0 T.f_isinstance (sa_cons (se_var 1) (sa_cons (se_tup (sa_cons (se_ty T.f_list) (sa_cons (se_ty T.f_tuple) sa_nil))) sa_nil)))) (st_or (st_val (se_callB cu_isi0 T.f_isinstance (sa_cons (se_var 0) (sa_cons (se_tup (sa_cons (se_ty T.f_list) (sa_cons (se_ty T.f_tuple) sa_nil))) sa_nil)))) (st_or1 (st_cmp (c_ne hr.units) (se_cmp c_is (se_var 1) (se_non)) (se_cmp c_is (se_var 0) (se_non))))))) (sss_one (ss_ret (se_bl))) sss_nil)
    (sss_cons (ss_set 2 (se_and (se_cmp (c_eq hr.units) (se_callB cu_isi0 T.f_isinstance (sa_cons (se_var 1) (sa_cons (se_ty T.f_bool) sa_nil))) (se_callB cu_isi0 T.f_isinstance (sa_cons (se_var 0) (sa_cons (se_ty T.f_bool) sa_nil)))) (se_one (se_cmp (c_eq hr.units) (se_callB cu_isi0 T.f_isinstance (sa_cons (se_var 1) (sa_cons (se_ty T.f_int) sa_nil))) (se_callB cu_isi0 T.f_isinstance (sa_cons (se_var 0) (sa_cons (se_ty T.f_int) sa_nil)))))) sc_law_same.nd)
    (sss_one (ss_ret (se_and (se_var 2) (se_and (se_cmp (c_eq hr.units) (se_callB cu_isi0 T.f_isinstance (sa_cons (se_var 1) (sa_cons (se_ty T.f_str) sa_nil))) (se_callB cu_isi0 T.f_isinstance (sa_cons (se_var 0) (sa_cons (se_ty T.f_str) sa_nil)))) (se_one (se_cmp (c_eq hr.units) (se_var 0) (se_var 1))))))))))
abbrev m_law_same : Nat → MF := sameM
theorem fn_law_same {P : Program} {w : World} {K : PySem.W.Frag} {mg : Str → Option Value} {base : Heap} (C : SaysU chk fnL pnL K) (N : Nm K mg) {fd : FuncData} (F : FunD K "_law_same" "_law_same" (defArgs s_law_same) (defBody s_law_same) (defScope s_law_same) [] [] (fAd K (d_law_same).at_) fd) : ∀ k : Nat, FnU P w K mg base (k + 1) (fAd K (d_law_same).at_) fd ps_law_same (m_law_same k)
  | 0 => fn_no F sc_law_same
  | k + 1 => by
    have ih : Def1 P w K mg base "_law_same" (k + 1) ps_law_same (m_law_same k) [] := def1_of (fn_law_same C N F k) F (glo_at N (gl_of C.chk) 3) (fun _ _ _ _ _ _ us h => by match us, h with | [_, _], _ => rfl)
    exact fn_pur F sc_law_same (fb_law_same (m_law_same k)) fun cdv A outer s H E hr tk hp => okb_law_same (tp_of N C.chk) (m_law_same k) ih hr tk hp
theorem def_law_same {P : Program} {w : World} {K : PySem.W.Frag} {mg : Str → Option Value} {base : Heap} (C : SaysU chk fnL pnL K) (N : Nm K mg) (k : Nat) : Def1 P w K mg base "_law_same" (k + 1) ps_law_same (m_law_same k) [] := by
  obtain ⟨fd, F⟩ := C.def_ 3
  exact def1_of (fn_law_same C N F k) F (glo_at N (gl_of C.chk) 3) (fun _ _ _ _ _ _ us h => by match us, h with | [_, _], _ => rfl)
def fb_law_field : SF := (sSeq (sIf (tCmp inB (eXf xcs "code" (eVar 0)) (eTup (aCons (eC (.str "InvalidState")) (aCons (eC (.str "InvalidKey")) (aCons (eC (.str "TakenKey")) (aCons (eC (.str "InvalidAct")) (aCons (eC (.str "InvalidNumber")) (aCons (eC (.str "InvalidWish")) aNil)))))))) (sRet (eXf xcs "given" (eVar 0))) sNext)
    (sSeq (sIf (tCmp inB (eXf xcs "code" (eVar 0)) (eTup (aCons (eC (.str "InvalidEdit")) (aCons (eC (.str "InvalidStanding")) (aCons (eC (.str "InvalidLimit")) aNil))))) (sRet (eXf xcs "given" (eVar 0))) sNext)
    (sSeq (sIf (tCmp inB (eXf xcs "code" (eVar 0)) (eTup (aCons (eC (.str "InvalidRules")) (aCons (eC (.str "InvalidStory")) (aCons (eC (.str "InvalidEvent")) aNil))))) (sRet (eXf xcs "at" (eVar 0))) sNext)
    (sSeq (sIf (tCmp inB (eXf xcs "code" (eVar 0)) (eTup (aCons (eC (.str "WrongState")) (aCons (eC (.str "NoRow")) aNil)))) (sRet (eXf xcs "row" (eVar 0))) sNext)
    (sSeq (sIf (tCmp inB (eXf xcs "code" (eVar 0)) (eTup (aCons (eC (.str "TooMany")) (aCons (eC (.str "Full")) aNil)))) (sRet (eXf xcs "most" (eVar 0))) sNext)
    (sSeq (sIf (tCmp eqB (eXf xcs "code" (eVar 0)) (eC (.str "Misfit"))) (sRet (eXf xcs "letter" (eVar 0))) sNext)
    (sRet (eIf (tCmp eqB (eXf xcs "code" (eVar 0)) (eC (.str "InvalidPage"))) (eXf xcs "line" (eVar 0)) (eC .non)))))))))
theorem okb_law_field {P : Program} {w : World} {K : PySem.W.Frag} {mg : Str → Option Value} {base : Heap} {f : Addr} {cdv : Value} {A : Around} {outer : List PySem.Env} {s : Shared} {H : Hp} {E : XK} (T : Tp K mg)
    (hr : Room 0 (A.deeper (envOfC "_law_field" (defScope s_law_field) s.heap.objs.size f cdv))) (tk : Tk (bodyCx P w K mg base N_law_field "_law_field" (defScope s_law_field) f cdv A outer s H E) (wOf E)) (hp : PassesOwn (model P w) (A.deeper (envOfC "_law_field" (defScope s_law_field) s.heap.objs.size f cdv)) (envOfC "_law_field" (defScope s_law_field) s.heap.objs.size f cdv) (bodyCx P w K mg base N_law_field "_law_field" (defScope s_law_field) f cdv A outer s H E).xe) :
    SSs (bodyCx P w K mg base N_law_field "_law_field" (defScope s_law_field) f cdv A outer s H E) (wOf E) (defBody s_law_field) (fb_law_field) :=
  (sss_cons (ss_if (st_cmp c_in (se_xf T.xf_code (se_var 0)) (se_tup (sa_cons (se_str) (sa_cons (se_str) (sa_cons (se_str) (sa_cons (se_str) (sa_cons (se_str) (sa_cons (se_str) sa_nil)))))))) (sss_one (ss_ret (se_xf T.xf_given (se_var 0)))) sss_nil)
    (sss_cons (ss_if (st_cmp c_in (se_xf T.xf_code (se_var 0)) (se_tup (sa_cons (se_str) (sa_cons (se_str) (sa_cons (se_str) sa_nil))))) (sss_one (ss_ret (se_xf T.xf_given (se_var 0)))) sss_nil)
    (sss_cons (ss_if (st_cmp c_in (se_xf T.xf_code (se_var 0)) (se_tup (sa_cons (se_str) (sa_cons (se_str) (sa_cons (se_str) sa_nil))))) (sss_one (ss_ret (se_xf T.xf_at (se_var 0)))) sss_nil)
    (sss_cons (ss_if (st_cmp c_in (se_xf T.xf_code (se_var 0)) (se_tup (sa_cons (se_str) (sa_cons (se_str) sa_nil)))) (sss_one (ss_ret (se_xf T.xf_row (se_var 0)))) sss_nil)
    (sss_cons (ss_if (st_cmp c_in (se_xf T.xf_code (se_var 0)) (se_tup (sa_cons (se_str) (sa_cons (se_str) sa_nil)))) (sss_one (ss_ret (se_xf T.xf_most (se_var 0)))) sss_nil)
    (sss_cons (ss_if (st_cmp (c_eq hr.units) (se_xf T.xf_code (se_var 0)) (se_str)) (sss_one (ss_ret (se_xf T.xf_letter (se_var 0)))) sss_nil)
    (sss_one (ss_ret (se_if (st_cmp (c_eq hr.units) (se_xf T.xf_code (se_var 0)) (se_str)) (se_xf T.xf_line (se_var 0)) (se_non))))))))))
def m_law_field : MF := purM 1 fb_law_field
theorem fn_law_field {P : Program} {w : World} {K : PySem.W.Frag} {mg : Str → Option Value} {base : Heap} (C : SaysU chk fnL pnL K) (N : Nm K mg) {fd : FuncData} (F : FunD K "_law_field" "_law_field" (defArgs s_law_field) (defBody s_law_field) (defScope s_law_field) [] [] (fAd K (d_law_field).at_) fd) : FnU P w K mg base 1 (fAd K (d_law_field).at_) fd ps_law_field m_law_field :=
  fn_pur F sc_law_field fb_law_field fun cdv A outer s H E hr tk hp => okb_law_field (tp_of N C.chk)  hr tk hp
theorem def_law_field {P : Program} {w : World} {K : PySem.W.Frag} {mg : Str → Option Value} {base : Heap} (C : SaysU chk fnL pnL K) (N : Nm K mg) : Def1 P w K mg base "_law_field" 1 ps_law_field m_law_field [] := by
  obtain ⟨fd, F⟩ := C.def_ 4
  exact def1_of (fn_law_field C N F) F (glo_at N (gl_of C.chk) 4) (fun _ _ _ _ _ _ us h => by match us, h with | [_], _ => rfl)
def fb_law_caught : SF := (sSeq (sAsg (eLst (aCons (eCallB (oIsiX xisT xisG) (aCons (eVar 0) (aCons (eC (.con "RunError")) aNil))) (aCons (eCallB (oIsiX xisT xisG) (aCons (eVar 0) (aCons (eC (.ty "ValueError")) aNil))) (aCons (eCallB (oIsiX xisT xisG) (aCons (eVar 0) (aCons (eC (.con "Missing")) aNil))) (aCons (eCallB (oIsiX xisT xisG) (aCons (eVar 0) (aCons (eC (.ty "LookupError")) aNil))) (aCons (eCallB (oIsiX xisT xisG) (aCons (eVar 0) (aCons (eC (.con "NothingLeft")) aNil))) (aCons (eCallB (oIsiX xisT xisG) (aCons (eVar 0) (aCons (eC (.ty "IndexError")) aNil))) aNil))))))) (bName 1))
    (sRet (eVar 1)))
theorem okb_law_caught {P : Program} {w : World} {K : PySem.W.Frag} {mg : Str → Option Value} {base : Heap} {f : Addr} {cdv : Value} {A : Around} {outer : List PySem.Env} {s : Shared} {H : Hp} {E : XK} (T : Tp K mg)
    (hr : Room 0 (A.deeper (envOfC "_law_caught" (defScope s_law_caught) s.heap.objs.size f cdv))) (tk : Tk (bodyCx P w K mg base N_law_caught "_law_caught" (defScope s_law_caught) f cdv A outer s H E) (wOf E)) (hp : PassesOwn (model P w) (A.deeper (envOfC "_law_caught" (defScope s_law_caught) s.heap.objs.size f cdv)) (envOfC "_law_caught" (defScope s_law_caught) s.heap.objs.size f cdv) (bodyCx P w K mg base N_law_caught "_law_caught" (defScope s_law_caught) f cdv A outer s H E).xe) :
    SSs (bodyCx P w K mg base N_law_caught "_law_caught" (defScope s_law_caught) f cdv A outer s H E) (wOf E) (defBody s_law_caught) (fb_law_caught) :=
  (sss_cons (ss_set 1 (se_lst (sa_cons (se_callB (cu_isX T.isx) T.f_isinstance (sa_cons (se_var 0) (sa_cons (se_gc T.c_RunError) sa_nil))) (sa_cons (se_callB (cu_isX T.isx) T.f_isinstance (sa_cons (se_var 0) (sa_cons (se_ty T.f_ValueError) sa_nil))) (sa_cons (se_callB (cu_isX T.isx) T.f_isinstance (sa_cons (se_var 0) (sa_cons (se_gc T.c_Missing) sa_nil))) (sa_cons (se_callB (cu_isX T.isx) T.f_isinstance (sa_cons (se_var 0) (sa_cons (se_ty T.f_LookupError) sa_nil))) (sa_cons (se_callB (cu_isX T.isx) T.f_isinstance (sa_cons (se_var 0) (sa_cons (se_gc T.c_NothingLeft) sa_nil))) (sa_cons (se_callB (cu_isX T.isx) T.f_isinstance (sa_cons (se_var 0) (sa_cons (se_ty T.f_IndexError) sa_nil))) sa_nil))))))) sc_law_caught.nd)
    (sss_one (ss_ret (se_var 1))))
def m_law_caught : MF := purM 2 fb_law_caught
theorem fn_law_caught {P : Program} {w : World} {K : PySem.W.Frag} {mg : Str → Option Value} {base : Heap} (C : SaysU chk fnL pnL K) (N : Nm K mg) {fd : FuncData} (F : FunD K "_law_caught" "_law_caught" (defArgs s_law_caught) (defBody s_law_caught) (defScope s_law_caught) [] [] (fAd K (d_law_caught).at_) fd) : FnU P w K mg base 1 (fAd K (d_law_caught).at_) fd ps_law_caught m_law_caught :=
  fn_pur F sc_law_caught fb_law_caught fun cdv A outer s H E hr tk hp => okb_law_caught (tp_of N C.chk)  hr tk hp
theorem def_law_caught {P : Program} {w : World} {K : PySem.W.Frag} {mg : Str → Option Value} {base : Heap} (C : SaysU chk fnL pnL K) (N : Nm K mg) : Def1 P w K mg base "_law_caught" 1 ps_law_caught m_law_caught [] := by
  obtain ⟨fd, F⟩ := C.def_ 5
  exact def1_of (fn_law_caught C N F) F (glo_at N (gl_of C.chk) 5) (fun _ _ _ _ _ _ us h => by match us, h with | [_], _ => rfl)
def fb_law_kinds : SF := (sSeq (sAsg (eLst (aCons (eCallB (oIsiX xisT xisG) (aCons (eVar 0) (aCons (eC (.con "InvalidState")) aNil))) (aCons (eCallB (oIsiX xisT xisG) (aCons (eVar 0) (aCons (eC (.con "InvalidKey")) aNil))) (aCons (eCallB (oIsiX xisT xisG) (aCons (eVar 0) (aCons (eC (.con "TakenKey")) aNil))) (aCons (eCallB (oIsiX xisT xisG) (aCons (eVar 0) (aCons (eC (.con "InvalidTable")) aNil))) aNil))))) (bName 1))
    (sSeq (sAsg (eBin oAdd (eVar 1) (eLst (aCons (eCallB (oIsiX xisT xisG) (aCons (eVar 0) (aCons (eC (.con "InvalidAct")) aNil))) (aCons (eCallB (oIsiX xisT xisG) (aCons (eVar 0) (aCons (eC (.con "InvalidJob")) aNil))) (aCons (eCallB (oIsiX xisT xisG) (aCons (eVar 0) (aCons (eC (.con "InvalidRules")) aNil))) (aCons (eCallB (oIsiX xisT xisG) (aCons (eVar 0) (aCons (eC (.con "Misfit")) aNil))) aNil)))))) (bName 1))
    (sSeq (sAsg (eBin oAdd (eVar 1) (eLst (aCons (eCallB (oIsiX xisT xisG) (aCons (eVar 0) (aCons (eC (.con "InvalidNumber")) aNil))) (aCons (eCallB (oIsiX xisT xisG) (aCons (eVar 0) (aCons (eC (.con "InvalidText")) aNil))) (aCons (eCallB (oIsiX xisT xisG) (aCons (eVar 0) (aCons (eC (.con "InvalidWish")) aNil))) aNil))))) (bName 1))
    (sSeq (sAsg (eBin oAdd (eVar 1) (eLst (aCons (eCallB (oIsiX xisT xisG) (aCons (eVar 0) (aCons (eC (.con "InvalidEdit")) aNil))) (aCons (eCallB (oIsiX xisT xisG) (aCons (eVar 0) (aCons (eC (.con "InvalidStory")) aNil))) (aCons (eCallB (oIsiX xisT xisG) (aCons (eVar 0) (aCons (eC (.con "InvalidStanding")) aNil))) aNil))))) (bName 1))
    (sSeq (sAsg (eBin oAdd (eVar 1) (eLst (aCons (eCallB (oIsiX xisT xisG) (aCons (eVar 0) (aCons (eC (.con "InvalidEvent")) aNil))) (aCons (eCallB (oIsiX xisT xisG) (aCons (eVar 0) (aCons (eC (.con "InvalidLimit")) aNil))) (aCons (eCallB (oIsiX xisT xisG) (aCons (eVar 0) (aCons (eC (.con "InvalidPage")) aNil))) aNil))))) (bName 1))
    (sSeq (sAsg (eBin oAdd (eVar 1) (eLst (aCons (eCallB (oIsiX xisT xisG) (aCons (eVar 0) (aCons (eC (.con "WrongState")) aNil))) (aCons (eCallB (oIsiX xisT xisG) (aCons (eVar 0) (aCons (eC (.con "NotReady")) aNil))) (aCons (eCallB (oIsiX xisT xisG) (aCons (eVar 0) (aCons (eC (.con "NotWorking")) aNil))) (aCons (eCallB (oIsiX xisT xisG) (aCons (eVar 0) (aCons (eC (.con "Ended")) aNil))) aNil)))))) (bName 1))
    (sRet (eBin oAdd (eVar 1) (eLst (aCons (eCallB (oIsiX xisT xisG) (aCons (eVar 0) (aCons (eC (.con "TooMany")) aNil))) (aCons (eCallB (oIsiX xisT xisG) (aCons (eVar 0) (aCons (eC (.con "Full")) aNil))) (aCons (eCallB (oIsiX xisT xisG) (aCons (eVar 0) (aCons (eC (.con "NoRow")) aNil))) (aCons (eCallB (oIsiX xisT xisG) (aCons (eVar 0) (aCons (eC (.con "NothingLeft")) aNil))) aNil)))))))))))))
theorem okb_law_kinds {P : Program} {w : World} {K : PySem.W.Frag} {mg : Str → Option Value} {base : Heap} {f : Addr} {cdv : Value} {A : Around} {outer : List PySem.Env} {s : Shared} {H : Hp} {E : XK} (T : Tp K mg)
    (hr : Room 0 (A.deeper (envOfC "_law_kinds" (defScope s_law_kinds) s.heap.objs.size f cdv))) (tk : Tk (bodyCx P w K mg base N_law_kinds "_law_kinds" (defScope s_law_kinds) f cdv A outer s H E) (wOf E)) (hp : PassesOwn (model P w) (A.deeper (envOfC "_law_kinds" (defScope s_law_kinds) s.heap.objs.size f cdv)) (envOfC "_law_kinds" (defScope s_law_kinds) s.heap.objs.size f cdv) (bodyCx P w K mg base N_law_kinds "_law_kinds" (defScope s_law_kinds) f cdv A outer s H E).xe) :
    SSs (bodyCx P w K mg base N_law_kinds "_law_kinds" (defScope s_law_kinds) f cdv A outer s H E) (wOf E) (defBody s_law_kinds) (fb_law_kinds) :=
  (sss_cons (ss_set 1 (se_lst (sa_cons (se_callB (cu_isX T.isx) T.f_isinstance (sa_cons (se_var 0) (sa_cons (se_gc T.c_InvalidState) sa_nil))) (sa_cons (se_callB (cu_isX T.isx) T.f_isinstance (sa_cons (se_var 0) (sa_cons (se_gc T.c_InvalidKey) sa_nil))) (sa_cons (se_callB (cu_isX T.isx) T.f_isinstance (sa_cons (se_var 0) (sa_cons (se_gc T.c_TakenKey) sa_nil))) (sa_cons (se_callB (cu_isX T.isx) T.f_isinstance (sa_cons (se_var 0) (sa_cons (se_gc T.c_InvalidTable) sa_nil))) sa_nil))))) sc_law_kinds.nd)
    (sss_cons (ss_set 1 (se_bin b_add (se_var 1) (se_lst (sa_cons (se_callB (cu_isX T.isx) T.f_isinstance (sa_cons (se_var 0) (sa_cons (se_gc T.c_InvalidAct) sa_nil))) (sa_cons (se_callB (cu_isX T.isx) T.f_isinstance (sa_cons (se_var 0) (sa_cons (se_gc T.c_InvalidJob) sa_nil))) (sa_cons (se_callB (cu_isX T.isx) T.f_isinstance (sa_cons (se_var 0) (sa_cons (se_gc T.c_InvalidRules) sa_nil))) (sa_cons (se_callB (cu_isX T.isx) T.f_isinstance (sa_cons (se_var 0) (sa_cons (se_gc T.c_Misfit) sa_nil))) sa_nil)))))) sc_law_kinds.nd)
    (sss_cons (ss_set 1 (se_bin b_add (se_var 1) (se_lst (sa_cons (se_callB (cu_isX T.isx) T.f_isinstance (sa_cons (se_var 0) (sa_cons (se_gc T.c_InvalidNumber) sa_nil))) (sa_cons (se_callB (cu_isX T.isx) T.f_isinstance (sa_cons (se_var 0) (sa_cons (se_gc T.c_InvalidText) sa_nil))) (sa_cons (se_callB (cu_isX T.isx) T.f_isinstance (sa_cons (se_var 0) (sa_cons (se_gc T.c_InvalidWish) sa_nil))) sa_nil))))) sc_law_kinds.nd)
    (sss_cons (ss_set 1 (se_bin b_add (se_var 1) (se_lst (sa_cons (se_callB (cu_isX T.isx) T.f_isinstance (sa_cons (se_var 0) (sa_cons (se_gc T.c_InvalidEdit) sa_nil))) (sa_cons (se_callB (cu_isX T.isx) T.f_isinstance (sa_cons (se_var 0) (sa_cons (se_gc T.c_InvalidStory) sa_nil))) (sa_cons (se_callB (cu_isX T.isx) T.f_isinstance (sa_cons (se_var 0) (sa_cons (se_gc T.c_InvalidStanding) sa_nil))) sa_nil))))) sc_law_kinds.nd)
    (sss_cons (ss_set 1 (se_bin b_add (se_var 1) (se_lst (sa_cons (se_callB (cu_isX T.isx) T.f_isinstance (sa_cons (se_var 0) (sa_cons (se_gc T.c_InvalidEvent) sa_nil))) (sa_cons (se_callB (cu_isX T.isx) T.f_isinstance (sa_cons (se_var 0) (sa_cons (se_gc T.c_InvalidLimit) sa_nil))) (sa_cons (se_callB (cu_isX T.isx) T.f_isinstance (sa_cons (se_var 0) (sa_cons (se_gc T.c_InvalidPage) sa_nil))) sa_nil))))) sc_law_kinds.nd)
    (sss_cons (ss_set 1 (se_bin b_add (se_var 1) (se_lst (sa_cons (se_callB (cu_isX T.isx) T.f_isinstance (sa_cons (se_var 0) (sa_cons (se_gc T.c_WrongState) sa_nil))) (sa_cons (se_callB (cu_isX T.isx) T.f_isinstance (sa_cons (se_var 0) (sa_cons (se_gc T.c_NotReady) sa_nil))) (sa_cons (se_callB (cu_isX T.isx) T.f_isinstance (sa_cons (se_var 0) (sa_cons (se_gc T.c_NotWorking) sa_nil))) (sa_cons (se_callB (cu_isX T.isx) T.f_isinstance (sa_cons (se_var 0) (sa_cons (se_gc T.c_Ended) sa_nil))) sa_nil)))))) sc_law_kinds.nd)
    (sss_one (ss_ret (se_bin b_add (se_var 1) (se_lst (sa_cons (se_callB (cu_isX T.isx) T.f_isinstance (sa_cons (se_var 0) (sa_cons (se_gc T.c_TooMany) sa_nil))) (sa_cons (se_callB (cu_isX T.isx) T.f_isinstance (sa_cons (se_var 0) (sa_cons (se_gc T.c_Full) sa_nil))) (sa_cons (se_callB (cu_isX T.isx) T.f_isinstance (sa_cons (se_var 0) (sa_cons (se_gc T.c_NoRow) sa_nil))) (sa_cons (se_callB (cu_isX T.isx) T.f_isinstance (sa_cons (se_var 0) (sa_cons (se_gc T.c_NothingLeft) sa_nil))) sa_nil))))))))))))))
def m_law_kinds : MF := purM 2 fb_law_kinds
theorem fn_law_kinds {P : Program} {w : World} {K : PySem.W.Frag} {mg : Str → Option Value} {base : Heap} (C : SaysU chk fnL pnL K) (N : Nm K mg) {fd : FuncData} (F : FunD K "_law_kinds" "_law_kinds" (defArgs s_law_kinds) (defBody s_law_kinds) (defScope s_law_kinds) [] [] (fAd K (d_law_kinds).at_) fd) : FnU P w K mg base 1 (fAd K (d_law_kinds).at_) fd ps_law_kinds m_law_kinds :=
  fn_pur F sc_law_kinds fb_law_kinds fun cdv A outer s H E hr tk hp => okb_law_kinds (tp_of N C.chk)  hr tk hp
theorem def_law_kinds {P : Program} {w : World} {K : PySem.W.Frag} {mg : Str → Option Value} {base : Heap} (C : SaysU chk fnL pnL K) (N : Nm K mg) : Def1 P w K mg base "_law_kinds" 1 ps_law_kinds m_law_kinds [] := by
  obtain ⟨fd, F⟩ := C.def_ 6
  exact def1_of (fn_law_kinds C N F) F (glo_at N (gl_of C.chk) 6) (fun _ _ _ _ _ _ us h => by match us, h with | [_], _ => rfl)
def fb_law_all_errors : SF := (sSeq (sAsg (eLst (aCons (eTup (aCons (eMkX1 "InvalidState" "given" "InvalidState" (aCons (eVar 0) aNil)) (aCons (eC (.str "InvalidState")) aNil))) (aCons (eTup (aCons (eMkX1 "InvalidKey" "given" "InvalidKey" (aCons (eVar 0) aNil)) (aCons (eC (.str "InvalidKey")) aNil))) (aCons (eTup (aCons (eMkX1 "TakenKey" "given" "TakenKey" (aCons (eVar 0) aNil)) (aCons (eC (.str "TakenKey")) aNil))) aNil)))) (bName 1))
    (sSeq (sAsg (eBin oAdd (eVar 1) (eLst (aCons (eTup (aCons (eMkX0 "InvalidTable" "InvalidTable") (aCons (eC (.str "InvalidTable")) aNil))) (aCons (eTup (aCons (eMkX1 "InvalidAct" "given" "InvalidAct" (aCons (eVar 0) aNil)) (aCons (eC (.str "InvalidAct")) aNil))) (aCons (eTup (aCons (eMkX0 "InvalidJob" "InvalidJob") (aCons (eC (.str "InvalidJob")) aNil))) aNil))))) (bName 1))
    (sSeq (sAsg (eBin oAdd (eVar 1) (eLst (aCons (eTup (aCons (eMkX1 "InvalidRules" "at" "InvalidRules" (aCons (eVar 0) aNil)) (aCons (eC (.str "InvalidRules")) aNil))) (aCons (eTup (aCons (eMkX1 "Misfit" "letter" "Misfit" (aCons (eVar 0) aNil)) (aCons (eC (.str "Misfit")) aNil))) (aCons (eTup (aCons (eMkX1 "InvalidNumber" "given" "InvalidNumber" (aCons (eVar 0) aNil)) (aCons (eC (.str "InvalidNumber")) aNil))) aNil))))) (bName 1))
    (sSeq (sAsg (eBin oAdd (eVar 1) (eLst (aCons (eTup (aCons (eMkX0 "InvalidText" "InvalidText") (aCons (eC (.str "InvalidText")) aNil))) (aCons (eTup (aCons (eMkX1 "InvalidWish" "given" "InvalidWish" (aCons (eVar 0) aNil)) (aCons (eC (.str "InvalidWish")) aNil))) (aCons (eTup (aCons (eMkX1 "InvalidEdit" "given" "InvalidEdit" (aCons (eVar 0) aNil)) (aCons (eC (.str "InvalidEdit")) aNil))) aNil))))) (bName 1))
    (sSeq (sAsg (eBin oAdd (eVar 1) (eLst (aCons (eTup (aCons (eMkX1 "InvalidStory" "at" "InvalidStory" (aCons (eVar 0) aNil)) (aCons (eC (.str "InvalidStory")) aNil))) (aCons (eTup (aCons (eMkX1 "InvalidStanding" "given" "InvalidStanding" (aCons (eVar 0) aNil)) (aCons (eC (.str "InvalidStanding")) aNil))) aNil)))) (bName 1))
    (sSeq (sAsg (eBin oAdd (eVar 1) (eLst (aCons (eTup (aCons (eMkX1 "InvalidEvent" "at" "InvalidEvent" (aCons (eVar 0) aNil)) (aCons (eC (.str "InvalidEvent")) aNil))) (aCons (eTup (aCons (eMkX1 "InvalidLimit" "given" "InvalidLimit" (aCons (eVar 0) aNil)) (aCons (eC (.str "InvalidLimit")) aNil))) (aCons (eTup (aCons (eMkX1 "InvalidPage" "line" "InvalidPage" (aCons (eVar 0) aNil)) (aCons (eC (.str "InvalidPage")) aNil))) aNil))))) (bName 1))
    (sSeq (sAsg (eBin oAdd (eVar 1) (eLst (aCons (eTup (aCons (eMkX1 "WrongState" "row" "WrongState" (aCons (eVar 0) aNil)) (aCons (eC (.str "WrongState")) aNil))) (aCons (eTup (aCons (eMkX0 "NotReady" "NotReady") (aCons (eC (.str "NotReady")) aNil))) (aCons (eTup (aCons (eMkX0 "NotWorking" "NotWorking") (aCons (eC (.str "NotWorking")) aNil))) aNil))))) (bName 1))
    (sSeq (sAsg (eBin oAdd (eVar 1) (eLst (aCons (eTup (aCons (eMkX0 "Ended" "Ended") (aCons (eC (.str "Ended")) aNil))) (aCons (eTup (aCons (eMkX1 "TooMany" "most" "TooMany" (aCons (eVar 0) aNil)) (aCons (eC (.str "TooMany")) aNil))) (aCons (eTup (aCons (eMkX1 "Full" "most" "Full" (aCons (eVar 0) aNil)) (aCons (eC (.str "Full")) aNil))) (aCons (eTup (aCons (eMkX1 "NoRow" "row" "NoRow" (aCons (eVar 0) aNil)) (aCons (eC (.str "NoRow")) aNil))) aNil)))))) (bName 1))
    (sRet (eBin oAdd (eVar 1) (eLst (aCons (eTup (aCons (eMkX0 "NothingLeft" "NothingLeft") (aCons (eC (.str "NothingLeft")) aNil))) aNil))))))))))))
theorem okb_law_all_errors {P : Program} {w : World} {K : PySem.W.Frag} {mg : Str → Option Value} {base : Heap} {f : Addr} {cdv : Value} {A : Around} {outer : List PySem.Env} {s : Shared} {H : Hp} {E : XK} (T : Tp K mg) (hxk_InvalidState : DefX1K P w K mg base "InvalidState" "given" "InvalidState") (hxk_InvalidKey : DefX1K P w K mg base "InvalidKey" "given" "InvalidKey") (hxk_TakenKey : DefX1K P w K mg base "TakenKey" "given" "TakenKey") (hx_InvalidTable : DefX0 P w K mg base "InvalidTable" "InvalidTable") (hxk_InvalidAct : DefX1K P w K mg base "InvalidAct" "given" "InvalidAct") (hx_InvalidJob : DefX0 P w K mg base "InvalidJob" "InvalidJob") (hxk_InvalidRules : DefX1K P w K mg base "InvalidRules" "at" "InvalidRules") (hxk_Misfit : DefX1K P w K mg base "Misfit" "letter" "Misfit") (hx_InvalidNumber : DefX1 P w K mg base "InvalidNumber" "given" "InvalidNumber") (hx_InvalidText : DefX0 P w K mg base "InvalidText" "InvalidText") (hxk_InvalidWish : DefX1K P w K mg base "InvalidWish" "given" "InvalidWish") (hx_InvalidEdit : DefX1 P w K mg base "InvalidEdit" "given" "InvalidEdit") (hxk_InvalidStory : DefX1K P w K mg base "InvalidStory" "at" "InvalidStory") (hxk_InvalidStanding : DefX1K P w K mg base "InvalidStanding" "given" "InvalidStanding") (hxk_InvalidEvent : DefX1K P w K mg base "InvalidEvent" "at" "InvalidEvent") (hx_InvalidLimit : DefX1 P w K mg base "InvalidLimit" "given" "InvalidLimit") (hxk_InvalidPage : DefX1K P w K mg base "InvalidPage" "line" "InvalidPage") (hxk_WrongState : DefX1K P w K mg base "WrongState" "row" "WrongState") (hx_NotReady : DefX0 P w K mg base "NotReady" "NotReady") (hx_NotWorking : DefX0 P w K mg base "NotWorking" "NotWorking") (hx_Ended : DefX0 P w K mg base "Ended" "Ended") (hxk_TooMany : DefX1K P w K mg base "TooMany" "most" "TooMany") (hx_Full : DefX1 P w K mg base "Full" "most" "Full") (hxk_NoRow : DefX1K P w K mg base "NoRow" "row" "NoRow") (hx_NothingLeft : DefX0 P w K mg base "NothingLeft" "NothingLeft")
    (hr : Room 2 (A.deeper (envOfC "_law_all_errors" (defScope s_law_all_errors) s.heap.objs.size f cdv))) (tk : Tk (bodyCx P w K mg base N_law_all_errors "_law_all_errors" (defScope s_law_all_errors) f cdv A outer s H E) (wOf E)) (hp : PassesOwn (model P w) (A.deeper (envOfC "_law_all_errors" (defScope s_law_all_errors) s.heap.objs.size f cdv)) (envOfC "_law_all_errors" (defScope s_law_all_errors) s.heap.objs.size f cdv) (bodyCx P w K mg base N_law_all_errors "_law_all_errors" (defScope s_law_all_errors) f cdv A outer s H E).xe) :
    SSs (bodyCx P w K mg base N_law_all_errors "_law_all_errors" (defScope s_law_all_errors) f cdv A outer s H E) (wOf E) (defBody s_law_all_errors) (fb_law_all_errors) :=
  (sss_cons (ss_set 1 (se_lst (sa_cons (se_tup (sa_cons (se_mkXK hxk_InvalidState (hr.mono (by decide)) tk (sk_cons (se_var 0) sk_nil)) (sa_cons (se_str) sa_nil))) (sa_cons (se_tup (sa_cons (se_mkXK hxk_InvalidKey (hr.mono (by decide)) tk (sk_cons (se_var 0) sk_nil)) (sa_cons (se_str) sa_nil))) (sa_cons (se_tup (sa_cons (se_mkXK hxk_TakenKey (hr.mono (by decide)) tk (sk_cons (se_var 0) sk_nil)) (sa_cons (se_str) sa_nil))) sa_nil)))) sc_law_all_errors.nd)
    (sss_cons (ss_set 1 (se_bin b_add (se_var 1) (se_lst (sa_cons (se_tup (sa_cons (se_mkX0 hx_InvalidTable (hr.mono (by decide)) tk) (sa_cons (se_str) sa_nil))) (sa_cons (se_tup (sa_cons (se_mkXK hxk_InvalidAct (hr.mono (by decide)) tk (sk_cons (se_var 0) sk_nil)) (sa_cons (se_str) sa_nil))) (sa_cons (se_tup (sa_cons (se_mkX0 hx_InvalidJob (hr.mono (by decide)) tk) (sa_cons (se_str) sa_nil))) sa_nil))))) sc_law_all_errors.nd)
    (sss_cons (ss_set 1 (se_bin b_add (se_var 1) (se_lst (sa_cons (se_tup (sa_cons (se_mkXK hxk_InvalidRules (hr.mono (by decide)) tk (sk_cons (se_var 0) sk_nil)) (sa_cons (se_str) sa_nil))) (sa_cons (se_tup (sa_cons (se_mkXK hxk_Misfit (hr.mono (by decide)) tk (sk_cons (se_var 0) sk_nil)) (sa_cons (se_str) sa_nil))) (sa_cons (se_tup (sa_cons (se_mkX1 hx_InvalidNumber (hr.mono (by decide)) tk (sa_cons (se_var 0) sa_nil)) (sa_cons (se_str) sa_nil))) sa_nil))))) sc_law_all_errors.nd)
    (sss_cons (ss_set 1 (se_bin b_add (se_var 1) (se_lst (sa_cons (se_tup (sa_cons (se_mkX0 hx_InvalidText (hr.mono (by decide)) tk) (sa_cons (se_str) sa_nil))) (sa_cons (se_tup (sa_cons (se_mkXK hxk_InvalidWish (hr.mono (by decide)) tk (sk_cons (se_var 0) sk_nil)) (sa_cons (se_str) sa_nil))) (sa_cons (se_tup (sa_cons (se_mkX1 hx_InvalidEdit (hr.mono (by decide)) tk (sa_cons (se_var 0) sa_nil)) (sa_cons (se_str) sa_nil))) sa_nil))))) sc_law_all_errors.nd)
    (sss_cons (ss_set 1 (se_bin b_add (se_var 1) (se_lst (sa_cons (se_tup (sa_cons (se_mkXK hxk_InvalidStory (hr.mono (by decide)) tk (sk_cons (se_var 0) sk_nil)) (sa_cons (se_str) sa_nil))) (sa_cons (se_tup (sa_cons (se_mkXK hxk_InvalidStanding (hr.mono (by decide)) tk (sk_cons (se_var 0) sk_nil)) (sa_cons (se_str) sa_nil))) sa_nil)))) sc_law_all_errors.nd)
    (sss_cons (ss_set 1 (se_bin b_add (se_var 1) (se_lst (sa_cons (se_tup (sa_cons (se_mkXK hxk_InvalidEvent (hr.mono (by decide)) tk (sk_cons (se_var 0) sk_nil)) (sa_cons (se_str) sa_nil))) (sa_cons (se_tup (sa_cons (se_mkX1 hx_InvalidLimit (hr.mono (by decide)) tk (sa_cons (se_var 0) sa_nil)) (sa_cons (se_str) sa_nil))) (sa_cons (se_tup (sa_cons (se_mkXK hxk_InvalidPage (hr.mono (by decide)) tk (sk_cons (se_var 0) sk_nil)) (sa_cons (se_str) sa_nil))) sa_nil))))) sc_law_all_errors.nd)
    (sss_cons (ss_set 1 (se_bin b_add (se_var 1) (se_lst (sa_cons (se_tup (sa_cons (se_mkXK hxk_WrongState (hr.mono (by decide)) tk (sk_cons (se_var 0) sk_nil)) (sa_cons (se_str) sa_nil))) (sa_cons (se_tup (sa_cons (se_mkX0 hx_NotReady (hr.mono (by decide)) tk) (sa_cons (se_str) sa_nil))) (sa_cons (se_tup (sa_cons (se_mkX0 hx_NotWorking (hr.mono (by decide)) tk) (sa_cons (se_str) sa_nil))) sa_nil))))) sc_law_all_errors.nd)
    (sss_cons (ss_set 1 (se_bin b_add (se_var 1) (se_lst (sa_cons (se_tup (sa_cons (se_mkX0 hx_Ended (hr.mono (by decide)) tk) (sa_cons (se_str) sa_nil))) (sa_cons (se_tup (sa_cons (se_mkXK hxk_TooMany (hr.mono (by decide)) tk (sk_cons (se_var 0) sk_nil)) (sa_cons (se_str) sa_nil))) (sa_cons (se_tup (sa_cons (se_mkX1 hx_Full (hr.mono (by decide)) tk (sa_cons (se_var 0) sa_nil)) (sa_cons (se_str) sa_nil))) (sa_cons (se_tup (sa_cons (se_mkXK hxk_NoRow (hr.mono (by decide)) tk (sk_cons (se_var 0) sk_nil)) (sa_cons (se_str) sa_nil))) sa_nil)))))) sc_law_all_errors.nd)
    (sss_one (ss_ret (se_bin b_add (se_var 1) (se_lst (sa_cons (se_tup (sa_cons (se_mkX0 hx_NothingLeft (hr.mono (by decide)) tk) (sa_cons (se_str) sa_nil))) sa_nil)))))))))))))
def m_law_all_errors : MF := rawM 2 fb_law_all_errors
theorem fn_law_all_errors {P : Program} {w : World} {K : PySem.W.Frag} {mg : Str → Option Value} {base : Heap} (C : SaysU chk fnL pnL K) (N : Nm K mg) {fd : FuncData} (F : FunD K "_law_all_errors" "_law_all_errors" (defArgs s_law_all_errors) (defBody s_law_all_errors) (defScope s_law_all_errors) [] [] (fAd K (d_law_all_errors).at_) fd) : FnU P w K mg base 3 (fAd K (d_law_all_errors).at_) fd ps_law_all_errors m_law_all_errors :=
  fn_raw F sc_law_all_errors fb_law_all_errors fun cdv A outer s H E hr tk hp => okb_law_all_errors (tp_of N C.chk) (defxk_InvalidState C N) (defxk_InvalidKey C N) (defxk_TakenKey C N) (defx_InvalidTable C N) (defxk_InvalidAct C N) (defx_InvalidJob C N) (defxk_InvalidRules C N) (defxk_Misfit C N) (defx_InvalidNumber C N) (defx_InvalidText C N) (defxk_InvalidWish C N) (defx_InvalidEdit C N) (defxk_InvalidStory C N) (defxk_InvalidStanding C N) (defxk_InvalidEvent C N) (defx_InvalidLimit C N) (defxk_InvalidPage C N) (defxk_WrongState C N) (defx_NotReady C N) (defx_NotWorking C N) (defx_Ended C N) (defxk_TooMany C N) (defx_Full C N) (defxk_NoRow C N) (defx_NothingLeft C N) hr tk hp
theorem def_law_all_errors {P : Program} {w : World} {K : PySem.W.Frag} {mg : Str → Option Value} {base : Heap} (C : SaysU chk fnL pnL K) (N : Nm K mg) : Def1 P w K mg base "_law_all_errors" 3 ps_law_all_errors m_law_all_errors [] := by
  obtain ⟨fd, F⟩ := C.def_ 7
  exact def1_of (fn_law_all_errors C N F) F (glo_at N (gl_of C.chk) 7) (fun _ _ _ _ _ _ us h => by match us, h with | [_], _ => rfl)
def fb_law : SF := (sSeq (sAsg (eCallF 1 m_law_bag [] (aCons (eVar 0) aNil)) (bName 1))
    (sSeq (sAsg (eCallF 2 m_law_pick [] (aCons (eVar 1) (aCons (eLst (aCons (eC (.int 0)) (aCons (eUn oNeg (eC (.int 1))) (aCons (eBin oPow (eC (.int 10)) (eC (.int 20))) (aCons (eC .non) (aCons (eC (.str "x")) (aCons (eTup (aCons (eC (.int 1)) (aCons (eC (.int 2)) aNil))) (aCons (eCallF 2 m_law_draw [] (aCons (eVar 1) (aCons (eC (.int 999)) aNil))) aNil)))))))) aNil))) (bName 2))
    (sSeq (sAsg (eCallF 1 m_law_all_errors [] (aCons (eVar 2) aNil)) (bName 3))
    (sSeq (sAsg (eTup (aCons (eC (.str "InvalidTable")) (aCons (eC (.str "InvalidJob")) (aCons (eC (.str "InvalidText")) (aCons (eC (.str "NotReady")) (aCons (eC (.str "NotWorking")) (aCons (eC (.str "Ended")) (aCons (eC (.str "NothingLeft")) aNil)))))))) (bName 4))
    (sSeq (sFor (iRange1 (aCons (eC (.int 25)) aNil)) (bName 5) (sSeq (sAsg (eIx (eVar 3) (eVar 5)) (bTup 2 (bCons (bName 7) (bCons (bName 8) bNil))))
    (sSeq (sIf (tOrB (tCmp (notB eqB) (eXf xcs "code" (eVar 7)) (eVar 8)) (tNotB (tVal (eCallF 2 (m_law_same 4) [] (aCons (eCallF 1 m_law_field [] (aCons (eVar 7) aNil)) (aCons (eIf (tCmp inB (eVar 8) (eVar 4)) (eC .non) (eVar 2)) aNil)))))) (sRet (eC (.bl false))) sNext)
    (sSeq (sIf (tCmp (notB eqB) (eCallF 1 m_law_kinds [] (aCons (eVar 7) aNil)) (eComp (iRange1 (aCons (eC (.int 25)) aNil)) (bName 9) [9] tYesB (eCmp eqB (eVar 9) (eVar 5)))) (sRet (eC (.bl false))) sNext)
    (sSeq (sAsg (eLst (aCons (eCmp ltB (eVar 5) (eC (.int 23))) (aCons (eCmp ltB (eVar 5) (eC (.int 23))) (aCons (eCmp eqB (eVar 5) (eC (.int 23))) (aCons (eCmp (swapB ltB) (eVar 5) (eC (.int 22))) (aCons (eCmp eqB (eVar 5) (eC (.int 24))) (aCons (eCmp eqB (eVar 5) (eC (.int 24))) aNil))))))) (bName 6))
    (sIf (tCmp (notB eqB) (eCallF 1 m_law_caught [] (aCons (eVar 7) aNil)) (eVar 6)) (sRet (eC (.bl false))) sNext))))))
    (sRet (eC (.bl true))))))))
theorem okb_law {P : Program} {w : World} {K : PySem.W.Frag} {mg : Str → Option Value} {base : Heap} {f : Addr} {cdv : Value} {A : Around} {outer : List PySem.Env} {s : Shared} {H : Hp} {E : XK} (T : Tp K mg) (h_law_bag : Def1 P w K mg base "_law_bag" 1 ps_law_bag m_law_bag []) (h_law_draw : Def1 P w K mg base "_law_draw" 1 ps_law_draw m_law_draw []) (h_law_pick : Def1 P w K mg base "_law_pick" 2 ps_law_pick m_law_pick []) (h_law_all_errors : Def1 P w K mg base "_law_all_errors" 3 ps_law_all_errors m_law_all_errors []) (h_law_field : Def1 P w K mg base "_law_field" 1 ps_law_field m_law_field []) (h_law_same : Def1 P w K mg base "_law_same" 5 ps_law_same (m_law_same 4) []) (h_law_kinds : Def1 P w K mg base "_law_kinds" 1 ps_law_kinds m_law_kinds []) (h_law_caught : Def1 P w K mg base "_law_caught" 1 ps_law_caught m_law_caught [])
    (hr : Room 5 (A.deeper (envOfC "law" (defScope s_law) s.heap.objs.size f cdv))) (tk : Tk (bodyCx P w K mg base N_law "law" (defScope s_law) f cdv A outer s H E) (wOf E)) (hp : PassesOwn (model P w) (A.deeper (envOfC "law" (defScope s_law) s.heap.objs.size f cdv)) (envOfC "law" (defScope s_law) s.heap.objs.size f cdv) (bodyCx P w K mg base N_law "law" (defScope s_law) f cdv A outer s H E).xe) :
    SSs (bodyCx P w K mg base N_law "law" (defScope s_law) f cdv A outer s H E) (wOf E) (defBody s_law) (fb_law) :=
  (sss_cons (ss_set 1 (sf_fn h_law_bag (hr.mono (by decide)) tk (sa_cons (se_var 0) sa_nil)) sc_law.nd)
    (sss_cons (ss_set 2 (sf_fn h_law_pick (hr.mono (by decide)) tk (sa_cons (se_var 1) (sa_cons (se_lst (sa_cons (se_int) (sa_cons (se_un un_negU (se_int)) (sa_cons (se_bin b_pow (se_int) (se_int)) (sa_cons (se_non) (sa_cons (se_str) (sa_cons (se_tup (sa_cons (se_int) (sa_cons (se_int) sa_nil))) (sa_cons (sf_fn h_law_draw (hr.mono (by decide)) tk (sa_cons (se_var 1) (sa_cons (se_int) sa_nil))) sa_nil)))))))) sa_nil))) sc_law.nd)
    (sss_cons (ss_set 3 (sf_fn h_law_all_errors (hr.mono (by decide)) tk (sa_cons (se_var 2) sa_nil)) sc_law.nd)
    (sss_cons (ss_set 4 (se_tup (sa_cons (se_str) (sa_cons (se_str) (sa_cons (se_str) (sa_cons (se_str) (sa_cons (se_str) (sa_cons (se_str) (sa_cons (se_str) sa_nil)))))))) sc_law.nd)
    (sss_cons (ss_for hp rfl (it_range1 T.f_range (sa_cons (se_int) sa_nil)) (bu_name 5 sc_law.nd) (sss_cons (ss_asg (se_ix (se_var 3) (se_var 5)) (bu_tup rfl (bus_cons (bu_name 7 sc_law.nd) (bus_cons (bu_name 8 sc_law.nd) bus_nil))))
    (sss_cons (ss_if (st_w (st_or (st_cmp (c_ne hr.units) (se_xf T.xf_code (se_var 7)) (se_var 8)) (st_or1 (st_not (st_val (sf_fn h_law_same (hr.mono (by decide)) tk (sa_cons (sf_fn h_law_field (hr.mono (by decide)) tk (sa_cons (se_var 7) sa_nil)) (sa_cons (se_if (st_cmp c_in (se_var 8) (se_var 4)) (se_non) (se_var 2)) sa_nil)))))))) (sss_one (ss_ret (se_bl))) sss_nil)
    (sss_cons (ss_if (st_cmp (c_ne hr.units) (sf_fn h_law_kinds (hr.mono (by decide)) tk (sa_cons (se_var 7) sa_nil)) (by exact se_comp (own := [("_law_k", 9)]) rfl sc_law.nd (by exact it_range1 T.f_range (sa_cons (se_int) sa_nil)) (blkOk_by (N := N_law) (sc := defScope s_law) (by decide +kernel)) (by exact blk_mk (t := gName 9) (fun _ _ _ _ _ => by exact pg_name (i := 9) sc_law.nd rfl (by first | exact Or.inl rfl | exact Or.inr rfl)) (by exact gu_name 9) (fun _ _ _ _ _ => by exact ts_nil) (fun _ _ _ _ _ => by exact se_cmp (c_eq hr.units) (se_var 9) (se_var 5))))) (sss_one (ss_ret (se_bl))) sss_nil)
    (sss_cons (ss_set 6 (se_lst (sa_cons (se_cmp c_lt (se_var 5) (se_int)) (sa_cons (se_cmp c_lt (se_var 5) (se_int)) (sa_cons (se_cmp (c_eq hr.units) (se_var 5) (se_int)) (sa_cons (se_cmp c_gt (se_var 5) (se_int)) (sa_cons (se_cmp (c_eq hr.units) (se_var 5) (se_int)) (sa_cons (se_cmp (c_eq hr.units) (se_var 5) (se_int)) sa_nil))))))) sc_law.nd)
    (sss_one (ss_if (st_cmp (c_ne hr.units) (sf_fn h_law_caught (hr.mono (by decide)) tk (sa_cons (se_var 7) sa_nil)) (se_var 6)) (sss_one (ss_ret (se_bl))) sss_nil)))))))
    (sss_one (ss_ret (se_bl))))))))
def m_law : MF := rawM 10 fb_law
theorem fn_law {P : Program} {w : World} {K : PySem.W.Frag} {mg : Str → Option Value} {base : Heap} (C : SaysU chk fnL pnL K) (N : Nm K mg) {fd : FuncData} (F : FunD K "law" "law" (defArgs s_law) (defBody s_law) (defScope s_law) [] [] (fAd K (d_law).at_) fd) : FnU P w K mg base 6 (fAd K (d_law).at_) fd ps_law m_law :=
  fn_raw F sc_law fb_law fun cdv A outer s H E hr tk hp => okb_law (tp_of N C.chk) (def_law_bag C N) (def_law_draw C N) (def_law_pick C N) (def_law_all_errors C N) (def_law_field C N) (def_law_same C N 4) (def_law_kinds C N) (def_law_caught C N) hr tk hp
theorem lt_big {n : Nat} (h : n ≤ 1000000) : n < sizeLine := Nat.lt_of_lt_of_le (m := 4000000) (by omega) sz_big
mutual
def eqvD : D → D → Bool
  | .non, y => (match y with
    | .non => true
    | _ => false)
  | .bl a, y => (match y with
    | .bl b => a == b
    | .int j => (if a then 1 else 0) == j
    | _ => false)
  | .int i, y => (match y with
    | .bl b => i == (if b then 1 else 0)
    | .int j => i == j
    | _ => false)
  | .str a, y => (match y with
    | .str b => a == b
    | _ => false)
  | .tup xs, y => (match y with
    | .tup ys => eqvDs xs ys
    | _ => false)
  | .lst xs, y => (match y with
    | .lst ys => eqvDs xs ys
    | .fz ys => eqvDs xs ys
    | _ => false)
  | .fz xs, y => (match y with
    | .lst ys => eqvDs xs ys
    | .fz ys => eqvDs xs ys
    | _ => false)
  | _, _ => false
def eqvDs : List D → List D → Bool
  | [], ys => ys.isEmpty
  | x :: xs, ys => (match ys with
    | y :: ys => eqvD x y && eqvDs xs ys
    | [] => false)
end
theorem eqv_pys {k : Nat} (ih : ∀ x y p q, dataB k x = true → dataB k y = true → pyD x = some p → pyD y = some q → PyData.eqv p q = eqvD x y) : ∀ (xs ys : List D) (ps qs : List PyData), xs.all (dataB k) = true → ys.all (dataB k) = true → pyDs xs = some ps → pyDs ys = some qs → PyData.eqvAll ps qs = eqvDs xs ys
  | [], [], ps, qs, _, _, h1, h2 => by cases h1; cases h2; simp [PyData.eqvAll, eqvDs]
  | [], y :: ys, ps, qs, _, _, h1, h2 => by
    cases h1
    simp only [pyDs] at h2
    split at h2
    · cases h2; simp [PyData.eqvAll, eqvDs]
    · cases h2
  | x :: xs, [], ps, qs, _, _, h1, h2 => by
    cases h2
    simp only [pyDs] at h1
    split at h1
    · cases h1; simp [PyData.eqvAll, eqvDs]
    · cases h1
  | x :: xs, y :: ys, ps, qs, d1, d2, h1, h2 => by
    simp only [List.all_cons, Bool.and_eq_true] at d1 d2
    simp only [pyDs] at h1 h2
    split at h1
    · split at h2
      · rename_i a b e1 e2 _ _ c d e3 e4
        cases h1; cases h2
        simp only [PyData.eqvAll, eqvDs, ih x y a c d1.1 d2.1 e1 e3, eqv_pys ih xs ys b d d1.2 d2.2 e2 e4]
      · cases h2
    · cases h1
theorem eqv_py : ∀ (k : Nat) (x y : D) (p q : PyData), dataB k x = true → dataB k y = true → pyD x = some p → pyD y = some q → PyData.eqv p q = eqvD x y := by
  intro k
  induction k with
  | zero =>
    intro x y p q h1 h2 e1 e2
    cases x <;> (try (simp [dataB] at h1; done)) <;> cases y <;> (try (simp [dataB] at h2; done)) <;> (cases e1; cases e2; simp [PyData.eqv, eqvD])
  | succ k ih =>
    intro x y p q h1 h2 e1 e2
    cases x <;> (try (simp [dataB] at h1; done)) <;> cases y <;> (try (simp [dataB] at h2; done)) <;> simp only [pyD, Option.map_eq_some_iff, Option.some.injEq] at e1 e2
    all_goals first
      | (subst e1; subst e2; simp [PyData.eqv, eqvD]; done)
      | (obtain ⟨ps, f1, rfl⟩ := e1; subst e2; simp [PyData.eqv, eqvD]; done)
      | (subst e1; obtain ⟨ps, f1, rfl⟩ := e2; simp [PyData.eqv, eqvD]; done)
      | (obtain ⟨ps, f1, rfl⟩ := e1; obtain ⟨qs, f2, rfl⟩ := e2; simp only [dataB] at h1 h2; first | (simp only [PyData.eqv, eqvD]; exact eqv_pys ih _ _ _ _ h1 h2 f1 f2) | (simp only [PyData.eqv, eqvD]; done))
theorem pyV_data {S : Sto} {x : D} (h : dataB 60 x = true) : pyV S x = pyD x := by
  cases x <;> first
    | rfl
    | (simp [dataB] at h)
theorem eqB_data {S : Sto} {x y : D} (hx : dataB 60 x = true) (hy : dataB 60 y = true) : eqB S x y = some (eqvD x y) := by
  obtain ⟨p, a1, a2, a3⟩ := pyD_data 60 x hx
  obtain ⟨q, b1, b2, b3⟩ := pyD_data 60 y hy
  have key : eqPB S x y = some (eqvD x y) := by
    simp only [eqPB, pyV_data hx, pyV_data hy, a1, b1, if_pos (And.intro (shaped_of a2 (by omega)) (shaped_of b2 (by omega))), eqv_py 60 x y p q hx hy a1 b1]
  unfold eqB orB
  cases e : eqFB S x y with
  | none => exact key
  | some b =>
    simp only
    congr 1
    unfold eqFB at e
    cases x <;> simp only [flatD, reduceCtorEq] at e <;> cases y <;> simp only [flatD, reduceCtorEq] at e
    all_goals (split at e <;> simp only [Option.some.injEq, reduceCtorEq] at e)
    all_goals first
      | (subst e; simp [eqvD]; done)
      | (subst e; simp [eqvD]; rename_i a b h; first | (cases a <;> cases b <;> rfl) | (by_cases q : a = b <;> simp [q]))
      | (rename_i h; simp [scal] at h)
def errs : List (Str × Option Str) := [("InvalidState", some "given"), ("InvalidKey", some "given"), ("TakenKey", some "given"), ("InvalidTable", none), ("InvalidAct", some "given"), ("InvalidJob", none), ("InvalidRules", some "at"), ("Misfit", some "letter"), ("InvalidNumber", some "given"), ("InvalidText", none),
  ("InvalidWish", some "given"), ("InvalidEdit", some "given"), ("InvalidStory", some "at"), ("InvalidStanding", some "given"), ("InvalidEvent", some "at"), ("InvalidLimit", some "given"), ("InvalidPage", some "line"), ("WrongState", some "row"), ("NotReady", none), ("NotWorking", none), ("Ended", none), ("TooMany", some "most"),
  ("Full", some "most"), ("NoRow", some "row"), ("NothingLeft", none)]
def errA (i : Nat) : Str × Option Str := errs.getD i ("", none)
def nsE (q : Str × Option Str) : List Str := "code" :: (match q.2 with
  | some f => [f]
  | none => [])
def dsE (far : D) (q : Str × Option Str) : List D := .str q.1 :: (match q.2 with
  | some _ => [far]
  | none => [])
def errD (far : D) (q : Str × Option Str) : D := exD q.1 (nsE q) (dsE far q)
def prD (far : D) (q : Str × Option Str) : D := .tup [errD far q, .str q.1]
def fieldV (far : D) (q : Str × Option Str) : D := if q.2.isNone = true then .non else far
theorem cases25 {P : Nat → Prop} (h : P 0 ∧ P 1 ∧ P 2 ∧ P 3 ∧ P 4 ∧ P 5 ∧ P 6 ∧ P 7 ∧ P 8 ∧ P 9 ∧ P 10 ∧ P 11 ∧ P 12 ∧ P 13 ∧ P 14 ∧ P 15 ∧ P 16 ∧ P 17 ∧ P 18 ∧ P 19 ∧ P 20 ∧ P 21 ∧ P 22 ∧ P 23 ∧ P 24) : ∀ i, i < 25 → P i := by
  obtain ⟨h0, h1, h2, h3, h4, h5, h6, h7, h8, h9, h10, h11, h12, h13, h14, h15, h16, h17, h18, h19, h20, h21, h22, h23, h24⟩ := h
  intro i hi
  match i, hi with
  | 0, _ => exact h0
  | 1, _ => exact h1
  | 2, _ => exact h2
  | 3, _ => exact h3
  | 4, _ => exact h4
  | 5, _ => exact h5
  | 6, _ => exact h6
  | 7, _ => exact h7
  | 8, _ => exact h8
  | 9, _ => exact h9
  | 10, _ => exact h10
  | 11, _ => exact h11
  | 12, _ => exact h12
  | 13, _ => exact h13
  | 14, _ => exact h14
  | 15, _ => exact h15
  | 16, _ => exact h16
  | 17, _ => exact h17
  | 18, _ => exact h18
  | 19, _ => exact h19
  | 20, _ => exact h20
  | 21, _ => exact h21
  | 22, _ => exact h22
  | 23, _ => exact h23
  | 24, _ => exact h24
  | n + 25, hi => exact absurd hi (by omega)
def rtOf : R Fl → Option D
  | .ok (.rt d) _ _ => some d
  | _ => none
theorem pur_rt {n : Nat} {fb : SF} {ds : List D} {S : Sto} {d : D} (hd : bnd 0 d = true) (hb : bndL 0 ds = true) (h : rtOf (fb (startE n ds) []) = some d) : purM n fb ds S = .ok d S := by
  refine pur_flat hd hb ?_
  cases q : fb (startE n ds) [] with
  | ok a r S1 =>
    rw [q] at h
    cases a with
    | rt d' => exact congrArg Fl.rt (Option.some.inj h)
    | nx => cases h
    | bk => cases h
    | ct => cases h
  | er x r S1 => rw [q] at h; cases h
  | no => rw [q] at h; cases h
structure FarO (far : D) : Prop where
  b : bnd 0 far = true
  pl : plainD 4 far = true
  all : ∀ S, m_law_all_errors [far] S = .ok (.lst (errs.map (prD far))) S
theorem far_int (n : Int) : FarO (.int n) := ⟨rfl, rfl, fun S => by kernel_rfl⟩
theorem far_non : FarO .non := ⟨rfl, rfl, fun S => by kernel_rfl⟩
theorem far_x : FarO (.str "x") := ⟨rfl, by kernel_rfl, fun S => by kernel_rfl⟩
theorem far_t : FarO (.tup [.int 1, .int 2]) := ⟨rfl, by kernel_rfl, fun S => by kernel_rfl⟩
theorem errD_bnd {far : D} (h : FarO far) (i : Nat) : bndL 0 [errD far (errA i)] = true := by
  unfold errD exD dsE
  cases (errA i).2 <;> simp [bndL, bnd, h.b]
theorem field_bnd {far : D} (h : FarO far) (q : Str × Option Str) : bnd 0 (fieldV far q) = true := by
  unfold fieldV
  split
  · rfl
  · exact h.b
theorem field_plain {far : D} (h : FarO far) (q : Str × Option Str) : plainD 4 (fieldV far q) = true := by
  unfold fieldV
  split
  · rfl
  · exact h.pl
theorem field_ok {far : D} (h : FarO far) : ∀ i, i < 25 → ∀ S, m_law_field [errD far (errA i)] S = .ok (fieldV far (errA i)) S := by
  refine cases25 ?_
  and_intros <;> (intro S; exact pur_rt (field_bnd h _) (errD_bnd h _) (by kernel_rfl))
def kindsL (i : Nat) : List D := (List.range 25).map fun k : Nat => .bl (decide ((k : Int) = (i : Int)))
def dueL (i : Nat) : List D := [.bl (decide ((i : Int) < 23)), .bl (decide ((i : Int) < 23)), .bl (decide ((i : Int) = 23)), .bl (decide ((22 : Int) < i)), .bl (decide ((i : Int) = 24)), .bl (decide ((i : Int) = 24))]
theorem kinds_ok {far : D} (h : FarO far) : ∀ i, i < 25 → ∀ S, m_law_kinds [errD far (errA i)] S = .ok (.lst (kindsL i)) S := by
  refine cases25 ?_
  and_intros <;> (intro S; exact pur_rt (by kernel_rfl) (errD_bnd h _) (by kernel_rfl))
theorem caught_ok {far : D} (h : FarO far) : ∀ i, i < 25 → ∀ S, m_law_caught [errD far (errA i)] S = .ok (.lst (dueL i)) S := by
  refine cases25 ?_
  and_intros <;> (intro S; exact pur_rt (by kernel_rfl) (errD_bnd h _) (by kernel_rfl))
theorem err_ix {far : D} : ∀ i : Nat, i < 25 → ∀ S, oIx S (.lst (errs.map (prD far))) (.int (i : Int)) = some (prD far (errA i)) := by
  refine cases25 ?_
  and_intros <;> (intro S; kernel_rfl)
theorem xcs_has : ∀ i, i < 25 → xcs.contains (errA i).1 = true := by
  refine cases25 ?_
  and_intros <;> kernel_rfl
def bareT : D := .tup [.str "InvalidTable", .str "InvalidJob", .str "InvalidText", .str "NotReady", .str "NotWorking", .str "Ended", .str "NothingLeft"]
theorem bare_in : ∀ i, i < 25 → ∀ S, inB S (.str (errA i).1) bareT = some (errA i).2.isNone := by
  refine cases25 ?_
  and_intros <;> (intro S; kernel_rfl)
theorem kinds_eq : ∀ i, i < 25 → ∀ S, notB eqB S (.lst (kindsL i)) (.lst (kindsL i)) = some false := by
  refine cases25 ?_
  and_intros <;> (intro S; kernel_rfl)
theorem due_eq : ∀ i, i < 25 → ∀ S, notB eqB S (.lst (dueL i)) (.lst (dueL i)) = some false := by
  refine cases25 ?_
  and_intros <;> (intro S; kernel_rfl)
theorem code_eq : ∀ i, i < 25 → ∀ S, notB eqB S (.str (errA i).1) (.str (errA i).1) = some false := by
  refine cases25 ?_
  and_intros <;> (intro S; kernel_rfl)
theorem int_eq {S : Sto} {i j : Int} : eqB S (.int i) (.int j) = some (decide (i = j)) := by
  rw [eqB_data (by simp [dataB]) (by simp [dataB])]
  show some (i == j) = _
  rw [Bool.beq_eq_decide_eq]
theorem code_at {far : D} {q : Str × Option Str} : ((nsE q).zip (dsE far q)).lookup ("code" : Str) = some (.str q.1) := by
  unfold nsE dsE
  rw [List.zip_cons_cons, List.lookup_cons, show (("code" : Str) == "code") = true by decide]
theorem law_run (ns : List Int) (hl : ns.length ≤ 63) : ∃ S, m_law [.fz (ns.map .int)] [] = .ok (.bl true) S := by
  have key : wf (m_law [.fz (ns.map .int)] []) (fun d _ => d = .bl true) fun _ _ => False := by
    refine wf_end ?_
    have hbag := bag_ok (c := 5784) (ns := ns) (S := []) (Z := fun _ _ => False) (by decide) (by decide) hl
    revert hbag
    generalize D.fz (ns.map .int) = s
    intro hbag
    have e1 : startE 10 [s] = [some s, none, none, none, none, none, none, none, none, none] := rfl
    rw [e1]
    unfold fb_law
    rw [Yj]
    simp only [Wb, Wc, Wd, We, Wf, Wg, Wh, Wi, Wj, Wm, Wn, Wo, Wp, Wq, Wr, Ws, Wt, Wu, Wv, Ww, Wx, Wy, Wz, WA, WB, WC, WD, WF, WG, WH, WI, WJ, WK, WL, WM, WN, WO, WP, WQ, WR, WS, WT, WU, WV, WW, WY, WZ, W4, W5, W6, W7, W8, W9, Za, Zb, Ze, Zf, Zg, Zh, Zi, Zk, Zl, Zm, Zo, Zq, Zr, Zs, Zt, Zu, Zv, wf_ok, rd_cons0, rd_cons, got_some, orGot_some, orGot_none, asB_bl, asI_int, asS_str, asOne_one, asTwo_two, ZJ, asThree_three, ZL, ZM, ZN, ZO, ZP, ZQ, ZR, ZS, ZT, ZU, ZV, ZW, ZX, ZY, ZZ, Z0, bName, List.set_cons_succ, List.set_cons_zero, List.append_nil, List.length_cons, List.length_nil, Nat.zero_add, Nat.reduceAdd, true_and, and_true, if_true, if_false, Bool.false_eq_true, Bool.not_true, Bool.not_false, List.take_zero, List.drop_zero, nil_appD]
    refine wf_imp hbag ?_ (fun _ _ z => z)
    rintro d S ⟨rfl, o, hB, rfl⟩
    rw [List.nil_append]
    have z2 : 2 ≤ sizeLine := sz_le (by decide)
    have z6 : 6 ≤ sizeLine := sz_le (by decide)
    have z7 : 7 ≤ sizeLine := sz_le (by decide)
    have b0 : (!false) = true := rfl
    have b1 : (!true) = false := rfl
    have neg : ∀ S, oNeg S (.int 1) = some (.int (-1)) := fun _ => rfl
    have pw : ∀ S, oPow S (.int 10) (.int 20) = some (.int 100000000000000000000) := fun _ => by kernel_rfl
    rw [Yj]
    simp only [Wb, Wc, Wd, We, Wf, Wg, Wh, Wi, Wj, Wm, Wn, Wo, Wp, Wq, Wr, Ws, Wt, Wu, Wv, Ww, Wx, Wy, Wz, WA, WB, WC, WD, WF, WG, WH, WI, WJ, WK, WL, WM, WN, WO, WP, WQ, WR, WS, WT, WU, WV, WW, WY, WZ, W4, W5, W6, W7, W8, W9, Za, Zb, Ze, Zf, Zg, Zh, Zi, Zk, Zl, Zm, Zo, Zq, Zr, Zs, Zt, Zu, Zv, wf_ok, rd_cons0, rd_cons, got_some, orGot_some, orGot_none, asB_bl, asI_int, asS_str, asOne_one, asTwo_two, ZJ, asThree_three, ZL, ZM, ZN, ZO, ZP, ZQ, ZR, ZS, ZT, ZU, ZV, ZW, ZX, ZY, ZZ, Z0, bName, List.set_cons_succ, List.set_cons_zero, List.append_nil, List.length_cons, List.length_nil, Nat.zero_add, Nat.reduceAdd, true_and, and_true, if_true, if_false, Bool.false_eq_true, Bool.not_true, Bool.not_false, List.take_zero, List.drop_zero, nil_appD, neg, pw, z2, z7]
    refine draw_to hB (by decide) (by decide) fun v o h0 h1 hB => ?_
    refine pick_to [.int 0, .int (-1), .int 100000000000000000000, .non, .str "x", .tup [.int 1, .int 2], .int v] hB (fun _ => rfl) (fun z => by intro e; cases e) (by simp) (by simp) fun far o hy hB => ?_
    have hf : FarO far := by
      simp only [List.mem_cons, List.not_mem_nil, or_false] at hy
      rcases hy with rfl | rfl | rfl | rfl | rfl | rfl | rfl
      · exact far_int _
      · exact far_int _
      · exact far_int _
      · exact far_non
      · exact far_x
      · exact far_t
      · exact far_int _
    clear hy
    have r25 : rng1 [.int 25] = some (rangeD 0 25) := rng1_int (by decide) (by decide)
    have sm : ∀ {S : Sto} (x : D), plainD 4 x = true → m_law_same 4 [x, x] S = .ok (.bl true) S := fun x hx => same_ok 4 x x _ hx hx rfl
    rw [Yj]
    simp only [Wb, Wc, Wd, We, Wf, Wg, Wh, Wi, Wj, Wm, Wn, Wo, Wp, Wq, Wr, Ws, Wt, Wu, Wv, Ww, Wx, Wy, Wz, WA, WB, WC, WD, WF, WG, WH, WI, WJ, WK, WL, WM, WN, WO, WP, WQ, WR, WS, WT, WU, WV, WW, WY, WZ, W4, W5, W6, W7, W8, W9, Za, Zb, Ze, Zf, Zg, Zh, Zi, Zk, Zl, Zm, Zo, Zq, Zr, Zs, Zt, Zu, Zv, wf_ok, rd_cons0, rd_cons, got_some, orGot_some, orGot_none, asB_bl, asI_int, asS_str, asOne_one, asTwo_two, ZJ, asThree_three, ZL, ZM, ZN, ZO, ZP, ZQ, ZR, ZS, ZT, ZU, ZV, ZW, ZX, ZY, ZZ, Z0, bName, List.set_cons_succ, List.set_cons_zero, List.append_nil, List.length_cons, List.length_nil, Nat.zero_add, Nat.reduceAdd, true_and, and_true, if_true, if_false, Bool.false_eq_true, Bool.not_true, Bool.not_false, List.take_zero, List.drop_zero, nil_appD, hf.all]
    rw [Yj]
    simp only [Wb, Wc, Wd, We, Wf, Wg, Wh, Wi, Wj, Wm, Wn, Wo, Wp, Wq, Wr, Ws, Wt, Wu, Wv, Ww, Wx, Wy, Wz, WA, WB, WC, WD, WF, WG, WH, WI, WJ, WK, WL, WM, WN, WO, WP, WQ, WR, WS, WT, WU, WV, WW, WY, WZ, W4, W5, W6, W7, W8, W9, Za, Zb, Ze, Zf, Zg, Zh, Zi, Zk, Zl, Zm, Zo, Zq, Zr, Zs, Zt, Zu, Zv, wf_ok, rd_cons0, rd_cons, got_some, orGot_some, orGot_none, asB_bl, asI_int, asS_str, asOne_one, asTwo_two, ZJ, asThree_three, ZL, ZM, ZN, ZO, ZP, ZQ, ZR, ZS, ZT, ZU, ZV, ZW, ZX, ZY, ZZ, Z0, bName, List.set_cons_succ, List.set_cons_zero, List.append_nil, List.length_cons, List.length_nil, Nat.zero_add, Nat.reduceAdd, true_and, and_true, if_true, if_false, Bool.false_eq_true, Bool.not_true, Bool.not_false, List.take_zero, List.drop_zero, nil_appD, z7]
    rw [Yj]
    simp only [Wb, Wc, Wd, We, Wf, Wg, Wh, Wi, Wj, Wm, Wn, Wo, Wp, Wq, Wr, Ws, Wt, Wu, Wv, Ww, Wx, Wy, Wz, WA, WB, WC, WD, WF, WG, WH, WI, WJ, WK, WL, WM, WN, WO, WP, WQ, WR, WS, WT, WU, WV, WW, WY, WZ, W4, W5, W6, W7, W8, W9, Za, Zb, Ze, Zf, Zg, Zh, Zi, Zk, Zl, Zm, Zo, Zq, Zr, Zs, Zt, Zu, Zv, wf_ok, rd_cons0, rd_cons, got_some, orGot_some, orGot_none, asB_bl, asI_int, asS_str, asOne_one, asTwo_two, ZJ, asThree_three, ZL, ZM, ZN, ZO, ZP, ZQ, ZR, ZS, ZT, ZU, ZV, ZW, ZX, ZY, ZZ, Z0, bName, List.set_cons_succ, List.set_cons_zero, List.append_nil, List.length_cons, List.length_nil, Nat.zero_add, Nat.reduceAdd, true_and, and_true, if_true, if_false, Bool.false_eq_true, Bool.not_true, Bool.not_false, List.take_zero, List.drop_zero, nil_appD, r25]
    rw [rangeD_map]
    refine wp_loop (fun xs r S => (∀ x ∈ xs, ∃ i : Nat, i < 25 ∧ x = .int (i : Int)) ∧ ∃ x5 x6 x7 x8 x9, r = [some s, some (.ref 0), some far, some (.lst (errs.map (prD far))), some bareT, x5, x6, x7, x8, x9] ∧ S = [o]) _ _ _ ⟨fun x hx => ?_, none, none, none, none, none, rfl, rfl⟩ ?_ ?_
    · obtain ⟨i, hi, rfl⟩ := List.mem_map.mp hx
      exact ⟨i, List.mem_range.mp hi, rfl⟩
    · rintro r S ⟨_, x5, x6, x7, x8, x9, rfl, rfl⟩
      simp only [Wb, Wc, Wd, We, Wf, Wg, Wh, Wi, Wj, Wm, Wn, Wo, Wp, Wq, Wr, Ws, Wt, Wu, Wv, Ww, Wx, Wy, Wz, WA, WB, WC, WD, WF, WG, WH, WI, WJ, WK, WL, WM, WN, WO, WP, WQ, WR, WS, WT, WU, WV, WW, WY, WZ, W4, W5, W6, W7, W8, W9, Za, Zb, Ze, Zf, Zg, Zh, Zi, Zk, Zl, Zm, Zo, Zq, Zr, Zs, Zt, Zu, Zv, wf_ok, rd_cons0, rd_cons, got_some, orGot_some, orGot_none, asB_bl, asI_int, asS_str, asOne_one, asTwo_two, ZJ, asThree_three, ZL, ZM, ZN, ZO, ZP, ZQ, ZR, ZS, ZT, ZU, ZV, ZW, ZX, ZY, ZZ, Z0, bName, List.set_cons_succ, List.set_cons_zero, List.append_nil, List.length_cons, List.length_nil, Nat.zero_add, Nat.reduceAdd, true_and, and_true, if_true, if_false, Bool.false_eq_true, Bool.not_true, Bool.not_false, List.take_zero, List.drop_zero, nil_appD]
    rintro x xs r S ⟨hx, x5, x6, x7, x8, x9, rfl, rfl⟩
    obtain ⟨i, hi, rfl⟩ := hx x List.mem_cons_self
    have hxs : ∀ x ∈ xs, ∃ i : Nat, i < 25 ∧ x = .int (i : Int) := fun y hy => hx y (List.mem_cons_of_mem _ hy)
    clear hx
    refine ⟨_, rfl, ?_⟩
    have ix := err_ix (far := far) i hi
    have e7 : prD far (errA i) = .tup [exD (errA i).1 (nsE (errA i)) (dsE far (errA i)), .str (errA i).1] := rfl
    have hC := xcs_has i hi
    have hfd := field_ok hf i hi
    have hkn := kinds_ok hf i hi
    have hct := caught_ok hf i hi
    have hin := bare_in i hi
    unfold errD at hfd hkn hct
    have hsm := fun S => sm (S := S) (fieldV far (errA i)) (field_plain hf _)
    have bt : ∀ (a b : D) (y5 y6 y7 y8 y9 : Option D), bTup 2 (bCons (bName 7) (bCons (bName 8) bNil)) (.tup [a, b]) [some s, some (.ref 0), some far, some (.lst (errs.map (prD far))), some bareT, y5, y6, y7, y8, y9] = some [some s, some (.ref 0), some far, some (.lst (errs.map (prD far))), some bareT, y5, y6, some a, some b, y9] := fun _ _ _ _ _ _ _ => rfl
    rw [Yj]
    simp only [Wb, Wc, Wd, We, Wf, Wg, Wh, Wi, Wj, Wm, Wn, Wo, Wp, Wq, Wr, Ws, Wt, Wu, Wv, Ww, Wx, Wy, Wz, WA, WB, WC, WD, WF, WG, WH, WI, WJ, WK, WL, WM, WN, WO, WP, WQ, WR, WS, WT, WU, WV, WW, WY, WZ, W4, W5, W6, W7, W8, W9, Za, Zb, Ze, Zf, Zg, Zh, Zi, Zk, Zl, Zm, Zo, Zq, Zr, Zs, Zt, Zu, Zv, wf_ok, rd_cons0, rd_cons, got_some, orGot_some, orGot_none, asB_bl, asI_int, asS_str, asOne_one, asTwo_two, ZJ, asThree_three, ZL, ZM, ZN, ZO, ZP, ZQ, ZR, ZS, ZT, ZU, ZV, ZW, ZX, ZY, ZZ, Z0, bName, List.set_cons_succ, List.set_cons_zero, List.append_nil, List.length_cons, List.length_nil, Nat.zero_add, Nat.reduceAdd, true_and, and_true, if_true, if_false, Bool.false_eq_true, Bool.not_true, Bool.not_false, List.take_zero, List.drop_zero, nil_appD, ix, e7, bt, got_some]
    rw [Yj]
    simp only [Wb, Wc, Wd, We, Wf, Wg, Wh, Wi, Wj, Wm, Wn, Wo, Wp, Wq, Wr, Ws, Wt, Wu, Wv, Ww, Wx, Wy, Wz, WA, WB, WC, WD, WF, WG, WH, WI, WJ, WK, WL, WM, WN, WO, WP, WQ, WR, WS, WT, WU, WV, WW, WY, WZ, W4, W5, W6, W7, W8, W9, Za, Zb, Ze, Zf, Zg, Zh, Zi, Zk, Zl, Zm, Zo, Zq, Zr, Zs, Zt, Zu, Zv, wf_ok, rd_cons0, rd_cons, got_some, orGot_some, orGot_none, asB_bl, asI_int, asS_str, asOne_one, asTwo_two, ZJ, asThree_three, ZL, ZM, ZN, ZO, ZP, ZQ, ZR, ZS, ZT, ZU, ZV, ZW, ZX, ZY, ZZ, Z0, bName, List.set_cons_succ, List.set_cons_zero, List.append_nil, List.length_cons, List.length_nil, Nat.zero_add, Nat.reduceAdd, true_and, and_true, if_true, if_false, Bool.false_eq_true, Bool.not_true, Bool.not_false, List.take_zero, List.drop_zero, nil_appD, wp_Xf, asE_ex, hC, code_at, code_eq i hi, hfd, hin]
    have lf : ((List.range 25).map fun k : Nat => D.int (k : Int)).length < sizeLine := lt_big (by simp)
    have ke := kinds_eq i hi
    have de := due_eq i hi
    unfold dueL at de hct
    have cm : ∀ y7 y8, compF (bName 9) tYesB (eCmp eqB (eVar 9) (eVar 5)) [some s, some (.ref 0), some far, some (.lst (errs.map (prD far))), some bareT, some (.int (i : Int)), x6, some y7, some y8, x9] [9] ((List.range 25).map fun k : Nat => D.int (k : Int)) [o] = .ok (kindsL i) [some s, some (.ref 0), some far, some (.lst (errs.map (prD far))), some bareT, some (.int (i : Int)), x6, some y7, some y8, x9] [o] :=
      fun y7 y8 => comp_maps (fun k : Nat => .int (k : Int)) (fun k : Nat => .bl (decide ((k : Int) = (i : Int)))) fun k _ => by
        simp only [Wb, Wc, Wd, We, Wf, Wg, Wh, Wi, Wj, Wm, Wn, Wo, Wp, Wq, Wr, Ws, Wt, Wu, Wv, Ww, Wx, Wy, Wz, WA, WB, WC, WD, WF, WG, WH, WI, WJ, WK, WL, WM, WN, WO, WP, WQ, WR, WS, WT, WU, WV, WW, WY, WZ, W4, W5, W6, W7, W8, W9, Za, Zb, Ze, Zf, Zg, Zh, Zi, Zk, Zl, Zm, Zo, Zq, Zr, Zs, Zt, Zu, Zv, wf_ok, rd_cons0, rd_cons, got_some, orGot_some, orGot_none, asB_bl, asI_int, asS_str, asOne_one, asTwo_two, ZJ, asThree_three, ZL, ZM, ZN, ZO, ZP, ZQ, ZR, ZS, ZT, ZU, ZV, ZW, ZX, ZY, ZZ, Z0, bName, List.set_cons_succ, List.set_cons_zero, List.append_nil, List.length_cons, List.length_nil, Nat.zero_add, Nat.reduceAdd, true_and, and_true, if_true, if_false, Bool.false_eq_true, Bool.not_true, Bool.not_false, List.take_zero, List.drop_zero, nil_appD, wipeE, int_eq]
    cases hq : (errA i).2.isNone with
    | true =>
      have fe : fieldV far (errA i) = .non := by unfold fieldV; rw [hq]; rfl
      rw [fe] at hsm ⊢
      simp only [if_true, hsm, wf_ok, Wb, Wc, Wd, We, Wf, Wg, Wh, Wi, Wj, Wm, Wn, Wo, Wp, Wq, Wr, Ws, Wt, Wu, Wv, Ww, Wx, Wy, Wz, WA, WB, WC, WD, WF, WG, WH, WI, WJ, WK, WL, WM, WN, WO, WP, WQ, WR, WS, WT, WU, WV, WW, WY, WZ, W4, W5, W6, W7, W8, W9, Za, Zb, Ze, Zf, Zg, Zh, Zi, Zk, Zl, Zm, Zo, Zq, Zr, Zs, Zt, Zu, Zv, wf_ok, rd_cons0, rd_cons, got_some, orGot_some, orGot_none, asB_bl, asI_int, asS_str, asOne_one, asTwo_two, ZJ, asThree_three, ZL, ZM, ZN, ZO, ZP, ZQ, ZR, ZS, ZT, ZU, ZV, ZW, ZX, ZY, ZZ, Z0, bName, List.set_cons_succ, List.set_cons_zero, List.append_nil, List.length_cons, List.length_nil, Nat.zero_add, Nat.reduceAdd, true_and, and_true, if_true, if_false, Bool.false_eq_true, Bool.not_true, Bool.not_false, List.take_zero, List.drop_zero, nil_appD, b1]
      rw [Yj]
      simp only [Wb, Wc, Wd, We, Wf, Wg, Wh, Wi, Wj, Wm, Wn, Wo, Wp, Wq, Wr, Ws, Wt, Wu, Wv, Ww, Wx, Wy, Wz, WA, WB, WC, WD, WF, WG, WH, WI, WJ, WK, WL, WM, WN, WO, WP, WQ, WR, WS, WT, WU, WV, WW, WY, WZ, W4, W5, W6, W7, W8, W9, Za, Zb, Ze, Zf, Zg, Zh, Zi, Zk, Zl, Zm, Zo, Zq, Zr, Zs, Zt, Zu, Zv, wf_ok, rd_cons0, rd_cons, got_some, orGot_some, orGot_none, asB_bl, asI_int, asS_str, asOne_one, asTwo_two, ZJ, asThree_three, ZL, ZM, ZN, ZO, ZP, ZQ, ZR, ZS, ZT, ZU, ZV, ZW, ZX, ZY, ZZ, Z0, bName, List.set_cons_succ, List.set_cons_zero, List.append_nil, List.length_cons, List.length_nil, Nat.zero_add, Nat.reduceAdd, true_and, and_true, if_true, if_false, Bool.false_eq_true, Bool.not_true, Bool.not_false, List.take_zero, List.drop_zero, nil_appD, hkn, r25]
      rw [rangeD_map]
      refine ⟨lf, ?_⟩
      simp only [cm, wp_ok, ke, got_some, Bool.false_eq_true, if_false]
      rw [Yj]
      simp only [Wb, Wc, Wd, We, Wf, Wg, Wh, Wi, Wj, Wm, Wn, Wo, Wp, Wq, Wr, Ws, Wt, Wu, Wv, Ww, Wx, Wy, Wz, WA, WB, WC, WD, WF, WG, WH, WI, WJ, WK, WL, WM, WN, WO, WP, WQ, WR, WS, WT, WU, WV, WW, WY, WZ, W4, W5, W6, W7, W8, W9, Za, Zb, Ze, Zf, Zg, Zh, Zi, Zk, Zl, Zm, Zo, Zq, Zr, Zs, Zt, Zu, Zv, wf_ok, rd_cons0, rd_cons, got_some, orGot_some, orGot_none, asB_bl, asI_int, asS_str, asOne_one, asTwo_two, ZJ, asThree_three, ZL, ZM, ZN, ZO, ZP, ZQ, ZR, ZS, ZT, ZU, ZV, ZW, ZX, ZY, ZZ, Z0, bName, List.set_cons_succ, List.set_cons_zero, List.append_nil, List.length_cons, List.length_nil, Nat.zero_add, Nat.reduceAdd, true_and, and_true, if_true, if_false, Bool.false_eq_true, Bool.not_true, Bool.not_false, List.take_zero, List.drop_zero, nil_appD, int_eq, z6]
      simp only [Wb, Wc, Wd, We, Wf, Wg, Wh, Wi, Wj, Wm, Wn, Wo, Wp, Wq, Wr, Ws, Wt, Wu, Wv, Ww, Wx, Wy, Wz, WA, WB, WC, WD, WF, WG, WH, WI, WJ, WK, WL, WM, WN, WO, WP, WQ, WR, WS, WT, WU, WV, WW, WY, WZ, W4, W5, W6, W7, W8, W9, Za, Zb, Ze, Zf, Zg, Zh, Zi, Zk, Zl, Zm, Zo, Zq, Zr, Zs, Zt, Zu, Zv, wf_ok, rd_cons0, rd_cons, got_some, orGot_some, orGot_none, asB_bl, asI_int, asS_str, asOne_one, asTwo_two, ZJ, asThree_three, ZL, ZM, ZN, ZO, ZP, ZQ, ZR, ZS, ZT, ZU, ZV, ZW, ZX, ZY, ZZ, Z0, bName, List.set_cons_succ, List.set_cons_zero, List.append_nil, List.length_cons, List.length_nil, Nat.zero_add, Nat.reduceAdd, true_and, and_true, if_true, if_false, Bool.false_eq_true, Bool.not_true, Bool.not_false, List.take_zero, List.drop_zero, nil_appD, hct, ltB_int, gtB_int, got_some]
      simp only [de, got_some, Bool.false_eq_true, if_false]
      first | exact ⟨hxs, _, _, _, _, _, rfl, rfl⟩ | exact ⟨hxs, _, _, _, _, _, rfl⟩
    | false =>
      have fe : fieldV far (errA i) = far := by unfold fieldV; rw [hq]; rfl
      rw [fe] at hsm ⊢
      simp only [Bool.false_eq_true, if_false, hsm, wf_ok, Wb, Wc, Wd, We, Wf, Wg, Wh, Wi, Wj, Wm, Wn, Wo, Wp, Wq, Wr, Ws, Wt, Wu, Wv, Ww, Wx, Wy, Wz, WA, WB, WC, WD, WF, WG, WH, WI, WJ, WK, WL, WM, WN, WO, WP, WQ, WR, WS, WT, WU, WV, WW, WY, WZ, W4, W5, W6, W7, W8, W9, Za, Zb, Ze, Zf, Zg, Zh, Zi, Zk, Zl, Zm, Zo, Zq, Zr, Zs, Zt, Zu, Zv, wf_ok, rd_cons0, rd_cons, got_some, orGot_some, orGot_none, asB_bl, asI_int, asS_str, asOne_one, asTwo_two, ZJ, asThree_three, ZL, ZM, ZN, ZO, ZP, ZQ, ZR, ZS, ZT, ZU, ZV, ZW, ZX, ZY, ZZ, Z0, bName, List.set_cons_succ, List.set_cons_zero, List.append_nil, List.length_cons, List.length_nil, Nat.zero_add, Nat.reduceAdd, true_and, and_true, if_true, if_false, Bool.false_eq_true, Bool.not_true, Bool.not_false, List.take_zero, List.drop_zero, nil_appD, b1]
      rw [Yj]
      simp only [Wb, Wc, Wd, We, Wf, Wg, Wh, Wi, Wj, Wm, Wn, Wo, Wp, Wq, Wr, Ws, Wt, Wu, Wv, Ww, Wx, Wy, Wz, WA, WB, WC, WD, WF, WG, WH, WI, WJ, WK, WL, WM, WN, WO, WP, WQ, WR, WS, WT, WU, WV, WW, WY, WZ, W4, W5, W6, W7, W8, W9, Za, Zb, Ze, Zf, Zg, Zh, Zi, Zk, Zl, Zm, Zo, Zq, Zr, Zs, Zt, Zu, Zv, wf_ok, rd_cons0, rd_cons, got_some, orGot_some, orGot_none, asB_bl, asI_int, asS_str, asOne_one, asTwo_two, ZJ, asThree_three, ZL, ZM, ZN, ZO, ZP, ZQ, ZR, ZS, ZT, ZU, ZV, ZW, ZX, ZY, ZZ, Z0, bName, List.set_cons_succ, List.set_cons_zero, List.append_nil, List.length_cons, List.length_nil, Nat.zero_add, Nat.reduceAdd, true_and, and_true, if_true, if_false, Bool.false_eq_true, Bool.not_true, Bool.not_false, List.take_zero, List.drop_zero, nil_appD, hkn, r25]
      rw [rangeD_map]
      refine ⟨lf, ?_⟩
      simp only [cm, wp_ok, ke, got_some, Bool.false_eq_true, if_false]
      rw [Yj]
      simp only [Wb, Wc, Wd, We, Wf, Wg, Wh, Wi, Wj, Wm, Wn, Wo, Wp, Wq, Wr, Ws, Wt, Wu, Wv, Ww, Wx, Wy, Wz, WA, WB, WC, WD, WF, WG, WH, WI, WJ, WK, WL, WM, WN, WO, WP, WQ, WR, WS, WT, WU, WV, WW, WY, WZ, W4, W5, W6, W7, W8, W9, Za, Zb, Ze, Zf, Zg, Zh, Zi, Zk, Zl, Zm, Zo, Zq, Zr, Zs, Zt, Zu, Zv, wf_ok, rd_cons0, rd_cons, got_some, orGot_some, orGot_none, asB_bl, asI_int, asS_str, asOne_one, asTwo_two, ZJ, asThree_three, ZL, ZM, ZN, ZO, ZP, ZQ, ZR, ZS, ZT, ZU, ZV, ZW, ZX, ZY, ZZ, Z0, bName, List.set_cons_succ, List.set_cons_zero, List.append_nil, List.length_cons, List.length_nil, Nat.zero_add, Nat.reduceAdd, true_and, and_true, if_true, if_false, Bool.false_eq_true, Bool.not_true, Bool.not_false, List.take_zero, List.drop_zero, nil_appD, int_eq, z6]
      simp only [Wb, Wc, Wd, We, Wf, Wg, Wh, Wi, Wj, Wm, Wn, Wo, Wp, Wq, Wr, Ws, Wt, Wu, Wv, Ww, Wx, Wy, Wz, WA, WB, WC, WD, WF, WG, WH, WI, WJ, WK, WL, WM, WN, WO, WP, WQ, WR, WS, WT, WU, WV, WW, WY, WZ, W4, W5, W6, W7, W8, W9, Za, Zb, Ze, Zf, Zg, Zh, Zi, Zk, Zl, Zm, Zo, Zq, Zr, Zs, Zt, Zu, Zv, wf_ok, rd_cons0, rd_cons, got_some, orGot_some, orGot_none, asB_bl, asI_int, asS_str, asOne_one, asTwo_two, ZJ, asThree_three, ZL, ZM, ZN, ZO, ZP, ZQ, ZR, ZS, ZT, ZU, ZV, ZW, ZX, ZY, ZZ, Z0, bName, List.set_cons_succ, List.set_cons_zero, List.append_nil, List.length_cons, List.length_nil, Nat.zero_add, Nat.reduceAdd, true_and, and_true, if_true, if_false, Bool.false_eq_true, Bool.not_true, Bool.not_false, List.take_zero, List.drop_zero, nil_appD, hct, ltB_int, gtB_int, got_some]
      simp only [de, got_some, Bool.false_eq_true, if_false]
      first | exact ⟨hxs, _, _, _, _, _, rfl, rfl⟩ | exact ⟨hxs, _, _, _, _, _, rfl⟩
  cases q : m_law [.fz (ns.map .int)] [] with
  | ok d S =>
    rw [q] at key
    cases (show d = .bl true from key)
    exact ⟨S, rfl⟩
  | er x S => rw [q] at key; exact key.elim
  | no => rw [q] at key; exact key.elim
end L2.U.K68
open PySem PySem.W PySem.Calls PyProof.Rows in
theorem PySem.Challenge.cw_untilnone_k68_errors_and_their_bases_holds : PySem.Challenge.rw_untilnone_k68_errors_and_their_bases.Holds := by
  w_on; o_law
  refine HandSHeadRun.head_any (r := OpenLaw.row PySem.Challenge.rw_untilnone_k68_errors_and_their_bases) (q := view (OpenLaw.row PySem.Challenge.rw_untilnone_k68_errors_and_their_bases).prog [37]) (H := L2.U.K68.hk) (ob := L2.U.K68.ob) (M := 15000) (loose := L2.U.K68.loose) (d := HandSHeadRun.topDef (OpenLaw.row PySem.Challenge.rw_untilnone_k68_errors_and_their_bases).prog 37) (kwd := []) L2.U.K68.ob_eq
    (by kernel_rfl) (fun s => by kernel_rfl) L2.U.K68.run (by kernel_rfl) (by kernel_rfl) (by kernel_rfl) (by rfl) (by first | assumption | decide +kernel) (by decide +kernel) ⟨rfl, rfl, rfl, rfl, rfl, by decide +kernel⟩ ?hw ?hc
  case hw => w_witness2
  case hc =>
    refine L2.U.walk_U (l := PySem.Challenge.rw_untilnone_k68_errors_and_their_bases) (n := 63) (k := 6) (x := "_law_script") rfl (by decide) (by kernel_rfl) ⟨rfl, by decide, by decide⟩ ?F
    intro w mg fa h Y G hmg0
    obtain ⟨K, KX, c⟩ := Y
    have hmg : mg ("law" : PySem.Str) = some (.ref fa) := by
      have e : (HandSHeadRun.topDef (OpenLaw.row PySem.Challenge.rw_untilnone_k68_errors_and_their_bases).prog 37).name = ("law" : PySem.Str) := by kernel_rfl
      rw [← e]
      exact hmg0
    have N := L2.U.Nm.of KX G
    obtain ⟨fd, F⟩ := c.def_ 8
    have e2 := hmg.symm.trans (L2.U.glo_at N (L2.U.K68.gl_of c.chk) 8)
    cases e2
    exact ⟨K, fd, L2.U.K68.m_law, KX, fun s v => L2.FunD.bindsA (ps := ["_law_script"]) F (fun _ _ _ _ _ _ us h => by match us, h with | [_], _ => rfl) s [v] rfl, fun ns hl => L2.U.K68.law_run ns hl, fun base _ _ => L2.U.K68.fn_law c N F⟩
