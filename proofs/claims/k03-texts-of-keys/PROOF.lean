import PyProof.Rows.All
import Wide.All
import OpenK.AllK
import Wide.FinOn
import HandS.Lambda
import KE.KDflt
import HandS.ForMost
import HandS.ExcCtx
import HandS.Star
import HandS.Exc
import HandS.WordsExc
import HandS.Defaults
import HandS.HeadHook1
import HandS.TupAny
import HandS.TupMul
import HandS.Wide
import HandS.IsInst
import HandS.Walk
import HandS.Flow
import HandS.Style
import HandS.Deep
import HandS.CallSlots
import HandS.Head0
import HandS.Head1
import HandS.Head2
import HandS.HeadEnd
import HandS.HeadHook2
import HandS.Text
import HandS.Strs
import HandS.FStr
import HandS.Sort
import HandS.MakeKwOnly
import HandS.ClsMeth
import PyProof.StrLawsTight
import PyProof.StrLawsIn
import PyProof.StrLawsChain
import PyProof.Rows.StrFacts2
import KE.GoesMore
import KE.GoesEnum
import HandS.Iter
import KE.KStar
import PyProof.ListStr
import HandS.Conv
import KE.DataEq
import PyProof.Rows.CallKw2
import HandS.Dict
import HandS.DictComp
import HandS.Property
import HandS.OwnEq
import HandS.Set
import HandS.SetFor
import PyProof.Rows.SortShellAny
import HandS.ExcInit
import HandS.ExcField
import HandS.RaiseFrom
import KE.KTryMore
import HandS.HotCalls
import HandS.EndTab
import HandS.ReplaceLit
import KE.IntTextLaws
import PyProof.Rows.StrStrike
import KE.SortData
import HandS.TupLe
import HandS.SuiteRaise
import HandS.ExcInitHot
import KE.GoesComp
import PySem.Challenge.RW_untilnone_k03_texts_of_keys
set_option Elab.async false
set_option linter.all false
set_option maxRecDepth 100000
set_option maxHeartbeats 4000000
namespace L2.U
open PySem PySem.Spec PyProof.Rows
structure LamA where
  qual : Str
  params : Arguments
  body : Expr
  scope : Scope
  frees : List Str
  maker : Scope
def LamA.cells (k : LamA) (b : Nat) : List (Str × Addr) := cellsFrom (b + 1) k.maker.names []
def uNoE : Expr := .Name "" ⟨0, 0, 0, 0⟩
def uNoS : Scope := ⟨.function, [], false, false, []⟩
def uNoA : Arguments := ⟨[], [], none, [], [], none, []⟩
def sN (l : List Stmt) (i : Nat) : Stmt := l.getD i (.Pass ⟨0, 0, 0, 0⟩)
def sB : Stmt → List Stmt
  | .FunctionDef _ _ b _ _ _ _ _ _ _ => b
  | .For _ _ b _ _ => b
  | .While _ b _ _ => b
  | .If _ b _ _ => b
  | _ => []
def sE : Stmt → Expr
  | .Assign _ v _ => v
  | .Return (some v) _ => v
  | .Expr v _ => v
  | .AugAssign _ _ v _ => v
  | .For _ v _ _ _ => v
  | .While v _ _ _ => v
  | .If v _ _ _ => v
  | _ => uNoE
def eE (n : Nat) : Expr → Expr
  | .Call f a _ _ => (f :: a).getD n uNoE
  | .List l _ => l.getD n uNoE
  | .Tuple l _ _ => l.getD n uNoE
  | .BinOp l _ r _ => if n = 0 then l else r
  | .BoolOp _ l _ => l.getD n uNoE
  | .UnaryOp _ o _ => o
  | .Compare l _ c _ => (l :: c).getD n uNoE
  | .IfExp t b o _ => [t, b, o].getD n uNoE
  | .Attribute v _ _ => v
  | .Subscript v _ _ => v
  | _ => uNoE
def lP : Expr → Arguments
  | .Lambda p _ _ _ => p
  | _ => uNoA
def lB : Expr → Expr
  | .Lambda _ b _ _ => b
  | _ => uNoE
def lS : Expr → Scope
  | .Lambda _ _ s _ => s
  | _ => uNoS
def mS : Stmt → Scope
  | .FunctionDef _ _ _ _ _ _ s _ _ _ => s
  | _ => uNoS
def topL (i : Nat) : Stmt := PySem.Challenge.pw_untilnone_k03_texts_of_keys.main.body.getD i (.Pass ⟨0, 0, 0, 0⟩)
def lam0 : LamA := ⟨"law.<locals>.<lambda>", lP (eE 1 (eE 1 (eE 0 (sE (sN (sB (sN (sB (topL 26)) 1)) 6))))), lB (eE 1 (eE 1 (eE 0 (sE (sN (sB (sN (sB (topL 26)) 1)) 6))))), lS (eE 1 (eE 1 (eE 0 (sE (sN (sB (sN (sB (topL 26)) 1)) 6))))), ["_law_bent"], mS (topL 26)⟩
def lam1 : LamA := ⟨"law.<locals>.<lambda>", lP (eE 0 (sE (sN (sB (sN (sB (topL 26)) 1)) 8))), lB (eE 0 (sE (sN (sB (sN (sB (topL 26)) 1)) 8))), lS (eE 0 (sE (sN (sB (sN (sB (topL 26)) 1)) 8))), ["_law_odd"], mS (topL 26)⟩
def lam2 : LamA := ⟨"law.<locals>.<lambda>", lP (eE 1 (sE (sN (sB (sN (sB (topL 26)) 1)) 8))), lB (eE 1 (sE (sN (sB (sN (sB (topL 26)) 1)) 8))), lS (eE 1 (sE (sN (sB (sN (sB (topL 26)) 1)) 8))), ["_law_bag_here"], mS (topL 26)⟩
def theLams : Nat → Option LamA
  | 0 => some lam0
  | 1 => some lam1
  | 2 => some lam2
  | _ => none
end L2.U
namespace L2.U
open PySem PySem.Spec PyProof.Rows
def hotV (K : PySem.W.Frag) (cls : Value) : Prop := cls = .ref (He.ga K "InvalidText")
def hotW (K : PySem.W.Frag) (W : WX) : WX := fun cls d σ H => hotV K cls ∧ W cls d σ H
def Tk (X : Cx) (W : WX) : Prop := L2N.Takes X W ∧ L2.Takes X (hotW X.K W)
inductive D where
  | non | bl (b : Bool) | int (i : Int) | str (x : Str) | ty (n : String) | con (c : Str)
  | tup (xs : List D) | lst (xs : List D) | dic (ks vs : List D) | ins (C : Str) (ns : List Str) (vs : List D)
  | fz (xs : List D)
  | ref (n : Nat)
  deriving Inhabited
inductive AO where
  | lst (xs : List D) | dic (ks vs : List D) | ins (C : Str) (ns : List Str) (vs : List D) | gone
  deriving Inhabited
abbrev Sto := List AO
abbrev Env := List (Option D)
mutual
def bnd (n : Nat) : D → Bool
  | .ref k => decide (k < n)
  | .tup xs => bndL n xs
  | .lst xs => bndL n xs
  | .fz xs => bndL n xs
  | .dic ks vs => bndL n ks && bndL n vs
  | .ins _ _ vs => bndL n vs
  | _ => true
def bndL (n : Nat) : List D → Bool
  | [] => true
  | x :: r => bnd n x && bndL n r
end
structure Gh where
  G : Addr → Option D
  m : Nat → Addr
  sz : Nat
  F : Addr → Option HO
structure Ext (g g' : Gh) : Prop where
  G : ∀ a d, g.G a = some d → g'.G a = some d
  sz : g.sz ≤ g'.sz
  m : ∀ n, n < g.sz → g'.m n = g.m n
  F : g'.F = g.F
mutual
theorem bnd_mono {n k : Nat} (h : n ≤ k) : ∀ d : D, bnd n d = true → bnd k d = true
  | .ref j, e => by
    have e1 : j < n := by simpa [bnd] using e
    simp [bnd]; omega
  | .tup xs, e => by simp only [bnd] at e ⊢; exact bndL_mono h xs e
  | .lst xs, e => by simp only [bnd] at e ⊢; exact bndL_mono h xs e
  | .fz xs, e => by simp only [bnd] at e ⊢; exact bndL_mono h xs e
  | .dic ks vs, e => by
    simp only [bnd, Bool.and_eq_true] at e ⊢
    exact ⟨bndL_mono h ks e.1, bndL_mono h vs e.2⟩
  | .ins _ _ vs, e => by simp only [bnd] at e ⊢; exact bndL_mono h vs e
  | .non, _ => rfl
  | .bl _, _ => rfl
  | .int _, _ => rfl
  | .str _, _ => rfl
  | .ty _, _ => rfl
  | .con _, _ => rfl
theorem bndL_mono {n k : Nat} (h : n ≤ k) : ∀ l : List D, bndL n l = true → bndL k l = true
  | [], _ => rfl
  | x :: r, e => by
    simp only [bndL, Bool.and_eq_true] at e ⊢
    exact ⟨bnd_mono h x e.1, bndL_mono h r e.2⟩
end
mutual
def kRep (K : PySem.W.Frag) : Nat → D → Value → Bool
  | 0, _, _ => false
  | _ + 1, .non, .none => true
  | _ + 1, .bl b, .bool c => b == c
  | _ + 1, .int i, .int j _ => decide (i = j)
  | _ + 1, .str x, .str y _ => decide (x = y)
  | _ + 1, .ty n, .type k => decide (n = k)
  | _ + 1, .con c, .ref b => decide (He.ga K c = b)
  | f + 1, .tup ds, .ref a => (match K.lookup a with
    | some ⟨.type c, _, .seq its _, _⟩ => decide (c = "tuple") && (decide (its.size ≤ sizeLine) && kReps K f ds its.toList)
    | _ => false)
  | f + 1, .fz ds, .ref a => (match K.lookup a with
    | some ⟨.type c, none, .seq its _, _⟩ => decide (c = "list") && (decide (its.size ≤ sizeLine) && kReps K f ds its.toList)
    | _ => false)
  | _ + 1, _, _ => false
def kReps (K : PySem.W.Frag) : Nat → List D → List Value → Bool
  | 0, _, _ => false
  | _ + 1, [], [] => true
  | f + 1, d :: ds, u :: us => kRep K f d u && kReps K f ds us
  | _ + 1, _, _ => false
end
def RelD (K : PySem.W.Frag) (g : Gh) : D → V → Prop
  | .non, v => v = .non
  | .bl b, v => v = .bl b
  | .int i, v => v = .int i
  | .str x, v => v = .str x
  | .ty n, v => v = .ty n
  | .con c, v => v = .ref (He.ga K c)
  | .ref n, v => n < g.sz ∧ v = .ref (g.m n)
  | .tup xs, v => bndL g.sz xs = true ∧ ∃ a, v = .ref a ∧ (g.G a = some (.tup xs) ∨ ∃ f, kRep K f (.tup xs) (.ref a) = true)
  | .lst xs, v => bndL g.sz xs = true ∧ ∃ a, v = .ref a ∧ g.G a = some (.lst xs)
  | .fz xs, v => bndL g.sz xs = true ∧ ∃ a, v = .ref a ∧ (g.G a = some (.fz xs) ∨ ∃ f, kRep K f (.fz xs) (.ref a) = true)
  | .dic ks vs, v => (bndL g.sz ks && bndL g.sz vs) = true ∧ ∃ a, v = .ref a ∧ g.G a = some (.dic ks vs)
  | .ins C ns vs, v => bndL g.sz vs = true ∧ ∃ a, v = .ref a ∧ g.G a = some (.ins C ns vs)
abbrev RelDs (K : PySem.W.Frag) (g : Gh) : List D → List V → Prop := Paired (RelD K g)
def tabD (q : Str) (P : Nat) : D := .dic [.str q, .int P] []
def codD (q : Str) : D := .dic [.str q] [.non]
def exD (C : Str) (ns : List Str) (ds : List D) : D := .dic [.non] [.ins C ns ds]
def xdD (C : Str) (ns : List Str) (ds : List D) : D := .dic [.bl true] [.ins C ns ds]
def celD (d : D) : D := .dic [.bl false] [d]
def lamD (i b : Int) : D := .dic [.int i, .int b] []
def clsD (i b : Int) (ds : List D) : D := .dic [.int i, .int b, .non] ds
abbrev stillO (o : Obj) (a : Addr) : HO := .frz o (.ext fun h => ∃ o, h.get? a = some o)
def LamR (g : Gh) (H : Hp) (a : Addr) (i b : Int) : Prop := ∃ (lk : LamA) (pm doc : Value) (c : Addr) (ctv dV : Value), theLams i.toNat = some lk ∧ g.G c = some (codD lk.qual) ∧
  H a = some (.ext fun h => h.get? a = some (PySem.W.kdv_obj "<lambda>" lk.qual lk.params (.expr lk.body) lk.scope (cloFrom (lk.cells b.toNat) lk.scope.names []) dV doc pm c ctv)) ∧
  (∀ x y c, (cloFrom (lk.cells b.toNat) lk.scope.names []).lookup x = some c → (cloFrom (lk.cells b.toNat) lk.scope.names []).lookup y = some c → x = y) ∧
  ((lk.params.defaults = [] ∧ dV = .none) ∨ (lk.params.defaults ≠ [] ∧ ∃ td, dV = .ref td ∧ g.G td = some (.tup [.int 0])))
def CelR (g : Gh) (i b : Int) (ds : List D) : Prop := ∃ lk, theLams i.toNat = some lk ∧ ds.length = lk.frees.length ∧ ∀ (j : Nat) (y : Str) (d : D), lk.frees[j]? = some y → ds[j]? = some d → ∃ c, (lk.cells b.toNat).lookup y = some c ∧ g.G c = some (celD d)
def DRep (K : PySem.W.Frag) (g : Gh) (H : Hp) (a : Addr) : List D → List D → Prop
  | [.str q, .int p], [] => a = p.toNat ∧ ∃ ps : Array Value, H a = some (.tbl ps) ∧ TriplesOk ps.toList ∧ ∀ (pos : Pos) (cv : Value), codeAmong pos ps.toList = some cv → ∃ c, cv = .ref c ∧ g.G c = some (codD q)
  | [.str q], [.non] => H a = some (LamX.CodeO a q)
  | [.non], [.ins C ns ds] => ∃ (oe : Obj) (dx : Addr), H a = some (stillO oe a) ∧ oe.cls = .ref (He.ga K C) ∧ oe.dict = some dx ∧ (∃ vs, oe.data = .fields vs) ∧ g.G dx = some (xdD C ns ds)
  | [.bl true], [.ins C ns ds] => ∃ vs, H a = some (.xd (ns.zip vs)) ∧ ns.length = ds.length ∧ RelDs K g ds vs
  | [.bl false], [d] => ∃ (o : Obj) (u : Value) (v : V), H a = some (stillO o a) ∧ o.data = .cell (some u) ∧ RelV v u ∧ RelD K g d v
  | [.int i, .int b], [] => LamR g H a i b
  | [.int i, .int b, .non], ds => LamR g H a i b ∧ CelR g i b ds
  | _, _ => False
def openK : List D → Bool
  | [.bl false] => true
  | [.int _, .int _, .non] => true
  | _ => false
def dicB (n : Nat) (ks vs : List D) : Bool := bndL 0 ks && bndL (if openK ks = true then n else 0) vs
def IRep (K : PySem.W.Frag) (g : Gh) (H : Hp) (a : Addr) : D → Prop
  | .tup ds => ∃ vs, H a = some (.tup vs) ∧ RelDs K g ds vs
  | .lst ds => ∃ vs, H a = some (.lst vs) ∧ RelDs K g ds vs
  | .fz ds => ∃ vs, Rd H a (.lst vs) ∧ RelDs K g ds vs
  | .ins C ns ds => ∃ dx vs, H a = some (.ins (He.ga K C) dx (ns.zip vs)) ∧ ns.length = ds.length ∧ RelDs K g ds vs
  | .dic ks vs => dicB g.sz ks vs = true ∧ DRep K g H a ks vs
  | _ => False
def keyD : Key → D
  | .inl i => .int i
  | .inr x => .str x
def MRep (K : PySem.W.Frag) (g : Gh) (H : Hp) (a : Addr) : AO → Prop
  | .lst ds => ∃ vs, H a = some (.lst vs) ∧ RelDs K g ds vs
  | .ins C ns ds => ∃ dx vs, H a = some (.ins (He.ga K C) dx (ns.zip vs)) ∧ ns.length = ds.length ∧ RelDs K g ds vs
  | .dic ks ds => ∃ (kk : List Key) (vs : List V), ks = kk.map keyD ∧ H a = some (.dK (kk.zip vs)) ∧ kk.length = vs.length ∧ RelDs K g ds vs
  | .gone => True
structure Rl (K : PySem.W.Frag) (g : Gh) (S : Sto) (H : Hp) : Prop where
  imm : ∀ a d, g.G a = some d → IRep K g H a d
  sto : ∀ (n : Nat) (o : AO), S[n]? = some o → o ≠ .gone → g.G (g.m n) = none ∧ MRep K g H (g.m n) o
  inj : ∀ (i j : Nat) (oi oj : AO), S[i]? = some oi → oi ≠ .gone → S[j]? = some oj → oj ≠ .gone → g.m i = g.m j → i = j
  sz : g.sz = S.length
  fr : ∀ a o, g.F a = some o → H a = some o ∧ g.G a = none ∧ ∀ (n : Nat) (ob : AO), S[n]? = some ob → ob ≠ .gone → g.m n ≠ a
def REnv (K : PySem.W.Frag) (g : Gh) (r : Env) (σ : St) : Prop := r.length = σ.length ∧ ∀ (i : Nat) (d : D), r[i]? = some (some d) → ∃ v, σ[i]? = some (some v) ∧ RelD K g d v
inductive R (α : Type) where
  | ok (a : α) (r : Env) (S : Sto)
  | er (x : D) (r : Env) (S : Sto)
  | no
def R.bind {α β : Type} (x : R α) (k : α → Env → Sto → R β) : R β := match x with
  | .ok a r S => k a r S
  | .er x r S => .er x r S
  | .no => .no
def RelX (K : PySem.W.Frag) (g : Gh) (H : Hp) (x : D) (cls : Value) (od : Option Addr) : Prop :=
  ∃ C ns ds dx, x = .ins C ns ds ∧ cls = .ref (He.ga K C) ∧ od = some dx ∧ g.G dx = some (xdD C ns ds)
def PostG {α β : Type} (K : PySem.W.Frag) (W : WX) (rel : Gh → α → β → Prop) (g : Gh) (σ : St) (x : R α) (Q : β → Hp → Prop) : Prop := match x with
  | .ok a r S => ∀ g' H' b, Ext g g' → Rl K g' S H' → REnv K g' r σ → rel g' a b → Q b H'
  | .er x r S => ∀ g' H' cls od, Ext g g' → Rl K g' S H' → REnv K g' r σ → RelX K g' H' x cls od → W cls od σ H'
  | .no => False
section
variable {K : PySem.W.Frag} {W : WX} {g g' : Gh} {σ : St}
def TD {α β : Type} (K : PySem.W.Frag) (W : WX) (rel : Gh → α → β → Prop) (f : Env → Sto → R α) : St → Hp → (β → Hp → Prop) → Prop := fun σ H Q =>
  ∃ g r S, Rl K g S H ∧ REnv K g r σ ∧ PostG K W rel g σ (f r S) Q
end
end L2.U
namespace L2.U
open PySem PySem.Spec PyProof.Rows
section
variable {K : PySem.W.Frag} {g g' : Gh} {H H' : Hp} {S : Sto}
def lstOf (S : Sto) : D → Option (List D)
  | .lst xs => some xs
  | .fz xs => some xs
  | .ref n => (match S[n]? with | some (.lst xs) => some xs | _ => none)
  | _ => none
def lstMOf (S : Sto) : D → Option (List D)
  | .lst xs => some xs
  | .ref n => (match S[n]? with | some (.lst xs) => some xs | _ => none)
  | _ => none
end
def orO (o o' : Sto → D → D → Option D) : Sto → D → D → Option D := fun S x y => match o S x y with
  | some d => some d
  | none => o' S x y
section
variable {K : PySem.W.Frag}
def oInt0 (f : Int → Int → Int) : Sto → D → D → Option D := fun _ x y => match x, y with
  | .int i, .int j => some (.int (f i j))
  | _, _ => none
def oCatS : Sto → D → D → Option D := fun _ x y => match x, y with
  | .str a, .str b => if a.length + b.length ≤ sizeLine then some (.str (a ++ b)) else none
  | _, _ => none
def oCatT : Sto → D → D → Option D := fun _ x y => match x, y with
  | .tup a, .tup b => if a.length + b.length ≤ sizeLine then some (.tup (a ++ b)) else none
  | _, _ => none
def oCatL : Sto → D → D → Option D := fun S x y => match lstMOf S x, lstMOf S y with
  | some a, some b => if a.length + b.length ≤ sizeLine then some (.lst (a ++ b)) else none
  | _, _ => none
def oAdd : Sto → D → D → Option D := orO (oInt0 fun i j => i + j) (orO oCatS (orO oCatT oCatL))
def oSub : Sto → D → D → Option D := oInt0 fun i j => i - j
end
def flatD : D → Option V
  | .non => some .non
  | .bl b => some (.bl b)
  | .int i => some (.int i)
  | .str x => some (.str x)
  | _ => none
mutual
def pyD : D → Option PyData
  | .non => some .none
  | .bl b => some (.bool b)
  | .int i => some (.int i)
  | .str x => some (.str x)
  | .tup xs => (pyDs xs).map .tuple
  | .lst xs => (pyDs xs).map .list
  | .fz xs => (pyDs xs).map .list
  | _ => none
def pyDs : List D → Option (List PyData)
  | [] => some []
  | x :: r => match pyD x, pyDs r with
    | some a, some b => some (a :: b)
    | _, _ => none
end
def pyV (S : Sto) : D → Option PyData
  | .ref n => (match S[n]? with | some (.lst xs) => (pyDs xs).map .list | _ => none)
  | d => pyD d
def eqFB : Sto → D → D → Option Bool := fun _ x y => match flatD x, flatD y with
  | some a, some b => if scal a b = true then some (decide (a = b)) else none
  | _, _ => none
def eqPB : Sto → D → D → Option Bool := fun S x y => match pyV S x, pyV S y with
  | some a, some b => if SeqAt.shaped a = true ∧ SeqAt.shaped b = true then some (PyData.eqv a b) else none
  | _, _ => none
def orB (f f' : Sto → D → D → Option Bool) : Sto → D → D → Option Bool := fun S x y => match f S x y with
  | some d => some d
  | none => f' S x y
def eqB : Sto → D → D → Option Bool := orB eqFB eqPB
def ltB : Sto → D → D → Option Bool := fun _ x y => match x, y with
  | .int i, .int j => some (decide (i < j))
  | .str i, .str j => some (decide (i.cps.toList < j.cps.toList))
  | _, _ => none
def swapB (f : Sto → D → D → Option Bool) : Sto → D → D → Option Bool := fun S x y => f S y x
def notB (f : Sto → D → D → Option Bool) : Sto → D → D → Option Bool := fun S x y => (f S x y).map not
section
variable {X : Cx} {K : PySem.W.Frag}
def seqOf (S : Sto) : D → Option (List D)
  | .tup xs => some xs
  | d => lstOf S d
def isNone : D → Bool
  | .non => true
  | _ => false
end
end L2.U
namespace L2.U
open PySem PySem.Spec PyProof.Rows
def fz (N : Nat) (S : Sto) : Nat → D → D
  | 0, d => d
  | k + 1, .tup xs => .tup (xs.map (fz N S k))
  | k + 1, .lst xs => .lst (xs.map (fz N S k))
  | k + 1, .fz xs => .fz (xs.map (fz N S k))
  | k + 1, .dic ks vs => .dic (ks.map (fz N S k)) (vs.map (fz N S k))
  | k + 1, .ins C ns vs => .ins C ns (vs.map (fz N S k))
  | k + 1, .ref n => if n < N then .ref n else match S[n]? with
    | some (.lst xs) => .lst (xs.map (fz N S k))
    | some (.ins C ns vs) => .ins C ns (vs.map (fz N S k))
    | _ => .ref n
  | _ + 1, d => d
def bndO (n : Nat) : AO → Bool
  | .lst xs => bndL n xs
  | .dic ks vs => bndL n ks && bndL n vs
  | .ins _ _ vs => bndL n vs
  | .gone => true
end L2.U
namespace L2.U
open PySem PySem.Spec PyProof.Rows
abbrev EF := Env → Sto → R D
abbrev TF := Env → Sto → R Bool
abbrev AF := Env → Sto → R (List D)
abbrev OF := Env → Sto → R (Option Int)
def eVar (i : Nat) : EF := fun r S => match r[i]? with
  | some (some d) => .ok d r S
  | _ => .no
def eC (d : D) : EF := fun r S => .ok d r S
section
variable {X : Cx} {W : WX} {pos : Pos}
def eBin (o : Sto → D → D → Option D) (fa fb : EF) : EF := fun r S => (fa r S).bind fun x r S => (fb r S).bind fun y r S => match o S x y with
  | some d => .ok d r S
  | none => .no
def eCmp (o : Sto → D → D → Option Bool) (fa fb : EF) : EF := fun r S => (fa r S).bind fun x r S => (fb r S).bind fun y r S => match o S x y with
  | some d => .ok (.bl d) r S
  | none => .no
def tCmp (o : Sto → D → D → Option Bool) (fa fb : EF) : TF := fun r S => (fa r S).bind fun x r S => (fb r S).bind fun y r S => match o S x y with
  | some d => .ok d r S
  | none => .no
variable {a b c : Expr} {fa fb fc : EF}
def eChain (o o' : Sto → D → D → Option Bool) (fa fb fc : EF) : EF := fun r S => (fa r S).bind fun x r S => (fb r S).bind fun y r S => match o S x y with
  | some true => (fc r S).bind fun z r S => (match o' S y z with
    | some d => .ok (.bl d) r S
    | none => .no)
  | some false => .ok (.bl false) r S
  | none => .no
def tChainB (o o' : Sto → D → D → Option Bool) (fa fb fc : EF) : TF := fun r S => (fa r S).bind fun x r S => (fb r S).bind fun y r S => match o S x y with
  | some true => (fc r S).bind fun z r S => (match o' S y z with
    | some d => .ok d r S
    | none => .no)
  | some false => .ok false r S
  | none => .no
def eAnd (fa fb : EF) : EF := fun r S => (fa r S).bind fun x r S => match x with
  | .bl true => fb r S
  | .bl false => .ok (.bl false) r S
  | _ => .no
def eOr (fa fb : EF) : EF := fun r S => (fa r S).bind fun x r S => match x with
  | .bl true => .ok (.bl true) r S
  | .bl false => fb r S
  | _ => .no
def eNot (fa : EF) : EF := fun r S => (fa r S).bind fun x r S => match x with
  | .bl b => .ok (.bl !b) r S
  | _ => .no
def tVal (fa : EF) : TF := fun r S => (fa r S).bind fun x r S => match x with
  | .bl b => .ok b r S
  | _ => .no
def tAndB (ta tb : TF) : TF := fun r S => (ta r S).bind fun x r S => if x = true then tb r S else .ok false r S
def tOrB (ta tb : TF) : TF := fun r S => (ta r S).bind fun x r S => if x = true then .ok true r S else tb r S
def tNotB (ta : TF) : TF := fun r S => (ta r S).bind fun x r S => .ok (!x) r S
def eIf (tc : TF) (fa fb : EF) : EF := fun r S => (tc r S).bind fun x r S => if x = true then fa r S else fb r S
variable {rest : List Expr} {ta tb tc : TF}
def aNil : AF := fun r S => .ok [] r S
def aCons (fa : EF) (fr : AF) : AF := fun r S => (fa r S).bind fun x r S => (fr r S).bind fun xs r S => .ok (x :: xs) r S
variable {es : List Expr} {fs : AF}
def eTup (fs : AF) : EF := fun r S => (fs r S).bind fun xs r S => if xs.length ≤ sizeLine then .ok (.tup xs) r S else .no
def eLst (fs : AF) : EF := fun r S => (fs r S).bind fun xs r S => if xs.length ≤ sizeLine then .ok (.lst xs) r S else .no
def eLstS (fs : AF) : EF := fun r S => (fs r S).bind fun xs r S => if xs.length ≤ sizeLine then .ok (.ref S.length) r (S ++ [.lst xs]) else .no
def oIx : Sto → D → D → Option D := fun S x y => match x, y with
  | .str z, .int i => if z.length ≤ sizeLine then (atI z.cps.toList i).map fun c => .str ⟨#[c]⟩ else none
  | d, .int i => (seqOf S d).bind fun xs => atI xs i
  | _, _ => none
def eIx (fa fb : EF) : EF := eBin oIx fa fb
def oNone : OF := fun r S => .ok none r S
def oSome (fa : EF) : OF := fun r S => (fa r S).bind fun x r S => match x with
  | .int i => .ok (some i) r S
  | _ => .no
def cutD (xs : List D) (lo hi : Option Int) : List D := (xs.drop (HT.sIx xs.length 0 lo)).take (HT.sIx xs.length xs.length hi - HT.sIx xs.length 0 lo)
def sliceD (S : Sto) (d : D) (lo hi : Option Int) : Option D := match d with
  | .str z => if z.length ≤ sizeLine then some (.str (cutS z lo hi)) else none
  | .tup xs => some (.tup (cutD xs lo hi))
  | d => (lstOf S d).map fun xs => .lst (cutD xs lo hi)
def eSl (fa : EF) (fl fh : OF) : EF := fun r S => (fa r S).bind fun x r S => (fl r S).bind fun lo r S => (fh r S).bind fun hi r S => match sliceD S x lo hi with
  | some d => .ok d r S
  | none => .no
variable {lo hi : Option Expr} {fl fh : OF}
end
end L2.U
namespace L2.U
open PySem PySem.Spec PyProof.Rows
inductive Fl where
  | nx | rt (d : D) | bk | ct
abbrev SF := Env → Sto → R Fl
def PostS (K : PySem.W.Frag) (W : WX) (g : Gh) (x : R Fl) (E : Ends) : Prop := match x with
  | .ok .nx r S => ∀ g' H' σ', Ext g g' → Rl K g' S H' → REnv K g' r σ' → E.nx σ' H'
  | .ok (.rt d) r S => ∀ g' H' v, Ext g g' → Rl K g' S H' → RelD K g' d v → E.rt v H'
  | .ok .bk r S => ∀ g' H' σ', Ext g g' → Rl K g' S H' → REnv K g' r σ' → E.bk σ' H'
  | .ok .ct r S => ∀ g' H' σ', Ext g g' → Rl K g' S H' → REnv K g' r σ' → E.ct σ' H'
  | .er x r S => ∀ g' H' σ' cls od, Ext g g' → Rl K g' S H' → REnv K g' r σ' → RelX K g' H' x cls od → W cls od σ' H'
  | .no => False
def sNext : SF := fun r S => .ok .nx r S
def sSeq (f h : SF) : SF := fun r S => (f r S).bind fun a r S => match a with
  | .nx => h r S
  | a => .ok a r S
def sRet (fa : EF) : SF := fun r S => (fa r S).bind fun d r S => .ok (.rt d) r S
def sRetN : SF := fun r S => .ok (.rt .non) r S
def sExpr (fa : EF) : SF := fun r S => (fa r S).bind fun _ r S => .ok .nx r S
def sIf (tc : TF) (f h : SF) : SF := fun r S => (tc r S).bind fun b r S => if b = true then f r S else h r S
def sBrk : SF := fun r S => .ok .bk r S
def sCont : SF := fun r S => .ok .ct r S
section
variable {X : Cx} {W : WX} {pos : Pos} {st : Stmt} {rest : List Stmt} {f h : SF} {a : Expr} {fa : EF}
abbrev Bn := D → Env → Option Env
def sAsg (fa : EF) (b : Bn) : SF := fun r S => (fa r S).bind fun d r S => match b d r with
  | some r' => .ok .nx r' S
  | none => .no
def sPar (i j : Nat) (fs : AF) : SF := fun r S => (fs r S).bind fun ds r S => match ds with
  | [x, y] => .ok .nx ((r.set i (some x)).set j (some y)) S
  | _ => .no
def sAug (i : Nat) (o : Sto → D → D → Option D) (fa : EF) : SF := fun r S => match r[i]? with
  | some (some x) => (fa r S).bind fun y r S => (match o S x y with
    | some d => .ok .nx (r.set i (some d)) S
    | none => .no)
  | _ => .no
def setD (S : Sto) (x y d : D) : Option Sto := match x, y with
  | .ref n, .int i => (match S[n]? with
    | some (.lst xs) => (ixN xs.length i).map fun j => S.set n (.lst (xs.set j d))
    | _ => none)
  | _, _ => none
def sSub (fv fa fi : EF) : SF := fun r S => (fv r S).bind fun d r S => (fa r S).bind fun x r S => (fi r S).bind fun y r S => match setD S x y d with
  | some S' => .ok .nx r S'
  | none => .no
end
end L2.U
namespace L2.U
open PySem PySem.Spec PyProof.Rows
structure ExtW (g g' : Gh) : Prop where
  G : ∀ a d, g.G a = some d → g'.G a = some d
  sz : g.sz ≤ g'.sz
  m : ∀ n, n < g.sz → g'.m n = g.m n
section
variable {X : Cx} {W : WX} {tg e : Expr} {pos : Pos} {fe : EF}
def vlst : D → Option (List D)
  | .lst xs => some xs
  | .fz xs => some xs
  | _ => none
def signsD (z : Str) : List D := z.cps.toList.map fun c => .str ⟨#[c]⟩
def itemsOf : D → Option (List D)
  | .tup xs => some xs
  | .lst xs => some xs
  | .fz xs => some xs
  | .str z => some (signsD z)
  | _ => none
def iSeq (fe : EF) : AF := fun r S => (fe r S).bind fun d r S => match itemsOf d with
  | some xs => .ok xs r S
  | none => .no
def rangeD (lo : Int) (n : Nat) : List D := (List.range n).map fun (i : Nat) => .int (lo + i)
def iRange1 (fs : AF) : AF := fun r S => (fs r S).bind fun ds r S => match ds with
  | [.int j] => if -(2 ^ 62) ≤ j ∧ j < 2 ^ 62 then .ok (rangeD 0 j.toNat) r S else .no
  | _ => .no
def iRange2 (fs : AF) : AF := fun r S => (fs r S).bind fun ds r S => match ds with
  | [.int i, .int j] => if -(2 ^ 62) ≤ i ∧ i < 2 ^ 62 ∧ -(2 ^ 62) ≤ j ∧ j < 2 ^ 62 then .ok (rangeD i (j - i).toNat) r S else .no
  | _ => .no
end
def loopF (b : Bn) (fb : SF) : List D → Env → Sto → R Fl
  | [], r, S => .ok .nx r S
  | x :: xs, r, S => match b x r with
    | some r1 => (fb r1 S).bind fun fl r2 S2 => match fl with
      | .nx => loopF b fb xs r2 S2
      | .ct => loopF b fb xs r2 S2
      | .bk => .ok .nx r2 S2
      | .rt d => .ok (.rt d) r2 S2
    | none => .no
def sFor (fi : AF) (b : Bn) (fb : SF) : SF := fun r S => (fi r S).bind fun xs r S => loopF b fb xs r S
def R.calm {α : Type} (x : R α) : R α := match x with
  | .er _ _ _ => .no
  | x => x
def wipeE (r : Env) : List Nat → Env
  | [] => r
  | v :: vs => (wipeE r vs).set v none
def compF (b : Bn) (tt : TF) (fe : EF) (r : Env) (vs : List Nat) : List D → Sto → R (List D)
  | [], S => .ok [] r S
  | x :: xs, S => match b x (wipeE r vs) with
    | some r1 => (tt r1 S).calm.bind fun c r2 S2 => if c = true then (fe r2 S2).calm.bind fun y _ S3 => (compF b tt fe r vs xs S3).bind fun ys r S => .ok (y :: ys) r S else compF b tt fe r vs xs S2
    | none => .no
def tYesB : TF := fun r S => .ok true r S
def eComp (fi : AF) (b : Bn) (vs : List Nat) (tt : TF) (fe : EF) : EF := fun r S => (fi r S).bind fun xs r S => if xs.length < sizeLine then (compF b tt fe r vs xs S).bind fun ys r S => .ok (.lst ys) r S else .no
end L2.U
namespace L2.U
open PySem PySem.Spec PyProof.Rows
def eCallB (o : Sto → List D → Option D) (fs : AF) : EF := fun r S => (fs r S).bind fun ds r S => match o S ds with
  | some d => .ok d r S
  | none => .no
section
variable {K : PySem.W.Frag} {g : Gh}
def oLen : Sto → List D → Option D := fun S ds => match ds with
  | [.str z] => if z.length ≤ sizeLine then some (.int z.length) else none
  | [d] => (seqOf S d).map fun xs => .int xs.length
  | _ => none
end
def tyNames : List String := ["NoneType", "bool", "int", "str", "tuple", "list", "dict", "type"]
def clsI (K : PySem.W.Frag) (C : Addr) : Bool := PySem.W.plainGet K C Str.empty && (PySem.W.hasDictIn K C && (PySem.W.plainOver K C && (decide (PySem.W.findIn K (.ref C) "__setattr__" = some (some (.builtin "object.__setattr__"))) &&
  (decide (PySem.W.findIn K (.ref C) "__class__" = some (some (.builtin "object.__class__"))) && (decide (PySem.W.specialIn K (.builtin "object.__class__") "__get__" = some (some (.builtin "getset_descriptor.__get__"))) &&
    (decide (PySem.W.takesIn K (.builtin "object.__class__") = some true) && decide (PySem.W.mroIn K C (.type "object") = some true)))))))
def oAbs : Sto → List D → Option D := fun _ ds => match ds with
  | [.int i] => some (.int (if i < 0 then -i else i))
  | _ => none
def oIntOf : Sto → List D → Option D := fun _ ds => match ds with
  | [.int i] => some (.int i)
  | [.bl b] => some (.int (if b then 1 else 0))
  | _ => none
inductive RF where
  | ok (d : D) (S : Sto) | er (x : D) (S : Sto) | no
abbrev MF := List D → Sto → RF
inductive Out where
  | ok (d : D) | er (x : D) | no
def RF.run (r : Env) : RF → R D
  | .ok d S' => .ok d r S'
  | .er x S' => .er x r S'
  | .no => .no
def eCallF (n : Nat) (m : MF) (dds : List D) (fs : AF) : EF := fun r S => (fs r S).bind fun ds r S => if (ds ++ dds).length = n then (m (ds ++ dds) S).run r else .no
section
variable {X : Cx} {W : WX} {pos p : Pos} {x : Str} {a : Expr} {es : List Expr} {fs : AF} {k : Nat} {f : Addr} {fd : FuncData} {ps : List Str} {m : MF} {dds : List D} {dvs : List V} {dus : List Value}
def eCallK (n j : Nat) (c : Nat) (m : MF) (gD : List D → List D → List D) (fs fk : AF) : EF := fun r S => (fs r S).bind fun ds r S => (fk r S).bind fun zs r S =>
  if ds.length = j ∧ zs.length = c ∧ (gD ds zs).length = n then (m (gD ds zs) S).run r else .no
end
end L2.U
namespace L2.U
open PySem PySem.Spec PyProof.Rows He
def fnA (K : PySem.W.Frag) (a : Addr) : FnW := match K.lookup a with
  | some ⟨_, _, .func fd, _⟩ => some (fd.name, fd.qualname, fd.params, fd.body, fd.scope, fd.globals, fd.closure, fd.builtins)
  | _ => none
def behA (K : PySem.W.Frag) (a : Addr) : Addr := match PySem.W.recIn K a "property" with
  | some (.ref g :: _) => g
  | _ => match PySem.W.recIn K a "staticmethod" with
    | some (.ref g :: _) => g
    | _ => 0
def fAp (K : PySem.W.Frag) (p : Str × Option Str) : Addr := behA K (fAd K p)
def okA (K : PySem.W.Frag) (a : Addr) (d : DefD) : Bool := PySem.W.keepIn K (.ref a) && (match K.lookup a with
  | some ⟨_, _, .func fd, _⟩ => PySem.W.codeIn K fd.code d.qual && (dflB K fd.defaults (d.dvs K) && kwdB K fd.kwdefaults (d.kws K))
  | _ => false)
def obsU (ck : PySem.W.Frag → Bool) (fn pn : List DefD) (K : PySem.W.Frag) : AlD := (ck K && (fn.all (fun d => okA K (fAd K d.at_) d) && pn.all fun d => okA K (fAp K d.at_) d), fn.map (fun d => fnA K (fAd K d.at_)) ++ pn.map fun d => fnA K (fAp K d.at_))
def SaysU (ck : PySem.W.Frag → Bool) (fn pn : List DefD) (K : PySem.W.Frag) : Prop := obsU ck fn pn K = valD (fn ++ pn)
def freeB (K : PySem.W.Frag) (xs : List Str) : Bool := xs.all fun x => eqO (PySem.W.nsIn K mainGlobals x) (some none)
def conB (K : PySem.W.Frag) (xs : List (Str × D)) : Bool := xs.all fun q => match PySem.W.nsIn K mainGlobals q.1 with
  | some (some u) => kRep K 40 q.2 u
  | _ => false
def gloB (K : PySem.W.Frag) (xs : List Str) : Bool := xs.all fun x => eqO (PySem.W.nsIn K mainGlobals x) (some (some (.ref (ga K x))))
end L2.U
namespace L2.U
open PySem PySem.Spec PyProof.Rows He
def eUn (o : Sto → D → Option D) (fa : EF) : EF := fun r S => (fa r S).bind fun x r S => match o S x with
  | some d => .ok d r S
  | none => .no
def wp {α : Type} (x : R α) (Q : α → Env → Sto → Prop) (Z : D → Env → Sto → Prop) : Prop := match x with
  | .ok a r S => Q a r S
  | .er d r S => Z d r S
  | .no => False
def wf (x : RF) (Q : D → Sto → Prop) (Z : D → Sto → Prop) : Prop := match x with
  | .ok d S => Q d S
  | .er d S => Z d S
  | .no => False
end L2.U
namespace L2.U
open PySem PySem.Spec PyProof.Rows He
section
variable {Z : D → Env → Sto → Prop} {r : Env} {S : Sto} {fa fb fc : EF} {ta tb : TF} {fs ft : AF}
variable {Q : D → Env → Sto → Prop}
def rd (r : Env) (i : Nat) : Option D := match r[i]? with
  | some (some d) => some d
  | _ => none
def got {α : Type} (o : Option α) (P : α → Prop) : Prop := match o with
  | some d => P d
  | none => False
@[simp] def asB : D → Option Bool
  | .bl b => some b
  | _ => none
@[simp] def asI : D → Option Int
  | .int b => some b
  | _ => none
@[simp] def asTwo : List D → Option (D × D)
  | [x, y] => some (x, y)
  | _ => none
def rng1 : List D → Option (List D)
  | [.int j] => if -(2 ^ 62) ≤ j ∧ j < 2 ^ 62 then some (rangeD 0 j.toNat) else none
  | _ => none
def rng2 : List D → Option (List D)
  | [.int i, .int j] => if -(2 ^ 62) ≤ i ∧ i < 2 ^ 62 ∧ -(2 ^ 62) ≤ j ∧ j < 2 ^ 62 then some (rangeD i (j - i).toNat) else none
  | _ => none
variable {T : Bool → Env → Sto → Prop}
variable {L : Fl → Env → Sto → Prop} {f h : SF}
end
end L2.U
namespace L2.U
open PySem PySem.Spec PyProof.Rows He
def eMeth (t : Sto → D → Bool) (o : Sto → D → List D → Option (D × Sto)) (fo : EF) (fs : AF) : EF := fun r S => (fo r S).bind fun x r S => if t S x = true then (fs r S).bind fun ds r S => match o S x ds with
  | some (d, S') => .ok d r S'
  | none => .no else .no
def strsD : List D → Option (List Str)
  | [] => some []
  | .str x :: r => (strsD r).map (x :: ·)
  | _ :: _ => none
def jNil : Str → Env → Sto → R Str := fun acc r S => .ok acc r S
def jCons (fa : EF) (k : Str → Env → Sto → R Str) : Str → Env → Sto → R Str := fun acc r S => (fa r S).bind fun x r S => match x with
  | .str y => if (acc ++ y).length ≤ sizeLine then k (acc ++ y) r S else .no
  | _ => .no
def eFmt (fa : EF) : EF := fun r S => (fa r S).bind fun x r S => match x with
  | .str y => if y.length ≤ sizeLine then .ok (.str y) r S else .no
  | .int i => if i.natAbs.log2 < 1920 then .ok (.str (toString i)) r S else .no
  | _ => .no
def eJoined (k : Str → Env → Sto → R Str) : EF := fun r S => (k Str.empty r S).bind fun y r S => .ok (.str y) r S
end L2.U
namespace L2.U
open PySem PySem.Spec PyProof.Rows He
def insOf (S : Sto) : D → Option (Str × List Str × List D)
  | .ins C ns vs => some (C, ns, vs)
  | .ref n => (match S[n]? with
    | some (.ins C ns vs) => some (C, ns, vs)
    | _ => none)
  | _ => none
def eFld (cs : List Str) (f : Str) (fo : EF) : EF := fun r S => (fo r S).bind fun x r S => match insOf S x with
  | some (C, ns, ds) => if cs.contains C then (match (ns.zip ds).lookup f with
    | some d => .ok d r S
    | none => .no) else .no
  | none => .no
def setF (f : Str) (d : D) : List Str → List D → List Str × List D
  | n :: ns, x :: xs => if n = f then (n :: ns, d :: xs) else (n :: (setF f d ns xs).1, x :: (setF f d ns xs).2)
  | _, _ => ([f], [d])
def putD (cs : List Str) (f : Str) (S : Sto) (x d : D) : Option Sto := match x with
  | .ref n => (match S[n]? with
    | some (.ins C ns ds) => if cs.contains C && decide (ns.length < 1000) then some (S.set n (.ins C (setF f d ns ds).1 (setF f d ns ds).2)) else none
    | _ => none)
  | _ => none
def sFldS (cs : List Str) (f : Str) (fv fo : EF) : SF := fun r S => (fv r S).bind fun d r S => (fo r S).bind fun x r S => match putD cs f S x d with
  | some S' => .ok .nx r S'
  | none => .no
def eMethC (C m : Str) (n : Nat) (mm : MF) (dds : List D) (fo : EF) (fs : AF) : EF := fun r S => (fo r S).bind fun x r S => match insOf S x with
  | some (C', ns, ds) => if C' = C ∧ (ns.zip ds).lookup m = none then (fs r S).bind fun as r S => if (x :: (as ++ dds)).length = n then (mm (x :: (as ++ dds)) S).run r else .no else .no
  | none => .no
end L2.U
namespace L2.U
open PySem PySem.Spec PyProof.Rows He
def RF.made (r : Env) (n : Nat) : RF → R D
  | .ok .non S' => .ok (.ref n) r S'
  | .er x S' => .er x r S'
  | _ => .no
def eMake (C : Str) (n : Nat) (mm : MF) (dds : List D) (fs : AF) : EF := fun r S => (fs r S).bind fun ds r S => if (.ref S.length :: (ds ++ dds)).length = n then (mm (.ref S.length :: (ds ++ dds)) (S ++ [.ins C [] []])).made r S.length else .no
def eMakeK (C : Str) (n j c : Nat) (mm : MF) (gD : List D → List D → List D) (fs fk : AF) : EF := fun r S => (fs r S).bind fun ds r S => (fk r S).bind fun zs r S =>
  if ds.length = j ∧ zs.length = c ∧ (gD (.ref S.length :: ds) zs).length = n then (mm (gD (.ref S.length :: ds) zs) (S ++ [.ins C [] []])).made r S.length else .no
end L2.U
namespace L2.U
open PySem PySem.Spec PyProof.Rows He
def eSettle (f : EF) : EF := fun r S => match f r S with
  | .ok d _ S1 => if (S1.take S.length).all (bndO S.length) && bnd S.length (fz S.length S1 60 d) then .ok (fz S.length S1 60 d) r (S1.take S.length) else .no
  | .er x r1 S1 => .er x r1 S1
  | .no => .no
end L2.U
namespace L2.U
open PySem PySem.Spec PyProof.Rows He
def RF.asBl (neg : Bool) (r : Env) : RF → R Bool
  | .ok (.bl b) S => .ok (b != neg) r S
  | _ => .no
def RF.asLen (r : Env) : RF → R D
  | .ok (.int i) S => if 0 ≤ i ∧ i < 2 ^ 63 then .ok (.int i) r S else .no
  | _ => .no
def RF.asTxt (r : Env) : RF → R D
  | .ok (.str z) S => .ok (.str z) r S
  | _ => .no
def inCB (C : Str) (mm : MF) (neg : Bool) (o : Sto → D → D → Option Bool) (x y : D) (r : Env) (S : Sto) : R Bool := match o S x y with
  | some b => .ok b r S
  | none => (match insOf S y with
    | some q => if q.1 = C then (mm [y, x] S).asBl neg r else .no
    | none => .no)
def eInC (C : Str) (mm : MF) (neg : Bool) (o : Sto → D → D → Option Bool) (fa fb : EF) : EF := fun r S => (fa r S).bind fun x r S => (fb r S).bind fun y r S => (inCB C mm neg o x y r S).bind fun b r S => .ok (.bl b) r S
def tInC (C : Str) (mm : MF) (neg : Bool) (o : Sto → D → D → Option Bool) (fa fb : EF) : TF := fun r S => (fa r S).bind fun x r S => (fb r S).bind fun y r S => inCB C mm neg o x y r S
def eCall1C (C : Str) (mm : MF) (o : Sto → List D → Option D) (back : Env → RF → R D) (fs : AF) : EF := fun r S => (fs r S).bind fun ds r S => match o S ds with
  | some d => .ok d r S
  | none => (match ds with
    | [x] => (match insOf S x with
      | some q => if q.1 = C then back r (mm [x] S) else .no
      | none => .no)
    | _ => .no)
section
variable {X : Cx} {W : WX} {C : Str} {k : Nat} {ps : List Str} {mm : MF} {a b : Expr} {fa fb : EF} {pos : Pos}
variable {es : List Expr} {fs : AF} {p : Pos}
def oNever : Sto → List D → Option D := fun _ _ => none
end
end L2.U
namespace L2.U
open PySem PySem.Spec PyProof.Rows He
def tyOk (C : Str) (S : Sto) (y : D) : Bool := match y with
  | .non => true | .bl _ => true | .int _ => true | .str _ => true
  | y => match insOf S y with
    | some q => decide (q.1 = C)
    | none => false
def eqCB (C : Str) (mm : MF) (o : Sto → D → D → Option Bool) (x y : D) (r : Env) (S : Sto) : R Bool := match o S x y with
  | some b => .ok b r S
  | none => (match insOf S x with
    | some q => if q.1 = C ∧ tyOk C S y = true then (mm [x, y] S).asBl false r else .no
    | none => .no)
def eEqC (C : Str) (mm : MF) (o : Sto → D → D → Option Bool) (fa fb : EF) : EF := fun r S => (fa r S).bind fun x r S => (fb r S).bind fun y r S => (eqCB C mm o x y r S).bind fun b r S => .ok (.bl b) r S
def tEqC (C : Str) (mm : MF) (o : Sto → D → D → Option Bool) (fa fb : EF) : TF := fun r S => (fa r S).bind fun x r S => (fb r S).bind fun y r S => eqCB C mm o x y r S
end L2.U
namespace L2.U
open PySem PySem.Spec PyProof.Rows He
def faB (K : PySem.W.Frag) (fa : List Fa) : Bool := fa.all fun f => f.ok K
end L2.U
namespace L2.U
open PySem PySem.Spec PyProof.Rows He
def isiB (K : PySem.W.Frag) (cs : List Str) : Bool := cs.all fun C => clsI K (ga K C) && ((tyNames.all fun T => decide (PySem.W.kitOne K (.type T) (.ref (ga K C)) = some false)) && cs.all fun C' => decide (PySem.W.kitOne K (.ref (ga K C')) (.ref (ga K C)) = some (decide (C' = C))))
end L2.U
namespace L2.U
open PySem PySem.Spec PyProof.Rows He
def sCalm (f : SF) : SF := fun r S => (f r S).calm
end L2.U
namespace L2.U
open PySem PySem.Spec PyProof.Rows He
def eCval (C : Str) (d : D) (fa : EF) : EF := fun r S => (fa r S).bind fun x r S => match x with
  | .con c => if c = C then .ok d r S else .no
  | _ => .no
end L2.U
namespace L2.U
open PySem PySem.Spec PyProof.Rows He
def orGot {α : Type} (o : Option α) (P : α → Prop) (q : Prop) : Prop := match o with
  | some d => P d
  | none => q
def fldD (cs : List Str) (f : Str) (S : Sto) (x : D) : Option D := match insOf S x with
  | some (C, ns, ds) => if cs.contains C then (ns.zip ds).lookup f else none
  | none => none
@[simp] def asS : D → Option Str
  | .str z => some z
  | _ => none
@[simp] def asOne : List D → Option D
  | [x] => some x
  | _ => none
def fmtD : D → Option Str
  | .str y => if y.length ≤ sizeLine then some y else none
  | .int i => if i.natAbs.log2 < 1920 then some (toString i) else none
  | _ => none
end L2.U
namespace L2.U
open PySem PySem.Spec PyProof.Rows He
def txt (l : List Nat) : Str := ⟨l.toArray⟩
end L2.U
namespace L2.U
open PySem PySem.Spec PyProof.Rows He
section
variable {X : Cx} {W : WX} {e : Expr} {fs : AF} {p pos tpos : Pos} {elts : List Expr} {kk : Nat}
def enumD (xs : List D) : List D := xs.zipIdx.map fun q => .tup [.int q.2, q.1]
def iEnumU (fs : AF) : AF := fun r S => (fs r S).bind fun ds r S => match ds with
  | [.tup xs] => .ok (enumD xs) r S
  | [d] => (match vlst d with
    | some xs => .ok (enumD xs) r S
    | none => .no)
  | _ => .no
end
end L2.U
namespace L2.U
open PySem PySem.Spec PyProof.Rows He
def goR (C : Str) (j : Nat) (mm : MF) (ds : List D) : Env → Sto → R D := fun r S =>
  if j ≤ ds.length ∧ ds.length ≤ sizeLine then (mm (.ref S.length :: (ds.take j ++ [.tup (ds.drop j)])) (S ++ [.ins C [] []])).made r S.length else .no
def eMakeR (C : Str) (j : Nat) (mm : MF) (fs : AF) : EF := fun r S => (fs r S).bind fun ds r S => goR C j mm ds r S
def eMakeS (C : Str) (j : Nat) (mm : MF) (fe : EF) : EF := fun r S => (fe r S).bind fun x r S => match seqOf S x with
  | some ds => goR C j mm ds r S
  | none => .no
end L2.U
namespace L2.U
open PySem PySem.Spec PyProof.Rows He
def eListS (fs : AF) : EF := fun r S => (fs r S).bind fun ds r S => match (asOne ds).bind (seqOf S) with
  | some xs => .ok (.ref S.length) r (S ++ [.lst xs])
  | none => .no
end L2.U
namespace L2.U
open PySem PySem.Spec PyProof.Rows He
def sPar3 (i j k : Nat) (fs : AF) : SF := fun r S => (fs r S).bind fun ds r S => match ds with
  | [x, y, z] => .ok .nx (((r.set i (some x)).set j (some y)).set k (some z)) S
  | _ => .no
section
variable {X : Cx} {W : WX} {pos : Pos}
variable {Z : D → Env → Sto → Prop} {r : Env} {S : Sto} {fs : AF} {L : Fl → Env → Sto → Prop}
@[simp] def asThree : List D → Option (D × D × D)
  | [x, y, z] => some (x, y, z)
  | _ => none
end
end L2.U
namespace L2.U
open PySem PySem.Spec PyProof.Rows He
def aStar (fe : EF) (fs : AF) : AF := fun r S => (fe r S).bind fun x r S => match seqOf S x with
  | some xs => (fs r S).bind fun ys r S => .ok (xs ++ ys) r S
  | none => .no
def ChT {α : Type} (D : Addr) : List (Str × Value) → Sem α → Sem α → Prop
  | [], t, t' => t = t'
  | q :: l, t, t' => ∃ (β γ : Type) (k1 : Option Value → Sem β) (k2 : β → Sem γ) (k3 : γ → Sem α) (a : β), t = ((nsGet D q.1 >>= k1) >>= k2) >>= k3 ∧ k1 (some q.2) = pure a ∧ ChT D l (k2 a >>= k3) t'
theorem ChT.run {α : Type} {K : PySem.W.Frag} {M : Model} {A : Around} {s : Shared} {D : Addr} {Q : α → Shared → Prop} {E : Value → Shared → Prop} (inK : K.In s.heap) : ∀ {l : List (Str × Value)} {t t' : Sem α}, (∀ q ∈ l, PySem.W.nsIn K D q.1 = some (some q.2)) → ChT D l t t' → wpAny M A t' Q E s → wpAny M A t Q E s
  | [], _, _, _, e, h => by rw [show _ = _ from e]; exact h
  | q :: l, t, t', hl, c, h => by
    obtain ⟨β, γ, k1, k2, k3, a, e1, e2, e3⟩ := c
    have lk : PySem.W.Looks M s.heap (nsGet D q.1 >>= k1) a := (PySem.W.looks_nsIn inK (hl q (List.mem_cons_self ..))).andThen (PySem.W.Looks.of_pure e2)
    rw [e1, bind_assoc]
    exact wpAny_bind (lk.here (ChT.run inK (fun z hz => hl z (List.mem_cons_of_mem _ hz)) e3 h))
def goRK (C : Str) (j n c : Nat) (gD : List D → List D → List D) (mm : MF) (ds zd : List D) : Env → Sto → R D := fun r S =>
  if (j ≤ ds.length ∧ zd.length = c ∧ ds.length ≤ sizeLine) ∧ (gD (.ref S.length :: ds.take j) zd).length + 1 = n then (mm (gD (.ref S.length :: ds.take j) zd ++ [.tup (ds.drop j)]) (S ++ [.ins C [] []])).made r S.length else .no
def eMakeRK (C : Str) (j n c : Nat) (gD : List D → List D → List D) (mm : MF) (fs fk : AF) : EF := fun r S => (fs r S).bind fun ds r S => (fk r S).bind fun zd r S => goRK C j n c gD mm ds zd r S
end L2.U
namespace L2.U
open PySem PySem.Spec PyProof.Rows He
def mIndex : Sto → D → List D → Option (D × Sto) := fun S x ds => match x, ds with
  | .tup xs, [.str z] => (strsD xs).bind fun ys => (ys.findIdx? fun y => decide (y = z)).map fun j => (.int (j : Nat), S)
  | _, _ => none
def eIndexC (d : D) (fs : AF) : EF := fun r S => (fs r S).bind fun ds r S => match mIndex S d ds with
  | some (z, S') => .ok z r S'
  | none => .no
end L2.U
namespace L2.U
open PySem PySem.Spec PyProof.Rows He
def keyOf : D → Option Key
  | .int i => some (.inl i)
  | .str x => some (.inr x)
  | _ => none
def dGet (k : Key) : List D → List D → Option D
  | q :: ks, v :: vs => if keyOf q = some k then some v else dGet k ks vs
  | _, _ => none
def dHas (k : Key) (ks : List D) : Bool := ks.any fun q => decide (keyOf q = some k)
def dPut (k : Key) (d : D) (ks vs : List D) : List D × List D :=
  if dHas k ks = true then (ks, (ks.zip vs).map fun q => if keyOf q.1 = some k then d else q.2) else (ks ++ [keyD k], vs ++ [d])
def oDGet (S : Sto) (x y : D) : Option D := match x with
  | .ref n => (match S[n]? with
    | some (.dic ks vs) => (keyOf y).bind fun k => dGet k ks vs
    | _ => none)
  | _ => none
def oDHas (S : Sto) (y x : D) : Option Bool := match x with
  | .ref n => (match S[n]? with
    | some (.dic ks vs) => (keyOf y).map fun k => (dGet k ks vs).isSome
    | _ => none)
  | _ => none
def oDPut (S : Sto) (x y d : D) : Option Sto := match x with
  | .ref n => (match S[n]? with
    | some (.dic ks vs) => if ks.length < sizeLine then (keyOf y).map fun k => S.set n (.dic (dPut k d ks vs).1 (dPut k d ks vs).2) else none
    | _ => none)
  | _ => none
def eDGet (fo fi : EF) : EF := fun r S => (fo r S).bind fun x r S => (fi r S).bind fun y r S => match oDGet S x y with
  | some d => .ok d r S
  | none => .no
def eDHas (neg : Bool) (fi fo : EF) : EF := fun r S => (fi r S).bind fun y r S => (fo r S).bind fun x r S => match oDHas S y x with
  | some b => .ok (.bl (b != neg)) r S
  | none => .no
def tDHas (neg : Bool) (fi fo : EF) : TF := fun r S => (fi r S).bind fun y r S => (fo r S).bind fun x r S => match oDHas S y x with
  | some b => .ok (b != neg) r S
  | none => .no
def sDPutU (fv fo fi : EF) : SF := fun r S => (fv r S).bind fun d r S => (fo r S).bind fun x r S => (fi r S).bind fun y r S => match oDPut S x y d with
  | some S' => .ok .nx r S'
  | none => .no
end L2.U
namespace L2.U
open PySem PySem.Spec PyProof.Rows He
def dcF (b : Bn) (tt : TF) (fk fv : EF) (r : Env) (vs : List Nat) : List D → List D → List D → Sto → R (List D × List D)
  | [], ks, ws, S => .ok (ks, ws) r S
  | x :: xs, ks, ws, S => match b x (wipeE r vs) with
    | some r1 => (tt r1 S).calm.bind fun c r2 S2 => if c = true then (fk r2 S2).calm.bind fun y r3 S3 => (fv r3 S3).calm.bind fun z _ S4 => match keyOf y with
      | some k => dcF b tt fk fv r vs xs (dPut k z ks ws).1 (dPut k z ks ws).2 S4
      | none => .no else dcF b tt fk fv r vs xs ks ws S2
    | none => .no
def eDcS (fi : AF) (b : Bn) (vs : List Nat) (tt : TF) (fk fv : EF) : EF := fun r S => (fi r S).bind fun xs r S => if xs.length < sizeLine then (dcF b tt fk fv r vs xs [] [] S).bind fun q r S => .ok (.ref S.length) r (S ++ [.dic q.1 q.2]) else .no
end L2.U
namespace L2.U
open PySem PySem.Spec PyProof.Rows He
def oExt (S : Sto) (x y : D) : Option Sto := match x with
  | .ref n => (match S[n]? with
    | some (.lst xs) => (match lstMOf S y with
      | some ys => if xs.length + ys.length ≤ sizeLine then some (S.set n (.lst (xs ++ ys))) else none
      | none => none)
    | _ => none)
  | _ => none
def sAugL (i : Nat) (fa : EF) : SF := fun r S => match r[i]? with
  | some (some x) => (fa r S).bind fun y r S => (match oExt S x y with
    | some S' => .ok .nx (r.set i (some x)) S'
    | none => .no)
  | _ => .no
def eListDS (fs : AF) : EF := fun r S => (fs r S).bind fun ds r S => match ds with
  | [.ref n] => (match S[n]? with
    | some (.dic ks _) => .ok (.ref S.length) r (S ++ [.lst ks])
    | _ => .no)
  | _ => .no
end L2.U
namespace L2.U
open PySem PySem.Spec PyProof.Rows He
def eListTS (fs : AF) : EF := fun r S => (fs r S).bind fun ds r S => match ds with
  | [.str z] => if z.length ≤ sizeLine then .ok (.ref S.length) r (S ++ [.lst (signsD z)]) else .no
  | _ => .no
end L2.U
namespace L2.U
open PySem PySem.Spec PyProof.Rows He
def eProp (C : Str) (mm : MF) (fo : EF) : EF := fun r S => (fo r S).bind fun x r S => match insOf S x with
  | some q => if q.1 = C then (match mm [x] S with
    | .ok d S' => .ok d r S'
    | _ => .no) else .no
  | none => .no
def neCB (C : Str) (mm : MF) (o : Sto → D → D → Option Bool) (x y : D) (r : Env) (S : Sto) : R Bool := match o S x y with
  | some b => .ok b r S
  | none => (match insOf S x with
    | some q => if q.1 = C ∧ tyOk C S y = true then (mm [x, y] S).asBl true r else .no
    | none => .no)
def eNeC (C : Str) (mm : MF) (o : Sto → D → D → Option Bool) (fa fb : EF) : EF := fun r S => (fa r S).bind fun x r S => (fb r S).bind fun y r S => (neCB C mm o x y r S).bind fun b r S => .ok (.bl b) r S
def tNeC (C : Str) (mm : MF) (o : Sto → D → D → Option Bool) (fa fb : EF) : TF := fun r S => (fa r S).bind fun x r S => (fb r S).bind fun y r S => neCB C mm o x y r S
end L2.U
namespace L2.U
open PySem PySem.Spec PyProof.Rows He
def eMethK (C m : Str) (n c : Nat) (mm : MF) (gD : List D → List D → List D) (fo : EF) (fk : AF) : EF := fun r S => (fo r S).bind fun x r S => match insOf S x with
  | some (C', ns, ds) => if C' = C ∧ (ns.zip ds).lookup m = none then (fk r S).bind fun zs r S => if zs.length = c ∧ (gD [x] zs).length = n then (mm (gD [x] zs) S).run r else .no else .no
  | none => .no
end L2.U
namespace L2.U
open PySem PySem.Spec PyProof.Rows He
section
variable {Z : D → Env → Sto → Prop} {r : Env} {S : Sto} {fa fb fc : EF} {ta tb : TF} {fs ft : AF} {Q : D → Env → Sto → Prop} {T : Bool → Env → Sto → Prop} {L : Fl → Env → Sto → Prop} {C m : Str} {mm : MF} {n c : Nat} {o : Sto → D → D → Option Bool} {neg : Bool}
def keysD (S : Sto) : List D → Option (List D)
  | [.ref n] => (match S[n]? with
    | some (.dic ks _) => some ks
    | _ => none)
  | _ => none
def strOne : List D → Option Str
  | [.str z] => if z.length ≤ sizeLine then some z else none
  | _ => none
end
end L2.U
namespace L2.U
open PySem PySem.Spec PyProof.Rows He
def eCatLS (fa fb : EF) : EF := fun r S => (fa r S).bind fun x r S => (fb r S).bind fun y r S => match lstMOf S x, lstMOf S y with
  | some xs, some ys => if xs.length + ys.length ≤ sizeLine then .ok (.ref S.length) r (S ++ [.lst (xs ++ ys)]) else .no
  | _, _ => .no
section
variable {X : Cx} {W : WX} {pos : Pos} {a b : Expr} {fa fb : EF}
variable {Z : D → Env → Sto → Prop} {r : Env} {S : Sto} {Q : D → Env → Sto → Prop}
def lstCat (S : Sto) (x y : D) : Option (List D) := match lstMOf S x, lstMOf S y with
  | some xs, some ys => if xs.length + ys.length ≤ sizeLine then some (xs ++ ys) else none
  | _, _ => none
end
end L2.U
namespace L2.U
open PySem PySem.Spec PyProof.Rows He
def ltT (a b : Str) : Bool := decide (a.cps.toList < b.cps.toList)
def insT (x : Str) : List Str → List Str
  | [] => [x]
  | y :: r => if x = y then y :: r else if ltT x y = true then x :: y :: r else y :: insT x r
def sortT (l : List Str) : List Str := l.foldr insT []
end L2.U
namespace L2.U
open PySem PySem.Spec PyProof.Rows He
def txtsOf (S : Sto) : D → Option (List Str)
  | .str z => some (z.cps.toList.map fun c => ⟨#[c]⟩)
  | d => (lstOf S d).bind strsD
def eSortSet (fa : EF) : EF := fun r S => (fa r S).bind fun x r S => match txtsOf S x with
  | some l => if l.length < 4000 then .ok (.lst ((sortT l).map .str)) r S else .no
  | none => .no
def eSortSetS (fa : EF) : EF := fun r S => (fa r S).bind fun x r S => match txtsOf S x with
  | some l => if l.length < 4000 then .ok (.ref S.length) r (S ++ [.lst ((sortT l).map .str)]) else .no
  | none => .no
end L2.U
namespace L2.U
open PySem PySem.Spec PyProof.Rows He
def oexB (K : PySem.W.Frag) (C : Addr) : Bool := (match K.lookup C with
  | some ⟨.type "type", _, .cls cd, sl⟩ => (match cd.mro, sl.toList with
    | .ref C' :: bm, [_, _, _, _, some (.builtin n), _] => C' == C && (n == "ValueError.__new__" && (!cd.hasDel && (cd.hasDict && PySem.HandSPX.refsVE bm)))
    | _, _ => false)
  | _ => false) && (eqO (PySem.W.findIn K (.ref C) "__setattr__") (some (some (.builtin "object.__setattr__"))) && (decide (PySem.W.subIn K (.ref C) (.type "BaseException") = some true) && (decide (PySem.W.typeIn K (.ref C) = some (.type "type")) && PySem.W.keepIn K (.ref C))))
def xclB (K : PySem.W.Frag) (x : Str × List Str) : Bool := oexB K (ga K x.1) && (xfB K (ga K x.1) && ((("code" : Str) :: x.2).all (fun f => eqO (PySem.W.findIn K (.ref (ga K x.1)) f) (some none)) &&
  (eqO (PySem.W.findIn K (.ref (ga K x.1)) "__init__") (some (some (.ref (fAd K (x.1, some "__init__"))))) && decide (PySem.W.typeIn K (.ref (fAd K (x.1, some "__init__"))) = some (.type "function")))))
def sRaise1 (C f code : Str) (fs : AF) : SF := fun r S => (fs r S).bind fun ds r S => match ds with
  | [d] => if bnd 0 d = true then .er (.ins C ["code", f] [.str code, d]) r S else .no
  | _ => .no
def sRaise0 (C code : Str) : SF := fun r S => .er (.ins C ["code"] [.str code]) r S
end L2.U
namespace L2.U
open PySem PySem.Spec PyProof.Rows He
def sTry (cs : List Str) (i : Nat) (fb fs : SF) : SF := fun r S => match fb r S with
  | .ok a r1 S1 => .ok a r1 S1
  | .er (.ins C ns ds) r1 S1 => if (cs.contains C && bndL 0 ds) = true then (match fs (r1.set i (some (exD C ns ds))) S1 with
    | .ok a r2 S2 => .ok a (r2.set i none) S2
    | _ => .no) else .no
  | _ => .no
def takB (K : PySem.W.Frag) (ts cs : List Str) : Bool := cs.all fun C => PySem.W.exmAny K (.ref (ga K C)) (ts.map fun t => .ref (ga K t)) == some true
end L2.U
namespace L2.U
open PySem PySem.Spec PyProof.Rows He
def eXf (cs : List Str) (f : Str) (fo : EF) : EF := fun r S => (fo r S).bind fun x r S => match x with
  | .dic [.non] [.ins C ns ds] => if cs.contains C = true then (match (ns.zip ds).lookup f with
    | some d => .ok d r S
    | none => .no) else .no
  | _ => .no
def xfLB (K : PySem.W.Frag) (cs : List Str) (f : Str) : Bool := cs.all fun C => xfB K (ga K C) && eqO (PySem.W.findIn K (.ref (ga K C)) f) (some none)
end L2.U
namespace L2.U
open PySem PySem.Spec PyProof.Rows He
def eLam (i b P t : Nat) (q : Str) : EF := fun r S => match r[t]? with
  | some (some (.dic [.str q', .int p] [])) => if q' = q ∧ p = P then .ok (lamD i b) r S else .no
  | _ => .no
end L2.U
namespace L2.U
open PySem PySem.Spec PyProof.Rows He
def keepA (g : Addr → Option Obj) (a : Addr) : Bool := match g a with
  | some o => (match o.cls, o.data with
    | .none, .fields vs => decide (vs.size ≠ 0)
    | _, _ => true)
  | none => true
def tabB (K : PySem.W.Frag) (x : Str) : Bool := match PySem.W.tabIn K x with
  | some (_, P) => (K.lookup P).isNone
  | none => false
end L2.U
namespace L2.U
open PySem PySem.Spec PyProof.Rows He
section
variable {α : Type} {fa fb : EF} {fs : AF} {f h : SF} {r : Env} {S : Sto} {Q : D → Env → Sto → Prop} {L : Fl → Env → Sto → Prop} {Z : D → Env → Sto → Prop}
def asX : D → Option (Str × List Str × List D)
  | .ins C ns ds => some (C, ns, ds)
  | _ => none
def asE : D → Option (Str × List Str × List D)
  | .dic [.non] [.ins C ns ds] => some (C, ns, ds)
  | _ => none
def asL : D → Option (Int × List D)
  | .dic [.int i, .int _, .non] ds => some (i, ds)
  | _ => none
def wo (x : Out) (Q : D → Prop) (Z : D → Prop) : Prop := match x with
  | .ok d => Q d
  | .er d => Z d
  | .no => False
end
end L2.U
namespace L2.U
open PySem PySem.Spec PyProof.Rows He
def compF2 (b : Bn) (tt : TF) (fi : AF) (b1 : Bn) (tt1 : TF) (fe : EF) (r : Env) (vs vs1 : List Nat) : List D → Sto → R (List D)
  | [], S => .ok [] r S
  | x :: xs, S => match b x (wipeE r vs) with
    | some r1 => (tt r1 S).calm.bind fun c r2 S2 => if c = true then (fi r2 S2).calm.bind fun xs1 r3 S3 => (compF b1 tt1 fe r3 vs1 xs1 S3).bind fun ys _ S4 => (compF2 b tt fi b1 tt1 fe r vs vs1 xs S4).bind fun zs r S => .ok (ys ++ zs) r S
      else compF2 b tt fi b1 tt1 fe r vs vs1 xs S2
    | none => .no
def eComp2 (fi : AF) (b : Bn) (vs : List Nat) (tt : TF) (fi1 : AF) (b1 : Bn) (vs1 : List Nat) (tt1 : TF) (fe : EF) : EF := fun r S => (fi r S).bind fun xs r S => (compF2 b tt fi1 b1 tt1 fe r vs vs1 xs S).bind fun ys r S => if ys.length ≤ sizeLine then .ok (.lst ys) r S else .no
end L2.U
namespace L2.U
open PySem PySem.Spec PyProof.Rows He
theorem run_split {β : Type} {E : Option PySem.W.SharedT} {A : PySem.W.SharedT → Bool} {B : PySem.W.SharedT → β} {k : PySem.W.SharedT → PySem.W.Frag} {ck : PySem.W.Frag → Bool} {fn pn : List DefD} {b : β}
    (h0 : E.map (fun s => (A s, B s)) = some (true, b)) (h1 : E.map (fun s => ck (k s)) = some true) (h2 : E.map (fun s => fn.all (fun d => okA (k s) (fAd (k s) d.at_) d)) = some true)
    (h3 : E.map (fun s => pn.all (fun d => okA (k s) (fAp (k s) d.at_) d)) = some true)
    (h4 : E.map (fun s => fn.map (fun d => fnA (k s) (fAd (k s) d.at_)) ++ pn.map fun d => fnA (k s) (fAp (k s) d.at_)) = some ((fn ++ pn).map DefD.val)) :
    E.map (fun s => (A s, B s, obsU ck fn pn (k s))) = some (true, b, valD (fn ++ pn)) := by
  cases E with
  | none => cases h0
  | some s =>
    simp only [Option.map_some, Option.some.injEq, Prod.mk.injEq] at h0 h1 h2 h3 h4 ⊢
    refine ⟨h0.1, h0.2, ?_⟩
    show (_, _) = (_, _)
    rw [h1, h2, h3, h4]
    rfl
end L2.U
namespace L2.U
open PySem PySem.Spec PyProof.Rows He
section
variable {X : Cx} {W : WX} {o : Expr} {to : TE} {fo fa : EF} {y z : Str} {j k : Nat} {c0 c1 apos pos : Pos} {r : Env} {S : Sto} {Q Z : D → Env → Sto → Prop}
def eReplC (fa : EF) (y z : Str) : EF := fun r S => (fa r S).bind fun x r S => match x with
  | .str a => if a.length + (a.length + 1) * z.length ≤ 16777216 then .ok (.str (Txt.replace a y z)) r S else .no
  | _ => .no
end
end L2.U
open PySem PySem.Spec PyProof.Rows He
namespace L2.U
open PySem PySem.Spec PyProof.Rows He
def asR (b n : Nat) : List Addr := mainGlobals :: cStatics :: List.range' b n
def obsUR (b n : Nat) (ck : PySem.W.Frag → Bool) (fn pn : List DefD) (g : Addr → Option Obj) : AlD := obsU ck fn pn (frG g ((asR b n).filter (keepA g)))
def hookUR (b n : Nat) (ck : PySem.W.Frag → Bool) (fn pn : List DefD) : PySem.W.Hook where
  α := AlD
  obs := fun s => obsUR b n ck fn pn s.heap.get?
  val := fun _ => valD (fn ++ pn)
  says := fun _ h => ∃ K : PySem.W.Frag, K.In h ∧ SaysU ck fn pn K
  of := fun _ _ e => ⟨_, frG_in, e⟩
  keeps := fun _ _ _ ⟨K, hK, c⟩ k => ⟨K, PySem.W.Frag.In.keeps hK k, c⟩
def kfR (b n : Nat) (s : PySem.W.SharedT) : PySem.W.Frag := frG (HandSHeadRun.getT s) ((asR b n).filter (keepA (HandSHeadRun.getT s)))
end L2.U
namespace L2.U.K03
open PySem PySem.Spec PyProof.Rows He
def top (i : Nat) : Stmt := PySem.Challenge.pw_untilnone_k03_texts_of_keys.main.body.getD i (.Pass ⟨0, 0, 0, 0⟩)
abbrev s_is_number : Stmt := (top 11)
abbrev s_is_key : Stmt := (top 12)
abbrev s_is_numeral : Stmt := (top 13)
abbrev s_is_signed : Stmt := (top 14)
abbrev s_key_text : Stmt := (top 15)
abbrev s_read_key : Stmt := (top 16)
abbrev s_law_bag : Stmt := (top 18)
abbrev s_law_draw : Stmt := (top 19)
abbrev s_law_pick : Stmt := (top 20)
abbrev s_law_same : Stmt := (top 21)
abbrev s_law_field : Stmt := (top 22)
abbrev s_law_got : Stmt := (top 23)
abbrev s_law_all_got : Stmt := (top 24)
abbrev s_law_read : Stmt := (top 25)
abbrev s_law : Stmt := (top 26)
abbrev s_invalidkey_init : Stmt := (inClass (top 2) 0)
abbrev s_invalidtext_init : Stmt := (inClass (top 3) 0)
abbrev isiL : List Str := []
abbrev xcs : List Str := ["InvalidKey", "InvalidText"]
def freeL : List Str := ["abs", "all", "bool", "int", "isinstance", "len", "list", "range", "str", "tuple"]
def conL : List (Str × D) := ([("DIGITS", (.str "0123456789")), ("MOST_KEY_DIGITS", (.int 40)), ("MOST_NUMBERS", (.int 40))] : List (Str × D))
def gloL : List Str := (["is_number", "is_key", "is_numeral", "is_signed", "key_text", "read_key", "_law_bag", "_law_draw", "_law_pick", "_law_same", "_law_field", "_law_got", "_law_all_got", "_law_read", "law", "InvalidKey", "InvalidText", "Missing", "NothingLeft", "RunError"] : List Str)
def faL : List Fa := []
def nbB (K : PySem.W.Frag) : Bool := xclB K ("InvalidKey", ["given"]) && (xclB K ("InvalidText", []) && (takB K ["RunError", "Missing", "NothingLeft"] xcs && (xfLB K xcs "code" && (xfLB K xcs "given" && (tabB K "law")))))
def d_is_number : DefD := ⟨("is_number", none), "is_number", "is_number", defArgs s_is_number, defBody s_is_number, defScope s_is_number, [], []⟩
def d_is_key : DefD := ⟨("is_key", none), "is_key", "is_key", defArgs s_is_key, defBody s_is_key, defScope s_is_key, [], []⟩
def d_is_numeral : DefD := ⟨("is_numeral", none), "is_numeral", "is_numeral", defArgs s_is_numeral, defBody s_is_numeral, defScope s_is_numeral, [.int 31], []⟩
def d_is_signed : DefD := ⟨("is_signed", none), "is_signed", "is_signed", defArgs s_is_signed, defBody s_is_signed, defScope s_is_signed, [], []⟩
def d_key_text : DefD := ⟨("key_text", none), "key_text", "key_text", defArgs s_key_text, defBody s_key_text, defScope s_key_text, [], []⟩
def d_read_key : DefD := ⟨("read_key", none), "read_key", "read_key", defArgs s_read_key, defBody s_read_key, defScope s_read_key, [], []⟩
def d_law_bag : DefD := ⟨("_law_bag", none), "_law_bag", "_law_bag", defArgs s_law_bag, defBody s_law_bag, defScope s_law_bag, [], []⟩
def d_law_draw : DefD := ⟨("_law_draw", none), "_law_draw", "_law_draw", defArgs s_law_draw, defBody s_law_draw, defScope s_law_draw, [], []⟩
def d_law_pick : DefD := ⟨("_law_pick", none), "_law_pick", "_law_pick", defArgs s_law_pick, defBody s_law_pick, defScope s_law_pick, [], []⟩
def d_law_same : DefD := ⟨("_law_same", none), "_law_same", "_law_same", defArgs s_law_same, defBody s_law_same, defScope s_law_same, [], []⟩
def d_law_field : DefD := ⟨("_law_field", none), "_law_field", "_law_field", defArgs s_law_field, defBody s_law_field, defScope s_law_field, [], []⟩
def d_law_got : DefD := ⟨("_law_got", none), "_law_got", "_law_got", defArgs s_law_got, defBody s_law_got, defScope s_law_got, [], []⟩
def d_law_all_got : DefD := ⟨("_law_all_got", none), "_law_all_got", "_law_all_got", defArgs s_law_all_got, defBody s_law_all_got, defScope s_law_all_got, [], []⟩
def d_law_read : DefD := ⟨("_law_read", none), "_law_read", "_law_read", defArgs s_law_read, defBody s_law_read, defScope s_law_read, [], []⟩
def d_law : DefD := ⟨("law", none), "law", "law", defArgs s_law, defBody s_law, defScope s_law, [], []⟩
def d_invalidkey_init : DefD := ⟨("InvalidKey", some "__init__"), "__init__", "InvalidKey.__init__", defArgs s_invalidkey_init, defBody s_invalidkey_init, defScope s_invalidkey_init, [], []⟩
def d_invalidtext_init : DefD := ⟨("InvalidText", some "__init__"), "__init__", "InvalidText.__init__", defArgs s_invalidtext_init, defBody s_invalidtext_init, defScope s_invalidtext_init, [], []⟩
def fnL : List DefD := ([d_is_number, d_is_key, d_is_numeral, d_is_signed, d_key_text, d_read_key, d_law_bag, d_law_draw, d_law_pick, d_law_same, d_law_field, d_law_got, d_law_all_got, d_law_read, d_law, d_invalidkey_init, d_invalidtext_init] : List DefD)
def pnL : List DefD := []
def chk (K : PySem.W.Frag) : Bool := freeB K freeL && (conB K conL && (gloB K gloL && (faB K faL && (isiB K isiL && nbB K))))
abbrev Rw : PySem.W.OpenRow := PySem.W.OpenLaw.row PySem.Challenge.rw_untilnone_k03_texts_of_keys
abbrev hk : PySem.W.Hook := hookUR 0 600 chk fnL pnL
def ob (s : PySem.W.SharedT) : AlD := obsUR 0 600 chk fnL pnL (HandSHeadRun.getT s)
abbrev loose : List Str := (["RunError", "InvalidKey", "InvalidText", "Missing", "NothingLeft", "DIGITS", "MOST_DIGITS", "MOST_KEY_DIGITS", "MOST_NUMBERS", "is_number", "is_key", "is_numeral", "is_signed", "key_text", "read_key", "_law_bag", "_law_draw", "_law_pick", "_law_same", "_law_field", "_law_got", "_law_all_got", "_law_read"] : List Str)
open HandSHeadRun PySem.W in
noncomputable abbrev endS (w : World) (os : OsState) : Option SharedT := endF (stepQ (denQ tabQ) Rw.prog w) 12000 Rw.prog w os
open HandSHeadRun PySem.W in
theorem run0 (w : World) (os : OsState) : (endS w os).map (fun s => (looksF Rw.prog (boot_heap w.params) s.abs, seenQ (view Rw.prog [26]) loose (importedModules Rw.prog.main.body) (fun s => xlAt (view Rw.prog [26]) [] s && recOk Rw.toRowW.records s) s.abs)) = some (true, openGood (view Rw.prog [26]) loose) := by
  kernel_rfl
theorem run1 (w : World) (os : OsState) : (endS w os).map (fun s => chk (kfR 0 600 s)) = some true := by
  kernel_rfl
theorem run2 (w : World) (os : OsState) : (endS w os).map (fun s => fnL.all (fun d => okA (kfR 0 600 s) (fAd (kfR 0 600 s) d.at_) d)) = some true := by
  kernel_rfl
theorem run3 (w : World) (os : OsState) : (endS w os).map (fun s => pnL.all (fun d => okA (kfR 0 600 s) (fAp (kfR 0 600 s) d.at_) d)) = some true := by
  kernel_rfl
theorem run4 (w : World) (os : OsState) : (endS w os).map (fun s => fnL.map (fun d => fnA (kfR 0 600 s) (fAd (kfR 0 600 s) d.at_)) ++ pnL.map fun d => fnA (kfR 0 600 s) (fAp (kfR 0 600 s) d.at_)) = some ((fnL ++ pnL).map DefD.val) := by
  kernel_rfl
theorem run (w : World) : HandSHeadRun.RunEq Rw (PySem.W.view Rw.prog [26]) hk ob 12000 loose w := by
  intro os
  exact run_split (k := kfR 0 600) (run0 w os) (run1 w os) (run2 w os) (run3 w os) (run4 w os)
end L2.U.K03
set_option Elab.async false
set_option linter.all false
set_option maxRecDepth 100000
set_option maxHeartbeats 4000000
namespace L2.U
open PySem PySem.Spec PyProof.Rows


















open PySem PySem.Spec PyProof.Rows

def hotX (K : PySem.W.Frag) (E : XK) : XK := fun cls d H => hotV K cls ∧ E cls d H


def CXU (K : PySem.W.Frag) (P : Program) (w : World) : CXT := fun outer H s E u s' => L2N.CX P w outer H s E u s' ∨ L2.CX P w outer H s (hotX K E) u s'
theorem Tk.imp {X : Cx} {W W' : WX} (t : Tk X W) (h : ∀ c d σ H, W' c d σ H → W c d σ H) : Tk X W' := ⟨t.1.imp h, t.2.imp fun _ _ _ _ z => ⟨z.1, h _ _ _ _ z.2⟩⟩
theorem xe_zc {X : Cx} {W : WX} {u : Value} {s' : Shared} (x : L2N.XE X W u s') : L2.XE X W u s' := by
  obtain ⟨a, B, sI, pins, σ, H, cls, d, e, I, nb, up, sky, na, os, ag, w⟩ := x
  refine ⟨a, B, sI, pins, σ, H, cls, d, e, I, nb, up, ?_, na, os, ag, w⟩
  rcases sky with ⟨hB, hn, hl, oe, vs, he, hz, r⟩ | ⟨a1, a2, a3, oe, vs, T, oT, ts, he, hz, r⟩ | ⟨a1, a2, a3, oe, vs, T, oT, ts, he, hz, r⟩
  · exact .inl ⟨hB, hn, hl, oe, vs, he, hz.zc, r⟩
  · exact .inr (.inl ⟨a1, a2, a3, oe, vs, T, oT, ts, he, hz.zc, r⟩)
  · exact .inr (.inr ⟨a1, a2, a3, oe, vs, T, oT, ts, he, hz.zc, r⟩)
theorem tk_l2 {X : Cx} {W : WX} (t : L2.Takes X W) : Tk X W := ⟨fun u s' x => t u s' (xe_zc x), t.imp fun _ _ _ _ z => z.2⟩
theorem tk0 {X : Cx} : Tk X (fun _ _ _ _ => False) := ⟨fun _ _ ⟨_, _, _, _, _, _, _, _, _, _, _, _, _, _, _, _, z⟩ => z.elim, fun _ _ ⟨_, _, _, _, _, _, _, _, _, _, _, _, _, _, _, _, z⟩ => z.2.elim⟩
theorem tk_of {X : Cx} {E : XK} (hs : X.stack = X.env :: X.outer) (hf : X.env.frame = some X.env.locals) (hex : X.ex = []) {E₁ : Value → Shared → Prop}
    (hx : X.xe = fun e s' => wpAny (model X.prog X.w) X.A (leaving X.env e) (fun _ s'' => CXU X.K X.prog X.w X.outer X.H_0 X.s_0 E e s'') E₁ s') : Tk X (fun cls d _ H => E cls d H) := by
  refine ⟨fun u s' x => ?_, fun u s' x => ?_⟩ <;> rw [hx]
  · exact wpAny_mono (L2N.XE.leave (E := E) hs hf hex (fun _ _ _ _ h => h) x) (fun _ _ z => .inl z) fun _ _ z => z
  · exact wpAny_mono (L2.XE.leave (E := hotX X.K E) hs hf hex (fun _ _ _ _ h => h) x) (fun _ _ z => .inr z) fun _ _ z => z
theorem passAtU {X : Cx} {W : WX} (tk : Tk X W) (σ : St) : PassesAt (CXU X.K X.prog X.w) X σ (WE W σ) := fun pins H s e s' I c => c.elim (L2N.passAt tk.1 σ pins H s e s' I) (L2.passAt tk.2 σ pins H s e s' I)
theorem cxU_no {K : PySem.W.Frag} {P : Program} {w : World} {outer : List PySem.Env} {H : Hp} {s : Shared} {e : Value} {s' : Shared} (h : CXU K P w outer H s (fun _ _ _ => False) e s') : False := by
  rcases h with ⟨_, _, _, _, _, _, _, _, _, _, _, _, z⟩ | ⟨_, _, _, _, _, _, _, _, _, _, _, _, z⟩
  · exact z
  · exact z.2







theorem Ext.refl (g : Gh) : Ext g g := ⟨fun _ _ h => h, Nat.le_refl _, fun _ _ => rfl, rfl⟩
theorem Ext.trans {g1 g2 g3 : Gh} (a : Ext g1 g2) (b : Ext g2 g3) : Ext g1 g3 :=
  ⟨fun x d h => b.G x d (a.G x d h), Nat.le_trans a.sz b.sz, fun n h => (b.m n (Nat.lt_of_lt_of_le h a.sz)).trans (a.m n h), b.F.trans a.F⟩




section
variable {K : PySem.W.Frag} {g g' : Gh} {H H' : Hp}
theorem RelD.bnd : ∀ {d : D} {v : V}, RelD K g d v → U.bnd g.sz d = true
  | .non, _, _ => rfl
  | .bl _, _, _ => rfl
  | .int _, _, _ => rfl
  | .str _, _, _ => rfl
  | .ty _, _, _ => rfl
  | .con _, _, _ => rfl
  | .ref n, _, h => by simp only [U.bnd, decide_eq_true_eq]; exact h.1
  | .tup xs, _, h => by simp only [U.bnd]; exact h.1
  | .lst xs, _, h => by simp only [U.bnd]; exact h.1
  | .fz xs, _, h => by simp only [U.bnd]; exact h.1
  | .dic ks vs, _, h => by simp only [U.bnd]; exact h.1
  | .ins _ _ vs, _, h => by simp only [U.bnd]; exact h.1
theorem RelDs.bnd : ∀ {ds : List D} {vs : List V}, RelDs K g ds vs → bndL g.sz ds = true
  | _, _, .nil => rfl
  | _, _, .cons r t => by simp only [bndL, Bool.and_eq_true]; exact ⟨r.bnd, RelDs.bnd t⟩
theorem RelD.mono (e : Ext g g') : ∀ {d : D} {v : V}, RelD K g d v → RelD K g' d v
  | .non, _, h => h
  | .bl _, _, h => h
  | .int _, _, h => h
  | .str _, _, h => h
  | .ty _, _, h => h
  | .con _, _, h => h
  | .ref n, _, h => ⟨Nat.lt_of_lt_of_le h.1 e.sz, by rw [e.m n h.1]; exact h.2⟩
  | .tup xs, _, ⟨b, a, r, q⟩ => ⟨bndL_mono e.sz _ b, a, r, q.imp (e.G _ _) id⟩
  | .lst xs, _, ⟨b, a, r, q⟩ => ⟨bndL_mono e.sz _ b, a, r, e.G _ _ q⟩
  | .fz xs, _, ⟨b, a, r, q⟩ => ⟨bndL_mono e.sz _ b, a, r, q.imp (e.G _ _) id⟩
  | .dic ks vs, _, ⟨b, a, r, q⟩ => ⟨by
      simp only [Bool.and_eq_true] at b ⊢
      exact ⟨bndL_mono e.sz _ b.1, bndL_mono e.sz _ b.2⟩, a, r, e.G _ _ q⟩
  | .ins _ _ vs, _, ⟨b, a, r, q⟩ => ⟨bndL_mono e.sz _ b, a, r, e.G _ _ q⟩
theorem RelDs.mono (e : Ext g g') : ∀ {ds : List D} {vs : List V}, RelDs K g ds vs → RelDs K g' ds vs
  | _, _, .nil => .nil
  | _, _, .cons r t => .cons (r.mono e) (RelDs.mono e t)
theorem RelDs.length {ds : List D} {vs : List V} (h : RelDs K g ds vs) : ds.length = vs.length := Paired.length h
end













theorem dicB_of0 {n : Nat} {ks vs : List D} (h : (bndL 0 ks && bndL 0 vs) = true) : dicB n ks vs = true := by
  rw [Bool.and_eq_true] at h
  unfold dicB
  rw [h.1, Bool.true_and]
  exact bndL_mono (Nat.zero_le _) _ h.2
theorem dicB_mono {n k : Nat} (hk : n ≤ k) {ks vs : List D} (h : dicB n ks vs = true) : dicB k ks vs = true := by
  unfold dicB at h ⊢
  rw [Bool.and_eq_true] at h ⊢
  refine ⟨h.1, ?_⟩
  by_cases o : openK ks = true
  · rw [if_pos o] at h ⊢; exact bndL_mono hk _ h.2
  · rw [if_neg o] at h ⊢; exact h.2
theorem dicB_bnd {n : Nat} {ks vs : List D} (h : dicB n ks vs = true) : (bndL n ks && bndL n vs) = true := by
  unfold dicB at h
  rw [Bool.and_eq_true] at h ⊢
  refine ⟨bndL_mono (Nat.zero_le _) _ h.1, ?_⟩
  by_cases o : openK ks = true
  · rw [if_pos o] at h; exact h.2
  · rw [if_neg o] at h; exact bndL_mono (Nat.zero_le _) _ h.2
theorem dicB_shut {n : Nat} {ks vs : List D} (h : dicB n ks vs = true) (o : openK ks = false) : (bndL 0 ks && bndL 0 vs) = true := by
  unfold dicB at h
  rw [o] at h
  exact h





section
variable {K : PySem.W.Frag} {g g' : Gh} {H H' : Hp} {S : Sto}
theorem LamR.stay {a : Addr} {i b : Int} (eG : ∀ a d, g.G a = some d → U.bnd 0 d = true → g'.G a = some d) (hH : ∀ o, H a = .some o → H' a = .some o) (h : LamR g H a i b) : LamR g' H' a i b := by
  obtain ⟨lk, pm, doc, c, ctv, dV, e1, e2, e3, e5, e4⟩ := h
  refine ⟨lk, pm, doc, c, ctv, dV, e1, eG _ _ e2 rfl, hH _ e3, e5, e4.imp id ?_⟩
  rintro ⟨z0, td, z1, z2⟩
  exact ⟨z0, td, z1, eG _ _ z2 rfl⟩
theorem CelR.stay {i b : Int} {ds : List D} (eG : ∀ a d, g.G a = some d → U.bnd 0 d = true → g'.G a = some d) (hb : bndL 0 ds = true) (h : CelR g i b ds) : CelR g' i b ds := by
  obtain ⟨lk, e1, e2, e3⟩ := h
  refine ⟨lk, e1, e2, fun j y d h1 h2 => ?_⟩
  obtain ⟨c, c1, c2⟩ := e3 j y d h1 h2
  have bd : U.bnd 0 d = true := by
    have : ∀ (l : List D), bndL 0 l = true → ∀ d ∈ l, U.bnd 0 d = true := fun l => by
      induction l with
      | nil => exact fun _ d hd => nomatch hd
      | cons x l ih =>
        intro hl d hd
        simp only [bndL, Bool.and_eq_true] at hl
        rcases List.mem_cons.mp hd with rfl | hd
        · exact hl.1
        · exact ih hl.2 d hd
    exact this ds hb d (List.mem_of_getElem? h2)
  exact ⟨c, c1, eG _ _ c2 (by simp [celD, U.bnd, bndL, bd])⟩
theorem DRep.over {a : Addr} {ks vs : List D} (hb : (bndL 0 ks && bndL 0 vs) = true) (eG : ∀ a d, g.G a = some d → U.bnd 0 d = true → g'.G a = some d) (eR : ∀ d v, RelD K g d v → U.bnd 0 d = true → RelD K g' d v) (hH : ∀ o, H a = .some o → H' a = .some o) (h : DRep K g H a ks vs) : DRep K g' H' a ks vs := by
  unfold DRep at h ⊢
  split at h
  · obtain ⟨e0, ps, e1, e2, e3⟩ := h
    refine ⟨e0, ps, hH _ e1, e2, fun pos cv hc => ?_⟩
    obtain ⟨c, c1, c2⟩ := e3 pos cv hc
    exact ⟨c, c1, eG _ _ c2 rfl⟩
  · exact hH _ h
  · rename_i C ns ds
    obtain ⟨oe, dx, e1, e2, e3, e4, e5⟩ := h
    have hb' : bndL 0 ds = true := by simpa [bndL, U.bnd] using hb
    exact ⟨oe, dx, hH _ e1, e2, e3, e4, eG _ _ e5 (by simp [xdD, U.bnd, bndL, hb'])⟩
  · rename_i C ns ds
    obtain ⟨ws, e1, e2, e3⟩ := h
    have hb' : bndL 0 ds = true := by simpa [bndL, U.bnd] using hb
    have : ∀ {l : List D} {us : List V}, RelDs K g l us → bndL 0 l = true → RelDs K g' l us := by
      intro l us r
      induction r with
      | nil => exact fun _ => .nil
      | cons q _ ih =>
        intro hl
        simp only [bndL, Bool.and_eq_true] at hl
        exact .cons (eR _ _ q hl.1) (ih hl.2)
    exact ⟨ws, hH _ e1, e2, this e3 hb'⟩
  · rename_i d
    obtain ⟨o, u, v, e1, e2, e3, e4⟩ := h
    exact ⟨o, u, v, hH _ e1, e2, e3, eR _ _ e4 (by simpa [bndL, U.bnd] using hb)⟩
  · exact LamR.stay eG hH h
  · exact ⟨LamR.stay eG hH h.1, CelR.stay eG (by simpa [bndL, U.bnd] using hb) h.2⟩
  · exact h
theorem DRep.ext (eG : ∀ a d, g.G a = some d → g'.G a = some d) (eR : ∀ d v, RelD K g d v → RelD K g' d v) {a : Addr} {ks vs : List D} (hH : ∀ o, H a = .some o → H' a = .some o) (h : DRep K g H a ks vs) : DRep K g' H' a ks vs := by
  have lam : ∀ {i b : Int}, LamR g H a i b → LamR g' H' a i b := fun h => LamR.stay (fun a d q _ => eG a d q) hH h
  unfold DRep at h ⊢
  split at h
  · obtain ⟨e0, ps, e1, e2, e3⟩ := h
    refine ⟨e0, ps, hH _ e1, e2, fun pos cv hc => ?_⟩
    obtain ⟨c, c1, c2⟩ := e3 pos cv hc
    exact ⟨c, c1, eG _ _ c2⟩
  · exact hH _ h
  · obtain ⟨oe, dx, e1, e2, e3, e4, e5⟩ := h
    exact ⟨oe, dx, hH _ e1, e2, e3, e4, eG _ _ e5⟩
  · obtain ⟨ws, e1, e2, e3⟩ := h
    have : ∀ {l : List D} {us : List V}, RelDs K g l us → RelDs K g' l us := by
      intro l us r
      induction r with
      | nil => exact .nil
      | cons q _ ih => exact .cons (eR _ _ q) ih
    exact ⟨ws, hH _ e1, e2, this e3⟩
  · obtain ⟨o, u, v, e1, e2, e3, e4⟩ := h
    exact ⟨o, u, v, hH _ e1, e2, e3, eR _ _ e4⟩
  · exact lam h
  · obtain ⟨h1, lk, q1, q2, q3⟩ := h
    refine ⟨lam h1, lk, q1, q2, fun j y d e1 e2 => ?_⟩
    obtain ⟨c, c1, c2⟩ := q3 j y d e1 e2
    exact ⟨c, c1, eG _ _ c2⟩
  · exact h
theorem DRep.some {a : Addr} {ks vs : List D} (h : DRep K g H a ks vs) : ∃ o, H a = .some o := by
  unfold DRep at h
  split at h
  · obtain ⟨_, ps, e1, _⟩ := h; exact ⟨_, e1⟩
  · exact ⟨_, h⟩
  · obtain ⟨oe, dx, e1, _⟩ := h; exact ⟨_, e1⟩
  · obtain ⟨ws, e1, _⟩ := h; exact ⟨_, e1⟩
  · obtain ⟨o, u, v, e1, _⟩ := h; exact ⟨_, e1⟩
  · obtain ⟨lk, pm, doc, c, ctv, dV, e1, e2, e3, e4⟩ := h; exact ⟨_, e3⟩
  · obtain ⟨⟨lk, pm, doc, c, ctv, dV, e1, e2, e3, e4⟩, _⟩ := h; exact ⟨_, e3⟩
  · exact h.elim
theorem IRep.some {a : Addr} {d : D} (h : IRep K g H a d) : ∃ o, H a = .some o := by
  cases d with
  | tup ds => obtain ⟨vs, e, _⟩ := h; exact ⟨_, e⟩
  | lst ds => obtain ⟨vs, e, _⟩ := h; exact ⟨_, e⟩
  | fz ds =>
    obtain ⟨vs, e | ⟨o, e⟩, _⟩ := h
    · exact ⟨_, e⟩
    · exact ⟨_, e⟩
  | ins C ns ds => obtain ⟨dx, vs, e, _⟩ := h; exact ⟨_, e⟩
  | dic ks vs => exact h.2.some
  | _ => exact h.elim
theorem MRep.some {a : Addr} {o : AO} (h : MRep K g H a o) (n : o ≠ .gone) : ∃ u, H a = .some u := by
  cases o with
  | lst ds => obtain ⟨vs, e, _⟩ := h; exact ⟨_, e⟩
  | ins C ns ds => obtain ⟨dx, vs, e, _⟩ := h; exact ⟨_, e⟩
  | dic ks ds => obtain ⟨kk, vs, _, e, _⟩ := h; exact ⟨_, e⟩
  | gone => exact absurd rfl n
theorem IRep.stay (e : Ext g g') {a : Addr} {d : D} (hH : ∀ o, H a = .some o → H' a = .some o) (h : IRep K g H a d) : IRep K g' H' a d := by
  cases d with
  | tup ds => obtain ⟨vs, e1, r⟩ := h; exact ⟨vs, hH _ e1, r.mono e⟩
  | lst ds => obtain ⟨vs, e1, r⟩ := h; exact ⟨vs, hH _ e1, r.mono e⟩
  | fz ds =>
    obtain ⟨vs, e1, r⟩ := h
    refine ⟨vs, ?_, r.mono e⟩
    rcases e1 with e1 | ⟨o, e1⟩
    · exact .inl (hH _ e1)
    · exact .inr ⟨o, hH _ e1⟩
  | ins C ns ds => obtain ⟨dx, vs, e1, l, r⟩ := h; exact ⟨dx, vs, hH _ e1, l, r.mono e⟩
  | dic ks vs => exact ⟨dicB_mono e.sz h.1, DRep.ext e.G (fun d v r => r.mono e) hH h.2⟩
  | _ => exact h.elim
theorem MRep.stay (e : Ext g g') {a : Addr} {o : AO} (hH : ∀ o, H a = .some o → H' a = .some o) (h : MRep K g H a o) : MRep K g' H' a o := by
  cases o with
  | lst ds => obtain ⟨vs, e1, r⟩ := h; exact ⟨vs, hH _ e1, r.mono e⟩
  | ins C ns ds => obtain ⟨dx, vs, e1, l, r⟩ := h; exact ⟨dx, vs, hH _ e1, l, r.mono e⟩
  | dic ks ds => obtain ⟨kk, vs, e0, e1, l, r⟩ := h; exact ⟨kk, vs, e0, hH _ e1, l, r.mono e⟩
  | gone => trivial
theorem REnv.mono (e : Ext g g') {r : Env} {σ : St} (h : REnv K g r σ) : REnv K g' r σ :=
  ⟨h.1, fun i d q => let ⟨v, a, b⟩ := h.2 i d q; ⟨v, a, b.mono e⟩⟩
theorem REnv.set {r : Env} {σ : St} {d : D} {v : V} (h : REnv K g r σ) (i : Nat) (q : RelD K g d v) : REnv K g (r.set i (some d)) (σ.set i (some v)) := by
  refine ⟨by simpa using h.1, fun j d' e => ?_⟩
  by_cases hj : i = j
  · subst hj
    by_cases hl : i < r.length
    · rw [List.getElem?_set_self hl] at e
      cases e
      exact ⟨v, by rw [List.getElem?_set_self (by rw [← h.1]; exact hl)], q⟩
    · rw [List.getElem?_eq_none (by simpa using hl)] at e
      cases e
  · rw [List.getElem?_set_ne hj] at e
    obtain ⟨w, a, b⟩ := h.2 j d' e
    exact ⟨w, by rw [List.getElem?_set_ne hj]; exact a, b⟩
theorem Rl.keep (h : Rl K g S H) (k : ∀ a o, H a = some o → H' a = some o) : Rl K g S H' :=
  ⟨fun a d e => (h.imm a d e).stay (.refl g) (k a), fun n o e q => ⟨(h.sto n o e q).1, (h.sto n o e q).2.stay (.refl g) (k _)⟩, h.inj, h.sz, fun a o e => let ⟨x, y⟩ := h.fr a o e; ⟨k a o x, y⟩⟩
def Gh.put (g : Gh) (p : Addr) (d : D) : Gh := { g with G := fun a => if a = p then some d else g.G a }
theorem Gh.put_ext {p : Addr} {d : D} (h : g.G p = none) : Ext g (g.put p d) := ⟨fun a e q => by
  show (if a = p then some d else g.G a) = some e
  rw [if_neg (fun z => by subst z; rw [h] at q; cases q)]; exact q, Nat.le_refl _, fun _ _ => rfl, rfl⟩
theorem Gh.put_at {p : Addr} {d : D} : (g.put p d).G p = some d := if_pos rfl
theorem Rl.free (h : Rl K g S H) {p : Addr} (hp : H p = none) : g.G p = none := by
  cases e : g.G p with
  | none => rfl
  | some d =>
    obtain ⟨o, q⟩ := (h.imm p d e).some
    rw [hp] at q; cases q
theorem Rl.put (h : Rl K g S H) {p : Addr} {d : D} {o : HO} (hp : H p = none) (hr : IRep K g (upd H p o) p d) : Rl K (g.put p d) S (upd H p o) := by
  have x := Gh.put_ext (d := d) (h.free hp)
  refine ⟨fun a e q => ?_, fun n ob e q => ?_, h.inj, h.sz, fun a u q => ?_⟩
  · by_cases ha : a = p
    · subst ha
      rw [Gh.put_at] at q
      cases q
      exact hr.stay x (fun _ z => z)
    · have q' : g.G a = some e := by
        have : (if a = p then some d else g.G a) = some e := q
        rw [if_neg ha] at this; exact this
      exact (h.imm a e q').stay x (fun ob z => by rw [upd_ne ha]; exact z)
  · obtain ⟨m1, m2⟩ := h.sto n ob e q
    have ne : g.m n ≠ p := fun z => by
      obtain ⟨u, hu⟩ := m2.some q
      rw [z, hp] at hu; cases hu
    refine ⟨?_, m2.stay x (fun ob' z => ?_)⟩
    · show (if g.m n = p then some d else g.G (g.m n)) = none
      rw [if_neg ne]; exact m1
    · show upd H p o (g.m n) = some ob'
      rw [upd_ne ne]; exact z
  · obtain ⟨x1, x2, x3⟩ := h.fr a u q
    have ne : a ≠ p := fun z => by rw [z, hp] at x1; cases x1
    refine ⟨by rw [upd_ne ne]; exact x1, ?_, x3⟩
    show (if a = p then some d else g.G a) = none
    rw [if_neg ne]; exact x2
def Gh.add (g : Gh) (p : Addr) : Gh := { g with m := fun n => if n = g.sz then p else g.m n, sz := g.sz + 1 }
theorem Gh.add_ext {p : Addr} : Ext g (g.add p) := ⟨fun _ _ q => q, Nat.le_succ _, fun n h => if_neg (Nat.ne_of_lt h), rfl⟩
theorem Gh.add_m {p : Addr} : (g.add p).m g.sz = p := if_pos rfl
theorem Rl.add (h : Rl K g S H) {p : Addr} {o : HO} {ob : AO} (hp : H p = none) (hr : MRep K g (upd H p o) p ob) : Rl K (g.add p) (S ++ [ob]) (upd H p o) := by
  have x := Gh.add_ext (g := g) (p := p)
  have hG := h.free hp
  have nep : ∀ n ob', S[n]? = some ob' → ob' ≠ .gone → g.m n ≠ p := fun n ob' e q z => by
    obtain ⟨u, hu⟩ := (h.sto n ob' e q).2.some q
    rw [z, hp] at hu; cases hu
  have hm : ∀ n, n < S.length → (g.add p).m n = g.m n := fun n hn => if_neg (by rw [h.sz]; omega)
  have hm0 : (g.add p).m S.length = p := if_pos h.sz.symm
  have cases_ : ∀ n ob', (S ++ [ob])[n]? = some ob' → (n < S.length ∧ S[n]? = some ob') ∨ (n = S.length ∧ ob' = ob) := fun n ob' e => by
    by_cases hn : n < S.length
    · rw [List.getElem?_append_left hn] at e; exact .inl ⟨hn, e⟩
    · rw [List.getElem?_append_right (by omega)] at e
      have : n - S.length = 0 := by
        by_cases z : n - S.length = 0
        · exact z
        · rw [List.getElem?_eq_none (by simp; omega)] at e; cases e
      rw [this] at e
      exact .inr ⟨by omega, by simpa using e.symm⟩
  refine ⟨fun a e q => (h.imm a e q).stay x (fun ob' z => ?_), fun n ob' e q => ?_, fun i j oi oj e1 q1 e2 q2 z => ?_, ?_, fun a u q => ?_⟩
  · rw [upd_ne (fun z' => by rw [z', hp] at z; cases z)]; exact z
  · rcases cases_ n ob' e with ⟨hn, e⟩ | ⟨hn, rfl⟩
    · obtain ⟨m1, m2⟩ := h.sto n ob' e q
      rw [hm n hn]
      exact ⟨m1, m2.stay x (fun u z => by rw [upd_ne (nep n ob' e q)]; exact z)⟩
    · subst hn
      rw [hm0]
      exact ⟨hG, hr.stay x (fun _ z => z)⟩
  · rcases cases_ i oi e1 with ⟨hi, f1⟩ | ⟨hi, _⟩
    · rcases cases_ j oj e2 with ⟨hj, f2⟩ | ⟨hj, _⟩
      · rw [hm i hi, hm j hj] at z
        exact h.inj i j oi oj f1 q1 f2 q2 z
      · subst hj
        rw [hm i hi, hm0] at z
        exact absurd z (nep i oi f1 q1)
    · subst hi
      rcases cases_ j oj e2 with ⟨hj, f2⟩ | ⟨hj, _⟩
      · rw [hm j hj, hm0] at z
        exact absurd z.symm (nep j oj f2 q2)
      · exact hj.symm
  · show g.sz + 1 = _
    rw [List.length_append, h.sz]; rfl
  · obtain ⟨x1, x2, x3⟩ := h.fr a u q
    have ne : a ≠ p := fun z => by rw [z, hp] at x1; cases x1
    refine ⟨by rw [upd_ne ne]; exact x1, x2, fun n ob' e q' => ?_⟩
    rcases cases_ n ob' e with ⟨hn, f1⟩ | ⟨hn, _⟩
    · rw [hm n hn]; exact x3 n ob' f1 q'
    · subst hn
      rw [hm0]; exact ne.symm
theorem Rl.write (h : Rl K g S H) {n : Nat} {ob ob' : AO} {o : HO} (e : S[n]? = some ob) (q : ob ≠ .gone) (hr : MRep K g (upd H (g.m n) o) (g.m n) ob') : Rl K g (S.set n ob') (upd H (g.m n) o) := by
  obtain ⟨m1, m2⟩ := h.sto n ob e q
  have hn : n < S.length := (List.getElem?_eq_some_iff.mp e).1
  have old : ∀ i oi, i ≠ n → (S.set n ob')[i]? = some oi → S[i]? = some oi := fun i oi ne z => by rwa [List.getElem?_set_ne (Ne.symm ne)] at z
  refine ⟨fun a d z => (h.imm a d z).stay (.refl g) (fun u z' => ?_), fun i oi z qi => ?_, fun i j oi oj e1 q1 e2 q2 z => ?_, by rw [List.length_set]; exact h.sz, fun a u z => ?_⟩
  · rw [upd_ne (fun w => by rw [w, m1] at z; cases z)]; exact z'
  · by_cases hi : i = n
    · subst hi
      rw [List.getElem?_set_self hn] at z
      cases z
      exact ⟨m1, hr⟩
    · have z' := old i oi hi z
      obtain ⟨k1, k2⟩ := h.sto i oi z' qi
      exact ⟨k1, k2.stay (.refl g) (fun u w => by rw [upd_ne (fun w' => hi (h.inj i n oi ob z' qi e q w'))]; exact w)⟩
  · by_cases hi : i = n
    · by_cases hj : j = n
      · rw [hi, hj]
      · subst hi
        exact h.inj i j ob oj e q (old j oj hj e2) q2 z
    · by_cases hj : j = n
      · subst hj
        exact h.inj i j oi ob (old i oi hi e1) q1 e q z
      · exact h.inj i j oi oj (old i oi hi e1) q1 (old j oj hj e2) q2 z
  · obtain ⟨x1, x2, x3⟩ := h.fr a u z
    refine ⟨by rw [upd_ne (x3 n ob e q).symm]; exact x1, x2, fun i oi w qi => ?_⟩
    by_cases hi : i = n
    · subst hi; exact x3 i ob e q
    · exact x3 i oi (old i oi hi w) qi
def Gh.res (g : Gh) (p : Addr) (o : HO) : Gh := { g with F := fun a => if a = p then some o else g.F a }
theorem RelD.eqG {d : D} {v : V} (h : RelD K g d v) (hG : g'.G = g.G) (hm : g'.m = g.m) (hs : g'.sz = g.sz) : RelD K g' d v := by
  cases d <;> simp only [RelD, hG, hm, hs] at h ⊢ <;> exact h
theorem RelDs.eqG {ds : List D} {vs : List V} (h : RelDs K g ds vs) (hG : g'.G = g.G) (hm : g'.m = g.m) (hs : g'.sz = g.sz) : RelDs K g' ds vs := by
  induction h with
  | nil => exact .nil
  | cons r _ ih => exact .cons (r.eqG hG hm hs) ih
theorem IRep.eqG {a : Addr} {d : D} (h : IRep K g H a d) (hG : g'.G = g.G) (hm : g'.m = g.m) (hs : g'.sz = g.sz) : IRep K g' H a d := by
  cases d with
  | tup ds => obtain ⟨vs, e1, r⟩ := h; exact ⟨vs, e1, r.eqG hG hm hs⟩
  | lst ds => obtain ⟨vs, e1, r⟩ := h; exact ⟨vs, e1, r.eqG hG hm hs⟩
  | fz ds => obtain ⟨vs, e1, r⟩ := h; exact ⟨vs, e1, r.eqG hG hm hs⟩
  | ins C ns ds => obtain ⟨dx, vs, e1, l, r⟩ := h; exact ⟨dx, vs, e1, l, r.eqG hG hm hs⟩
  | dic ks vs => exact ⟨by rw [hs]; exact h.1, DRep.ext (fun a d q => by rw [hG]; exact q) (fun d v r => r.eqG hG hm hs) (fun _ q => q) h.2⟩
  | _ => exact h.elim
theorem MRep.eqG {a : Addr} {o : AO} (h : MRep K g H a o) (hG : g'.G = g.G) (hm : g'.m = g.m) (hs : g'.sz = g.sz) : MRep K g' H a o := by
  cases o with
  | lst ds => obtain ⟨vs, e1, r⟩ := h; exact ⟨vs, e1, r.eqG hG hm hs⟩
  | ins C ns ds => obtain ⟨dx, vs, e1, l, r⟩ := h; exact ⟨dx, vs, e1, l, r.eqG hG hm hs⟩
  | dic ks ds => obtain ⟨kk, vs, e0, e1, l, r⟩ := h; exact ⟨kk, vs, e0, e1, l, r.eqG hG hm hs⟩
  | gone => trivial
theorem REnv.eqG {r : Env} {σ : St} (h : REnv K g r σ) (hG : g'.G = g.G) (hm : g'.m = g.m) (hs : g'.sz = g.sz) : REnv K g' r σ :=
  ⟨h.1, fun i d q => let ⟨v, a, b⟩ := h.2 i d q; ⟨v, a, b.eqG hG hm hs⟩⟩
theorem Rl.res (h : Rl K g S H) {p : Addr} {o : HO} (hp : H p = none) : Rl K (g.res p o) S (upd H p o) := by
  refine ⟨fun a d e => ?_, fun n ob e q => ?_, h.inj, h.sz, fun a u q => ?_⟩
  · have ne : a ≠ p := fun z => by
      obtain ⟨u, hu⟩ := (h.imm a d e).some
      rw [z, hp] at hu; cases hu
    exact ((h.imm a d e).stay (H' := upd H p o) (.refl g) (fun u z => by rw [upd_ne ne]; exact z)).eqG rfl rfl rfl
  · obtain ⟨m1, m2⟩ := h.sto n ob e q
    have ne : g.m n ≠ p := fun z => by
      obtain ⟨u, hu⟩ := m2.some q
      rw [z, hp] at hu; cases hu
    exact ⟨m1, (m2.stay (H' := upd H p o) (.refl g) (fun u z => by rw [upd_ne ne]; exact z)).eqG rfl rfl rfl⟩
  · have q' : (if a = p then some o else g.F a) = some u := q
    by_cases ha : a = p
    · subst ha
      rw [if_pos rfl] at q'
      cases q'
      refine ⟨upd_same, h.free hp, fun n ob e qn z => ?_⟩
      obtain ⟨u, hu⟩ := (h.sto n ob e qn).2.some qn
      have hu' : H (g.m n) = some u := hu
      rw [show g.m n = a from z, hp] at hu'; cases hu'
    · rw [if_neg ha] at q'
      obtain ⟨x1, x2, x3⟩ := h.fr a u q'
      exact ⟨by rw [upd_ne ha]; exact x1, x2, x3⟩
theorem Rl.rewrite (h : Rl K g S H) {p : Addr} {o u : HO} (hp : g.F p = some o) : Rl K (g.res p u) S (upd H p u) := by
  obtain ⟨y1, y2, y3⟩ := h.fr p o hp
  refine ⟨fun a d e => ?_, fun n ob e q => ?_, h.inj, h.sz, fun a w q => ?_⟩
  · have ne : a ≠ p := fun z => by
      have e' : g.G a = some d := e
      rw [z, y2] at e'; cases e'
    exact ((h.imm a d e).stay (H' := upd H p u) (.refl g) (fun w z => by rw [upd_ne ne]; exact z)).eqG rfl rfl rfl
  · obtain ⟨m1, m2⟩ := h.sto n ob e q
    exact ⟨m1, (m2.stay (H' := upd H p u) (.refl g) (fun w z => by rw [upd_ne (y3 n ob e q)]; exact z)).eqG rfl rfl rfl⟩
  · have q' : (if a = p then some u else g.F a) = some w := q
    by_cases ha : a = p
    · subst ha
      rw [if_pos rfl] at q'
      cases q'
      exact ⟨upd_same, y2, y3⟩
    · rw [if_neg ha] at q'
      obtain ⟨x1, x2, x3⟩ := h.fr a w q'
      exact ⟨by rw [upd_ne ha]; exact x1, x2, x3⟩
def Gh.back (g : Gh) (F : Addr → Option HO) (p : Addr) (d : D) : Gh := { (g.put p d) with F := F }
theorem Rl.back (h : Rl K g S H) {F : Addr → Option HO} {p : Addr} {o : HO} {d : D} (hp : g.F p = some o) (hF : F p = none) (hF' : ∀ a, a ≠ p → F a = g.F a) (hr : IRep K g H p d) : Rl K (g.back F p d) S H := by
  obtain ⟨y1, y2, y3⟩ := h.fr p o hp
  have x := Gh.put_ext (d := d) y2
  refine ⟨fun a e q => ?_, fun n ob e q => ?_, h.inj, h.sz, fun a u q => ?_⟩
  · have q0 : (g.put p d).G a = some e := q
    by_cases ha : a = p
    · subst ha
      rw [Gh.put_at] at q0
      cases q0
      exact (hr.stay x (fun _ z => z)).eqG rfl rfl rfl
    · have q' : g.G a = some e := by
        have : (if a = p then some d else g.G a) = some e := q
        rw [if_neg ha] at this; exact this
      exact ((h.imm a e q').stay x (fun _ z => z)).eqG rfl rfl rfl
  · obtain ⟨m1, m2⟩ := h.sto n ob e q
    refine ⟨?_, (m2.stay x (fun _ z => z)).eqG rfl rfl rfl⟩
    show (if g.m n = p then some d else g.G (g.m n)) = none
    rw [if_neg (y3 n ob e q)]; exact m1
  · have q' : F a = some u := q
    have ha : a ≠ p := fun z => by rw [z, hF] at q'; cases q'
    rw [hF' a ha] at q'
    obtain ⟨x1, x2, x3⟩ := h.fr a u q'
    refine ⟨x1, ?_, x3⟩
    show (if a = p then some d else g.G a) = none
    rw [if_neg ha]; exact x2
end




section
variable {K : PySem.W.Frag} {W : WX} {g g' : Gh} {σ : St}
theorem PostG.ext {α β : Type} {rel : Gh → α → β → Prop} {x : R α} {Q : β → Hp → Prop} (e : Ext g g') (h : PostG K W rel g σ x Q) : PostG K W rel g' σ x Q := by
  cases x with
  | ok a r S => exact fun g2 H' b e2 => h g2 H' b (e.trans e2)
  | er x r S => exact fun g2 H' c od e2 => h g2 H' c od (e.trans e2)
  | no => exact h
theorem PostG.imp {α β : Type} {rel : Gh → α → β → Prop} {x : R α} {Q Q' : β → Hp → Prop} (h : PostG K W rel g σ x Q) (i : ∀ b H, Q b H → Q' b H) : PostG K W rel g σ x Q' := by
  cases x with
  | ok a r S => exact fun g2 H' b e2 l r q => i _ _ (h g2 H' b e2 l r q)
  | er x r S => exact h
  | no => exact h

theorem TD.mk {α β : Type} {rel : Gh → α → β → Prop} {f : Env → Sto → R α} {H : Hp} {Q : β → Hp → Prop} {r : Env} {S : Sto} (l : Rl K g S H) (e : REnv K g r σ) (h : PostG K W rel g σ (f r S) Q) : TD K W rel f σ H Q := ⟨g, r, S, l, e, h⟩
theorem PostG.split {α β γ δ : Type} {rel : Gh → α → β → Prop} {rel2 : Gh → γ → δ → Prop} {x : R α} {k : α → Env → Sto → R γ} {Q : δ → Hp → Prop} (h : PostG K W rel2 g σ (x.bind k) Q) :
    PostG K W rel g σ x (fun b H' => ∃ g' a r S, Ext g g' ∧ Rl K g' S H' ∧ REnv K g' r σ ∧ rel g' a b ∧ PostG K W rel2 g' σ (k a r S) Q) := by
  cases x with
  | ok a r S => exact fun g2 H' b e l re q => ⟨g2, a, r, S, e, l, re, q, PostG.ext e (show PostG K W rel2 g σ (k a r S) Q from h)⟩
  | er x r S => exact h
  | no => exact h
theorem TD.split {α β γ δ : Type} {rel : Gh → α → β → Prop} {rel2 : Gh → γ → δ → Prop} {f : Env → Sto → R α} {k : α → Env → Sto → R γ} {H : Hp} {Q : δ → Hp → Prop} (h : TD K W rel2 (fun r S => (f r S).bind k) σ H Q) :
    TD K W rel f σ H (fun b H' => ∃ g a r S, Rl K g S H' ∧ REnv K g r σ ∧ rel g a b ∧ PostG K W rel2 g σ (k a r S) Q) := by
  obtain ⟨g, r, S, l, e, p⟩ := h
  exact ⟨g, r, S, l, e, p.split.imp fun b H' ⟨g', a, r', S', _, l', e', q, p'⟩ => ⟨g', a, r', S', l', e', q, p'⟩⟩
end
open PySem PySem.Spec PyProof.Rows
section
variable {K : PySem.W.Frag} {g g' : Gh} {H H' : Hp} {S : Sto}
theorem kReps_ok : ∀ {f : Nat} {ds : List D} {us : List Value}, kReps K f ds us = true → bndL g.sz ds = true → ∃ vs, Vals vs us ∧ RelDs K g ds vs
  | 0, _, _, h, _ => by cases (show false = true from h)
  | _ + 1, [], [], _, _ => ⟨[], .nil, .nil⟩
  | _ + 1, [], _ :: _, h, _ => by cases (show false = true from h)
  | _ + 1, _ :: _, [], h, _ => by cases (show false = true from h)
  | f + 1, d :: ds, u :: us, h, b => by
    simp only [kReps, Bool.and_eq_true] at h
    simp only [bndL, Bool.and_eq_true] at b
    obtain ⟨vs, r1, r2⟩ := kReps_ok (f := f) h.2 b.2
    have one : ∃ v, RelV v u ∧ RelD K g d v := by
      cases f with
      | zero => have z := h.1; simp [kRep] at z
      | succ f =>
        have h1 := h.1
        cases d with
        | non => cases u <;> first | exact ⟨.non, rfl, rfl⟩ | (simp [kRep] at h1)
        | bl x => cases u <;> first | (simp [kRep] at h1; subst h1; exact ⟨.bl _, rfl, rfl⟩) | (simp [kRep] at h1)
        | int x => cases u <;> first | (simp [kRep] at h1; subst h1; exact ⟨.int _, ⟨_, rfl⟩, rfl⟩) | (simp [kRep] at h1)
        | str x => cases u <;> first | (simp [kRep] at h1; subst h1; exact ⟨.str _, ⟨_, rfl⟩, rfl⟩) | (simp [kRep] at h1)
        | ty x => cases u <;> first | (simp [kRep] at h1; subst h1; exact ⟨.ty _, rfl, rfl⟩) | (simp [kRep] at h1)
        | con x => cases u <;> first | (simp [kRep] at h1; subst h1; exact ⟨.ref _, rfl, rfl⟩) | (simp [kRep] at h1)
        | tup x => cases u <;> first | exact ⟨.ref _, rfl, ⟨by simpa [bnd] using b.1, _, rfl, .inr ⟨_, h1⟩⟩⟩ | (simp [kRep] at h1)
        | fz x => cases u <;> first | exact ⟨.ref _, rfl, ⟨by simpa [bnd] using b.1, _, rfl, .inr ⟨_, h1⟩⟩⟩ | (simp [kRep] at h1)
        | lst x => cases u <;> simp [kRep] at h1
        | dic x y => cases u <;> simp [kRep] at h1
        | ins x y z => cases u <;> simp [kRep] at h1
        | ref x => cases u <;> simp [kRep] at h1
    obtain ⟨v, q1, q2⟩ := one
    exact ⟨v :: vs, .cons q1 r1, .cons q2 r2⟩
theorem kTup_ok {f : Nat} {ds : List D} {a : Addr} (h : kRep K f (.tup ds) (.ref a) = true) (b : bndL g.sz ds = true) : ∃ vs, SqT K H a vs ∧ RelDs K g ds vs := by
  cases f with
  | zero => simp [kRep] at h
  | succ f =>
    unfold kRep at h
    split at h
    · rename_i c dd its n sl e
      simp only [Bool.and_eq_true, decide_eq_true_eq] at h
      obtain ⟨vs, r1, r2⟩ := kReps_ok h.2.2 b
      exact ⟨vs, .inr ⟨_, its, n, e, by rw [h.1], rfl, h.2.1, r1⟩, r2⟩
    · cases h
theorem kLst_ok {f : Nat} {ds : List D} {a : Addr} (h : kRep K f (.fz ds) (.ref a) = true) (b : bndL g.sz ds = true) : ∃ vs, SqL K H a vs ∧ RelDs K g ds vs := by
  cases f with
  | zero => simp [kRep] at h
  | succ f =>
    unfold kRep at h
    split at h
    · rename_i c its n sl e
      simp only [Bool.and_eq_true, decide_eq_true_eq] at h
      obtain ⟨vs, r1, r2⟩ := kReps_ok h.2.2 b
      exact ⟨vs, .inr ⟨_, its, n, e, by rw [h.1], rfl, rfl, h.2.1, r1⟩, r2⟩
    · cases h
theorem RelDs.append : ∀ {xs ys : List D} {us ws : List V}, RelDs K g xs us → RelDs K g ys ws → RelDs K g (xs ++ ys) (us ++ ws)
  | _, _, _, _, .nil, s => s
  | _, _, _, _, .cons r t, s => .cons r (RelDs.append t s)
theorem RelDs.take : ∀ {xs : List D} {us : List V} (n : Nat), RelDs K g xs us → RelDs K g (xs.take n) (us.take n)
  | _, _, 0, _ => .nil
  | _, _, _ + 1, .nil => .nil
  | _, _, n + 1, .cons r t => .cons r (RelDs.take n t)
theorem RelDs.drop : ∀ {xs : List D} {us : List V} (n : Nat), RelDs K g xs us → RelDs K g (xs.drop n) (us.drop n)
  | _, _, 0, r => r
  | _, _, _ + 1, .nil => .nil
  | _, _, n + 1, .cons _ t => RelDs.drop n t
theorem RelDs.get : ∀ {xs : List D} {us : List V} {i : Nat} {x : D}, RelDs K g xs us → xs[i]? = some x → ∃ u, us[i]? = some u ∧ RelD K g x u
  | _, _, _, _, .nil, e => by simp at e
  | _, _, 0, x, .cons r _, e => by simp at e; subst e; exact ⟨_, rfl, r⟩
  | _, _, i + 1, x, .cons _ t, e => by
    obtain ⟨u, h1, h2⟩ := RelDs.get (i := i) (x := x) t (by simpa using e)
    exact ⟨u, by simpa using h1, h2⟩
theorem RelDs.set {x : D} {u : V} (r : RelD K g x u) : ∀ {xs : List D} {us : List V} (i : Nat), RelDs K g xs us → RelDs K g (xs.set i x) (us.set i u)
  | _, _, _, .nil => .nil
  | _, _, 0, .cons _ t => .cons r t
  | _, _, i + 1, .cons q t => .cons q (RelDs.set r i t)
theorem RelDs.rep : ∀ (n : Nat) {xs : List D} {us : List V}, RelDs K g xs us → RelDs K g (List.replicate n xs).flatten (List.replicate n us).flatten
  | 0, _, _, _ => .nil
  | n + 1, _, _, r => by
    rw [List.replicate_succ, List.replicate_succ, List.flatten_cons, List.flatten_cons]
    exact r.append (RelDs.rep n r)


theorem tup_view {xs : List D} {v : V} (l : Rl K g S H) (r : RelD K g (.tup xs) v) : ∃ a vs, v = .ref a ∧ SqT K H a vs ∧ RelDs K g xs vs := by
  obtain ⟨b, a, rfl, q | ⟨f, q⟩⟩ := r
  · obtain ⟨vs, e, rs⟩ := l.imm a _ q
    exact ⟨a, vs, rfl, .inl (.inl e), rs⟩
  · obtain ⟨vs, e, rs⟩ := kTup_ok (H := H) q b
    exact ⟨a, vs, rfl, e, rs⟩
theorem lst_view {d : D} {xs : List D} {v : V} (l : Rl K g S H) (r : RelD K g d v) (e : lstOf S d = some xs) : ∃ a vs, v = .ref a ∧ SqL K H a vs ∧ RelDs K g xs vs := by
  cases d with
  | lst ys =>
    cases (Option.some.inj e : ys = xs)
    obtain ⟨b, a, rfl, q⟩ := r
    obtain ⟨vs, e, rs⟩ := l.imm a _ q
    exact ⟨a, vs, rfl, .inl (.inl e), rs⟩
  | fz ys =>
    cases (Option.some.inj e : ys = xs)
    obtain ⟨b, a, rfl, q | ⟨f, q⟩⟩ := r
    · obtain ⟨vs, e, rs⟩ := l.imm a _ q
      exact ⟨a, vs, rfl, .inl e, rs⟩
    · obtain ⟨vs, e, rs⟩ := kLst_ok (H := H) q b
      exact ⟨a, vs, rfl, e, rs⟩
  | ref n =>
    unfold lstOf at e
    dsimp only at e
    split at e
    · rename_i ys e2
      cases e
      obtain ⟨m1, vs, e3, rs⟩ := l.sto n _ e2 (by intro z; cases z)
      exact ⟨g.m n, vs, r.2, .inl (.inl e3), rs⟩
    · cases e
  | _ => cases e
theorem lstM_view {d : D} {xs : List D} {v : V} (l : Rl K g S H) (r : RelD K g d v) (e : lstMOf S d = some xs) : ∃ a vs, v = .ref a ∧ H a = some (.lst vs) ∧ RelDs K g xs vs := by
  cases d with
  | lst ys =>
    cases (Option.some.inj e : ys = xs)
    obtain ⟨b, a, rfl, q⟩ := r
    obtain ⟨vs, e, rs⟩ := l.imm a _ q
    exact ⟨a, vs, rfl, e, rs⟩
  | ref n =>
    unfold lstMOf at e
    dsimp only at e
    split at e
    · rename_i ys e2
      cases e
      obtain ⟨m1, vs, e3, rs⟩ := l.sto n _ e2 (by intro z; cases z)
      exact ⟨g.m n, vs, r.2, e3, rs⟩
    · cases e
  | _ => cases e
theorem Rl.newTup {ds : List D} {vs : List V} {p : Addr} (l : Rl K g S H) (hp : H p = none) (r : RelDs K g ds vs) :
    ∃ g', Ext g g' ∧ Rl K g' S (upd H p (.tup vs)) ∧ RelD K g' (.tup ds) (.ref p) :=
  ⟨g.put p (.tup ds), Gh.put_ext (l.free hp), l.put hp ⟨vs, upd_same, r⟩, r.bnd, p, rfl, .inl Gh.put_at⟩
theorem Rl.newLst {ds : List D} {vs : List V} {p : Addr} (l : Rl K g S H) (hp : H p = none) (r : RelDs K g ds vs) :
    ∃ g', Ext g g' ∧ Rl K g' S (upd H p (.lst vs)) ∧ RelD K g' (.lst ds) (.ref p) :=
  ⟨g.put p (.lst ds), Gh.put_ext (l.free hp), l.put hp ⟨vs, upd_same, r⟩, r.bnd, p, rfl, Gh.put_at⟩
theorem Rl.newSto {ds : List D} {vs : List V} {p : Addr} (l : Rl K g S H) (hp : H p = none) (r : RelDs K g ds vs) :
    ∃ g', Ext g g' ∧ Rl K g' (S ++ [.lst ds]) (upd H p (.lst vs)) ∧ RelD K g' (.ref S.length) (.ref p) :=
  ⟨g.add p, Gh.add_ext, l.add hp ⟨vs, upd_same, r⟩, by show S.length < g.sz + 1; rw [l.sz]; exact Nat.lt_succ_self _, by rw [← l.sz, Gh.add_m]⟩
end
def UOp (K : PySem.W.Frag) (r : R2) (o : Sto → D → D → Option D) : Prop :=
  ∀ g S H x y d xv yv (Q : VK), Rl K g S H → RelD K g x xv → RelD K g y yv → o S x y = some d → (∀ g' H' v, Ext g g' → Rl K g' S H' → RelD K g' d v → Q v H') → r xv yv H Q

theorem UOp.or {K : PySem.W.Frag} {r r' : R2} {o o' : Sto → D → D → Option D} (h : UOp K r o) (h' : UOp K r' o') : UOp K (fun x y H Q => r x y H Q ∨ r' x y H Q) (orO o o') := by
  intro g S H x y d xv yv Q l rx ry e k
  unfold orO at e
  cases q : o S x y with
  | some z =>
    rw [q] at e
    exact .inl (h g S H x y d xv yv Q l rx ry (by rw [q]; exact e) k)
  | none =>
    rw [q] at e
    exact .inr (h' g S H x y d xv yv Q l rx ry e k)
section
variable {K : PySem.W.Frag}
def oInt (C : Int → Int → Bool) (f : Int → Int → Int) : Sto → D → D → Option D := fun _ x y => match x, y with
  | .int i, .int j => if C i j then some (.int (f i j)) else none
  | _, _ => none
theorem u_int {C : Int → Int → Prop} {C' : Int → Int → Bool} {f : Int → Int → Int} (hC : ∀ i j, C' i j = true → C i j) : UOp K (rI C fun i j => .int (f i j)) (oInt C' f) := by
  intro g S H x y d xv yv Q l rx ry e k
  cases x <;> cases y <;> try (simp [oInt] at e; done)
  rename_i i j
  cases rx
  cases ry
  simp only [oInt] at e
  split at e
  · rename_i h
    cases e
    exact ⟨i, j, rfl, rfl, hC i j h, k g H _ (.refl g) l rfl⟩
  · cases e

theorem u_int0 {f : Int → Int → Int} : UOp K (rI0 fun i j => .int (f i j)) (oInt0 f) := by
  intro g S H x y d xv yv Q l rx ry e k
  cases x <;> cases y <;> try (simp [oInt0] at e; done)
  cases rx
  cases ry
  cases e
  exact ⟨_, _, rfl, rfl, k g H _ (.refl g) l rfl⟩

theorem u_catS : UOp K (fun x y H Q => ∃ i j, x = .str i ∧ y = .str j ∧ i.length + j.length ≤ sizeLine ∧ Q (.str (i ++ j)) H) oCatS := by
  intro g S H x y d xv yv Q l rx ry e k
  cases x <;> cases y <;> try (simp [oCatS] at e; done)
  cases rx
  cases ry
  simp only [oCatS] at e
  split at e
  · rename_i h
    cases e
    exact ⟨_, _, rfl, rfl, h, k g H _ (.refl g) l rfl⟩
  · cases e

theorem u_catT : UOp K (rCatA K) oCatT := by
  intro g S H x y d xv yv Q l rx ry e k
  cases x <;> cases y <;> try (simp [oCatT] at e; done)
  simp only [oCatT] at e
  split at e
  · rename_i xs ys h
    cases e
    obtain ⟨a, vs, rfl, sa, ra⟩ := tup_view l rx
    obtain ⟨b, us, rfl, sb, rb⟩ := tup_view l ry
    refine ⟨a, b, vs, us, rfl, rfl, sa, sb, by rw [← ra.length, ← rb.length]; exact h, fun z => ?_, fun _ z => ?_, fun _ _ p hp => ?_⟩
    · subst z; cases ra
      exact k g H _ (.refl g) l ry
    · subst z; cases rb
      refine k g H _ (.refl g) l ?_
      rw [List.append_nil]; exact rx
    · obtain ⟨g', e1, l1, r1⟩ := l.newTup hp (RelDs.append ra rb)
      exact k g' _ _ e1 l1 r1
  · cases e

theorem u_catL : UOp K rCat oCatL := by
  intro g S H x y d xv yv Q l rx ry e k
  simp only [oCatL] at e
  split at e
  · rename_i xs ys h1 h2
    split at e
    · rename_i h
      cases e
      obtain ⟨a, vs, rfl, sa, ra⟩ := lstM_view l rx h1
      obtain ⟨b, us, rfl, sb, rb⟩ := lstM_view l ry h2
      refine ⟨a, b, vs, us, rfl, rfl, sa, sb, by rw [← ra.length, ← rb.length]; exact h, fun p hp => ?_⟩
      obtain ⟨g', e1, l1, r1⟩ := l.newLst hp (ra.append rb)
      exact k g' _ _ e1 l1 r1
    · cases e
  · cases e
def oRepL : Sto → D → D → Option D := fun S x y => match lstMOf S x, y with
  | some a, .int k => if -(2 ^ 63) ≤ k ∧ k < 2 ^ 63 ∧ a.length * k.toNat ≤ sizeLine then some (.lst (List.replicate k.toNat a).flatten) else none
  | _, _ => none
theorem u_repL : UOp K rRep oRepL := by
  intro g S H x y d xv yv Q l rx ry e k
  simp only [oRepL] at e
  split at e
  · rename_i xs k' h1
    split at e
    · rename_i h
      cases e
      cases ry
      obtain ⟨a, vs, rfl, sa, ra⟩ := lstM_view l rx h1
      refine ⟨a, k', vs, rfl, rfl, sa, h.1, h.2.1, by rw [← ra.length]; exact h.2.2, fun p hp => ?_⟩
      obtain ⟨g', e1, l1, r1⟩ := l.newLst hp (ra.rep k'.toNat)
      exact k g' _ _ e1 l1 r1
    · cases e
  · cases e
def oRepT : Sto → D → D → Option D := fun _ x y => match x, y with
  | .tup a, .int k => if 1 ≤ a.length ∧ 2 ≤ k ∧ k ≤ 1000 ∧ a.length ≤ 1000 then some (.tup (List.replicate k.toNat a).flatten) else none
  | _, _ => none
theorem u_repT : UOp K (rRepT K) oRepT := by
  intro g S H x y d xv yv Q l rx ry e k
  cases x <;> cases y <;> try (simp [oRepT] at e; done)
  simp only [oRepT] at e
  split at e
  · rename_i xs k' h
    cases e
    cases ry
    obtain ⟨a, vs, rfl, sa, ra⟩ := tup_view l rx
    refine ⟨a, k', vs, rfl, rfl, sa, fun z => ?_, h.2.1, h.2.2.1, by rw [← ra.length]; exact h.2.2.2, fun p hp => ?_⟩
    · subst z
      have z := ra.length
      rw [List.length_nil] at z
      omega
    · obtain ⟨g', e1, l1, r1⟩ := l.newTup hp (ra.rep k'.toNat)
      exact k g' _ _ e1 l1 r1
  · cases e


def oMul : Sto → D → D → Option D := orO (oInt (fun i j => decide (i.natAbs.log2 + j.natAbs.log2 < 1000000)) fun i j => i * j) (orO oRepL oRepT)
def oMod : Sto → D → D → Option D := oInt (fun _ j => decide (0 < j)) fun i j => i % j
def oDiv : Sto → D → D → Option D := oInt (fun _ j => decide (0 < j) && decide (j.natAbs.log2 < 9000)) fun i j => i / j
def oPow : Sto → D → D → Option D := oInt (fun i j => decide (0 ≤ j) && (decide (j ≤ 1000000) && decide (i.natAbs < 2 ^ 64))) fun i j => i ^ j.toNat
structure BinU (X : Cx) (op : Operator) (o : Sto → D → D → Option D) : Prop where
  ex : ∃ r, OpR X (binaryOp op) r ∧ UOp X.K r o
end
section
variable {X : Cx}
theorem b_add : BinU X .Add oAdd := ⟨_, op_add.or (op_add_str.or (op_catA.or op_cat)), u_int0.or (u_catS.or (u_catT.or u_catL))⟩
theorem b_mul : BinU X .Mult oMul := ⟨_, op_mulW.or (op_rep.or op_repT), (u_int (C := CMulW) fun i j h => by unfold CMulW; exact of_decide_eq_true h).or (u_repL.or u_repT)⟩
theorem b_mod : BinU X .Mod oMod := ⟨_, op_mod, u_int fun i j h => of_decide_eq_true h⟩
theorem b_div : BinU X .FloorDiv oDiv := ⟨_, op_fdivW, u_int (C := CDivW) fun i j h => by
  simp only [Bool.and_eq_true, decide_eq_true_eq] at h; exact h⟩
theorem b_pow : BinU X .Pow oPow := ⟨_, op_pow, u_int (C := CPow) fun i j h => by
  simp only [Bool.and_eq_true, decide_eq_true_eq] at h; exact h⟩
end

theorem flat_view {K : PySem.W.Frag} {g : Gh} {d : D} {v w : V} (r : RelD K g d v) (e : flatD d = some w) : v = w := by
  cases d <;> simp only [flatD, Option.some.injEq, reduceCtorEq] at e <;> (subst e; exact r)


section
variable {K : PySem.W.Frag} {g : Gh} {S : Sto} {H : Hp}
mutual
theorem pyD_dp (l : Rl K g S H) : ∀ (d : D) (v : V) (p : PyData), RelD K g d v → pyD d = some p → Dp K H v p
  | .non, _, _, r, e => by cases e; cases r; exact .non
  | .bl b, _, _, r, e => by cases e; cases r; exact .bl b
  | .int i, _, _, r, e => by cases e; cases r; exact .int i
  | .str x, _, _, r, e => by cases e; cases r; exact .str x
  | .tup xs, v, p, r, e => by
    obtain ⟨q, e1, rfl⟩ := Option.map_eq_some_iff.mp (show (pyDs xs).map .tuple = some p by simpa only [pyD] using e)
    obtain ⟨a, vs, rfl, h, rs⟩ := tup_view l r
    exact .tup h (pyDs_dp l xs vs q rs e1)
  | .lst xs, v, p, r, e => by
    obtain ⟨q, e1, rfl⟩ := Option.map_eq_some_iff.mp (show (pyDs xs).map .list = some p by simpa only [pyD] using e)
    obtain ⟨a, vs, rfl, h, rs⟩ := lst_view l r rfl
    exact .lst h (pyDs_dp l xs vs q rs e1)
  | .fz xs, v, p, r, e => by
    obtain ⟨q, e1, rfl⟩ := Option.map_eq_some_iff.mp (show (pyDs xs).map .list = some p by simpa only [pyD] using e)
    obtain ⟨a, vs, rfl, h, rs⟩ := lst_view l r rfl
    exact .lst h (pyDs_dp l xs vs q rs e1)
  | .ty _, _, _, _, e => by simp [pyD] at e
  | .con _, _, _, _, e => by simp [pyD] at e
  | .dic _ _, _, _, _, e => by simp [pyD] at e
  | .ins _ _ _, _, _, _, e => by simp [pyD] at e
  | .ref _, _, _, _, e => by simp [pyD] at e
theorem pyDs_dp (l : Rl K g S H) : ∀ (ds : List D) (vs : List V) (ps : List PyData), RelDs K g ds vs → pyDs ds = some ps → DpAll K H vs ps
  | [], _, _, r, e => by cases r; simp only [pyDs, Option.some.injEq] at e; subst e; exact .nil
  | x :: xs, _, ps, r, e => by
    cases r with
    | cons r1 r2 =>
      simp only [pyDs] at e
      split at e
      · rename_i a b e1 e2
        cases e
        exact .cons (pyD_dp l x _ a r1 e1) (pyDs_dp l xs _ b r2 e2)
      · cases e
end
theorem pyV_dp {d : D} {v : V} {p : PyData} (l : Rl K g S H) (r : RelD K g d v) (e : pyV S d = some p) : Dp K H v p := by
  cases d with
  | ref n =>
    simp only [pyV] at e
    split at e
    · rename_i xs h
      obtain ⟨q, e1, rfl⟩ := Option.map_eq_some_iff.mp e
      obtain ⟨a, vs, rfl, hq, rs⟩ := lst_view (d := .ref n) (xs := xs) l r (by unfold lstOf; simp only [h])
      exact .lst hq (pyDs_dp l xs vs q rs e1)
    · cases e
  | _ => exact pyD_dp l _ _ _ r e
end







def UCmp (K : PySem.W.Frag) (r : R2) (o : Sto → D → D → Option Bool) : Prop :=
  ∀ g S H x y b xv yv (Q : VK), Rl K g S H → RelD K g x xv → RelD K g y yv → o S x y = some b → Q (.bl b) H → r xv yv H Q
theorem UCmp.or {K : PySem.W.Frag} {r r' : R2} {o o' : Sto → D → D → Option Bool} (h : UCmp K r o) (h' : UCmp K r' o') : UCmp K (fun x y H Q => r x y H Q ∨ r' x y H Q) (orB o o') := by
  intro g S H x y d xv yv Q l rx ry e k
  unfold orB at e
  cases q : o S x y with
  | some z =>
    rw [q] at e
    exact .inl (h g S H x y d xv yv Q l rx ry (by rw [q]; exact e) k)
  | none =>
    rw [q] at e
    exact .inr (h' g S H x y d xv yv Q l rx ry e k)
structure CmpU (X : Cx) (op : CmpOp) (o : Sto → D → D → Option Bool) : Prop where
  ex : ∃ r, OpR X (compareOp op) r ∧ UCmp X.K r o
section
variable {X : Cx} {K : PySem.W.Frag}
theorem u_eqF : UCmp K rEq eqFB := by
  intro g S H x y b xv yv Q l rx ry e k
  simp only [eqFB] at e
  split at e
  · rename_i a c h1 h2
    split at e
    · rename_i h
      cases e
      rw [flat_view rx h1, flat_view ry h2]
      exact ⟨h, k⟩
    · cases e
  · cases e
theorem u_neF : UCmp K rNe (notB eqFB) := by
  intro g S H x y b xv yv Q l rx ry e k
  simp only [notB, eqFB] at e
  split at e
  · rename_i a c h1 h2
    split at e
    · rename_i h
      cases e
      rw [flat_view rx h1, flat_view ry h2]
      exact ⟨h, k⟩
    · cases e
  · cases e
theorem u_eqP : UCmp K (rEqD K) eqPB := by
  intro g S H x y b xv yv Q l rx ry e k
  simp only [eqPB] at e
  split at e
  · rename_i a c h1 h2
    split at e
    · rename_i h
      cases e
      exact ⟨a, c, pyV_dp l rx h1, pyV_dp l ry h2, h.1, h.2, k⟩
    · cases e
  · cases e
theorem u_neP : UCmp K (rNeD K) (notB eqPB) := by
  intro g S H x y b xv yv Q l rx ry e k
  simp only [notB, eqPB] at e
  split at e
  · rename_i a c h1 h2
    split at e
    · rename_i h
      cases e
      exact ⟨a, c, pyV_dp l rx h1, pyV_dp l ry h2, h.1, h.2, k⟩
    · cases e
  · cases e
theorem notB_or (f f' : Sto → D → D → Option Bool) : notB (orB f f') = orB (notB f) (notB f') := by
  funext S x y
  unfold notB orB
  cases h : f S x y <;> simp [h]
theorem c_eq (hu : X.A.units + 64 < cLine) : CmpU X .Eq eqB := ⟨_, op_eq.or (op_eqD hu), u_eqF.or u_eqP⟩
theorem c_ne (hu : X.A.units + 64 < cLine) : CmpU X .NotEq (notB eqB) := ⟨_, op_ne.or (op_neD hu), by unfold eqB; rw [notB_or]; exact u_neF.or u_neP⟩
def rStr (p : Str → Str → Bool) : R2 := fun x y H Q => ∃ i j, x = .str i ∧ y = .str j ∧ Q (.bl (p i j)) H
theorem u_lt : UCmp K (fun x y H Q => rI0 (fun i j => .bl (decide (i < j))) x y H Q ∨ rStr (fun i j => decide (i.cps.toList < j.cps.toList)) x y H Q) ltB := by
  intro g S H x y b xv yv Q l rx ry e k
  cases x <;> cases y <;> try (simp [ltB] at e; done)
  all_goals (cases rx; cases ry; cases e)
  · exact .inl ⟨_, _, rfl, rfl, k⟩
  · exact .inr ⟨_, _, rfl, rfl, k⟩
theorem u_gt : UCmp K (fun x y H Q => rI0 (fun i j => .bl (decide (j < i))) x y H Q ∨ rStr (fun i j => decide (j.cps.toList < i.cps.toList)) x y H Q) (swapB ltB) := by
  intro g S H x y b xv yv Q l rx ry e k
  cases x <;> cases y <;> try (simp [ltB, swapB] at e; done)
  all_goals (cases rx; cases ry; cases e)
  · exact .inl ⟨_, _, rfl, rfl, k⟩
  · exact .inr ⟨_, _, rfl, rfl, k⟩
theorem u_le : UCmp K (fun x y H Q => rI0 (fun i j => .bl (decide (i ≤ j))) x y H Q ∨ rStr (fun i j => !decide (j.cps.toList < i.cps.toList)) x y H Q) (notB (swapB ltB)) := by
  intro g S H x y b xv yv Q l rx ry e k
  cases x <;> cases y <;> try (simp [ltB, swapB, notB] at e; done)
  all_goals (cases rx; cases ry; cases e)
  · rename_i i j
    refine .inl ⟨_, _, rfl, rfl, ?_⟩
    have z : decide (i ≤ j) = !decide (j < i) := by
      by_cases h : j < i
      · simp [h]
      · simp [h]; omega
    show Q (.bl (decide (i ≤ j))) H
    rw [z]; exact k
  · exact .inr ⟨_, _, rfl, rfl, k⟩
theorem u_ge : UCmp K (fun x y H Q => rI0 (fun i j => .bl (decide (j ≤ i))) x y H Q ∨ rStr (fun i j => !decide (i.cps.toList < j.cps.toList)) x y H Q) (notB ltB) := by
  intro g S H x y b xv yv Q l rx ry e k
  cases x <;> cases y <;> try (simp [ltB, notB] at e; done)
  all_goals (cases rx; cases ry; cases e)
  · rename_i i j
    refine .inl ⟨_, _, rfl, rfl, ?_⟩
    have z : decide (j ≤ i) = !decide (i < j) := by
      by_cases h : i < j
      · simp [h]
      · simp [h]; omega
    show Q (.bl (decide (j ≤ i))) H
    rw [z]; exact k
  · exact .inr ⟨_, _, rfl, rfl, k⟩
theorem c_lt : CmpU X .Lt ltB := ⟨_, op_lt.or op_lt_str, u_lt⟩
theorem c_gt : CmpU X .Gt (swapB ltB) := ⟨_, op_gt.or op_gt_str, u_gt⟩
theorem c_le : CmpU X .LtE (notB (swapB ltB)) := ⟨_, op_le.or op_le_str, u_le⟩
theorem c_ge : CmpU X .GtE (notB ltB) := ⟨_, op_ge.or op_ge_str, u_ge⟩
def inSB : Sto → D → D → Option Bool := fun _ x y => match x, y with
  | .str a, .str b => some (!(Builtin.Str.occurrences b a 0 b.length 1).isEmpty)
  | _, _ => none

theorem seq_view {g : Gh} {S : Sto} {H : Hp} {d : D} {xs : List D} {v : V} (l : Rl K g S H) (r : RelD K g d v) (e : seqOf S d = some xs) : ∃ a vs, v = .ref a ∧ (SqL K H a vs ∨ SqT K H a vs) ∧ RelDs K g xs vs := by
  cases d with
  | tup ys =>
    cases (Option.some.inj e : ys = xs)
    obtain ⟨a, vs, h1, h2, h3⟩ := tup_view l r
    exact ⟨a, vs, h1, .inr h2, h3⟩
  | _ =>
    obtain ⟨a, vs, h1, h2, h3⟩ := lst_view l r e
    exact ⟨a, vs, h1, .inl h2, h3⟩
def flatDs : List D → Option (List V)
  | [] => some []
  | x :: r => match flatD x, flatDs r with
    | some a, some b => some (a :: b)
    | _, _ => none
theorem flats_view {g : Gh} : ∀ {ds : List D} {vs ws : List V}, RelDs K g ds vs → flatDs ds = some ws → vs = ws
  | _, _, _, .nil, e => by cases e; rfl
  | _, _, _, .cons r t, e => by
    simp only [flatDs] at e
    split at e
    · rename_i a b h1 h2
      cases e
      rw [flat_view r h1, flats_view t h2]
    · cases e
def inFB : Sto → D → D → Option Bool := fun S x y => match flatD x, seqOf S y with
  | some a, some ys => (match flatDs ys with
    | some bs => if flatV a = true ∧ bs.all flatV = true then some (inV a bs) else none
    | none => none)
  | _, _ => none
def inB : Sto → D → D → Option Bool := orB inSB inFB
theorem u_inS : UCmp K (fun x y H Q => ∃ i j, x = .str i ∧ y = .str j ∧ Q (.bl (!(Builtin.Str.occurrences j i 0 j.length 1).isEmpty)) H) inSB := by
  intro g S H x y b xv yv Q l rx ry e k
  cases x <;> cases y <;> try (simp [inSB] at e; done)
  cases rx; cases ry; cases e
  exact ⟨_, _, rfl, rfl, k⟩
theorem u_inF : UCmp K (rIn K false) inFB := by
  intro g S H x y b xv yv Q l rx ry e k
  simp only [inFB] at e
  split at e
  · rename_i a ys h1 h2
    split at e
    · rename_i bs h3
      split at e
      · rename_i h
        cases e
        obtain ⟨p, vs, rfl, hs, rs⟩ := seq_view l ry h2
        have e3 := flats_view rs h3
        subst e3
        rw [flat_view rx h1]
        exact ⟨p, vs, rfl, hs, h.1, h.2, k⟩
      · cases e
    · cases e
  · cases e
theorem c_in : CmpU X .In inB := ⟨_, op_in_str.or op_in_seq, u_inS.or u_inF⟩

theorem isNone_view {g : Gh} {d : D} {v : V} (r : RelD K g d v) : decide (v = .non) = isNone d := by
  cases d with
  | non => cases r; rfl
  | bl b => cases r; rfl
  | int b => cases r; rfl
  | str b => cases r; rfl
  | ty b => cases r; rfl
  | con b => cases r; rfl
  | tup b => obtain ⟨_, a, rfl, _⟩ := r; rfl
  | lst b => obtain ⟨_, a, rfl, _⟩ := r; rfl
  | fz b => obtain ⟨_, a, rfl, _⟩ := r; rfl
  | dic _ b => obtain ⟨_, a, rfl, _⟩ := r; rfl
  | ins _ _ b => obtain ⟨_, a, rfl, _⟩ := r; rfl
  | ref n => obtain ⟨_, rfl⟩ := r; rfl
def refD : D → Bool
  | .non => true
  | .tup _ => true | .lst _ => true | .fz _ => true | .dic _ _ => true | .ins _ _ _ => true
  | .ref _ => true
  | _ => false
theorem refD_view {g : Gh} {d : D} {v : V} (r : RelD K g d v) (h : refD d = true) : v = .non ∨ ∃ a, v = .ref a := by
  cases d with
  | non => exact .inl r
  | tup b => obtain ⟨_, a, rfl, _⟩ := r; exact .inr ⟨a, rfl⟩
  | lst b => obtain ⟨_, a, rfl, _⟩ := r; exact .inr ⟨a, rfl⟩
  | fz b => obtain ⟨_, a, rfl, _⟩ := r; exact .inr ⟨a, rfl⟩
  | dic _ b => obtain ⟨_, a, rfl, _⟩ := r; exact .inr ⟨a, rfl⟩
  | ins _ _ b => obtain ⟨_, a, rfl, _⟩ := r; exact .inr ⟨a, rfl⟩
  | ref n => obtain ⟨_, rfl⟩ := r; exact .inr ⟨_, rfl⟩
  | _ => cases h
def isB : Sto → D → D → Option Bool := fun _ x y => match y with
  | .non => some (isNone x)
  | .bl b => (match x with | .bl a => some (decide (a = b)) | x => if refD x = true then some false else none)
  | _ => none
def rIsO : R2 := fun x y H Q => ∃ b : Bool, y = .bl b ∧ (x = .non ∨ ∃ a, x = .ref a) ∧ Q (.bl false) H
theorem op_isO : OpR X (compareOp .Is) rIsO := by
  intro pins s σ H x y v u Q I rx ry h
  obtain ⟨b, rfl, hx, q⟩ := h
  cases (show u = Value.bool b from ry)
  rcases hx with rfl | ⟨a, rfl⟩
  · cases rx
    exact wpAny_is_other rfl (fun z => by cases z) ⟨.bl false, H, I, rfl, q⟩
  · cases (show v = Value.ref a from rx)
    exact wpAny_is_other rfl (fun z => by cases z) ⟨.bl false, H, I, rfl, q⟩
theorem u_is : UCmp K (fun x y H Q => (y = .non ∧ Q (.bl (decide (x = .non))) H) ∨ (rIsB x y H Q ∨ rIsO x y H Q)) isB := by
  intro g S H x y b xv yv Q l rx ry e k
  cases y with
  | non =>
    cases ry; cases e
    exact .inl ⟨rfl, by rw [isNone_view rx]; exact k⟩
  | bl c =>
    by_cases h : ∃ a, x = .bl a
    · obtain ⟨a, rfl⟩ := h
      cases rx; cases ry; cases e
      exact .inr (.inl ⟨_, _, rfl, rfl, k⟩)
    · have e' : (if refD x = true then some false else none) = some b := by
        cases x <;> first | exact e | exact absurd ⟨_, rfl⟩ h
      split at e'
      · rename_i hr
        cases e'; cases ry
        exact .inr (.inr ⟨_, rfl, refD_view rx hr, k⟩)
      · cases e'
  | _ => cases e
theorem c_is : CmpU X .Is isB := ⟨_, op_isN.or (op_isBl.or op_isO), u_is⟩
end
open PySem PySem.Spec PyProof.Rows

theorem bndL_all {n : Nat} : ∀ {l : List D}, bndL n l = true ↔ ∀ d ∈ l, bnd n d = true
  | [] => by simp [bndL]
  | x :: r => by simp [bndL, bndL_all (l := r)]
section
variable {N : Nat} {S : Sto}
theorem fz_id : ∀ (k : Nat) (d : D), bnd N d = true → fz N S k d = d
  | 0, _, _ => rfl
  | k + 1, d, b => by
    have go : ∀ l : List D, bndL N l = true → l.map (fz N S k) = l := fun l hl => by
      conv => rhs; rw [← List.map_id l]
      exact List.map_congr_left fun x hx => fz_id k x (bndL_all.mp hl x hx)
    cases d with
    | ref n =>
      have h : n < N := by simpa [bnd] using b
      simp [fz, h]
    | tup xs => simp only [fz]; rw [go xs (by simpa [bnd] using b)]
    | lst xs => simp only [fz]; rw [go xs (by simpa [bnd] using b)]
    | fz xs => simp only [fz]; rw [go xs (by simpa [bnd] using b)]
    | dic ks vs =>
      simp only [bnd, Bool.and_eq_true] at b
      simp only [fz]; rw [go ks b.1, go vs b.2]
    | ins C ns vs => simp only [fz]; rw [go vs (by simpa [bnd] using b)]
    | _ => rfl
theorem fz_stable : ∀ (k : Nat) (d : D), bnd N (fz N S k d) = true → fz N S (k + 1) d = fz N S k d
  | 0, d, b => fz_id 1 d b
  | k + 1, d, b => by
    have go : ∀ l : List D, bndL N (l.map (fz N S k)) = true → l.map (fz N S (k + 1)) = l.map (fz N S k) := fun l hl =>
      List.map_congr_left fun x hx => fz_stable k x (bndL_all.mp hl _ (List.mem_map_of_mem hx))
    cases d with
    | ref n =>
      by_cases h : n < N
      · simp [fz, h]
      · have e1 : fz N S (k + 1 + 1) (.ref n) = match S[n]? with
            | some (.lst xs) => .lst (xs.map (fz N S (k + 1)))
            | some (.ins C ns vs) => .ins C ns (vs.map (fz N S (k + 1)))
            | _ => .ref n := by rw [fz, if_neg h]
        have e2 : fz N S (k + 1) (.ref n) = match S[n]? with
            | some (.lst xs) => .lst (xs.map (fz N S k))
            | some (.ins C ns vs) => .ins C ns (vs.map (fz N S k))
            | _ => .ref n := by rw [fz, if_neg h]
        rw [e2] at b
        rw [e1, e2]
        cases q : S[n]? with
        | none => rfl
        | some o =>
          rw [q] at b
          cases o with
          | lst xs => simp only; rw [go xs (by simpa [bnd] using b)]
          | ins C ns vs => simp only; rw [go vs (by simpa [bnd] using b)]
          | dic _ _ => rfl
          | gone => rfl
    | tup xs =>
      show D.tup (xs.map (fz N S (k + 1))) = D.tup (xs.map (fz N S k))
      rw [go xs (by simpa [fz, bnd] using b)]
    | lst xs =>
      show D.lst (xs.map (fz N S (k + 1))) = D.lst (xs.map (fz N S k))
      rw [go xs (by simpa [fz, bnd] using b)]
    | fz xs =>
      show D.fz (xs.map (fz N S (k + 1))) = D.fz (xs.map (fz N S k))
      rw [go xs (by simpa [fz, bnd] using b)]
    | dic ks vs =>
      have b' : bndL N (ks.map (fz N S k)) = true ∧ bndL N (vs.map (fz N S k)) = true := by simpa [fz, bnd] using b
      show D.dic (ks.map (fz N S (k + 1))) (vs.map (fz N S (k + 1))) = D.dic (ks.map (fz N S k)) (vs.map (fz N S k))
      rw [go ks b'.1, go vs b'.2]
    | ins C ns vs =>
      show D.ins C ns (vs.map (fz N S (k + 1))) = D.ins C ns (vs.map (fz N S k))
      rw [go vs (by simpa [fz, bnd] using b)]
    | _ => rfl
theorem fz_le {k j : Nat} {d : D} (h : k ≤ j) (b : bnd N (fz N S k d) = true) : fz N S j d = fz N S k d := by
  induction h with
  | refl => rfl
  | step h ih => rw [← ih]; exact fz_stable _ d (by rw [ih]; exact b)
theorem fz_eq {k j : Nat} {d : D} (b : bnd N (fz N S k d) = true) (b' : bnd N (fz N S j d) = true) : fz N S k d = fz N S j d := by
  rcases Nat.le_total k j with h | h
  · exact (fz_le h b).symm
  · exact fz_le h b'
end

mutual
theorem kRep_bnd {K : PySem.W.Frag} : ∀ (f : Nat) (d : D) (u : Value), kRep K f d u = true → bnd 0 d = true
  | 0, _, _, h => by simp [kRep] at h
  | f + 1, .non, _, _ => rfl
  | f + 1, .bl _, _, _ => rfl
  | f + 1, .int _, _, _ => rfl
  | f + 1, .str _, _, _ => rfl
  | f + 1, .ty _, _, _ => rfl
  | f + 1, .con _, _, _ => rfl
  | f + 1, .tup ds, u, h => by
    cases u <;> try (simp [kRep] at h; done)
    unfold kRep at h
    split at h
    · simp only [Bool.and_eq_true] at h
      simp only [bnd]
      exact kReps_bnd f ds _ h.2.2
    · cases h
  | f + 1, .fz ds, u, h => by
    cases u <;> try (simp [kRep] at h; done)
    unfold kRep at h
    split at h
    · simp only [Bool.and_eq_true] at h
      simp only [bnd]
      exact kReps_bnd f ds _ h.2.2
    · cases h
  | f + 1, .lst _, u, h => by cases u <;> simp [kRep] at h
  | f + 1, .dic _ _, u, h => by cases u <;> simp [kRep] at h
  | f + 1, .ins _ _ _, u, h => by cases u <;> simp [kRep] at h
  | f + 1, .ref _, u, h => by cases u <;> simp [kRep] at h
theorem kReps_bnd {K : PySem.W.Frag} : ∀ (f : Nat) (ds : List D) (us : List Value), kReps K f ds us = true → bndL 0 ds = true
  | 0, _, _, h => by simp [kReps] at h
  | f + 1, [], _, _ => rfl
  | f + 1, d :: ds, [], h => by simp [kReps] at h
  | f + 1, d :: ds, u :: us, h => by
    simp only [kReps, Bool.and_eq_true] at h
    simp only [bndL, Bool.and_eq_true]
    exact ⟨kRep_bnd f d u h.1, kReps_bnd f ds us h.2⟩
end
section
variable {K : PySem.W.Frag} {g g0 g1 : Gh} {S S1 : Sto} {H H1 : Hp} {N : Nat}
theorem IRep.bnd {a : Addr} {d : D} (h : IRep K g H a d) : U.bnd g.sz d = true := by
  cases d with
  | tup ds => obtain ⟨vs, e1, r⟩ := h; simp only [U.bnd]; exact r.bnd
  | lst ds => obtain ⟨vs, e1, r⟩ := h; simp only [U.bnd]; exact r.bnd
  | fz ds => obtain ⟨vs, e1, r⟩ := h; simp only [U.bnd]; exact r.bnd
  | ins C ns ds => obtain ⟨dx, vs, e1, l, r⟩ := h; simp only [U.bnd]; exact r.bnd
  | dic ks vs => exact dicB_bnd h.1
  | _ => exact h.elim
open Classical in
noncomputable def Gh.settled (g1 : Gh) (N : Nat) (S1 : Sto) : Gh where
  G := fun a => match g1.G a with
    | some e => if h : ∃ k, bnd N (fz N S1 k e) = true then some (fz N S1 h.choose e) else none
    | none => if h : ∃ n : Nat, ∃ k : Nat, N ≤ n ∧ (∃ o, S1[n]? = some o ∧ o ≠ AO.gone) ∧ g1.m n = a ∧ bnd N (fz N S1 k (.ref n)) = true then
        some (fz N S1 h.choose_spec.choose (.ref h.choose)) else none
  m := g1.m
  sz := N
  F := g1.F
open Classical in
theorem settled_some {a : Addr} {e : D} {k : Nat} (h : g1.G a = some e) (b : bnd N (fz N S1 k e) = true) : (g1.settled N S1).G a = some (fz N S1 k e) := by
  show (match g1.G a with
    | some e => if h : ∃ k, bnd N (fz N S1 k e) = true then some (fz N S1 h.choose e) else none
    | none => _) = _
  rw [h]
  have q : ∃ k, bnd N (fz N S1 k e) = true := ⟨k, b⟩
  simp only
  rw [dif_pos q]
  exact congrArg some (fz_eq q.choose_spec b)
open Classical in
theorem settled_ref (l : Rl K g1 S1 H1) {n k : Nat} {o : AO} (hn : N ≤ n) (h : S1[n]? = some o) (ho : o ≠ AO.gone) (b : bnd N (fz N S1 k (.ref n)) = true) : (g1.settled N S1).G (g1.m n) = some (fz N S1 k (.ref n)) := by
  show (match g1.G (g1.m n) with
    | some e => _
    | none => if h : ∃ n' : Nat, ∃ k : Nat, N ≤ n' ∧ (∃ o, S1[n']? = some o ∧ o ≠ AO.gone) ∧ g1.m n' = g1.m n ∧ bnd N (fz N S1 k (.ref n')) = true then
        some (fz N S1 h.choose_spec.choose (.ref h.choose)) else none) = _
  rw [(l.sto n o h ho).1]
  have q : ∃ n' : Nat, ∃ k : Nat, N ≤ n' ∧ (∃ o, S1[n']? = some o ∧ o ≠ AO.gone) ∧ g1.m n' = g1.m n ∧ bnd N (fz N S1 k (.ref n')) = true := ⟨n, k, hn, ⟨o, h, ho⟩, rfl, b⟩
  simp only
  rw [dif_pos q]
  obtain ⟨c1, ⟨o', c2, c3⟩, c4, c5⟩ := q.choose_spec.choose_spec
  have e : q.choose = n := l.inj _ _ o' o c2 c3 h ho c4
  have : ∀ (j : Nat), bnd N (fz N S1 j (.ref q.choose)) = true → fz N S1 j (.ref q.choose) = fz N S1 k (.ref n) := fun j hj => by
    rw [e] at hj ⊢
    exact fz_eq hj b
  exact congrArg some (this _ c5)
theorem settled_rel (l : Rl K g1 S1 H1) (hN : N ≤ g1.sz) : ∀ {k : Nat} {d : D} {v : V}, RelD K g1 d v → bnd N (fz N S1 k d) = true → RelD K (g1.settled N S1) (fz N S1 k d) v := by
  intro k d v r b
  have comp_ : ∀ (xs : List D) (mk : List D → D), (∀ j, fz N S1 (j + 1) (mk xs) = mk (xs.map (fz N S1 j))) → True := fun _ _ _ => trivial
  cases d with
  | non => rw [fz_id k _ rfl]; exact r
  | bl x => rw [fz_id k _ rfl]; exact r
  | int x => rw [fz_id k _ rfl]; exact r
  | str x => rw [fz_id k _ rfl]; exact r
  | ty x => rw [fz_id k _ rfl]; exact r
  | con x => rw [fz_id k _ rfl]; exact r
  | ref n =>
    by_cases h : n < N
    · rw [fz_id k _ (by simp [bnd, h])]
      exact ⟨h, r.2⟩
    · have hS : n < S1.length := by have := r.1; rw [l.sz] at this; exact this
      cases k with
      | zero => simp [fz, bnd] at b; exact absurd b h
      | succ k =>
        have e2 : fz N S1 (k + 1) (.ref n) = match S1[n]? with
            | some (.lst xs) => .lst (xs.map (fz N S1 k))
            | some (.ins C ns vs) => .ins C ns (vs.map (fz N S1 k))
            | _ => .ref n := by rw [fz, if_neg h]
        cases q : S1[n]? with
        | none => rw [e2, q] at b; simp [bnd] at b; exact absurd b h
        | some o =>
          cases o with
          | lst xs =>
            have G := settled_ref l (Nat.le_of_not_lt h) q (by intro z; cases z) b
            rw [q] at e2
            simp only at e2
            rw [e2] at G b ⊢
            exact ⟨(by have b' := b; simp only [bnd] at b'; exact b'), g1.m n, r.2, G⟩
          | ins C ns vs =>
            have G := settled_ref l (Nat.le_of_not_lt h) q (by intro z; cases z) b
            rw [q] at e2
            simp only at e2
            rw [e2] at G b ⊢
            exact ⟨(by have b' := b; simp only [bnd] at b'; exact b'), g1.m n, r.2, G⟩
          | dic _ _ => rw [e2, q] at b; simp [bnd] at b; exact absurd b h
          | gone => rw [e2, q] at b; simp [bnd] at b; exact absurd b h
  | tup xs =>
    obtain ⟨bd, a, rfl, q | ⟨f, q⟩⟩ := r
    · have G := settled_some (N := N) (S1 := S1) q b
      cases k with
      | zero => exact ⟨(by have b' := b; simp only [fz, bnd] at b'; exact b'), a, rfl, .inl G⟩
      | succ k => exact ⟨(by have b' := b; simp only [fz, bnd] at b'; exact b'), a, rfl, .inl G⟩
    · have b0 := kRep_bnd f _ _ q
      rw [fz_id k _ (bnd_mono (Nat.zero_le _) _ b0)]
      exact ⟨(by have b' := bnd_mono (Nat.zero_le N) _ b0; simp only [bnd] at b'; exact b'), a, rfl, .inr ⟨f, q⟩⟩
  | fz xs =>
    obtain ⟨bd, a, rfl, q | ⟨f, q⟩⟩ := r
    · have G := settled_some (N := N) (S1 := S1) q b
      cases k with
      | zero => exact ⟨(by have b' := b; simp only [fz, bnd] at b'; exact b'), a, rfl, .inl G⟩
      | succ k => exact ⟨(by have b' := b; simp only [fz, bnd] at b'; exact b'), a, rfl, .inl G⟩
    · have b0 := kRep_bnd f _ _ q
      rw [fz_id k _ (bnd_mono (Nat.zero_le _) _ b0)]
      exact ⟨(by have b' := bnd_mono (Nat.zero_le N) _ b0; simp only [bnd] at b'; exact b'), a, rfl, .inr ⟨f, q⟩⟩
  | lst xs =>
    obtain ⟨bd, a, rfl, q⟩ := r
    have G := settled_some (N := N) (S1 := S1) q b
    cases k with
    | zero => exact ⟨(by have b' := b; simp only [fz, bnd] at b'; exact b'), a, rfl, G⟩
    | succ k => exact ⟨(by have b' := b; simp only [fz, bnd] at b'; exact b'), a, rfl, G⟩
  | dic ks vs =>
    obtain ⟨bd, a, rfl, q⟩ := r
    have G := settled_some (N := N) (S1 := S1) q b
    cases k with
    | zero => exact ⟨(by have b' := b; simp only [fz, bnd] at b'; exact b'), a, rfl, G⟩
    | succ k => exact ⟨(by have b' := b; simp only [fz, bnd] at b'; exact b'), a, rfl, G⟩
  | ins C ns vs =>
    obtain ⟨bd, a, rfl, q⟩ := r
    have G := settled_some (N := N) (S1 := S1) q b
    cases k with
    | zero => exact ⟨(by have b' := b; simp only [fz, bnd] at b'; exact b'), a, rfl, G⟩
    | succ k => exact ⟨(by have b' := b; simp only [fz, bnd] at b'; exact b'), a, rfl, G⟩
theorem settled_rels (l : Rl K g1 S1 H1) (hN : N ≤ g1.sz) {k : Nat} : ∀ {ds : List D} {vs : List V}, RelDs K g1 ds vs → bndL N (ds.map (fz N S1 k)) = true → RelDs K (g1.settled N S1) (ds.map (fz N S1 k)) vs
  | _, _, .nil, _ => .nil
  | _, _, .cons r t, b => by
    simp only [List.map_cons, bndL, Bool.and_eq_true] at b
    exact .cons (settled_rel l hN r b.1) (settled_rels l hN t b.2)
open Classical in
theorem settle (l : Rl K g1 S1 H1) (e : Ext g0 g1) (h0 : g0.sz = N) (b0 : ∀ a d, g0.G a = some d → bnd N d = true) (hS : ∀ (n : Nat) (o : AO), n < N → S1[n]? = some o → bndO N o = true) :
    Ext g0 (g1.settled N S1) ∧ Rl K (g1.settled N S1) (S1.take N) H1 := by
  have hN : N ≤ g1.sz := by rw [← h0]; exact e.sz
  have irep : ∀ {a : Addr} {d : D} {k : Nat}, IRep K g1 H1 a d → bnd N (fz N S1 k d) = true → IRep K (g1.settled N S1) H1 a (fz N S1 k d) := fun {a d k} h b => by
    have up : ∀ {ds : List D} {vs : List V} {k : Nat}, RelDs K g1 ds vs → bndL N (ds.map (fz N S1 k)) = true → RelDs K (g1.settled N S1) (ds.map (fz N S1 k)) vs := fun r b => settled_rels l hN r b
    have z0 : ∀ {ds : List D}, ds.map (fz N S1 0) = ds := fun {ds} => by
      conv => rhs; rw [← List.map_id ds]
      exact List.map_congr_left fun x _ => rfl
    cases d with
    | tup ds =>
      obtain ⟨vs, e1, r⟩ := h
      cases k with
      | zero => exact ⟨vs, e1, by have := up (k := 0) r (by rw [z0]; simpa [fz, bnd] using b); rwa [z0] at this⟩
      | succ k => exact ⟨vs, e1, up r (by simpa [fz, bnd] using b)⟩
    | lst ds =>
      obtain ⟨vs, e1, r⟩ := h
      cases k with
      | zero => exact ⟨vs, e1, by have := up (k := 0) r (by rw [z0]; simpa [fz, bnd] using b); rwa [z0] at this⟩
      | succ k => exact ⟨vs, e1, up r (by simpa [fz, bnd] using b)⟩
    | fz ds =>
      obtain ⟨vs, e1, r⟩ := h
      cases k with
      | zero => exact ⟨vs, e1, by have := up (k := 0) r (by rw [z0]; simpa [fz, bnd] using b); rwa [z0] at this⟩
      | succ k => exact ⟨vs, e1, up r (by simpa [fz, bnd] using b)⟩
    | ins C ns ds =>
      obtain ⟨dx, vs, e1, ln, r⟩ := h
      cases k with
      | zero => exact ⟨dx, vs, e1, ln, by have := up (k := 0) r (by rw [z0]; simpa [fz, bnd] using b); rwa [z0] at this⟩
      | succ k => exact ⟨dx, vs, e1, by rw [List.length_map]; exact ln, up r (by simpa [fz, bnd] using b)⟩
    | dic ks vs =>
      have shut0 : bnd 0 (.dic ks vs) = true → IRep K (g1.settled N S1) H1 a (fz N S1 k (.dic ks vs)) := fun hb0 => by
        rw [fz_id k _ (bnd_mono (Nat.zero_le N) _ hb0)]
        refine ⟨dicB_of0 hb0, DRep.over hb0 (fun a d q hb => ?_) (fun d v r hb => ?_) (fun _ q => q) h.2⟩
        · have hN0 := bnd_mono (Nat.zero_le N) _ hb
          have := settled_some (N := N) (S1 := S1) (k := 0) q (by rw [fz_id 0 d hN0]; exact hN0)
          rwa [fz_id 0 d hN0] at this
        · have hN0 := bnd_mono (Nat.zero_le N) _ hb
          have := settled_rel l hN (k := 0) r (by rw [fz_id 0 d hN0]; exact hN0)
          rwa [fz_id 0 d hN0] at this
      by_cases o : openK ks = true
      · -- what is of the store
        have hk : ∀ (ks : List D), openK ks = true → bndL 0 ks = true ∧ ∀ j, ks.map (fz N S1 j) = ks := fun ks o => by
          unfold openK at o
          split at o
          · exact ⟨rfl, fun j => by cases j <;> rfl⟩
          · exact ⟨rfl, fun j => by cases j <;> rfl⟩
          · cases o
        have lam : ∀ {i b : Int}, LamR g1 H1 a i b → LamR (g1.settled N S1) H1 a i b := fun h => LamR.stay (fun a d q hb => by
          have hN0 := bnd_mono (Nat.zero_le N) _ hb
          have := settled_some (N := N) (S1 := S1) (k := 0) q (by rw [fz_id 0 d hN0]; exact hN0)
          rwa [fz_id 0 d hN0] at this) (fun _ q => q) h
        have cel : ∀ {c : Addr} {d : D} {j : Nat}, g1.G c = some (celD d) → bnd N (fz N S1 j d) = true → (g1.settled N S1).G c = some (celD (fz N S1 j d)) := fun {c d j} q hb => by
          have e0 : fz N S1 (j + 1) (celD d) = celD (fz N S1 j d) := by
            show D.dic _ _ = D.dic _ _
            rw [(hk [.bl false] rfl).2 j]; rfl
          have := settled_some (N := N) (S1 := S1) (k := j + 1) q (by rw [e0]; simp [celD, bnd, bndL, hb])
          rwa [e0] at this
        obtain ⟨k', hf⟩ : ∃ k', fz N S1 k (.dic ks vs) = .dic ks (vs.map (fz N S1 k')) := by
          cases k with
          | zero => exact ⟨0, by rw [z0]; rfl⟩
          | succ k => exact ⟨k, by show D.dic (ks.map (fz N S1 k)) _ = _; rw [(hk ks o).2 k]⟩
        rw [hf] at b ⊢
        have bv : bndL N (vs.map (fz N S1 k')) = true := by
          simp only [bnd, Bool.and_eq_true] at b
          exact b.2
        have hB : dicB (g1.settled N S1).sz ks (vs.map (fz N S1 k')) = true := by
          unfold dicB
          rw [if_pos o, (hk ks o).1]
          exact bv
        refine ⟨hB, ?_⟩
        have h2 := h.2
        unfold openK at o
        split at o
        · match vs, h2, bv with
          | [d], h2, bv =>
            obtain ⟨ob, u, v, e1, e2, e3, e4⟩ := h2
            have bd : bnd N (fz N S1 k' d) = true := by simpa [bndL] using bv
            exact ⟨ob, u, v, e1, e2, e3, settled_rel l hN e4 bd⟩
          | [], h2, _ => exact h2.elim
          | _ :: _ :: _, h2, _ => exact h2.elim
        · have h2 : LamR g1 H1 a _ _ ∧ CelR g1 _ _ vs := h2
          obtain ⟨h1, lk, q1, q2, q3⟩ := h2
          refine ⟨lam h1, lk, q1, by rw [List.length_map]; exact q2, fun j y d e1 e2 => ?_⟩
          rw [List.getElem?_map] at e2
          cases q : vs[j]? with
          | none => rw [q] at e2; cases e2
          | some d0 =>
            rw [q] at e2; cases e2
            obtain ⟨c, c1, c2⟩ := q3 j y d0 e1 q
            exact ⟨c, c1, cel c2 (bndL_all.mp bv _ (List.mem_map_of_mem (List.mem_of_getElem? q)))⟩
        · cases o
      · exact shut0 (dicB_shut h.1 (by simpa using o))
    | _ => exact h.elim
  refine ⟨⟨fun a d q => ?_, by rw [h0]; exact Nat.le_refl _, fun n hn => e.m n hn, e.F⟩, ⟨fun a d q => ?_, fun n o q ho => ?_, fun i j oi oj q1 n1 q2 n2 z => ?_, ?_, fun a o q => ?_⟩⟩
  · have q1 := e.G a d q
    have b := b0 a d q
    have := settled_some (N := N) (S1 := S1) (k := 0) q1 b
    rwa [fz_id 0 d b] at this
  · have q' : (match g1.G a with
      | some e => if h : ∃ k, bnd N (fz N S1 k e) = true then some (fz N S1 h.choose e) else none
      | none => if h : ∃ n : Nat, ∃ k : Nat, N ≤ n ∧ (∃ o, S1[n]? = some o ∧ o ≠ AO.gone) ∧ g1.m n = a ∧ bnd N (fz N S1 k (.ref n)) = true then
          some (fz N S1 h.choose_spec.choose (.ref h.choose)) else none) = some d := q
    cases w : g1.G a with
    | some e2 =>
      rw [w] at q'
      simp only at q'
      split at q'
      · rename_i h
        cases q'
        exact irep (l.imm a e2 w) h.choose_spec
      · cases q'
    | none =>
      rw [w] at q'
      simp only at q'
      split at q'
      · rename_i h
        cases q'
        obtain ⟨c1, ⟨o, c2, c3⟩, c4, c5⟩ := h.choose_spec.choose_spec
        generalize h.choose_spec.choose = k at c5 ⊢
        generalize h.choose = n at c1 c2 c4 c5 ⊢
        subst c4
        have hnN : ¬ n < N := Nat.not_lt.mpr c1
        have M := (l.sto n o c2 c3).2
        cases k with
        | zero => simp [fz, bnd] at c5; exact absurd c5 hnN
        | succ k =>
          have e2 : fz N S1 (k + 1) (.ref n) = match S1[n]? with
              | some (.lst xs) => .lst (xs.map (fz N S1 k))
              | some (.ins C ns vs) => .ins C ns (vs.map (fz N S1 k))
              | _ => .ref n := by rw [fz, if_neg hnN]
          rw [c2] at e2
          cases o with
          | lst xs =>
            simp only at e2
            rw [e2] at c5 ⊢
            obtain ⟨vs, e3, r⟩ := M
            exact ⟨vs, e3, settled_rels l hN r (by simpa [bnd] using c5)⟩
          | ins C ns xs =>
            simp only at e2
            rw [e2] at c5 ⊢
            obtain ⟨dx, vs, e3, ln, r⟩ := M
            exact ⟨dx, vs, e3, by rw [List.length_map]; exact ln, settled_rels l hN r (by simpa [bnd] using c5)⟩
          | dic _ _ =>
            simp only at e2
            rw [e2] at c5
            simp [bnd] at c5
            exact absurd c5 hnN
          | gone => exact absurd rfl c3
      · cases q'
  · have hn : n < N := by
      by_cases h : n < N
      · exact h
      · rw [List.getElem?_eq_none (by rw [List.length_take]; omega)] at q; cases q
    rw [List.getElem?_take_of_lt hn] at q
    obtain ⟨m1, m2⟩ := l.sto n o q ho
    refine ⟨?_, ?_⟩
    · show (match g1.G (g1.m n) with
        | some e => _
        | none => if h : ∃ n' : Nat, ∃ k : Nat, N ≤ n' ∧ (∃ o, S1[n']? = some o ∧ o ≠ AO.gone) ∧ g1.m n' = g1.m n ∧ bnd N (fz N S1 k (.ref n')) = true then
            some (fz N S1 h.choose_spec.choose (.ref h.choose)) else none) = none
      rw [m1]
      simp only
      rw [dif_neg]
      rintro ⟨n', k, c1, ⟨o', c2, c3⟩, c4, _⟩
      have := l.inj n' n o' o c2 c3 q ho c4
      omega
    · have bo := hS n o hn q
      have up : ∀ {ds : List D} {vs : List V}, RelDs K g1 ds vs → bndL N ds = true → RelDs K (g1.settled N S1) ds vs := fun {ds vs} r b => by
        have z0 : ds.map (fz N S1 0) = ds := by
          conv => rhs; rw [← List.map_id ds]
          exact List.map_congr_left fun x _ => rfl
        have := settled_rels l hN (k := 0) r (by rw [z0]; exact b)
        rwa [z0] at this
      cases o with
      | lst xs => obtain ⟨vs, e3, r⟩ := m2; exact ⟨vs, e3, up r bo⟩
      | ins C ns xs => obtain ⟨dx, vs, e3, ln, r⟩ := m2; exact ⟨dx, vs, e3, ln, up r bo⟩
      | dic ks ds =>
        obtain ⟨kk, vs, e0, e3, ln, r⟩ := m2
        exact ⟨kk, vs, e0, e3, ln, up r (Bool.and_eq_true_iff.mp (show (bndL N ks && bndL N ds) = true from bo)).2⟩
      | gone => trivial
  · have f : ∀ {i : Nat} {o : AO}, (S1.take N)[i]? = some o → S1[i]? = some o := fun {i o} w => by
      by_cases h : i < N
      · rwa [List.getElem?_take_of_lt h] at w
      · rw [List.getElem?_eq_none (by rw [List.length_take]; omega)] at w; cases w
    exact l.inj i j oi oj (f q1) n1 (f q2) n2 z
  · show N = _
    rw [List.length_take, ← l.sz]; omega
  · obtain ⟨x1, x2, x3⟩ := l.fr a o q
    refine ⟨x1, ?_, fun n ob w hw => ?_⟩
    · show (match g1.G a with
        | some e => _
        | none => if h : ∃ n' : Nat, ∃ k : Nat, N ≤ n' ∧ (∃ o, S1[n']? = some o ∧ o ≠ AO.gone) ∧ g1.m n' = a ∧ bnd N (fz N S1 k (.ref n')) = true then
            some (fz N S1 h.choose_spec.choose (.ref h.choose)) else none) = none
      rw [x2]
      simp only
      rw [dif_neg]
      rintro ⟨n', k, c1, ⟨o', c2, c3⟩, c4, _⟩
      exact x3 n' o' c2 c3 c4
    · have f : S1[n]? = some ob := by
        by_cases h : n < N
        · rwa [List.getElem?_take_of_lt h] at w
        · rw [List.getElem?_eq_none (by rw [List.length_take]; omega)] at w; cases w
      exact x3 n ob f hw
end
def Gh.pureAt (g : Gh) (a : Addr) : Option D := match g.G a with
  | some d => if bnd 0 d = true then some d else none
  | none => none
def Gh.sealed (g : Gh) (H : Hp) : Gh where
  G := g.pureAt
  m := g.m
  sz := 0
  F := fun a => match g.pureAt a with
    | some _ => none
    | none => match g.F a with
      | some o => some o
      | none => match H a with
        | some (.tbl _) => none
        | o => o
def Gh.opened (g g1 : Gh) : Gh where
  G := fun a => match g.G a with
    | some e => some e
    | none => g1.pureAt a
  m := g.m
  sz := g.sz
  F := g.F
section
variable {K : PySem.W.Frag} {g g1 : Gh} {S S1 : Sto} {H H1 : Hp}
theorem pureAt_some {a : Addr} {d : D} : g.pureAt a = some d ↔ g.G a = some d ∧ bnd 0 d = true := by
  unfold Gh.pureAt
  cases q : g.G a with
  | none => simp
  | some e =>
    by_cases b : bnd 0 e = true
    · simp only [b, if_true, Option.some.injEq]
      exact ⟨fun z => ⟨z, by rw [← z]; exact b⟩, fun z => z.1⟩
    · simp only [b, reduceCtorEq, Option.some.injEq, false_iff, Bool.false_eq_true, if_false]
      rintro ⟨z, b'⟩
      rw [z] at b; exact b b'
theorem relD_over (hp : ∀ a d, g.G a = some d → bnd 0 d = true → g1.G a = some d) {d : D} {v : V} (r : RelD K g d v) (b : bnd 0 d = true) : RelD K g1 d v := by
  cases d with
  | ref n => simp [bnd] at b
  | tup xs =>
    obtain ⟨_, a, e, q⟩ := r
    exact ⟨bndL_mono (Nat.zero_le _) _ (by simpa [bnd] using b), a, e, q.imp (fun z => hp a _ z b) id⟩
  | fz xs =>
    obtain ⟨_, a, e, q⟩ := r
    exact ⟨bndL_mono (Nat.zero_le _) _ (by simpa [bnd] using b), a, e, q.imp (fun z => hp a _ z b) id⟩
  | lst xs =>
    obtain ⟨_, a, e, q⟩ := r
    exact ⟨bndL_mono (Nat.zero_le _) _ (by simpa [bnd] using b), a, e, hp a _ q b⟩
  | dic ks vs =>
    obtain ⟨_, a, e, q⟩ := r
    have b' := b
    simp only [bnd, Bool.and_eq_true] at b'
    refine ⟨?_, a, e, hp a _ q b⟩
    simp only [Bool.and_eq_true]
    exact ⟨bndL_mono (Nat.zero_le _) _ b'.1, bndL_mono (Nat.zero_le _) _ b'.2⟩
  | ins C ns vs =>
    obtain ⟨_, a, e, q⟩ := r
    exact ⟨bndL_mono (Nat.zero_le _) _ (by simpa [bnd] using b), a, e, hp a _ q b⟩
  | _ => exact r
theorem relDs_over (hp : ∀ a d, g.G a = some d → bnd 0 d = true → g1.G a = some d) : ∀ {ds : List D} {vs : List V}, RelDs K g ds vs → bndL 0 ds = true → RelDs K g1 ds vs
  | _, _, .nil, _ => .nil
  | _, _, .cons r t, b => by
    simp only [bndL, Bool.and_eq_true] at b
    exact .cons (relD_over hp r b.1) (relDs_over hp t b.2)
theorem iRep_over (hp : ∀ a d, g.G a = some d → bnd 0 d = true → g1.G a = some d) {a : Addr} {d : D} (h : IRep K g H a d) (b : bnd 0 d = true) : IRep K g1 H a d := by
  cases d with
  | tup ds => obtain ⟨vs, e1, r⟩ := h; exact ⟨vs, e1, relDs_over hp r (by simpa [bnd] using b)⟩
  | lst ds => obtain ⟨vs, e1, r⟩ := h; exact ⟨vs, e1, relDs_over hp r (by simpa [bnd] using b)⟩
  | fz ds => obtain ⟨vs, e1, r⟩ := h; exact ⟨vs, e1, relDs_over hp r (by simpa [bnd] using b)⟩
  | ins C ns ds => obtain ⟨dx, vs, e1, ln, r⟩ := h; exact ⟨dx, vs, e1, ln, relDs_over hp r (by simpa [bnd] using b)⟩
  | dic ks vs => exact ⟨dicB_of0 b, DRep.over b hp (fun d v r hb => relD_over hp r hb) (fun _ q => q) h.2⟩
  | _ => exact h.elim
theorem iRep_notbl {a : Addr} {d : D} (h : IRep K g H a d) (np : ¬ bnd 0 d = true) : ∃ o, H a = some o ∧ ∀ ps, o ≠ .tbl ps := by
  cases d with
  | tup ds => obtain ⟨vs, e1, r⟩ := h; exact ⟨_, e1, fun _ z => by cases z⟩
  | lst ds => obtain ⟨vs, e1, r⟩ := h; exact ⟨_, e1, fun _ z => by cases z⟩
  | fz ds =>
    obtain ⟨vs, e | ⟨o, e⟩, r⟩ := h
    · exact ⟨_, e, fun _ z => by cases z⟩
    · exact ⟨_, e, fun _ z => by cases z⟩
  | ins C ns ds => obtain ⟨dx, vs, e1, ln, r⟩ := h; exact ⟨_, e1, fun _ z => by cases z⟩
  | dic ks vs =>
    by_cases o : openK ks = true
    · have h2 := h.2
      unfold DRep at h2
      split at h2
      · cases o
      · cases o
      · cases o
      · cases o
      · obtain ⟨_, u, v, e1, _⟩ := h2; exact ⟨_, e1, fun _ z => by cases z⟩
      · cases o
      · obtain ⟨⟨lk, pm, doc, c, ctv, dV, e1, e2, e3, e4⟩, _⟩ := h2; exact ⟨_, e3, fun _ z => by cases z⟩
      · exact h2.elim
    · exact absurd (show bnd 0 (.dic ks vs) = true from dicB_shut h.1 (by simpa using o)) np
  | _ => exact h.elim
theorem mRep_notbl {a : Addr} {o : AO} (h : MRep K g H a o) (n : o ≠ .gone) : ∃ u, H a = some u ∧ ∀ ps, u ≠ .tbl ps := by
  cases o with
  | lst ds => obtain ⟨vs, e1, r⟩ := h; exact ⟨_, e1, fun _ z => by cases z⟩
  | ins C ns ds => obtain ⟨dx, vs, e1, ln, r⟩ := h; exact ⟨_, e1, fun _ z => by cases z⟩
  | dic ks ds => obtain ⟨kk, vs, e0, e1, ln, r⟩ := h; exact ⟨_, e1, fun _ z => by cases z⟩
  | gone => exact absurd rfl n
theorem sealed_G {a : Addr} {d : D} : (g.sealed H).G a = some d ↔ g.G a = some d ∧ bnd 0 d = true := pureAt_some
theorem sealed_F {a : Addr} {o : HO} (hp : g.pureAt a = none) (h : H a = some o) (hf : g.F a = none ∨ g.F a = some o) (nt : ∀ ps, o ≠ .tbl ps) : (g.sealed H).F a = some o := by
  unfold Gh.sealed
  simp only [hp]
  rcases hf with hf | hf
  · simp only [hf, h]
    cases o <;> first | rfl | (rename_i ps; exact absurd rfl (nt ps))
  · simp only [hf]
theorem shut (l : Rl K g S H) : Rl K (g.sealed H) [] H := by
  have hp : ∀ a d, g.G a = some d → bnd 0 d = true → (g.sealed H).G a = some d := fun a d q b => sealed_G.mpr ⟨q, b⟩
  refine ⟨fun a d q => ?_, fun n o q => by simp at q, fun i j oi oj q => by simp at q, rfl, fun a o q => ?_⟩
  · obtain ⟨q1, q2⟩ := sealed_G.mp q
    exact iRep_over hp (l.imm a d q1) q2
  · have q' : (match g.pureAt a with
      | some _ => none
      | none => match g.F a with
        | some o => some o
        | none => match H a with
          | some (.tbl _) => none
          | o => o) = some o := q
    split at q'
    · cases q'
    · rename_i hn
      refine ⟨?_, hn, fun n ob w => by simp at w⟩
      split at q'
      · rename_i o' hf
        cases q'
        exact (l.fr a o hf).1
      · split at q'
        · cases q'
        · exact q'
theorem sealed_rels {ds : List D} {vs : List V} (r : RelDs K g ds vs) (b : bndL 0 ds = true) : RelDs K (g.sealed H) ds vs := relDs_over (fun _ _ q b => sealed_G.mpr ⟨q, b⟩) r b
theorem opened_ext : Ext g (g.opened g1) := ⟨fun a d q => by
  show (match g.G a with
    | some e => some e
    | none => g1.pureAt a) = some d
  rw [q], Nat.le_refl _, fun _ _ => rfl, rfl⟩
theorem reopen (l : Rl K g S H) (e : Ext (g.sealed H) g1) (l1 : Rl K g1 S1 H1) : Rl K (g.opened g1) S H1 ∧ ∀ a d, g1.G a = some d → bnd 0 d = true → (g.opened g1).G a = some d := by
  -- what is not pure stands as it stood
  have aside : ∀ {a : Addr} {o : HO}, g.pureAt a = none → H a = some o → (g.F a = none ∨ g.F a = some o) → (∀ ps, o ≠ .tbl ps) → H1 a = some o ∧ g1.G a = none := fun {a o} hp h hf nt => by
    have q : g1.F a = some o := by rw [e.F]; exact sealed_F hp h hf nt
    obtain ⟨x1, x2, _⟩ := l1.fr a o q
    exact ⟨x1, x2⟩
  have noF : ∀ {a : Addr} {d : D}, g.G a = some d → g.F a = none := fun {a d} q => by
    cases w : g.F a with
    | none => rfl
    | some o =>
      have := (l.fr a o w).2.1
      rw [q] at this; cases this
  have hp : ∀ a d, g1.G a = some d → bnd 0 d = true → (g.opened g1).G a = some d := fun a d q b => by
    show (match g.G a with
      | some e => some e
      | none => g1.pureAt a) = some d
    cases w : g.G a with
    | none => exact pureAt_some.mpr ⟨q, b⟩
    | some d' =>
      by_cases b' : bnd 0 d' = true
      · have := e.G a d' (sealed_G.mpr ⟨w, b'⟩)
        rw [q] at this
        exact this.symm ▸ rfl
      · obtain ⟨o, ho, nt⟩ := iRep_notbl (l.imm a d' w) b'
        have hn : g.pureAt a = none := by
          cases z : g.pureAt a with
          | none => rfl
          | some y =>
            obtain ⟨z1, z2⟩ := pureAt_some.mp z
            rw [w] at z1; cases z1
            exact absurd z2 b'
        have := (aside hn ho (.inl (noF w)) nt).2
        rw [q] at this; cases this
  refine ⟨⟨fun a d q => ?_, fun n o q ho => ?_, l.inj, l.sz, fun a o q => ?_⟩, hp⟩
  · have q' : (match g.G a with
      | some e => some e
      | none => g1.pureAt a) = some d := q
    cases w : g.G a with
    | some d' =>
      rw [w] at q'
      cases q'
      by_cases b' : bnd 0 d = true
      · exact iRep_over hp (l1.imm a d (e.G a d (sealed_G.mpr ⟨w, b'⟩))) b'
      · obtain ⟨o, ho, nt⟩ := iRep_notbl (l.imm a d w) b'
        have hn : g.pureAt a = none := by
          cases z : g.pureAt a with
          | none => rfl
          | some y =>
            obtain ⟨z1, z2⟩ := pureAt_some.mp z
            rw [w] at z1; cases z1
            exact absurd z2 b'
        have k := (aside hn ho (.inl (noF w)) nt).1
        exact (l.imm a d w).stay opened_ext fun u z => by rw [ho] at z; cases z; exact k
    | none =>
      rw [w] at q'
      obtain ⟨z1, z2⟩ := pureAt_some.mp q'
      exact iRep_over hp (l1.imm a d z1) z2
  · obtain ⟨m1, m2⟩ := l.sto n o q ho
    obtain ⟨u, hu, nt⟩ := mRep_notbl m2 ho
    have hn : g.pureAt (g.m n) = none := by unfold Gh.pureAt; rw [m1]
    have hf : g.F (g.m n) = none := by
      cases w : g.F (g.m n) with
      | none => rfl
      | some o' => exact absurd rfl ((l.fr _ _ w).2.2 n o q ho)
    obtain ⟨k1, k2⟩ := aside hn hu (.inl hf) nt
    refine ⟨?_, m2.stay opened_ext fun u' z => by
      have z' : H (g.m n) = some u' := z
      rw [hu] at z'; cases z'; exact k1⟩
    show (match g.G (g.m n) with
      | some e => some e
      | none => g1.pureAt (g.m n)) = none
    rw [m1]
    simp only
    unfold Gh.pureAt
    rw [k2]
  · have q0 : g.F a = some o := q
    obtain ⟨x1, x2, x3⟩ := l.fr a o q0
    have hn : g.pureAt a = none := by unfold Gh.pureAt; rw [x2]
    have qf : (g.sealed H).F a = some o := by
      unfold Gh.sealed
      simp only [hn, q0]
    have q1 : g1.F a = some o := by rw [e.F]; exact qf
    obtain ⟨y1, y2, _⟩ := l1.fr a o q1
    refine ⟨y1, ?_, x3⟩
    show (match g.G a with
      | some e => some e
      | none => g1.pureAt a) = none
    rw [x2]
    simp only
    unfold Gh.pureAt
    rw [y2]
end
open PySem PySem.Spec PyProof.Rows




def relB : Gh → Bool → Bool → Prop := fun _ a b => a = b
def relI : Gh → Option Int → Option Int → Prop := fun _ a b => a = b
abbrev SE (X : Cx) (W : WX) (e : Expr) (f : EF) : Prop := PE X e (TD X.K W (RelD X.K) f)
abbrev ST (X : Cx) (W : WX) (e : Expr) (f : TF) : Prop := PT X e (TD X.K W relB f)
abbrev SW (X : Cx) (W : WX) (e : Expr) (f : TF) : Prop := PW X e (TD X.K W relB f)
abbrev SA (X : Cx) (W : WX) (es : List Expr) (f : AF) : Prop := PA X es (TD X.K W (RelDs X.K) f)
abbrev SO (X : Cx) (W : WX) (e : Option Expr) (f : OF) : Prop := PO X e (TD X.K W relI f)
theorem pe_imp {X : Cx} {e : Expr} {t t' : TE} (h : PE X e t) (i : ∀ σ H Q, t' σ H Q → t σ H Q) : PE X e t' := ⟨fun pins s σ H Q I w => h.run pins s σ H Q I (i σ H Q w)⟩
theorem pt_imp {X : Cx} {e : Expr} {t t' : TT} (h : PT X e t) (i : ∀ σ H Q, t' σ H Q → t σ H Q) : PT X e t' := ⟨fun pins s σ H Q I w => h.run pins s σ H Q I (i σ H Q w)⟩
theorem pw_imp {X : Cx} {e : Expr} {t t' : TT} (h : PW X e t) (i : ∀ σ H Q, t' σ H Q → t σ H Q) : PW X e t' := ⟨fun wh pins s σ H Q I w => h.run wh pins s σ H Q I (i σ H Q w)⟩
theorem pa_imp {X : Cx} {e : List Expr} {t t' : TA} (h : PA X e t) (i : ∀ σ H Q, t' σ H Q → t σ H Q) : PA X e t' := ⟨fun pos pins s σ H Q I w => h.run pos pins s σ H Q I (i σ H Q w)⟩
theorem po_imp {X : Cx} {e : Option Expr} {t t' : TO} (h : PO X e t) (i : ∀ σ H Q, t' σ H Q → t σ H Q) : PO X e t' := ⟨fun pins s σ H Q I w => h.run pins s σ H Q I (i σ H Q w)⟩
theorem td_seq {α β : Type} {K : PySem.W.Frag} {W : WX} {rel : Gh → α → β → Prop} {f : Env → Sto → R α} {σ : St} {H : Hp} {Q Q' : β → Hp → Prop} (h : TD K W rel f σ H Q) (i : ∀ b H, Q b H → Q' b H) : TD K W rel f σ H Q' := by
  obtain ⟨g, r, S, l, e, p⟩ := h
  exact ⟨g, r, S, l, e, p.imp i⟩
theorem post_ok {α β : Type} {K : PySem.W.Frag} {W : WX} {rel : Gh → α → β → Prop} {g : Gh} {σ : St} {a : α} {r : Env} {S : Sto} {Q : β → Hp → Prop} (h : PostG K W rel g σ (.ok a r S) Q) {H : Hp} {b : β} (l : Rl K g S H) (e : REnv K g r σ) (q : rel g a b) : Q b H :=
  h g H b (.refl g) l e q


section
variable {X : Cx} {W : WX} {pos : Pos}
theorem se_var (i : Nat) {x : Str} {pos : Pos} (hN : X.N[i]? = some x := by rfl) (hv : Vis X.env.scope x := by first | exact Or.inl rfl | exact Or.inr (Or.inl rfl) | exact Or.inr (Or.inr rfl)) (hd : (x == ("__debug__" : Str)) = false := by decide)
    (hcd : (x == ("__classdict__" : Str)) = false := by decide) : SE X W (.Name x pos) (eVar i) := pe_imp (pe_var hN hv hd hcd) fun σ H Q h => by
  obtain ⟨g, r, S, l, e, p⟩ := h
  unfold eVar at p
  split at p
  · rename_i d q
    obtain ⟨v, h1, h2⟩ := e.2 i d q
    exact ⟨v, h1, post_ok p l e h2⟩
  · exact p.elim
theorem tc_of {v : V} {d : D} (h : ∀ g, RelD X.K g d v) (σ : St) (H : Hp) (Q : VK) : TD X.K W (RelD X.K) (eC d) σ H Q → tC v σ H Q := fun ⟨g, r, S, l, e, p⟩ => post_ok p l e (h g)
theorem se_int {i j pos} : SE X W (.Constant (.int i) j pos) (eC (.int i)) := pe_imp pe_int (tc_of fun _ => rfl)
theorem se_bl {b j pos} : SE X W (.Constant (.bool b) j pos) (eC (.bl b)) := pe_imp pe_bl (tc_of fun _ => rfl)
theorem se_non {j pos} : SE X W (.Constant .none j pos) (eC .non) := pe_imp pe_non (tc_of fun _ => rfl)
theorem se_str {x j pos} : SE X W (.Constant (.str x) j pos) (eC (.str x)) := pe_imp pe_str (tc_of fun _ => rfl)
theorem kRep_rel {K : PySem.W.Frag} {f : Nat} {d : D} {u : Value} (h : kRep K f d u = true) : ∃ v, RelV v u ∧ ∀ g, RelD K g d v := by
  have b := kRep_bnd f d u h
  cases f with
  | zero => simp [kRep] at h
  | succ f =>
    cases d with
    | non => cases u <;> first | exact ⟨.non, rfl, fun _ => rfl⟩ | (simp [kRep] at h)
    | bl x => cases u <;> first | (simp [kRep] at h; subst h; exact ⟨.bl _, rfl, fun _ => rfl⟩) | (simp [kRep] at h)
    | int x => cases u <;> first | (simp [kRep] at h; subst h; exact ⟨.int _, ⟨_, rfl⟩, fun _ => rfl⟩) | (simp [kRep] at h)
    | str x => cases u <;> first | (simp [kRep] at h; subst h; exact ⟨.str _, ⟨_, rfl⟩, fun _ => rfl⟩) | (simp [kRep] at h)
    | ty x => cases u <;> first | (simp [kRep] at h; subst h; exact ⟨.ty _, rfl, fun _ => rfl⟩) | (simp [kRep] at h)
    | con x => cases u <;> first | (simp [kRep] at h; subst h; exact ⟨.ref _, rfl, fun _ => rfl⟩) | (simp [kRep] at h)
    | tup x => cases u <;> first | exact ⟨.ref _, rfl, fun g => ⟨bndL_mono (Nat.zero_le _) _ (by simpa [bnd] using b), _, rfl, .inr ⟨_, h⟩⟩⟩ | (simp [kRep] at h)
    | fz x => cases u <;> first | exact ⟨.ref _, rfl, fun g => ⟨bndL_mono (Nat.zero_le _) _ (by simpa [bnd] using b), _, rfl, .inr ⟨_, h⟩⟩⟩ | (simp [kRep] at h)
    | lst x => cases u <;> simp [kRep] at h
    | dic x y => cases u <;> simp [kRep] at h
    | ins x y z => cases u <;> simp [kRep] at h
    | ref x => cases u <;> simp [kRep] at h
def KCon (K : PySem.W.Frag) (mg : Str → Option Value) (x : Str) (d : D) : Prop := ∃ u f, mg x = some u ∧ kRep K f d u = true
theorem se_gc {x : Str} {d : D} (h : KCon X.K X.mg x d) (hg : Gl X x := by rfl) (hd : (x == ("__debug__" : Str)) = false := by decide) : SE X W (.Name x pos) (eC d) := by
  obtain ⟨u, f, hm, hk⟩ := h
  obtain ⟨v, r, q⟩ := kRep_rel hk
  exact pe_imp (pe_glob hg hm r hd) (tc_of q)
theorem se_ty {x : Str} {n : String} (hm : X.mg x = none) (hv : bootBuiltins x = some (.type n) := by decide +kernel) (hg : Gl X x := by rfl) (hn : x ≠ "__name__" := by decide) (hd : (x == ("__debug__" : Str)) = false := by decide) : SE X W (.Name x pos) (eC (.ty n)) :=
  pe_imp (pe_bltn (v := .ty n) hg hm hv rfl hn hd) (tc_of fun _ => rfl)



variable {a b c : Expr} {fa fb fc : EF}
theorem td_two {β γ : Type} {rel : Gh → γ → β → Prop} {k : D → D → Env → Sto → R γ} {σ : St} {H : Hp} {Q : β → Hp → Prop} {R2' : V → V → Hp → Prop}
    (h : TD X.K W rel (fun r S => (fa r S).bind fun x r S => (fb r S).bind fun y r S => k x y r S) σ H Q)
    (i : ∀ g r S H x y xv yv, Rl X.K g S H → REnv X.K g r σ → RelD X.K g x xv → RelD X.K g y yv → PostG X.K W rel g σ (k x y r S) Q → R2' xv yv H) :
    TD X.K W (RelD X.K) fa σ H fun x H1 => TD X.K W (RelD X.K) fb σ H1 fun y H2 => R2' x y H2 := by
  refine td_seq (TD.split (rel := RelD X.K) h) fun xv H1 ⟨g, x, r, S, l, e, rx, p⟩ => ?_
  refine ⟨g, r, S, l, e, ?_⟩
  refine PostG.imp p.split fun yv H2 ⟨g', y, r', S', e', l', re, ry, p'⟩ => ?_
  exact i g' r' S' H2 x y xv yv l' re (rx.mono e') ry p'
theorem se_bin {op : Operator} {o : Sto → D → D → Option D} (u : BinU X op o) (ha : SE X W a fa) (hb : SE X W b fb) : SE X W (.BinOp a op b pos) (eBin o fa fb) := by
  obtain ⟨r, ho, hu⟩ := u
  refine pe_imp (pe_op ho ha hb) fun σ H Q h => td_two h fun g r S H x y xv yv l e rx ry p => ?_
  split at p
  · rename_i d q
    exact hu g S H x y d xv yv Q l rx ry q fun g' H' v x' l' r' => p g' H' v x' l' (e.mono x') r'
  · exact p.elim
theorem se_cmp {op : CmpOp} {o : Sto → D → D → Option Bool} (u : CmpU X op o) (ha : SE X W a fa) (hb : SE X W b fb) (hm : behindInMarks op b = false := by first | exact nomark _ | rfl) : SE X W (.Compare a [op] [b] pos) (eCmp o fa fb) := by
  obtain ⟨r, ho, hu⟩ := u
  refine pe_imp (pe_cmpR ho ha hb hm) fun σ H Q h => td_two h fun g r S H x y xv yv l e rx ry p => ?_
  split at p
  · rename_i d q
    exact hu g S H x y d xv yv Q l rx ry q (post_ok p l e rfl)
  · exact p.elim
theorem st_cmp {op : CmpOp} {o : Sto → D → D → Option Bool} (u : CmpU X op o) (ha : SE X W a fa) (hb : SE X W b fb) (hm : behindInMarks op b = false := by first | exact nomark _ | rfl) : ST X W (.Compare a [op] [b] pos) (tCmp o fa fb) := by
  obtain ⟨r, ho, hu⟩ := u
  refine pt_imp (pt_cmpR ho ha hb hm) fun σ H Q h => td_two h fun g r S H x y xv yv l e rx ry p => ?_
  split at p
  · rename_i d q
    exact hu g S H x y d xv yv _ l rx ry q ⟨d, rfl, post_ok p l e rfl⟩
  · exact p.elim


theorem se_chain {op op' : CmpOp} {o o' : Sto → D → D → Option Bool} (u : CmpU X op o) (u' : CmpU X op' o') (ha : SE X W a fa) (hb : SE X W b fb) (hc : SE X W c fc)
    (hm : lastMarks [op, op'] [b, c] = false := by with_unfolding_all rfl) : SE X W (.Compare a [op, op'] [b, c] pos) (eChain o o' fa fb fc) := by
  obtain ⟨r, ho, hu⟩ := u
  obtain ⟨r', ho', hu'⟩ := u'
  refine pe_imp (pe_chain ho ho' ha hb hc hm) fun σ H Q h => td_two h fun g r S H x y xv yv l e rx ry p => ?_
  split at p
  · rename_i q
    refine hu g S H x y true xv yv _ l rx ry q ⟨true, rfl, ?_⟩
    rw [if_pos rfl]
    refine ⟨g, r, S, l, e, PostG.imp p.split fun zv H2 ⟨g', z, r2, S', e', l', re, rz, p'⟩ => ?_⟩
    split at p'
    · rename_i d q'
      exact hu' g' S' H2 y z d yv zv Q l' (ry.mono e') rz q' (post_ok p' l' re rfl)
    · exact p'.elim
  · rename_i q
    refine hu g S H x y false xv yv _ l rx ry q ⟨false, rfl, ?_⟩
    rw [if_neg Bool.false_ne_true]
    exact post_ok p l e rfl
  · exact p.elim
theorem st_chain {op op' : CmpOp} {o o' : Sto → D → D → Option Bool} (u : CmpU X op o) (u' : CmpU X op' o') (ha : SE X W a fa) (hb : SE X W b fb) (hc : SE X W c fc)
    (hm : lastMarks [op, op'] [b, c] = false := by with_unfolding_all rfl) : ST X W (.Compare a [op, op'] [b, c] pos) (tChainB o o' fa fb fc) := by
  obtain ⟨r, ho, hu⟩ := u
  obtain ⟨r', ho', hu'⟩ := u'
  refine pt_imp (pt_chain ho ho' ha hb hc hm) fun σ H Q h => td_two h fun g r S H x y xv yv l e rx ry p => ?_
  split at p
  · rename_i q
    refine hu g S H x y true xv yv _ l rx ry q ⟨true, rfl, ?_⟩
    rw [if_pos rfl]
    refine ⟨g, r, S, l, e, PostG.imp p.split fun zv H2 ⟨g', z, r2, S', e', l', re, rz, p'⟩ => ?_⟩
    split at p'
    · rename_i d q'
      exact hu' g' S' H2 y z d yv zv _ l' (ry.mono e') rz q' ⟨d, rfl, post_ok p' l' re rfl⟩
    · exact p'.elim
  · rename_i q
    refine hu g S H x y false xv yv _ l rx ry q ⟨false, rfl, ?_⟩
    rw [if_neg Bool.false_ne_true]
    exact ⟨false, rfl, post_ok p l e rfl⟩
  · exact p.elim








variable {rest : List Expr} {ta tb tc : TF}
theorem se_one {op} (h : SE X W a fa) : SE X W (.BoolOp op [a] pos) fa := pe_one h
theorem se_and (ha : SE X W a fa) (hb : SE X W (.BoolOp .And (b :: rest) pos) fb) : SE X W (.BoolOp .And (a :: b :: rest) pos) (eAnd fa fb) :=
  pe_imp (pe_and ha hb) fun σ H Q h => td_seq (TD.split (rel := RelD X.K) h) fun xv H1 ⟨g, x, r, S, l, e, rx, p⟩ => by
    split at p
    · cases rx; exact ⟨true, rfl, by rw [if_pos rfl]; exact ⟨g, r, S, l, e, p⟩⟩
    · cases rx; exact ⟨false, rfl, by rw [if_neg Bool.false_ne_true]; exact post_ok p l e rfl⟩
    · exact p.elim
theorem se_or (ha : SE X W a fa) (hb : SE X W (.BoolOp .Or (b :: rest) pos) fb) : SE X W (.BoolOp .Or (a :: b :: rest) pos) (eOr fa fb) :=
  pe_imp (pe_or ha hb) fun σ H Q h => td_seq (TD.split (rel := RelD X.K) h) fun xv H1 ⟨g, x, r, S, l, e, rx, p⟩ => by
    split at p
    · cases rx; exact ⟨true, rfl, by rw [if_pos rfl]; exact post_ok p l e rfl⟩
    · cases rx; exact ⟨false, rfl, by rw [if_neg Bool.false_ne_true]; exact ⟨g, r, S, l, e, p⟩⟩
    · exact p.elim
theorem se_not (ha : SE X W a fa) : SE X W (.UnaryOp .Not a pos) (eNot fa) :=
  pe_imp (pe_not ha) fun σ H Q h => td_seq (TD.split (rel := RelD X.K) h) fun xv H1 ⟨g, x, r, S, l, e, rx, p⟩ => by
    split at p
    · rename_i b; cases rx; exact ⟨b, rfl, post_ok p l e rfl⟩
    · exact p.elim
theorem st_val (ha : SE X W a fa) (he : ∀ whole, isTrue a X.env whole = (do let v ← whole; standAt a.pos; holding [v] (truthy v)) := by intro _; rfl) : ST X W a (tVal fa) :=
  pt_imp (pt_val ha he) fun σ H Q h => td_seq (TD.split (rel := RelD X.K) h) fun xv H1 ⟨g, x, r, S, l, e, rx, p⟩ => by
    split at p
    · rename_i b; cases rx; exact ⟨b, rfl, post_ok p l e rfl⟩
    · exact p.elim
theorem st_not (ha : ST X W a ta) : ST X W (.UnaryOp .Not a pos) (tNotB ta) :=
  pt_imp (pt_not ha) fun σ H Q h => td_seq (TD.split (rel := relB) h) fun xv H1 ⟨g, x, r, S, l, e, rx, p⟩ => by
    cases rx
    exact post_ok p l e rfl
theorem st_and1 (ha : ST X W a ta) : SW X W (.BoolOp .And [a] pos) ta := pw_and1 ha
theorem st_or1 (ha : ST X W a ta) : SW X W (.BoolOp .Or [a] pos) ta := pw_or1 ha
theorem st_and (ha : ST X W a ta) (hb : SW X W (.BoolOp .And (b :: rest) pos) tb) : SW X W (.BoolOp .And (a :: b :: rest) pos) (tAndB ta tb) :=
  pw_imp (pw_and ha hb) fun σ H Q h => td_seq (TD.split (rel := relB) h) fun xv H1 ⟨g, x, r, S, l, e, rx, p⟩ => by
    cases rx
    split
    · rename_i hx; rw [if_pos hx] at p; exact ⟨g, r, S, l, e, p⟩
    · rename_i hx; rw [if_neg hx] at p; exact post_ok p l e rfl
theorem st_or (ha : ST X W a ta) (hb : SW X W (.BoolOp .Or (b :: rest) pos) tb) : SW X W (.BoolOp .Or (a :: b :: rest) pos) (tOrB ta tb) :=
  pw_imp (pw_or ha hb) fun σ H Q h => td_seq (TD.split (rel := relB) h) fun xv H1 ⟨g, x, r, S, l, e, rx, p⟩ => by
    cases rx
    split
    · rename_i hx; rw [if_pos hx] at p; exact post_ok p l e rfl
    · rename_i hx; rw [if_neg hx] at p; exact ⟨g, r, S, l, e, p⟩
theorem st_w (h : SW X W a ta) : ST X W a ta := h.pt
theorem se_if {t : Expr} (hc : ST X W t tc) (ha : SE X W a fa) (hb : SE X W b fb) : SE X W (.IfExp t a b pos) (eIf tc fa fb) :=
  pe_imp (pe_ifExp hc ha hb) fun σ H Q h => td_seq (TD.split (rel := relB) h) fun xv H1 ⟨g, x, r, S, l, e, rx, p⟩ => by
    cases rx
    split
    · rename_i hx; rw [if_pos hx] at p; exact ⟨g, r, S, l, e, p⟩
    · rename_i hx; rw [if_neg hx] at p; exact ⟨g, r, S, l, e, p⟩


variable {es : List Expr} {fs : AF}
theorem sa_nil : SA X W [] aNil := pa_imp pa_nil fun σ H Q ⟨g, r, S, l, e, p⟩ => post_ok p l e .nil
theorem sa_cons (ha : SE X W a fa) (hr : SA X W es fs) (hs : starEach (a :: es) X.env = (false, eval a X.env) :: starEach es X.env := by rfl) : SA X W (a :: es) (aCons fa fs) :=
  pa_imp (pa_cons ha hr hs) fun σ H Q h => td_seq (TD.split (rel := RelD X.K) h) fun xv H1 ⟨g, x, r, S, l, e, rx, p⟩ =>
    ⟨g, r, S, l, e, PostG.imp p.split fun zv H2 ⟨g', z, r2, S', e', l', re, rz, p'⟩ => post_ok p' l' re (.cons (rx.mono e') rz)⟩



theorem se_tup {x1} (h : SA X W es fs) : SE X W (.Tuple es x1 pos) (eTup fs) :=
  pe_imp (pe_tup h) fun σ H Q hq => td_seq (TD.split (rel := RelDs X.K) hq) fun xv H1 ⟨g, x, r, S, l, e, rx, p⟩ => by
    split at p
    · rename_i hl
      refine ⟨by rw [← rx.length]; exact hl, fun q hp => ?_⟩
      obtain ⟨g', e1, l1, r1⟩ := l.newTup hp rx
      exact p g' _ _ e1 l1 (e.mono e1) r1
    · exact p.elim
theorem se_lst (h : SA X W es fs) : SE X W (.List es pos) (eLst fs) :=
  pe_imp (pe_lst h) fun σ H Q hq => td_seq (TD.split (rel := RelDs X.K) hq) fun xv H1 ⟨g, x, r, S, l, e, rx, p⟩ => by
    split at p
    · rename_i hl
      refine ⟨by rw [← rx.length]; exact hl, fun q hp => ?_⟩
      obtain ⟨g', e1, l1, r1⟩ := l.newLst hp rx
      exact p g' _ _ e1 l1 (e.mono e1) r1
    · exact p.elim
theorem se_lstS (h : SA X W es fs) : SE X W (.List es pos) (eLstS fs) :=
  pe_imp (pe_lst h) fun σ H Q hq => td_seq (TD.split (rel := RelDs X.K) hq) fun xv H1 ⟨g, x, r, S, l, e, rx, p⟩ => by
    split at p
    · rename_i hl
      refine ⟨by rw [← rx.length]; exact hl, fun q hp => ?_⟩
      obtain ⟨g', e1, l1, r1⟩ := l.newSto hp rx
      exact p g' _ _ e1 l1 (e.mono e1) r1
    · exact p.elim

theorem atI_rel {K : PySem.W.Frag} {g : Gh} {xs : List D} {vs : List V} {i : Int} {d : D} (r : RelDs K g xs vs) (h : atI xs i = some d) : ∃ v, atI vs i = some v ∧ RelD K g d v := by
  unfold atI at h ⊢
  rw [← r.length]
  cases q : ixN xs.length i with
  | none => rw [q] at h; cases h
  | some j =>
    rw [q] at h
    exact r.get h
theorem u_ix {K : PySem.W.Frag} : UOp K (rIx K) oIx := by
  intro g S H x y d xv yv Q l rx ry e k
  have seqs : ∀ {i : Int}, y = .int i → (seqOf S x).bind (fun xs => atI xs i) = some d → rIx K xv yv H Q := fun {i} hy eq => by
    subst hy
    cases ry
    obtain ⟨xs, e1, e2⟩ := Option.bind_eq_some_iff.mp eq
    obtain ⟨a, vs, rfl, hs, rs⟩ := seq_view l rx e1
    obtain ⟨v, e3, rv⟩ := atI_rel rs e2
    rcases hs with hs | hs
    · exact .inl ⟨a, vs, i, v, rfl, rfl, hs, e3, k g H v (.refl g) l rv⟩
    · exact .inr (.inl ⟨a, vs, i, v, rfl, rfl, hs, e3, k g H v (.refl g) l rv⟩)
  cases y with
  | int i =>
    cases x with
    | str z =>
      simp only [oIx] at e
      split at e
      · rename_i hz
        obtain ⟨c, e1, rfl⟩ := Option.map_eq_some_iff.mp e
        cases rx
        cases ry
        exact .inr (.inr ⟨z, i, c, rfl, rfl, hz, e1, k g H _ (.refl g) l rfl⟩)
      · cases e
    | _ => exact seqs rfl e
  | _ => cases x <;> cases e

theorem se_ix (ha : SE X W a fa) (hb : SE X W b fb) (hs : PlainIx b := by exact fun _ _ => rfl) : SE X W (.Subscript a b pos) (eIx fa fb) := by
  refine pe_imp (pe_ix ix_seq ha hb hs) fun σ H Q h => td_two h fun g r S H x y xv yv l e rx ry p => ?_
  split at p
  · rename_i d q
    exact u_ix g S H x y d xv yv Q l rx ry q fun g' H' v x' l' r' => p g' H' v x' l' (e.mono x') r'
  · exact p.elim


theorem so_none : SO X W none oNone := po_imp po_none fun σ H Q ⟨g, r, S, l, e, p⟩ => post_ok p l e rfl
theorem so_some (ha : SE X W a fa) : SO X W (some a) (oSome fa) := po_imp (po_some ha) fun σ H Q h => td_seq (TD.split (rel := RelD X.K) h) fun xv H1 ⟨g, x, r, S, l, e, rx, p⟩ => by
  split at p
  · rename_i i; cases rx; exact ⟨i, rfl, post_ok p l e rfl⟩
  · exact p.elim


theorem cutD_rel {K : PySem.W.Frag} {g : Gh} {xs : List D} {vs : List V} (r : RelDs K g xs vs) (lo hi : Option Int) : RelDs K g (cutD xs lo hi) (cutV vs lo hi) := by
  unfold cutD cutV
  rw [r.length]
  exact (r.drop _).take _

variable {lo hi : Option Expr} {fl fh : OF}
theorem se_sl {p2 : Pos} (ha : SE X W a fa) (hl : SO X W lo fl) (hh : SO X W hi fh) : SE X W (.Subscript a (.Slice lo hi none p2) pos) (eSl fa fl fh) := by
  refine pe_imp (pe_slice (sl_list.or (sl_tupA.or sl_str)) ha hl hh) fun σ H Q h => td_seq (TD.split (rel := RelD X.K) h) fun xv H1 ⟨g, x, r, S, l, e, rx, p⟩ => ?_
  refine ⟨g, r, S, l, e, PostG.imp (PostG.split (rel := relI) p) fun lov H2 ⟨g2, lo2, r2, S2, e2, l2, re2, rlo, p2⟩ => ?_⟩
  refine ⟨g2, r2, S2, l2, re2, PostG.imp (PostG.split (rel := relI) p2) fun hiv H3 ⟨g3, hi3, r3, S3, e3, l3, re3, rhi, p3⟩ => ?_⟩
  have elo : lo2 = lov := rlo
  have ehi : hi3 = hiv := rhi
  subst elo
  subst ehi
  have rx3 := rx.mono (e2.trans e3)
  split at p3
  · rename_i d q
    have lists : (lstOf S3 x).map (fun xs => D.lst (cutD xs lo2 hi3)) = some d → rSlL X.K xv lo2 hi3 H3 Q := fun q => by
      obtain ⟨xs, q1, rfl⟩ := Option.map_eq_some_iff.mp q
      obtain ⟨a, vs, rfl, hs, rs⟩ := lst_view l3 rx3 q1
      refine ⟨a, vs, rfl, hs, fun pp hp => ?_⟩
      obtain ⟨g', e1, l1, r1⟩ := l3.newLst hp (cutD_rel rs lo2 hi3)
      exact p3 g' _ _ e1 l1 (re3.mono e1) r1
    cases x with
    | str z =>
      simp only [sliceD] at q
      split at q
      · rename_i hz
        cases q
        cases rx3
        exact .inr (.inr ⟨z, rfl, hz, post_ok p3 l3 re3 rfl⟩)
      · cases q
    | tup xs =>
      cases q
      obtain ⟨a, vs, rfl, hs, rs⟩ := tup_view l3 rx3
      refine .inr (.inl ⟨a, vs, rfl, hs, fun hw => ?_, fun _ pp hp => ?_⟩)
      · have ew : cutD xs lo2 hi3 = xs := by
          unfold cutD
          rw [rs.length, hw.1, hw.2, List.drop_zero, Nat.sub_zero, ← rs.length, List.take_length]
        rw [ew] at p3
        exact post_ok p3 l3 re3 rx3
      · obtain ⟨g', e1, l1, r1⟩ := l3.newTup hp (cutD_rel rs lo2 hi3)
        exact p3 g' _ _ e1 l1 (re3.mono e1) r1
    | _ => exact .inl (lists q)
  · exact p3.elim
end
open PySem PySem.Spec PyProof.Rows



theorem PostS.ext {K : PySem.W.Frag} {W : WX} {g g' : Gh} {x : R Fl} {E : Ends} (e : Ext g g') (h : PostS K W g x E) : PostS K W g' x E := by
  cases x with
  | ok a r S => cases a <;> exact fun g2 H' b e2 => h g2 H' b (e.trans e2)
  | er x r S => exact fun g2 H' c d od e2 => h g2 H' c d od (e.trans e2)
  | no => exact h
theorem PostS.imp {K : PySem.W.Frag} {W : WX} {g : Gh} {x : R Fl} {E E' : Ends} (h : PostS K W g x E) (h1 : ∀ σ H, E.nx σ H → E'.nx σ H) (h2 : ∀ v H, E.rt v H → E'.rt v H) (h3 : ∀ σ H, E.bk σ H → E'.bk σ H) (h4 : ∀ σ H, E.ct σ H → E'.ct σ H) : PostS K W g x E' := by
  cases x with
  | ok a r S =>
    cases a with
    | nx => exact fun g2 H' b e2 l q => h1 _ _ (h g2 H' b e2 l q)
    | rt d => exact fun g2 H' b e2 l q => h2 _ _ (h g2 H' b e2 l q)
    | bk => exact fun g2 H' b e2 l q => h3 _ _ (h g2 H' b e2 l q)
    | ct => exact fun g2 H' b e2 l q => h4 _ _ (h g2 H' b e2 l q)
  | er x r S => exact h
  | no => exact h
def TSd (K : PySem.W.Frag) (W : WX) (f : SF) : TS := fun E σ H => ∃ g r S, Rl K g S H ∧ REnv K g r σ ∧ PostS K W g (f r S) E
abbrev SS (X : Cx) (W : WX) (st : Stmt) (f : SF) : Prop := PS X st (TSd X.K W f)
abbrev SSs (X : Cx) (W : WX) (st : List Stmt) (f : SF) : Prop := PSs X st (TSd X.K W f)
theorem ps_imp {X : Cx} {st : Stmt} {t t' : TS} (h : PS X st t) (i : ∀ E σ H, t' E σ H → t E σ H) : PS X st t' := ⟨fun pins s σ H E I w => h.run pins s σ H E I (i E σ H w)⟩
theorem pss_imp {X : Cx} {st : List Stmt} {t t' : TS} (h : PSs X st t) (i : ∀ E σ H, t' E σ H → t E σ H) : PSs X st t' := ⟨fun pins s σ H E I w => h.run pins s σ H E I (i E σ H w)⟩
theorem post_s {K : PySem.W.Frag} {W : WX} {α β : Type} {rel : Gh → α → β → Prop} {g : Gh} {σ : St} {x : R α} {k : α → Env → Sto → R Fl} {E : Ends} (h : PostS K W g (x.bind k) E) :
    PostG K W rel g σ x (fun b H' => ∃ g' a r S, Ext g g' ∧ Rl K g' S H' ∧ REnv K g' r σ ∧ rel g' a b ∧ PostS K W g' (k a r S) E) := by
  cases x with
  | ok a r S => exact fun g2 H' b e l re q => ⟨g2, a, r, S, e, l, re, q, PostS.ext e (show PostS K W g (k a r S) E from h)⟩
  | er x r S => exact fun g' H' cls od e l re q => h g' H' σ cls od e l re q
  | no => exact h
theorem ts_seq {K : PySem.W.Frag} {W : WX} {α β : Type} {rel : Gh → α → β → Prop} {f : Env → Sto → R α} {k : α → Env → Sto → R Fl} {σ : St} {H : Hp} {E : Ends} {Q : β → Hp → Prop} (h : TSd K W (fun r S => (f r S).bind k) E σ H)
    (i : ∀ b H' g a r S, Rl K g S H' → REnv K g r σ → rel g a b → PostS K W g (k a r S) E → Q b H') : TD K W rel f σ H Q := by
  obtain ⟨g, r, S, l, e, p⟩ := h
  exact ⟨g, r, S, l, e, PostG.imp (post_s (rel := rel) p) fun b H' ⟨g', a, r', S', _, l', e', q, p'⟩ => i b H' g' a r' S' l' e' q p'⟩
theorem post_nx {K : PySem.W.Frag} {W : WX} {g : Gh} {r : Env} {S : Sto} {E : Ends} (h : PostS K W g (.ok .nx r S) E) {H : Hp} {σ : St} (l : Rl K g S H) (e : REnv K g r σ) : E.nx σ H := h g H σ (.refl g) l e
theorem post_rt {K : PySem.W.Frag} {W : WX} {g : Gh} {r : Env} {S : Sto} {d : D} {E : Ends} (h : PostS K W g (.ok (.rt d) r S) E) {H : Hp} {v : V} (l : Rl K g S H) (q : RelD K g d v) : E.rt v H := h g H v (.refl g) l q








section
variable {X : Cx} {W : WX} {pos : Pos} {st : Stmt} {rest : List Stmt} {f h : SF} {a : Expr} {fa : EF}
theorem sss_nil : SSs X W [] sNext := pss_imp pss_nil fun E σ H ⟨g, r, S, l, e, p⟩ => post_nx p l e
theorem sss_cons (h1 : SS X W st f) (h2 : SSs X W rest h) : SSs X W (st :: rest) (sSeq f h) := pss_imp (pss_cons h1 h2) fun E σ H ⟨g, r, S, l, e, p⟩ => by
  refine ⟨g, r, S, l, e, ?_⟩
  have p' : PostS X.K W g ((f r S).bind fun a r S => match a with
    | .nx => h r S
    | a => .ok a r S) E := p
  cases q : f r S with
  | ok a r1 S1 =>
    rw [q] at p'
    cases a with
    | nx => exact fun g' H' σ' e' l' re => ⟨g', r1, S1, l', re, PostS.ext e' p'⟩
    | rt d => exact p'
    | bk => exact p'
    | ct => exact p'
  | er x r1 S1 => rw [q] at p'; exact p'
  | no => rw [q] at p'; exact p'.elim
theorem sss_one (h1 : SS X W st f) : SSs X W [st] f := pss_one h1
theorem ss_ret (ha : SE X W a fa) : SS X W (.Return (some a) pos) (sRet fa) := ps_imp (ps_ret ha) fun E σ H h => ts_seq h fun v H' g d r S l e q p => post_rt p l q
theorem ss_if {c : Expr} {tc : TF} {sa sb : List Stmt} (hc : ST X W c tc) (ha : SSs X W sa f) (hb : SSs X W sb h) : SS X W (.If c sa sb pos) (sIf tc f h) := ps_imp (ps_if hc ha hb) fun E σ H h => ts_seq h fun b H' g d r S l e q p => by
  cases q
  split
  · rename_i hx; rw [if_pos hx] at p; exact ⟨g, r, S, l, e, p⟩
  · rename_i hx; rw [if_neg hx] at p; exact ⟨g, r, S, l, e, p⟩

def bName (i : Nat) : Bn := fun d r => some (r.set i (some d))
def GU (K : PySem.W.Frag) (t : TG) (b : Bn) (vs : List Nat) : Prop := ∀ g S r σ H d v r' (Q : St → Hp → Prop), Rl K g S H → REnv K g r σ → RelD K g d v → b d r = some r' →
  (∀ σ', REnv K g r' σ' → (∀ ws : List Nat, (∀ i ∈ vs, i ∈ ws) → wipe σ' ws = wipe σ ws) → Q σ' H) → t v σ H Q
structure BU (X : Cx) (tg : Expr) (b : Bn) (vs : List Nat) : Prop where
  ex : ∃ t, PG X tg t ∧ GU X.K t b vs
theorem wipe_set {σ : St} {i : Nat} {v : Option V} : ∀ {ws : List Nat}, i ∈ ws → wipe (σ.set i v) ws = wipe σ ws
  | w :: ws, h => by
    unfold wipe
    rcases List.mem_cons.mp h with e | h
    · subst e
      by_cases q : i ∈ ws
      · rw [wipe_set q]
      · have comm : ∀ ws : List Nat, i ∉ ws → wipe (σ.set i v) ws = (wipe σ ws).set i v := by
          intro ws
          induction ws with
          | nil => intro _; rfl
          | cons w ws ih =>
            intro hn
            have h1 : i ≠ w := fun e => hn (by rw [e]; exact List.mem_cons_self)
            have h2 : i ∉ ws := fun e => hn (List.mem_cons_of_mem _ e)
            unfold wipe
            rw [ih h2, List.set_comm _ _ h1]
        rw [comm ws q, List.set_set]
    · rw [wipe_set h]
theorem gu_name {K : PySem.W.Frag} (i : Nat) : GU K (gName i) (bName i) [i] := fun g S r σ H d v r' Q l e q hb k => by
  cases hb
  exact k _ (e.set i q) fun ws h => wipe_set (h i (List.mem_singleton.mpr rfl))
theorem bu_name (i : Nat) {x : Str} (hN : X.N.Nodup) (hi : X.N[i]? = some x := by rfl) (hx : Loc X.env.scope x := by first | exact Or.inl rfl | exact Or.inr rfl) (hf : X.fn x = true ∨ X.env.scope.names.lookup x = some .local := by first | exact .inl rfl | exact .inr rfl | assumption) :
    BU X (.Name x pos) (bName i) [i] := ⟨_, pg_name hN hi hx hf, gu_name i⟩

theorem ss_set (i : Nat) {x : Str} {pos' : Pos} (ha : SE X W a fa) (hN : X.N.Nodup) (hi : X.N[i]? = some x := by rfl) (hx : Loc X.env.scope x := by first | exact Or.inl rfl | exact Or.inr rfl) (hs : swapsWith a (some (.Name x pos')) pos.line X.env = pure false := by rfl)
    (hf : X.fn x = true ∨ X.env.scope.names.lookup x = some .local := by first | exact .inl rfl | exact .inr rfl | assumption) : SS X W (.Assign [.Name x pos'] a pos) (sAsg fa (bName i)) :=
  ps_imp (ps_set hN hi hx ha hs hf) fun E σ H h => ts_seq h fun v H' g d r S l e q p => post_nx p l (e.set i q)

theorem ss_par (i j : Nat) {x y : Str} {c d : Expr} {fs : AF} {px py pt : Pos} {kt k2 pt2} (hc : X.calm = true) (hN : X.N.Nodup) (ha : SA X W [c, d] fs) (hij : i ≠ j := by decide) (hi : X.N[i]? = some x := by rfl) (hj : X.N[j]? = some y := by rfl)
    (hx : X.env.scope.names.lookup x = some .local := by rfl) (hy : X.env.scope.names.lookup y = some .local := by rfl)
    (hw : swappedStores [.Tuple [.Name x px, .Name y py] kt pt] (.Tuple [c, d] k2 pt2) X.env = pure (some [x, y]) := by rfl)
    (hs : swapsWithSole [.Tuple [.Name x px, .Name y py] kt pt] (.Tuple [c, d] k2 pt2) pos.line X.env = pure false := by rfl) :
    SS X W (.Assign [.Tuple [.Name x px, .Name y py] kt pt] (.Tuple [c, d] k2 pt2) pos) (sPar i j fs) :=
  ps_imp (ps_par hc hN hi hj hij hx hy ha hw hs) fun E σ H h => ts_seq (rel := RelDs X.K) h fun us H' g ds r S l e q p => by
    split at p
    · cases q with
      | cons q1 q2 => cases q2 with
        | cons q2 q3 =>
          cases q3
          exact ⟨_, _, rfl, post_nx p l ((e.set i q1).set j q2)⟩
    · exact p.elim



theorem ss_sub {o i v : Expr} {fo fi fv : EF} {tpos : Pos} (hv : SE X W v fv) (ho : SE X W o fo) (hi : SE X W i fi) (hs : swapsWithSole [.Subscript o i tpos] v pos.line X.env = pure false := by rfl) (hw : swappedStores [.Subscript o i tpos] v X.env = pure none := by rfl)
    (h1 : (assignEach [.Subscript o i tpos] X.env).map (·.2) = [assign (.Subscript o i tpos) X.env] := by rfl)
    (ha : ∀ v, assign (.Subscript o i tpos) X.env v = (do
      let ov ← holding [v] (eval o X.env)
      let iv ← holding [v, ov] (eval i X.env)
      standAt tpos
      holding [v, ov, iv] (setItem ov iv v)
      release [v, ov, iv] []) := by intro _; rfl) : SS X W (.Assign [.Subscript o i tpos] v pos) (sSub fv fo fi) := by
  refine ps_imp (ps_asg hv (pg_sub ho hi set_list ha) hs hw h1) fun E σ H h => ts_seq (rel := RelD X.K) h fun vv H1 g d r S l e q p => ?_
  refine ⟨g, r, S, l, e, PostG.imp (post_s (rel := RelD X.K) p) fun xv H2 ⟨g2, x, r2, S2, e2, l2, re2, rx, p2⟩ => ?_⟩
  refine ⟨g2, r2, S2, l2, re2, PostG.imp (post_s (rel := RelD X.K) p2) fun yv H3 ⟨g3, y, r3, S3, e3, l3, re3, ry, p3⟩ => ?_⟩
  have rx3 := rx.mono e3
  have q3 := q.mono (e2.trans e3)
  split at p3
  · rename_i S' hS
    cases x with
    | ref n =>
      cases y with
      | int i' =>
        simp only [setD] at hS
        split at hS
        · rename_i xs hx
          obtain ⟨j, hj, rfl⟩ := Option.map_eq_some_iff.mp hS
          obtain ⟨m1, vs, hh, rs⟩ := l3.sto n _ hx (by intro z; cases z)
          obtain ⟨_, rfl⟩ := rx3
          cases ry
          refine ⟨g3.m n, vs, i', j, rfl, rfl, hh, by rw [← rs.length]; exact hj, ?_⟩
          have lw := l3.write (ob' := .lst (xs.set j d)) (o := .lst (vs.set j vv)) hx (by intro z; cases z) ⟨_, upd_same, rs.set q3 j⟩
          exact p3 g3 _ σ (.refl g3) lw re3
        · cases hS
      | _ => cases hS
    | _ => cases y <;> cases hS
  · exact p3.elim
end
open PySem PySem.Spec PyProof.Rows

theorem Ext.w {g g' : Gh} (e : Ext g g') : ExtW g g' := ⟨e.G, e.sz, e.m⟩
theorem ExtW.trans {g1 g2 g3 : Gh} (a : ExtW g1 g2) (b : ExtW g2 g3) : ExtW g1 g3 :=
  ⟨fun x d h => b.G x d (a.G x d h), Nat.le_trans a.sz b.sz, fun n h => (b.m n (Nat.lt_of_lt_of_le h a.sz)).trans (a.m n h)⟩
theorem ExtW.ext {g g' : Gh} (e : ExtW g g') : Ext g { g' with F := g.F } := ⟨e.G, e.sz, e.m, rfl⟩
theorem RelD.monoW {K : PySem.W.Frag} {g g' : Gh} (e : ExtW g g') {d : D} {v : V} (h : RelD K g d v) : RelD K g' d v := (h.mono e.ext).eqG rfl rfl rfl
theorem RelDs.monoW {K : PySem.W.Frag} {g g' : Gh} (e : ExtW g g') {d : List D} {v : List V} (h : RelDs K g d v) : RelDs K g' d v := (h.mono e.ext).eqG rfl rfl rfl
theorem REnv.monoW {K : PySem.W.Frag} {g g' : Gh} (e : ExtW g g') {r : Env} {σ : St} (h : REnv K g r σ) : REnv K g' r σ := (h.mono e.ext).eqG rfl rfl rfl
structure SrcOk (K : PySem.W.Frag) (g : Gh) (xs : List D) (J : It) : Prop where
  ex : ∃ G Y, Walk J xs.length G Y ∧ (∀ g' S H, ExtW g g' → Rl K g' S H → G H) ∧
    ∀ i d g1 S1 H x H2, xs[i]? = some d → ExtW g g1 → Rl K g1 S1 H → Y i H x H2 → ∃ g2, Ext g1 g2 ∧ Rl K g2 S1 H2 ∧ RelD K g2 d x
structure IterU (X : Cx) (W : WX) (tg e : Expr) (f : AF) : Prop where
  ex : ∃ wi, PI X tg e wi ∧ ∀ σ H R, TD X.K W (fun g xs J => SrcOk X.K g xs J) f σ H R → wi σ H R
section
variable {X : Cx} {W : WX} {tg e : Expr} {pos : Pos} {fe : EF}
theorem walk_lst {K : PySem.W.Frag} {a : Addr} {n : Nat} : Walk (Itl K a) n (fun H => ∃ vs, SqL K H a vs ∧ vs.length = n) (fun i H x H' => H' = H ∧ ∀ vs, SqL K H a vs → vs[i]? = some x) :=
  ⟨fun i _ hi ⟨vs, q, hl⟩ => ⟨vs, vs[i]'(by omega), q, by simp [show i < vs.length by omega]⟩, fun _ ⟨vs, q, hl⟩ => ⟨vs, q, by omega⟩, fun _ _ _ _ _ _ y => y⟩
theorem walk_tp {K : PySem.W.Frag} {a : Addr} {n : Nat} : Walk (Itt K a) n (fun H => ∃ vs, SqT K H a vs ∧ vs.length = n) (fun i H x H' => H' = H ∧ ∀ vs, SqT K H a vs → vs[i]? = some x) :=
  ⟨fun i _ hi ⟨vs, q, hl⟩ => ⟨vs, vs[i]'(by omega), q, by simp [show i < vs.length by omega]⟩, fun _ ⟨vs, q, hl⟩ => ⟨vs, q, by omega⟩, fun _ _ _ _ _ _ y => y⟩

theorem vlst_lst {S : Sto} {d : D} {xs : List D} (h : vlst d = some xs) : lstOf S d = some xs := by
  cases d <;> simp only [vlst, reduceCtorEq] at h <;> exact h
def iLst (fe : EF) : AF := fun r S => (fe r S).bind fun d r S => match vlst d with
  | some xs => .ok xs r S
  | none => .no
theorem src_lst {σ : St} {H : Hp} {R' : It → Hp → Prop} (h : TD X.K W (fun g xs J => SrcOk X.K g xs J) (iLst fe) σ H R') : iList X.K (TD X.K W (RelD X.K) fe) σ H R' := by
  refine td_seq (TD.split (rel := RelD X.K) h) fun v H1 ⟨g, d, r, S, l, e, rd, p⟩ => ?_
  split at p
  · rename_i xs hx
    obtain ⟨a, vs, rfl, hs, rs⟩ := lst_view l rd (vlst_lst hx)
    refine ⟨a, rfl, ⟨vs, hs⟩, post_ok p l e ⟨_, _, walk_lst, fun g' S' H' x' l' => ?_, fun i d' g1 S1 H' x H2 hi x' l' y => ?_⟩⟩
    · obtain ⟨b, us, eb, hs', rs'⟩ := lst_view l' (rd.monoW x') (vlst_lst hx)
      cases eb
      exact ⟨us, hs', rs'.length.symm⟩
    · obtain ⟨rfl, y⟩ := y
      obtain ⟨b, us, eb, hs', rs'⟩ := lst_view l' (rd.monoW x') (vlst_lst hx)
      cases eb
      obtain ⟨u, hu, ru⟩ := rs'.get hi
      have := y us hs'
      rw [hu] at this
      cases this
      exact ⟨g1, .refl g1, l', ru⟩
  · exact p.elim
def iTpl (fe : EF) : AF := fun r S => (fe r S).bind fun d r S => match d with
  | .tup xs => .ok xs r S
  | _ => .no
theorem src_tup {σ : St} {H : Hp} {R' : It → Hp → Prop} (h : TD X.K W (fun g xs J => SrcOk X.K g xs J) (iTpl fe) σ H R') : iTup X.K (TD X.K W (RelD X.K) fe) σ H R' := by
  refine td_seq (TD.split (rel := RelD X.K) h) fun v H1 ⟨g, d, r, S, l, e, rd, p⟩ => ?_
  cases d <;> try (exact p.elim)
  rename_i xs
  obtain ⟨a, vs, rfl, hs, rs⟩ := tup_view l rd
  refine ⟨a, rfl, ⟨vs, hs⟩, post_ok p l e ⟨_, _, walk_tp, fun g' S' H' x' l' => ?_, fun i d' g1 S1 H' x H2 hi x' l' y => ?_⟩⟩
  · obtain ⟨b, us, eb, hs', rs'⟩ := tup_view l' (rd.monoW x')
    cases eb
    exact ⟨us, hs', rs'.length.symm⟩
  · obtain ⟨rfl, y⟩ := y
    obtain ⟨b, us, eb, hs', rs'⟩ := tup_view l' (rd.monoW x')
    cases eb
    obtain ⟨u, hu, ru⟩ := rs'.get hi
    have := y us hs'
    rw [hu] at this
    cases this
    exact ⟨g1, .refl g1, l', ru⟩

def iStrD (fe : EF) : AF := fun r S => (fe r S).bind fun d r S => match d with
  | .str z => .ok (signsD z) r S
  | _ => .no
theorem src_str {σ : St} {H : Hp} {R' : It → Hp → Prop} (h : TD X.K W (fun g xs J => SrcOk X.K g xs J) (iStrD fe) σ H R') : iStr (TD X.K W (RelD X.K) fe) σ H R' := by
  refine td_seq (TD.split (rel := RelD X.K) h) fun v H1 ⟨g, d, r, S, l, e, rd, p⟩ => ?_
  cases d <;> try (exact p.elim)
  rename_i z
  cases rd
  have hl : (signsD z).length = z.cps.size := by unfold signsD; rw [List.length_map, Array.length_toList]
  refine ⟨z, rfl, post_ok p l e ⟨_, _, by rw [hl]; exact walk_str, fun _ _ _ _ _ => trivial, fun i d' g1 S1 H' x H2 hi x' l' y => ?_⟩⟩
  obtain ⟨rfl, c, hc, rfl⟩ := y
  unfold signsD at hi
  rw [List.getElem?_map, Array.getElem?_toList, hc] at hi
  cases hi
  exact ⟨g1, .refl g1, l', rfl⟩


theorem pi_or {wi wi' : TI} (h : PI X tg e wi) (h' : PI X tg e wi') : PI X tg e (fun σ H R' => wi σ H R' ∨ wi' σ H R') := ⟨fun pins s σ H R' I q => q.elim (h.run pins s σ H R' I) (h'.run pins s σ H R' I)⟩
theorem it_seq (he : SE X W e fe) : IterU X W tg e (iSeq fe) := by
  refine ⟨_, pi_or (pi_tup he) (pi_or (pi_list he) (pi_str he)), fun σ H R' ⟨g, r, S, l, re, p⟩ => ?_⟩
  cases q : fe r S with
  | ok d r1 S1 =>
    have p' : PostG X.K W (fun g xs J => SrcOk X.K g xs J) g σ (match itemsOf d with
      | some xs => .ok xs r1 S1
      | none => .no) R' := by
      have : iSeq fe r S = (match itemsOf d with
        | some xs => .ok xs r1 S1
        | none => .no) := by unfold iSeq; rw [q]; rfl
      rw [this] at p; exact p
    cases d with
    | tup xs => exact .inl (src_tup ⟨g, r, S, l, re, by unfold iTpl; rw [q]; exact p'⟩)
    | lst xs => exact .inr (.inl (src_lst ⟨g, r, S, l, re, by unfold iLst; rw [q]; exact p'⟩))
    | fz xs => exact .inr (.inl (src_lst ⟨g, r, S, l, re, by unfold iLst; rw [q]; exact p'⟩))
    | str z => exact .inr (.inr (src_str ⟨g, r, S, l, re, by unfold iStrD; rw [q]; exact p'⟩))
    | _ => exact p'.elim
  | er x r1 S1 => exact .inl (src_tup ⟨g, r, S, l, re, by unfold iTpl; unfold iSeq at p; rw [q] at p ⊢; exact p⟩)
  | no => unfold iSeq at p; rw [q] at p; exact p.elim



theorem src_range {K : PySem.W.Frag} {g : Gh} (lo : Int) (n : Nat) : SrcOk K g (rangeD lo n) (Itr lo n) := by
  have hl : (rangeD lo n).length = n := by unfold rangeD; rw [List.length_map, List.length_range]
  refine ⟨_, _, by rw [hl]; exact walk_range, fun _ _ _ _ _ => trivial, fun i d' g1 S1 H' x H2 hi x' l' y => ?_⟩
  obtain ⟨rfl, rfl⟩ := y
  have hn : i < n := by rw [← hl]; exact (List.getElem?_eq_some_iff.mp hi).1
  unfold rangeD at hi
  rw [List.getElem?_map, List.getElem?_range hn] at hi
  cases hi
  exact ⟨g1, .refl g1, l', rfl⟩
theorem rels1 {K : PySem.W.Frag} {g : Gh} {i : Int} {vs : List V} (r : RelDs K g [.int i] vs) : vs = [.int i] := by
  cases r with
  | cons a b => cases b; cases a; rfl
theorem it_range1 {a : Expr} {fs : AF} {p : Pos} (hm : X.mg "range" = none) (ha : SA X W [a] fs) (hg : Gl X "range" := by rfl) (hs : starEach [a] X.env = [(false, eval a X.env)] := by rfl) : IterU X W tg (.Call (.Name "range" p) [a] [] pos) (iRange1 fs) := by
  refine ⟨_, pi_range1 hg hm ha hs, fun σ H R h => td_seq (TD.split (rel := RelDs X.K) h) fun v H1 ⟨g, d, r, S, l, e, rd, p⟩ => ?_⟩
  split at p
  · rename_i j
    split at p
    · rename_i hb
      have := rels1 rd
      subst this
      exact ⟨j, rfl, hb.1, hb.2, post_ok p l e (src_range 0 j.toNat)⟩
    · exact p.elim
  · exact p.elim
end


section
variable {X : Cx} {W : WX} {tg iter : Expr} {body : List Stmt} {pos : Pos} {fi : AF} {b : Bn} {fb : SF} {vs : List Nat}
theorem ss_for (hp : PassesOwn (model X.prog X.w) X.A X.env X.xe) (hc : X.calm = true) (hi : IterU X W tg iter fi) (hg : BU X tg b vs) (hb : SSs X W body fb)
    (hs : ∀ x, foldedSetIterable iter X.env x = pure x := by intro _; rfl) : SS X W (.For tg iter body [] pos) (sFor fi b fb) := by
  obtain ⟨wi, pi, hw⟩ := hi
  obtain ⟨t, pg, gu⟩ := hg
  refine ps_imp (ps_for hp hc pi pg hb hs) fun E σ H h => hw σ H _ (ts_seq h fun J H1 g0 xs r S l e ⟨G, Y, wk, hG, hY⟩ p => ?_)
  refine for_it (n := xs.length) (G := G) (Y := Y) wk (fun i σ' H' => ∃ g r' S', Ext g0 g ∧ Rl X.K g S' H' ∧ REnv X.K g r' σ' ∧ PostS X.K W g (loopF b fb (xs.drop i) r' S') E)
    ⟨g0, r, S, .refl g0, l, e, p⟩ (fun i σ' H' _ ⟨g, r', S', x', l', _⟩ => hG g S' H' x'.w l') (fun i x σ' H' H2 hi ⟨g, r', S', x', l', e', p'⟩ y => ?_) (fun σ' H' ⟨g, r', S', x', l', e', p'⟩ => ?_)
  · rw [List.drop_eq_getElem_cons hi] at p'
    obtain ⟨g2, x2, l2, rx⟩ := hY i xs[i] g S' H' x H2 (by simp [hi]) x'.w l' y
    unfold loopF at p'
    split at p'
    · rename_i r1 hr1
      refine gu g2 S' r' σ' H2 xs[i] x r1 _ l2 (e'.mono x2) rx hr1 fun σ2 e2 _ => ?_
      refine ⟨g2, r1, S', l2, e2, ?_⟩
      have p2 := PostS.ext x2 p'
      cases q : fb r1 S' with
      | ok a r3 S3 =>
        rw [q] at p2
        cases a with
        | nx => exact fun g3 H3 σ3 x3 l3 e3 => ⟨g3, r3, S3, x'.trans (x2.trans x3), l3, e3, PostS.ext x3 p2⟩
        | ct => exact fun g3 H3 σ3 x3 l3 e3 => ⟨g3, r3, S3, x'.trans (x2.trans x3), l3, e3, PostS.ext x3 p2⟩
        | bk => exact p2
        | rt d => exact p2
      | er y r3 S3 => rw [q] at p2; exact p2
      | no => rw [q] at p2; exact p2.elim
    · exact p'.elim
  · rw [List.drop_length] at p'
    exact post_nx p' l' e'
end

def W0 : WX := fun _ _ _ _ => False

theorem wipeE_rel {K : PySem.W.Frag} {g : Gh} {r : Env} {σ : St} (h : REnv K g r σ) : ∀ vs : List Nat, REnv K g (wipeE r vs) (wipe σ vs)
  | [] => h
  | v :: vs => by
    have ih := wipeE_rel h vs
    unfold wipeE wipe
    refine ⟨by simpa using ih.1, fun i d e => ?_⟩
    by_cases hi : v = i
    · subst hi
      by_cases hl : v < (wipeE r vs).length
      · rw [List.getElem?_set_self hl] at e; cases e
      · rw [List.getElem?_eq_none (by simpa using hl)] at e; cases e
    · rw [List.getElem?_set_ne hi] at e
      rw [List.getElem?_set_ne hi]
      exact ih.2 i d e



theorem compF_len {b : Bn} {tt : TF} {fe : EF} {r : Env} {vs : List Nat} : ∀ {xs : List D} {S : Sto} {ys : List D} {r' : Env} {S' : Sto}, compF b tt fe r vs xs S = .ok ys r' S' → ys.length ≤ xs.length ∧ r' = r
  | [], S, ys, r', S', h => by cases h; exact ⟨Nat.le_refl _, rfl⟩
  | x :: xs, S, ys, r', S', h => by
    unfold compF at h
    split at h
    · rename_i r1 _
      cases q : (tt r1 S).calm with
      | ok c r2 S2 =>
        rw [q] at h
        simp only [R.bind] at h
        split at h
        · cases q2 : (fe r2 S2).calm with
          | ok y r3 S3 =>
            rw [q2] at h
            simp only at h
            cases q3 : compF b tt fe r vs xs S3 with
            | ok zs r4 S4 =>
              rw [q3] at h
              cases h
              obtain ⟨h1, h2⟩ := compF_len q3
              exact ⟨Nat.succ_le_succ h1, h2⟩
            | er _ _ _ => rw [q3] at h; cases h
            | no => rw [q3] at h; cases h
          | er _ _ _ => rw [q2] at h; cases h
          | no => rw [q2] at h; cases h
        · obtain ⟨h1, h2⟩ := compF_len h
          exact ⟨Nat.le_succ_of_le h1, h2⟩
      | er _ _ _ => rw [q] at h; cases h
      | no => rw [q] at h; cases h
    · cases h
theorem compF_ner {b : Bn} {tt : TF} {fe : EF} {r : Env} {vs : List Nat} : ∀ {xs : List D} {S : Sto} {x : D} {r' : Env} {S' : Sto}, compF b tt fe r vs xs S ≠ .er x r' S'
  | [], S, x, r', S' => fun h => by cases h
  | y :: xs, S, x, r', S' => fun h => by
    unfold compF at h
    split at h
    · rename_i r1 _
      cases q : tt r1 S with
      | ok c r2 S2 =>
        rw [q] at h
        simp only [R.calm, R.bind] at h
        split at h
        · cases q2 : fe r2 S2 with
          | ok y r3 S3 =>
            rw [q2] at h
            simp only [R.calm] at h
            cases q3 : compF b tt fe r vs xs S3 with
            | ok zs r4 S4 => rw [q3] at h; cases h
            | er _ _ _ => exact compF_ner q3
            | no => rw [q3] at h; cases h
          | er _ _ _ => rw [q2] at h; cases h
          | no => rw [q2] at h; cases h
        · exact compF_ner h
      | er _ _ _ => rw [q] at h; cases h
      | no => rw [q] at h; cases h
    · cases h
section
variable {X : Cx} {W : WX} {tg iter elt : Expr} {ifs : List Expr} {pos : Pos} {fi : AF} {b : Bn} {tt : TF} {fe : EF} {vs : List Nat} {scope : Scope} {own : List (Str × Nat)}
structure BlkU (X : Cx) (scope : Scope) (own : List (Str × Nat)) (tg : Expr) (ifs : List Expr) (elt : Expr) (b : Bn) (tt : TF) (fe : EF) : Prop where
  ex : ∃ (t : TG), (∀ s H C cl fp, PG (X.blk s H scope (compEnvC scope cl C X.env) fp) tg t) ∧ GU X.K t b (own.map (·.2)) ∧
    (∀ s H C cl fp, PTs (X.blk s H scope (compEnvC scope cl C X.env) fp) ifs (TD X.K W0 relB tt)) ∧ ∀ s H C cl fp, SE (X.blk s H scope (compEnvC scope cl C X.env) fp) W0 elt fe
theorem ts_nil {X' : Cx} : PTs X' [] (TD X'.K W0 relB tYesB) := ⟨fun pins s σ H Q I ⟨g, r, S, l, e, p⟩ => pts_nil.run pins s σ H Q I (post_ok p l e rfl)⟩
theorem res_F {g g' : Gh} {p : Addr} {o u : HO} (h : g'.F = (g.res p o).F) : (g'.res p u).F = (g.res p u).F := by
  show (fun a => if a = p then some u else g'.F a) = fun a => if a = p then some u else g.F a
  rw [h]
  funext a
  by_cases q : a = p
  · simp [q]
  · show (if a = p then some u else if a = p then some o else g.F a) = _
    simp [q]
theorem wipe_wipe {σ : St} : ∀ {vs ws : List Nat}, (∀ i ∈ vs, i ∈ ws) → wipe (wipe σ vs) ws = wipe σ ws
  | [], _, _ => rfl
  | v :: vs, ws, h => by
    show wipe ((wipe σ vs).set v none) ws = _
    rw [wipe_set (h v List.mem_cons_self)]
    exact wipe_wipe fun i hi => h i (List.mem_cons_of_mem _ hi)
theorem comp_coreT {te : TE} {Q : VK} {σ : St} {H1 : Hp} {g0 : Gh} {r0 : Env} {S0 Se : Sto} {xs ys : List D} {J : It} {t : TG} (src : SrcOk X.K g0 xs J) (l : Rl X.K g0 S0 H1) (e : REnv X.K g0 r0 σ) (hl : xs.length < sizeLine) (gu : GU X.K t b vs)
    (hrun : compF b tt fe r0 vs xs S0 = .ok ys r0 Se) (D : Addr) (hD : H1 D = none)
    (hte : ∀ σ2 H3 R, wipe σ2 vs = wipe σ vs → TD X.K W0 (RelD X.K) fe σ2 H3 R → te σ2 H3 R)
    (k : ∀ g H zs, ExtW g0 g → g.F = (g0.res D (.lst zs)).F → Rl X.K g Se H → RelDs X.K g ys zs → Q (.ref D) H) :
    ∃ Wl : Nat → Nat → Hp → Prop, (∃ m, Wl 0 m (upd H1 D (.lst []))) ∧ ∀ i m H, Wl i m H →
      (J.stop i H ∧ Q (.ref D) H) ∨ (J.go i H ∧ ∃ Nx : Hp → Prop, (∀ H', Nx H' → ∃ m', m' < m ∧ Wl (i + 1) m' H') ∧ ∀ x H', J.yld i H x H' → t x (wipe σ vs) H' fun σ2 H2 => wipe σ2 vs = wipe σ vs ∧ (TD X.K W0 relB tt) σ2 H2 fun b H3 =>
        if b = true then te σ2 H3 fun y H4 => ∃ acc, H4 D = some (.lst acc) ∧ acc.length < sizeLine ∧ Nx (upd H4 D (.lst (acc ++ [y]))) else Nx H3) := by
  obtain ⟨G, Y, wk, hG, hY⟩ := src
  refine lc_it (n := xs.length) (G := G) (Y := Y) wk (fun i H => ∃ g S zs acc ws, ExtW g0 g ∧ g.F = (g0.res D (.lst acc)).F ∧ Rl X.K g S H ∧ RelDs X.K g zs acc ∧ zs.length ≤ i ∧ compF b tt fe r0 vs (xs.drop i) S = .ok ws r0 Se ∧ ys = zs ++ ws)
    ⟨g0.res D (.lst []), S0, [], [], ys, ⟨fun _ _ h => h, Nat.le_refl _, fun _ _ => rfl⟩, rfl, l.res hD, .nil, Nat.le_refl _, hrun, rfl⟩ ?_ ?_ ?_
  · rintro i H hi ⟨g, S, zs, acc, ws, x, _, l', _⟩
    exact hG g S H x l'
  · rintro i x H H' hi ⟨g, S, zs, acc, ws, x0, hF, l', rz, hz, hr, hy⟩ y
    obtain ⟨g2, x2, l2, rx⟩ := hY i xs[i] g S H x H' (by simp [hi]) x0 l' y
    rw [List.drop_eq_getElem_cons hi] at hr
    unfold compF at hr
    split at hr
    · rename_i r1 hr1
      refine gu g2 S _ _ H' xs[i] x r1 _ l2 ((wipeE_rel e vs).monoW (x0.trans x2.w)) rx hr1 fun σ2 e2 w2 => ?_
      have hw2 : wipe σ2 vs = wipe σ vs := (w2 vs fun _ h => h).trans (wipe_wipe fun _ h => h)
      refine ⟨hw2, g2, r1, S, l2, e2, ?_⟩
      have accl : acc.length < sizeLine := by
        have h1 := rz.length
        omega
      cases q : tt r1 S with
      | ok c r2 S2 =>
        rw [q] at hr
        intro g3 H3 c' x3 l3 e3 rb
        cases rb
        simp only [R.calm, R.bind] at hr
        have xw3 : ExtW g0 g3 := x0.trans (x2.w.trans x3.w)
        have F3 : g3.F = (g0.res D (.lst acc)).F := x3.F.trans (x2.F.trans hF)
        split
        · rename_i hc
          rw [if_pos hc] at hr
          refine hte _ _ _ hw2 ⟨g3, r2, S2, l3, e3, ?_⟩
          cases q2 : fe r2 S2 with
          | ok yd r3 S3 =>
            rw [q2] at hr
            intro g4 H4 yv x4 l4 e4 ry
            simp only [R.calm] at hr
            have F4 : g4.F = (g0.res D (.lst acc)).F := x4.F.trans F3
            have FD : g4.F D = some (.lst acc) := by rw [F4]; exact if_pos rfl
            refine ⟨acc, (l4.fr D _ FD).1, accl, ?_⟩
            cases q3 : compF b tt fe r0 vs (xs.drop (i + 1)) S3 with
            | ok us r4 S4 =>
              rw [q3] at hr
              have e5 := (compF_len q3).2
              cases hr
              refine ⟨g4.res D (.lst (acc ++ [yv])), S3, zs ++ [yd], acc ++ [yv], us, ?_, res_F F4, l4.rewrite FD, ?_, ?_, by rw [q3], by rw [hy]; simp⟩
              · have := xw3.trans x4.w
                exact ⟨this.G, this.sz, this.m⟩
              · have rz4 := (rz.monoW (x2.w.trans (x3.w.trans x4.w)))
                exact (rz4.append (.cons ry .nil)).eqG rfl rfl rfl
              · rw [List.length_append]
                simp only [List.length_cons, List.length_nil]
                omega
            | er _ _ _ => rw [q3] at hr; cases hr
            | no => rw [q3] at hr; cases hr
          | er _ _ _ => rw [q2] at hr; cases hr
          | no => rw [q2] at hr; cases hr
        · rename_i hc
          rw [if_neg hc] at hr
          exact ⟨g3, S2, zs, acc, ws, xw3, F3, l3, rz.monoW (x2.w.trans x3.w), Nat.le_succ_of_le hz, hr, hy⟩
      | er _ _ _ => rw [q] at hr; cases hr
      | no => rw [q] at hr; cases hr
    · cases hr
  · rintro H ⟨g, S, zs, acc, ws, x0, hF, l', rz, hz, hr, hy⟩
    rw [List.drop_length] at hr
    cases hr
    rw [List.append_nil] at hy
    subst hy
    exact k g H acc x0 hF l' rz
theorem comp_core {Q : VK} {σ : St} {H1 : Hp} {g0 : Gh} {r0 : Env} {S0 Se : Sto} {xs ys : List D} {J : It} {t : TG} (src : SrcOk X.K g0 xs J) (l : Rl X.K g0 S0 H1) (e : REnv X.K g0 r0 σ) (hl : xs.length < sizeLine) (gu : GU X.K t b vs)
    (hrun : compF b tt fe r0 vs xs S0 = .ok ys r0 Se) (D : Addr) (hD : H1 D = none)
    (k : ∀ g H zs, ExtW g0 g → g.F = (g0.res D (.lst zs)).F → Rl X.K g Se H → RelDs X.K g ys zs → Q (.ref D) H) :
    ∃ Wl : Nat → Nat → Hp → Prop, (∃ m, Wl 0 m (upd H1 D (.lst []))) ∧ ∀ i m H, Wl i m H →
      (J.stop i H ∧ Q (.ref D) H) ∨ (J.go i H ∧ ∃ Nx : Hp → Prop, (∀ H', Nx H' → ∃ m', m' < m ∧ Wl (i + 1) m' H') ∧ ∀ x H', J.yld i H x H' → t x (wipe σ vs) H' fun σ2 H2 => wipe σ2 vs = wipe σ vs ∧ (TD X.K W0 relB tt) σ2 H2 fun b H3 =>
        if b = true then (TD X.K W0 (RelD X.K) fe) σ2 H3 fun y H4 => ∃ acc, H4 D = some (.lst acc) ∧ acc.length < sizeLine ∧ Nx (upd H4 D (.lst (acc ++ [y]))) else Nx H3) :=
  comp_coreT src l e hl gu hrun D hD (fun _ _ _ _ h => h) k
theorem noF {K : PySem.W.Frag} {g : Gh} {S : Sto} {H : Hp} {p : Addr} (l : Rl K g S H) (hp : H p = none) : g.F p = none := by
  cases q : g.F p with
  | none => rfl
  | some o =>
    have := (l.fr p o q).1
    rw [hp] at this; cases this
theorem se_comp (hc : X.calm = true) (hN : X.N.Nodup) (hi : IterU X W tg iter fi) (ok : BlkOk X.N X.env.scope scope own) (hb : BlkU X scope own tg ifs elt b tt fe) (hs : ∀ x, foldedSetIterable iter X.env x = pure x := by intro _; rfl) :
    SE X W (.ListComp elt [⟨tg, iter, ifs, 0⟩] scope pos) (eComp fi b (own.map (·.2)) tt fe) := by
  obtain ⟨wi, pi, hw⟩ := hi
  obtain ⟨t, h1, gu, h2, h3⟩ := hb
  refine pe_imp (pe_lc (te := TD X.K W0 (RelD X.K) fe) hc hN pi ok h1 h2 h3 hs) fun σ H Q h => hw σ H _ (td_seq (TD.split (rel := fun g xs J => SrcOk X.K g xs J) h) fun J H1 ⟨g0, xs, r0, S0, l, e, src, p⟩ D hD => ?_)
  split at p
  · rename_i hl
    cases q : compF b tt fe r0 (own.map (·.2)) xs S0 with
    | ok ys r1 Se =>
      have e5 := (compF_len q).2
      subst e5
      rw [q] at p
      refine comp_core src l e hl gu q D hD fun g H' zs x hF l' rz => ?_
      have FD : g.F D = some (.lst zs) := by rw [hF]; exact if_pos rfl
      have hb := l'.back (F := g0.F) (d := .lst ys) FD (noF l hD) (fun a ha => by
        rw [hF]
        show g0.F a = if a = D then _ else g0.F a
        rw [if_neg ha]) ⟨zs, (l'.fr D _ FD).1, rz⟩
      have pe := Gh.put_ext (d := .lst ys) (l'.fr D _ FD).2.1
      have xx : Ext g0 (g.back g0.F D (.lst ys)) := ⟨fun a d h => pe.G a d (x.G a d h), x.sz, x.m, rfl⟩
      exact p _ H' _ xx hb (e.mono xx) ⟨rz.bnd, D, rfl, Gh.put_at⟩
    | er _ _ _ => exact absurd q compF_ner
    | no => rw [q] at p; exact p.elim
  · exact p.elim
end
open PySem PySem.Spec PyProof.Rows
def UCall (K : PySem.W.Frag) (r : List V → Hp → VK → Prop) (o : Sto → List D → Option D) : Prop :=
  ∀ g S H ds d vs (Q : VK), Rl K g S H → RelDs K g ds vs → o S ds = some d → (∀ g' H' v, Ext g g' → Rl K g' S H' → RelD K g' d v → Q v H') → r vs H Q
def orL (o o' : Sto → List D → Option D) : Sto → List D → Option D := fun S x => match o S x with
  | some d => some d
  | none => o' S x
theorem UCall.or {K : PySem.W.Frag} {r r' : List V → Hp → VK → Prop} {o o' : Sto → List D → Option D} (h : UCall K r o) (h' : UCall K r' o') : UCall K (fun x H Q => r x H Q ∨ r' x H Q) (orL o o') := by
  intro g S H x d xv Q l rx e k
  unfold orL at e
  cases q : o S x with
  | some z =>
    rw [q] at e
    exact .inl (h g S H x d xv Q l rx (by rw [q]; exact e) k)
  | none =>
    rw [q] at e
    exact .inr (h' g S H x d xv Q l rx e k)
structure CallU (X : Cx) (f : Value) (o : Sto → List D → Option D) : Prop where
  ex : ∃ r, CallR X f r ∧ UCall X.K r o

section
variable {X : Cx} {W : WX} {pos p : Pos} {x : Str} {a : Expr} {es : List Expr} {fs : AF} {o : Sto → List D → Option D}
theorem se_callB {id : String} (u : CallU X (.builtin id) o) (hm : X.mg x = none) (ha : SA X W (a :: es) fs) (hv : bootBuiltins x = some (.builtin id) := by decide +kernel) (hg : Gl X x := by rfl) (hn : x ≠ "__name__" := by decide) (hdb : (x == ("__debug__" : Str)) = false := by decide)
    (he : starEach (a :: es) X.env = (false, eval a X.env) :: starEach es X.env := by rfl) (hpl : (backTo pos (starEach es X.env)).any (·.1) = false := by rfl) : SE X W (.Call (.Name x p) (a :: es) [] pos) (eCallB o fs) := by
  obtain ⟨r, hc, hu⟩ := u
  refine pe_imp (pe_callB hc hg hm hv ha hn hdb he hpl) fun σ H Q h => td_seq (TD.split (rel := RelDs X.K) h) fun vs H1 ⟨g, ds, r, S, l, e, rd, p⟩ => ?_
  split at p
  · rename_i d q
    exact hu g S H1 ds d vs Q l rd q fun g' H' v x' l' r' => p g' H' v x' l' (e.mono x') r'
  · exact p.elim
theorem se_callTy {T : String} (u : CallU X (.type T) o) (hm : X.mg x = none) (ha : SA X W (a :: es) fs) (hv : bootBuiltins x = some (.type T) := by decide +kernel) (hg : Gl X x := by rfl) (hn : x ≠ "__name__" := by decide) (hdb : (x == ("__debug__" : Str)) = false := by decide)
    (he : starEach (a :: es) X.env = (false, eval a X.env) :: starEach es X.env := by rfl) (hpl : (backTo pos (starEach es X.env)).any (·.1) = false := by rfl) : SE X W (.Call (.Name x p) (a :: es) [] pos) (eCallB o fs) := by
  obtain ⟨r, hc, hu⟩ := u
  refine pe_imp (pe_callTy hc hg hm hv ha hn hdb he hpl) fun σ H Q h => td_seq (TD.split (rel := RelDs X.K) h) fun vs H1 ⟨g, ds, r, S, l, e, rd, p⟩ => ?_
  split at p
  · rename_i d q
    exact hu g S H1 ds d vs Q l rd q fun g' H' v x' l' r' => p g' H' v x' l' (e.mono x') r'
  · exact p.elim
end
section
variable {K : PySem.W.Frag} {g : Gh}
theorem rel1 {d : D} {vs : List V} (r : RelDs K g [d] vs) : ∃ v, vs = [v] ∧ RelD K g d v := by
  cases r with
  | cons a b => cases b; exact ⟨_, rfl, a⟩
theorem rel2 {c d : D} {vs : List V} (r : RelDs K g [c, d] vs) : ∃ u v, vs = [u, v] ∧ RelD K g c u ∧ RelD K g d v := by
  cases r with
  | cons a b => cases b with
    | cons b c => cases c; exact ⟨_, _, rfl, a, b⟩

theorem u_len : UCall K (fun xs H Q => ∃ x n, xs = [x] ∧ LenV K x H n ∧ Q (.int n) H) oLen := by
  intro g S H ds d vs Q l rd e k
  match ds, e with
  | [c], e =>
    obtain ⟨v, rfl, r⟩ := rel1 rd
    have seqs : (seqOf S c).map (fun xs => D.int xs.length) = some d → ∃ x n, [v] = [x] ∧ LenV K x H n ∧ Q (.int n) H := fun e => by
      obtain ⟨xs, e1, rfl⟩ := Option.map_eq_some_iff.mp e
      obtain ⟨a, us, rfl, hs, rs⟩ := seq_view l r e1
      exact ⟨_, xs.length, rfl, hs.imp (fun h => ⟨us, h, rs.length⟩) (fun h => ⟨us, h, rs.length⟩), k g H _ (.refl g) l rfl⟩
    cases c with
    | str z =>
      simp only [oLen] at e
      split at e
      · rename_i hz
        cases e
        cases r
        exact ⟨_, z.length, rfl, ⟨hz, rfl⟩, k g H _ (.refl g) l rfl⟩
      · cases e
    | _ => exact seqs e
  | [], e => cases e
  | _ :: _ :: _, e => simp [oLen] at e
end
theorem cu_len {X : Cx} : CallU X (.builtin "len") oLen := ⟨_, call_len, u_len⟩

def subTy (a b : String) : Option Bool := if a ∈ tyNames ∧ b ∈ tyNames then some (decide (a = b) || (a == "bool" && b == "int")) else none
theorem subTy_ok {a b : String} {r : Bool} (h : subTy a b = some r) : kitB a b = some r := by
  unfold subTy at h
  split at h
  · rename_i hm
    cases h
    have all : ∀ a ∈ tyNames, ∀ b ∈ tyNames, kitB a b = some (decide (a = b) || (a == "bool" && b == "int")) := by decide +kernel
    exact all a hm.1 b hm.2
  · cases h

theorem clsI_cls {K : PySem.W.Frag} {C : Addr} (h : clsI K C = true) : Cls K C := by
  simp only [clsI, Bool.and_eq_true, decide_eq_true_eq] at h
  exact ⟨h.1, h.2.1, h.2.2.1, h.2.2.2.1⟩
def tyV (K : PySem.W.Frag) (S : Sto) : D → Option Value
  | .non => some (.type "NoneType")
  | .bl _ => some (.type "bool")
  | .int _ => some (.type "int")
  | .str _ => some (.type "str")
  | .tup _ => some (.type "tuple")
  | .lst _ => some (.type "list")
  | .fz _ => some (.type "list")
  | .ins C _ _ => if clsI K (He.ga K C) = true then some (.ref (He.ga K C)) else none
  | .ref n => (match S[n]? with
    | some (.lst _) => some (.type "list")
    | some (.ins C _ _) => if clsI K (He.ga K C) = true then some (.ref (He.ga K C)) else none
    | _ => none)
  | _ => none
def isaV (K : PySem.W.Frag) : Value → Value → Option Bool
  | .type a, .type b => subTy a b
  | .type a, .ref C => PySem.W.kitOne K (.type a) (.ref C)
  | .ref C, .ref C' => PySem.W.kitOne K (.ref C) (.ref C')
  | .ref C, .type b => PySem.W.kitOne K (.ref C) (.type b)
  | _, _ => none
def isaVs (K : PySem.W.Frag) (t : Value) : List Value → Option Bool
  | [] => some false
  | c :: r => match isaV K t c with
    | some true => some true
    | some false => isaVs K t r
    | none => none
def clsV (K : PySem.W.Frag) : D → Option Value
  | .ty n => some (.type n)
  | .con C => some (.ref (He.ga K C))
  | _ => none
def clsVs (K : PySem.W.Frag) : List D → Option (List Value)
  | [] => some []
  | d :: r => match clsV K d, clsVs K r with
    | some a, some b => some (a :: b)
    | _, _ => none
def oIsi (K : PySem.W.Frag) : Sto → List D → Option D := fun S ds => match ds with
  | [x, .tup cs] => (match tyV K S x, clsVs K cs with
    | some t, some us => (isaVs K t us).map .bl
    | _, _ => none)
  | [x, c] => (match tyV K S x, clsV K c with
    | some t, some u => (isaV K t u).map .bl
    | _, _ => none)
  | _ => none
section
variable {K : PySem.W.Frag} {g : Gh} {S : Sto} {H : Hp}
theorem isaV_ok {t u : Value} {b : Bool} (h : isaV K t u = some b) : PySem.W.kitOne K t u = some b := by
  cases t <;> cases u <;> first | (exact kit_ty (subTy_ok h)) | (cases h; done) | exact h
theorem isaVs_ok {t : Value} : ∀ {us : List Value} {b : Bool}, isaVs K t us = some b → PySem.W.kitAny K t us = some b
  | [], b, h => h
  | c :: r, b, h => by
    unfold isaVs at h
    unfold PySem.W.kitAny
    split at h
    · rename_i q; rw [isaV_ok q]; exact h
    · rename_i q; rw [isaV_ok q]; exact isaVs_ok h
    · cases h
theorem tyX_lst {a : Addr} {vs : List V} (h : SqL K H a vs) : TyX K H (.ref a) (.type "list") := by
  rcases h with (h | ⟨o, h⟩) | ⟨o, its, n, h, c, _⟩
  · exact .base (.lst h)
  · exact .base (.frz h)
  · exact .kList h c
theorem tyX_tup {a : Addr} {vs : List V} (h : SqT K H a vs) : TyX K H (.ref a) (.type "tuple") := by
  rcases h with (h | ⟨o, h⟩) | ⟨o, its, n, h, c, _⟩
  · exact .base (.tup h)
  · exact .fTuple h
  · exact .kTuple h c
theorem tyX_ins {a C dx : Addr} {fs : List (Str × V)} (h : H a = some (.ins C dx fs)) (c : clsI K C = true) : TyX K H (.ref a) (.ref C) := by
  have cl := clsI_cls c
  simp only [clsI, Bool.and_eq_true, decide_eq_true_eq] at c
  exact .base (.ins h cl c.2.2.2.2.1 c.2.2.2.2.2.1 c.2.2.2.2.2.2.1 c.2.2.2.2.2.2.2)
theorem tyV_ok {d : D} {v : V} {t : Value} (l : Rl K g S H) (r : RelD K g d v) (h : tyV K S d = some t) : TyX K H v t := by
  cases d with
  | non => cases h; cases r; exact .base .non
  | bl b => cases h; cases r; exact .base (.bl b)
  | int b => cases h; cases r; exact .base (.int b)
  | str b => cases h; cases r; exact .base (.str b)
  | tup xs => cases h; obtain ⟨a, vs, rfl, hs, _⟩ := tup_view l r; exact tyX_tup hs
  | lst xs => cases h; obtain ⟨a, vs, rfl, hs, _⟩ := lst_view l r rfl; exact tyX_lst hs
  | fz xs => cases h; obtain ⟨a, vs, rfl, hs, _⟩ := lst_view l r rfl; exact tyX_lst hs
  | ins C ns ds =>
    simp only [tyV] at h
    split at h
    · rename_i hc
      cases h
      obtain ⟨_, a, rfl, q⟩ := r
      obtain ⟨dx, vs, e, _⟩ := l.imm a _ q
      exact tyX_ins e hc
    · cases h
  | ref n =>
    simp only [tyV] at h
    split at h
    · rename_i xs q
      cases h
      obtain ⟨a, vs, rfl, hs, _⟩ := lst_view (d := .ref n) (xs := xs) l r (by unfold lstOf; simp only [q])
      exact tyX_lst hs
    · rename_i C ns ds q
      split at h
      · rename_i hc
        cases h
        obtain ⟨_, rfl⟩ := r
        obtain ⟨_, dx, vs, e, _⟩ := l.sto n _ q (by intro z; cases z)
        exact tyX_ins e hc
      · cases h
    · cases h
  | _ => cases h
theorem clsV_ok {d : D} {v : V} {u : Value} (r : RelD K g d v) (h : clsV K d = some u) : ClsV v u := by
  cases d <;> simp only [clsV, reduceCtorEq, Option.some.injEq] at h
  · subst h; cases r; exact .ty _
  · subst h; cases r; exact .own _
theorem clsVs_ok : ∀ {ds : List D} {vs : List V} {us : List Value}, RelDs K g ds vs → clsVs K ds = some us → Paired ClsV vs us
  | _, _, _, .nil, h => by cases h; exact .nil
  | _, _, _, .cons r t, h => by
    unfold clsVs at h
    split at h
    · rename_i a b h1 h2
      cases h
      exact .cons (clsV_ok r h1) (clsVs_ok t h2)
    · cases h
theorem u_isi : UCall K (fun xs H Q => rIsi K xs H Q ∨ ∃ (x : V) (tp : Addr) (cs : List V) (t : Value) (us : List Value) (b : Bool), xs = [x, .ref tp] ∧ SqT K H tp cs ∧ Paired ClsV cs us ∧ TyX K H x t ∧ PySem.W.kitAny K t us = some b ∧ Q (.bl b) H) (oIsi K) := by
  intro g S H ds d vs Q l rd e k
  match ds, e with
  | [x, c], e =>
    obtain ⟨xv, cv, rfl, rx, rc⟩ := rel2 rd
    have one : (match tyV K S x, clsV K c with
        | some t, some u => (isaV K t u).map D.bl
        | _, _ => none) = some d → rIsi K [xv, cv] H Q := fun e => by
      split at e
      · rename_i t u h1 h2
        obtain ⟨b, h3, rfl⟩ := Option.map_eq_some_iff.mp e
        exact ⟨xv, cv, t, u, b, rfl, clsV_ok rc h2, tyV_ok l rx h1, isaV_ok h3, k g H _ (.refl g) l rfl⟩
      · cases e
    cases c with
    | tup cs =>
      simp only [oIsi] at e
      split at e
      · rename_i t us h1 h2
        obtain ⟨b, h3, rfl⟩ := Option.map_eq_some_iff.mp e
        obtain ⟨a, ws, rfl, hs, rs⟩ := tup_view l rc
        exact .inr ⟨xv, a, ws, t, us, b, rfl, hs, clsVs_ok rs h2, tyV_ok l rx h1, isaVs_ok h3, k g H _ (.refl g) l rfl⟩
      · cases e
    | _ => exact .inl (one e)
  | [], e => cases e
  | [_], e => cases e
  | _ :: _ :: _ :: _, e => simp [oIsi] at e
end
theorem call_isiQ {X : Cx} : CallR X (.builtin "isinstance") (fun xs H Q => ∃ (x : V) (tp : Addr) (cs : List V) (t : Value) (us : List Value) (b : Bool), xs = [x, .ref tp] ∧ SqT X.K H tp cs ∧ Paired ClsV cs us ∧ TyX X.K H x t ∧ PySem.W.kitAny X.K t us = some b ∧ Q (.bl b) H) := by
  intro pins s σ H xs us Q I r h
  obtain ⟨x, tp, cs, t, ws, b, rfl, hT, k, ty, e, q⟩ := h
  obtain ⟨u1, u2, rfl, r1, r2⟩ := vals2 r
  cases (show u2 = Value.ref tp from r2)
  obtain ⟨P, Z, p, hx⟩ := kit_of I r1 ty
  obtain ⟨its, rv, ⟨o, h1, h2, n, h3⟩, _⟩ := I.tuple hT
  have e3 := ClsV.all k rv
  subst e3
  obtain ⟨oc, od, dt, sl⟩ := o
  simp only at h2 h3
  subst h2 h3
  exact PySem.W.kia_tup Z I.kIn p h1 e hx fun tk => ⟨.bl b, H, I.tok tk, rfl, q⟩
theorem cu_isi {X : Cx} : CallU X (.builtin "isinstance") (oIsi X.K) := ⟨_, call_isi.or call_isiQ, u_isi⟩
def blsD : List D → Option (List Bool)
  | [] => some []
  | .bl b :: r => (blsD r).map (b :: ·)
  | _ :: _ => none
theorem blsD_ok {K : PySem.W.Frag} {g : Gh} : ∀ {ds : List D} {vs : List V} {bs : List Bool}, RelDs K g ds vs → blsD ds = some bs → vs = bs.map V.bl
  | _, _, _, .nil, h => by cases h; rfl
  | d :: _, _, bs, .cons r t, h => by
    cases d <;> simp only [blsD, reduceCtorEq] at h
    obtain ⟨cs, h1, rfl⟩ := Option.map_eq_some_iff.mp h
    cases r
    rw [blsD_ok t h1]; rfl
def oAll : Sto → List D → Option D := fun S ds => match ds with
  | [d] => ((lstOf S d).bind blsD).map fun bs => .bl (bs.all id)
  | _ => none
theorem u_all {K : PySem.W.Frag} : UCall K (rAll K) oAll := by
  intro g S H ds d vs Q l rd e k
  match ds, e with
  | [c], e =>
    obtain ⟨v, rfl, r⟩ := rel1 rd
    obtain ⟨bs, e1, rfl⟩ := Option.map_eq_some_iff.mp e
    obtain ⟨xs, e2, e3⟩ := Option.bind_eq_some_iff.mp e1
    obtain ⟨a, us, rfl, hs, rs⟩ := lst_view l r e2
    rw [blsD_ok rs e3] at hs
    exact ⟨a, bs, rfl, hs, k g H _ (.refl g) l rfl⟩
  | [], e => cases e
  | _ :: _ :: _, e => cases e
theorem cu_all {X : Cx} (hc : X.calm = true) : CallU X (.builtin "all") oAll := ⟨_, cr_all hc, u_all⟩

theorem cu_abs {X : Cx} : CallU X (.builtin "abs") oAbs := ⟨_, call_abs, fun g S H ds d vs Q l rd e k => by
  match ds, e with
  | [.int i], e =>
    cases e
    rw [rels1 rd]
    exact ⟨i, rfl, k g H _ (.refl g) l rfl⟩⟩

theorem cu_int {X : Cx} : CallU X (.type "int") oIntOf := ⟨_, call_int1, fun g S H ds d vs Q l rd e k => by
  match ds, e with
  | [.int i], e =>
    cases e
    rw [rels1 rd]
    exact .inl ⟨i, rfl, k g H _ (.refl g) l rfl⟩
  | [.bl b], e =>
    cases e
    obtain ⟨v, rfl, r⟩ := rel1 rd
    cases r
    exact .inr ⟨b, rfl, k g H _ (.refl g) l rfl⟩⟩
def oListOf : Sto → List D → Option D := fun S ds => match ds with
  | [d] => (seqOf S d).map .lst
  | _ => none
theorem cu_list {X : Cx} : CallU X (.type "list") oListOf := ⟨_, call_list_of, fun g S H ds d vs Q l rd e k => by
  match ds, e with
  | [c], e =>
    obtain ⟨v, rfl, r⟩ := rel1 rd
    obtain ⟨xs, e1, rfl⟩ := Option.map_eq_some_iff.mp e
    obtain ⟨a, us, rfl, hs, rs⟩ := seq_view l r e1
    refine ⟨a, us, rfl, hs, fun p hp => ?_⟩
    obtain ⟨g', e1, l1, r1⟩ := l.newLst hp rs
    exact k g' _ _ e1 l1 r1
  | [], e => cases e
  | _ :: _ :: _, e => cases e⟩
def oTupOf : Sto → List D → Option D := fun S ds => match ds with
  | [d] => (seqOf S d).map .tup
  | _ => none
theorem cu_tup {X : Cx} : CallU X (.type "tuple") oTupOf := ⟨_, call_tuple_of, fun g S H ds d vs Q l rd e k => by
  match ds, e with
  | [c], e =>
    obtain ⟨v, rfl, r⟩ := rel1 rd
    have lists : (lstOf S c).map D.tup = some d → ∃ p ys, [v] = [V.ref p] ∧ ((SqL X.K H p ys ∧ ∀ l, H l = none → Q (.ref l) (upd H l (.tup ys))) ∨ (SqT X.K H p ys ∧ Q (.ref p) H)) := fun e => by
      obtain ⟨xs, e1, rfl⟩ := Option.map_eq_some_iff.mp e
      obtain ⟨a, us, rfl, hs, rs⟩ := lst_view l r e1
      refine ⟨a, us, rfl, .inl ⟨hs, fun p hp => ?_⟩⟩
      obtain ⟨g', e1, l1, r1⟩ := l.newTup hp rs
      exact k g' _ _ e1 l1 r1
    cases c with
    | tup xs =>
      cases e
      obtain ⟨a, us, rfl, hs, rs⟩ := tup_view l r
      exact ⟨a, us, rfl, .inr ⟨hs, k g H _ (.refl g) l r⟩⟩
    | _ => exact lists e
  | [], e => cases e
  | _ :: _ :: _, e => cases e⟩


def PostF (K : PySem.W.Frag) (g : Gh) (x : RF) (Q : VK) (E : XK) : Prop := match x with
  | .ok d S => ∀ g' H' v, Ext g g' → Rl K g' S H' → RelD K g' d v → Q v H'
  | .er x S => ∀ g' H' cls od, Ext g g' → Rl K g' S H' → RelX K g' H' x cls od → E cls od H'
  | .no => False
def spU (K : PySem.W.Frag) (n : Nat) (m : MF) : Sp := fun vs H Q E => vs.length = n ∧ ∃ g ds S, Rl K g S H ∧ RelDs K g ds vs ∧ PostF K g (m ds S) Q E
theorem spU_len {K : PySem.W.Frag} {n : Nat} {m : MF} : ∀ vs H Q E, spU K n m vs H Q E → vs.length = n := fun _ _ _ _ h => h.1

abbrev PF := List D → Out
def pureM (m : PF) : MF := fun ds S => if bndL 0 ds = true then match m ds with
  | .ok d => .ok d S
  | .er x => .er x S
  | .no => .no else .no


abbrev FnU (P : Program) (w : World) (K : PySem.W.Frag) (mg : Str → Option Value) (base : Heap) (k : Nat) (f : Addr) (fd : FuncData) (ps : List Str) (m : MF) : Prop := FnOk P w K mg base (CXU K P w) k f fd ps (spU K ps.length m)
section
variable {X : Cx} {W : WX} {pos p : Pos} {x : Str} {a : Expr} {es : List Expr} {fs : AF} {k : Nat} {f : Addr} {fd : FuncData} {ps : List Str} {m : MF} {dds : List D} {dvs : List V} {dus : List Value}
theorem se_call (F : FnU X.prog X.w X.K X.mg X.base k f fd ps m) (hr : Room k X.A) (hm : X.mg x = some (.ref f)) (hk : PySem.W.keepIn X.K (.ref f) = true) (hb : Binds X.K fd ps dus) (hd : Vals dvs dus) (hdd : ∀ g, RelDs X.K g dds dvs) (tk : Tk X W)
    (ha : SA X W (a :: es) fs) (hg : Gl X x := by rfl) (hdb : (x == ("__debug__" : Str)) = false := by decide) (he : starEach (a :: es) X.env = (false, eval a X.env) :: starEach es X.env := by rfl) (hpl : (backTo pos (starEach es X.env)).any (·.1) = false := by rfl) :
    SE X W (.Call (.Name x p) (a :: es) [] pos) (eCallF ps.length m dds fs) := by
  refine pe_imp (pe_callSD (E := fun σ cls od H => W cls od σ H) F hr hg hm hk hb hd (fun σ => passAtU tk σ) ha hdb he hpl) fun σ H Q h => td_seq (TD.split (rel := RelDs X.K) h) fun vs H1 ⟨g, ds, r, S, l, e, rd, p⟩ => ?_
  split at p
  · rename_i hn
    have rr := rd.append (hdd g)
    refine ⟨by rw [← rr.length]; exact hn, g, ds ++ dds, S, l, rr, ?_⟩
    cases q : m (ds ++ dds) S with
    | ok d S' =>
      rw [q] at p
      exact fun g' H' v x' l' r' => p g' H' v x' l' (e.mono x') r'
    | er d S' =>
      rw [q] at p
      exact fun g' H' cls od x' l' r' => p g' H' cls od x' l' (e.mono x') r'
    | no => rw [q] at p; exact p.elim
  · exact p.elim

abbrev SK (X : Cx) (W : WX) (ks : List Keyword) (f : AF) : Prop := PK X ks (TD X.K W (RelDs X.K) f)
theorem pk_imp {ks : List Keyword} {t t' : TA} (h : PK X ks t) (i : ∀ σ H Q, t' σ H Q → t σ H Q) : PK X ks t' := ⟨fun pos pins s σ H Q I w => h.run pos pins s σ H Q I (i σ H Q w)⟩
theorem sk_nil : SK X W [] aNil := pk_imp pk_nil fun σ H Q ⟨g, r, S, l, e, p⟩ => post_ok p l e .nil
theorem sk_cons {nm : Option Str} {kpos : Pos} {kws : List Keyword} {fa : EF} {fr : AF} (ha : SE X W a fa) (hr : SK X W kws fr) : SK X W (⟨nm, a, kpos⟩ :: kws) (aCons fa fr) :=
  pk_imp (pk_cons ha hr) fun σ H Q h => td_seq (TD.split (rel := RelD X.K) h) fun xv H1 ⟨g, x, r, S, l, e, rx, p⟩ =>
    ⟨g, r, S, l, e, PostG.imp p.split fun zv H2 ⟨g', z, r2, S', e', l', re, rz, p'⟩ => post_ok p' l' re (.cons (rx.mono e') rz)⟩
end
def startE (n : Nat) (ds : List D) : Env := ds.map some ++ List.replicate (n - ds.length) none
theorem start_rel {K : PySem.W.Frag} {g : Gh} {N : List Str} {ds : List D} {vs : List V} (r : RelDs K g ds vs) : REnv K g (startE N.length ds) (start N vs) := by
  unfold startE start
  refine ⟨by simp [r.length], fun i d e => ?_⟩
  by_cases hi : i < ds.length
  · rw [List.getElem?_append_left (by simpa using hi), List.getElem?_map] at e
    obtain ⟨d', h1, h2⟩ := Option.map_eq_some_iff.mp e
    cases h2
    obtain ⟨v, h3, h4⟩ := r.get h1
    exact ⟨v, by rw [List.getElem?_append_left (by rw [List.length_map, ← r.length]; exact hi), List.getElem?_map, h3]; rfl, h4⟩
  · rw [List.getElem?_append_right (by simpa using hi), List.getElem?_replicate] at e
    split at e <;> cases e
def endOf : R Fl → RF
  | .ok (.rt d) _ S => .ok d S
  | .ok .nx _ S => .ok .non S
  | .er x _ S => .er x S
  | _ => .no
def Settled (n : Nat) (x y : RF) : Prop := match y with
  | .no => True
  | .ok d S => ∃ d1 S1 k, x = .ok d1 S1 ∧ (∀ (i : Nat) (o : AO), i < n → S1[i]? = some o → bndO n o = true) ∧ fz n S1 k d1 = d ∧ bnd n d = true ∧ S1.take n = S
  | .er d S => ∃ C ns ds S1 k, x = .er (.ins C ns ds) S1 ∧ (∀ (i : Nat) (o : AO), i < n → S1[i]? = some o → bndO n o = true) ∧ d = .ins C ns (ds.map (fz n S1 k)) ∧ bndL n (ds.map (fz n S1 k)) = true ∧ S1.take n = S
theorem post_settled {K : PySem.W.Frag} {g : Gh} {x y : RF} {n : Nat} {Q : VK} {E : XK} (hn : g.sz = n) (hb : ∀ a d, g.G a = some d → bnd n d = true) (h : Settled n x y) (p : PostF K g y Q E) : PostF K g x Q E := by
  cases y with
  | no => exact p.elim
  | ok d S =>
    obtain ⟨d1, S1, k, rfl, hS, hf, hd, ht⟩ := h
    intro g1 H1 v e l r
    obtain ⟨e2, l2⟩ := settle l e hn hb hS
    rw [ht] at l2
    refine p _ H1 v e2 l2 ?_
    rw [← hf]
    exact settled_rel l (by rw [← hn]; exact e.sz) r (by rw [hf]; exact hd)
  | er d S =>
    obtain ⟨C, ns, ds, S1, k, rfl, hS, hf, hd, ht⟩ := h
    intro g1 H1 cls od e l r
    obtain ⟨e2, l2⟩ := settle l e hn hb hS
    rw [ht] at l2
    obtain ⟨C', ns', ds', dx, q1, q2, q3, q4⟩ := r
    cases q1
    have := settled_some (N := n) (S1 := S1) (k := k + 2) q4 (by simp [xdD, fz, bnd, bndL, hd])
    exact p _ H1 cls od e2 l2 ⟨C, ns, _, dx, hf, q2, q3, this⟩
def Out.at (S : Sto) : Out → RF
  | .ok d => .ok d S
  | .er x => .er x S
  | .no => .no
theorem post_pure {K : PySem.W.Frag} {g : Gh} {S : Sto} {H : Hp} {x : RF} {y : Out} {Q : VK} {E : XK} (l : Rl K g S H) (h : Settled 0 x (y.at [])) (p : PostF K g (y.at S) Q E) : PostF K (g.sealed H) x Q E := by
  refine post_settled (n := 0) rfl (fun a d q => (sealed_G.mp q).2) h ?_
  cases y with
  | no => exact p.elim
  | ok d =>
    obtain ⟨d1, S1, k, _, _, hf, hd, _⟩ := h
    intro g1 H1 v e l1 r
    obtain ⟨l2, hp⟩ := reopen l e l1
    exact p _ H1 v opened_ext l2 (relD_over hp r hd)
  | er d =>
    obtain ⟨C, ns, ds, S1, k, _, _, hf, hd, _⟩ := h
    intro g1 H1 cls od e l1 r
    obtain ⟨l2, hp⟩ := reopen l e l1
    obtain ⟨C', ns', ds', dx, q1, q2, q3, q4⟩ := r
    rw [hf] at q1
    cases q1
    exact p _ H1 cls od opened_ext l2 ⟨C, ns, _, dx, hf, q2, q3, hp _ _ q4 (by simp [xdD, bnd, bndL, hd])⟩
section
variable {P : Program} {w : World} {K : PySem.W.Frag} {mg : Str → Option Value} {base : Heap} {x qual : Str} {params : Arguments} {body : List Stmt} {scope : Scope} {dvs : List V} {kws : List (Str × V)} {f : Addr} {fd : FuncData} {N ps : List Str} {k : Nat}
abbrev bodyCx (P : Program) (w : World) (K : PySem.W.Frag) (mg : Str → Option Value) (base : Heap) (N : List Str) (qual : Str) (scope : Scope) (f : Addr) (cdv : Value) (A : Around) (outer : List PySem.Env) (s : Shared) (H : Hp) (E : XK) : Cx :=
  cxOf (CXU K P w) P w K mg base N qual scope f cdv A outer s H E
def wOf (E : XK) : WX := fun cls d _ H => E cls d H
theorem pu_of (F : FunD K x qual params body scope dvs kws f fd) (S : FnScope N ps scope) (m : PF) (fb : SF)
    (hbody : ∀ (cdv : Value) (A : Around) (outer : List PySem.Env) (s : Shared) (H : Hp) (E : XK), Room k (A.deeper (envOfC qual scope s.heap.objs.size f cdv)) → Tk (bodyCx P w K mg base N qual scope f cdv A outer s H E) (wOf E) →
      PassesOwn (model P w) (A.deeper (envOfC qual scope s.heap.objs.size f cdv)) (envOfC qual scope s.heap.objs.size f cdv) (bodyCx P w K mg base N qual scope f cdv A outer s H E).xe → SSs (bodyCx P w K mg base N qual scope f cdv A outer s H E) (wOf E) body fb)
    (hm : ∀ ds, ds.length = ps.length → bndL 0 ds = true → Settled 0 (endOf (fb (startE N.length ds) [])) ((m ds).at [])) : FnU P w K mg base (k + 1) f fd ps (pureM m) := by
  refine F.ok S spU_len fun cdv A outer s H vs Q E hr h => ⟨TSd K (wOf E) fb, hbody cdv A outer s H E hr (tk_of rfl rfl rfl rfl) (passes_of rfl), ?_⟩
  obtain ⟨hl, g, ds, S, l, rd, p⟩ := h
  unfold pureM at p
  split at p
  · rename_i hb
    refine ⟨g.sealed H, _, [], shut l, start_rel (sealed_rels rd hb), ?_⟩
    have p1 : PostF K g ((m ds).at S) Q E := by
      cases q : m ds <;> (rw [q] at p; exact p)
    have p2 := post_pure l (hm ds (by rw [rd.length]; exact hl) hb) p1
    cases q : fb (startE N.length ds) [] with
    | ok a r S1 =>
      rw [q] at p2
      cases a with
      | nx => exact fun g' H' σ' e l' _ => p2 g' H' .non e l' rfl
      | rt d => exact p2
      | bk => exact p2.elim
      | ct => exact p2.elim
    | er y r S1 =>
      rw [q] at p2
      exact fun g' H' σ' cls od e l' _ r' => p2 g' H' cls od e l' r'
    | no => rw [q] at p2; exact p2.elim
  · exact p.elim
end
open PySem PySem.Spec PyProof.Rows He




theorem funA {K : PySem.W.Frag} {a : Addr} {d : DefD} (e : fnA K a = d.val) (c : okA K a d = true) : ∃ fd, FunD K d.name d.qual d.params d.body d.scope (d.dvs K) (d.kws K) a fd := by
  obtain ⟨kp, c⟩ := ba c
  unfold fnA at e
  split at c
  · rename_i oc od fd osl q
    rw [q] at e
    obtain ⟨n1, n2, n3, n4, n5, n6, n7, n8, n9, n10, n11, n12, n13, n14, n15⟩ := fd
    have e2 : (some (n1, n2, n3, n4, n5, n6, n7, n15) : FnW) = some (d.name, d.qual, d.params, .stmts d.body, d.scope, mainGlobals, [], builtinsNs) := e
    simp only [Option.some.injEq, Prod.mk.injEq] at e2
    obtain ⟨h1, h2, h3, h4, h5, h6, h7, h8⟩ := e2
    subst h1 h2 h3 h4 h5 h6 h7 h8
    have c' : (PySem.W.codeIn K n13 d.qual && (dflB K n8 (d.dvs K) && kwdB K n9 (d.kws K))) = true := c
    obtain ⟨k1, k2⟩ := ba c'
    obtain ⟨k3, k4⟩ := ba k2
    exact ⟨_, ⟨oc, od, n8, n9, n10, n11, n12, n13, n14, osl, rfl, q, k1, dflB_ok k3, kwdB_ok k4⟩, kp⟩
  · cases c


section
variable {ck : PySem.W.Frag → Bool} {fn pn : List DefD} {K : PySem.W.Frag}
theorem SaysU.chk (c : SaysU ck fn pn K) : ck K = true := (ba (congrArg (fun z : AlD => z.1) c)).1
theorem SaysU.two (c : SaysU ck fn pn K) : fn.map (fun d => fnA K (fAd K d.at_)) = fn.map DefD.val ∧ pn.map (fun d => fnA K (fAp K d.at_)) = pn.map DefD.val := by
  have e : fn.map (fun d => fnA K (fAd K d.at_)) ++ pn.map (fun d => fnA K (fAp K d.at_)) = (fn ++ pn).map DefD.val := congrArg (fun z : AlD => z.2) c
  rw [List.map_append] at e
  exact List.append_inj e (by simp)
theorem SaysU.def_ (c : SaysU ck fn pn K) (i : Nat) {d : DefD} (h : fn[i]? = some d := by rfl) : ∃ fd, FunD K d.name d.qual d.params d.body d.scope (d.dvs K) (d.kws K) (fAd K d.at_) fd := by
  have c2 := (ba (ba (congrArg (fun z : AlD => z.1) c)).2).1
  have e2 : (fn.map fun d => fnA K (fAd K d.at_))[i]? = (fn.map DefD.val)[i]? := by rw [c.two.1]
  rw [List.getElem?_map, List.getElem?_map, h] at e2
  exact funA (Option.some.inj e2) (List.all_eq_true.mp c2 d (List.mem_of_getElem? h))
end



structure Nm (K : PySem.W.Frag) (mg : Str → Option Value) : Prop where
  v : ∀ x v, PySem.W.nsIn K mainGlobals x = some v → mg x = v
theorem Nm.of {K : PySem.W.Frag} {h : Heap} {mg : Str → Option Value} (X : K.In h) (G : h.Ns mainGlobals mg) : Nm K mg := ⟨fun x v e => by
  cases v with
  | none => exact PySem.W.mg_none_of X G e
  | some v => exact PySem.W.mg_of X G e⟩
section
variable {K : PySem.W.Frag} {mg : Str → Option Value}
theorem free_at (N : Nm K mg) {xs : List Str} (h : freeB K xs = true) (i : Nat) {x : Str} (hx : xs[i]? = some x := by rfl) : mg x = none :=
  N.v x none (eqO_ok (List.all_eq_true.mp h x (List.mem_of_getElem? hx)))
theorem glo_at (N : Nm K mg) {xs : List Str} (h : gloB K xs = true) (i : Nat) {x : Str} (hx : xs[i]? = some x := by rfl) : mg x = some (.ref (ga K x)) :=
  N.v x _ (eqO_ok (List.all_eq_true.mp h x (List.mem_of_getElem? hx)))
theorem con_at (N : Nm K mg) {xs : List (Str × D)} (h : conB K xs = true) (i : Nat) {x : Str} {d : D} (hx : xs[i]? = some (x, d) := by rfl) : KCon K mg x d := by
  have e := List.all_eq_true.mp h _ (List.mem_of_getElem? hx)
  simp only at e
  split at e
  · rename_i u q
    exact ⟨u, 40, N.v x _ q, e⟩
  · cases e
end
structure Def1 (P : Program) (w : World) (K : PySem.W.Frag) (mg : Str → Option Value) (base : Heap) (x : Str) (k : Nat) (ps : List Str) (m : MF) (dds : List D) : Prop where
  ex : ∃ f fd dvs dus, FnU P w K mg base k f fd ps m ∧ mg x = some (.ref f) ∧ PySem.W.keepIn K (.ref f) = true ∧ Binds K fd ps dus ∧ Vals dvs dus ∧ ∀ g, RelDs K g dds dvs
section
variable {X : Cx} {W : WX} {pos p : Pos} {x : Str} {a : Expr} {es : List Expr} {fs : AF} {k : Nat} {ps : List Str} {m : MF} {dds : List D}
theorem se_fn (F : Def1 X.prog X.w X.K X.mg X.base x k ps m dds) (hr : Room k X.A) (tk : Tk X W) (ha : SA X W (a :: es) fs) (hg : Gl X x := by rfl) (hdb : (x == ("__debug__" : Str)) = false := by decide) (he : starEach (a :: es) X.env = (false, eval a X.env) :: starEach es X.env := by rfl)
    (hpl : (backTo pos (starEach es X.env)).any (·.1) = false := by rfl) : SE X W (.Call (.Name x p) (a :: es) [] pos) (eCallF ps.length m dds fs) := by
  obtain ⟨f, fd, dvs, dus, F, hm, hk, hb, hd, hdd⟩ := F
  exact se_call F hr hm hk hb hd hdd tk ha hg hdb he hpl
end
structure DefK (P : Program) (w : World) (K : PySem.W.Frag) (mg : Str → Option Value) (base : Heap) (x : Str) (k : Nat) (ps : List Str) (m : MF) (j : Nat) (ks : List Str) (gD : List D → List D → List D) : Prop where
  ex : ∃ f fd gv gV, FnU P w K mg base k f fd ps m ∧ mg x = some (.ref f) ∧ PySem.W.keepIn K (.ref f) = true ∧ KBn K fd ps j ks gv gV ∧ ∀ g ds vs zs us, RelDs K g ds vs → RelDs K g zs us → RelDs K g (gD ds zs) (gV vs us)
section
variable {X : Cx} {W : WX} {pos p : Pos} {x : Str} {a : Expr} {es : List Expr} {fs fk : AF} {k : Nat} {f : Addr} {fd : FuncData} {ps ks : List Str} {m : MF} {j : Nat} {gv : List Value → List Value → List Value} {gV : List V → List V → List V} {gD : List D → List D → List D} {kws : List Keyword}
theorem run_fnND {pins : List (Addr × Obj)} {σ : St} {H : Hp} {s : Shared} {Q : VK} {sp : Sp} {E : XK} {us ws : List Value} {vs zs : List V} (F : FnOk X.prog X.w X.K X.mg X.base (CXU X.K X.prog X.w) k f fd ps sp) (hr : Room k X.A) (hb : KBn X.K fd ps j ks gv gV) (hx : PassesAt (CXU X.K X.prog X.w) X σ E)
    (I : Inv X pins σ H s) (r : Vals vs us) (rz : Vals zs ws) (l1 : vs.length = j) (l2 : zs.length = ks.length) (h : sp (gV vs zs) H Q E) : wpAny (model X.prog X.w) X.A (call (.ref f) us (ks.zip ws)) (EP X pins σ Q) X.xe s := by
  have r2 := hb.rel r rz
  refine wpAny_call (codeAny_mono (F.run X.A X.stack s H ⟨us, ks.zip ws⟩ (gv us ws) (gV vs zs) Q E hr I.env0 (hb.to s us ws I.kIn (r.length.symm.trans l1) (rz.length.symm.trans l2)) r2 h) fun r s' hq => ?_)
  cases r with
  | error e => exact hx pins H s e s' I hq
  | ok fl =>
    cases fl with
    | ret u => exact I.after hq
    | next => exact False.elim hq
    | brk => exact False.elim hq
    | cont => exact False.elim hq
theorem go_spU {σ : St} {Q : VK} {g : Gh} {ds : List D} {vs : List V} {r : Env} {S : Sto} {H : Hp} {n : Nat} (l : Rl X.K g S H) (e : REnv X.K g r σ) (rr : RelDs X.K g ds vs) (hn : ds.length = n) (p : PostG X.K W (RelD X.K) g σ ((m ds S).run r) Q) :
    spU X.K n m vs H Q (fun cls od H => W cls od σ H) := by
  refine ⟨by rw [← rr.length]; exact hn, g, ds, S, l, rr, ?_⟩
  cases q : m ds S with
  | ok d S' =>
    rw [q] at p
    exact fun g' H' v x' l' r' => p g' H' v x' l' (e.mono x') r'
  | er d S' =>
    rw [q] at p
    exact fun g' H' cls od x' l' r' => p g' H' cls od x' l' (e.mono x') r'
  | no => rw [q] at p; exact p.elim
theorem se_fnK0 (F : DefK X.prog X.w X.K X.mg X.base x k ps m 0 ks gD) (hr : Room k X.A) (tk : Tk X W) (hkw : SK X W kws fk) (hg : Gl X x := by rfl) (hall : (backToKw pos (keywordEach kws X.env)).all (·.1.isSome) = true := by rfl) (hks : (backToKw pos (keywordEach kws X.env)).filterMap (·.1) = ks := by rfl)
    (hdb : (x == ("__debug__" : Str)) = false := by decide)
    (hpl : ((backTo pos (starEach [] X.env)).any (·.1) || (backToKw pos (keywordEach kws X.env)).any (·.1.isNone)) = false := by rfl) : SE X W (.Call (.Name x p) [] kws pos) (eCallK ps.length 0 ks.length m gD aNil fk) := by
  obtain ⟨f, fd, gv, gV, F, hm, hk, hb, hrel⟩ := F
  refine ⟨fun pins s σ H Q I h => ?_⟩
  refine wpAny_Call_Name_kw (ld_glob I hg hm ?_ hdb)
  obtain ⟨g, r, S, l, e, p⟩ := h
  have p' : PostG X.K W (RelD X.K) g σ ((fk r S).bind fun zs r S => if ([] : List D).length = 0 ∧ zs.length = ks.length ∧ (gD [] zs).length = ps.length then (m (gD [] zs) S).run r else .no) Q := p
  refine PySem.W.callWith_KW0 (h₀ := X.base) I.ok.mod.kin hk hall (thn (hkw.run pos pins s σ H _ I ⟨g, r, S, l, e, p'.split⟩) fun ws s2 ⟨zs, H2, I2, rz, g2, zd, r2, S2, x2, l2, e2, rzd, p2⟩ => ⟨I2.kIn, ?_⟩) hpl
  rw [hks]
  split at p2
  · rename_i hn
    have rr := hrel g2 _ _ _ _ (.nil : RelDs X.K g2 [] []) rzd
    exact run_fnND (us := []) (vs := []) (E := fun cls od H => W cls od σ H) F hr hb (passAtU tk σ) I2 .nil rz rfl (by rw [← rzd.length]; exact hn.2.1) (go_spU l2 e2 rr hn.2.2 p2)
  · exact p2.elim
end
theorem kReps_ints {K : PySem.W.Frag} : ∀ (ns : List Int) (us : List Value) (f : Nat), Vals (ns.map V.int) us → ns.length + 2 ≤ f → kReps K f (ns.map D.int) us = true
  | [], us, f, r, hf => by
    cases r
    match f, hf with
    | f + 1, _ => rfl
  | n :: ns, us, f, r, hf => by
    rw [List.length_cons] at hf
    cases r with
    | cons r1 r2 =>
      obtain ⟨t, rfl⟩ := r1
      match f, hf with
      | f + 1, hf =>
        show (kRep K f (.int n) (.int n t) && kReps K f (ns.map D.int) _) = true
        rw [kReps_ints ns _ f r2 (by omega)]
        match f, hf with
        | f + 1, _ => simp [kRep]
theorem bndL_ints (n : Nat) : ∀ ns : List Int, bndL n (ns.map D.int) = true
  | [] => rfl
  | _ :: ns => by show (true && bndL n (ns.map D.int)) = true; rw [bndL_ints n ns]; rfl
theorem cx_none {K : PySem.W.Frag} {P : Program} {w : World} {H : Hp} {s : Shared} {e : Value} {s' : Shared} (h : CXU K P w [] H s (fun _ _ _ => False) e s') : False := cxU_no h
open PySem PySem.Spec PyProof.Rows He
def oNeg : Sto → D → Option D := fun _ x => match x with
  | .int i => some (.int (-i))
  | _ => none
structure UnU (X : Cx) (op : UnaryOp) (o : Sto → D → Option D) : Prop where
  ex : ∃ r, UnR X (unaryOp op) r ∧ ∀ g S H x d xv (Q : VK), Rl X.K g S H → RelD X.K g x xv → o S x = some d → (∀ v, RelD X.K g d v → Q v H) → r xv H Q

section
variable {X : Cx} {W : WX} {pos : Pos} {a : Expr} {fa : EF}
theorem un_negU : UnU X .USub oNeg := ⟨_, un_neg, fun g S H x d xv Q l rx e k => by
  cases x <;> simp only [oNeg, reduceCtorEq, Option.some.injEq] at e
  subst e
  cases rx
  exact ⟨_, rfl, k _ rfl⟩⟩
theorem se_un {op : UnaryOp} {o : Sto → D → Option D} (u : UnU X op o) (ha : SE X W a fa) : SE X W (.UnaryOp op a pos) (eUn o fa) := by
  obtain ⟨r0, ho, hu⟩ := u
  refine pe_imp (pe_un ho ha) fun σ H Q h => td_seq (TD.split (rel := RelD X.K) h) fun xv H1 ⟨g, x, r, S, l, e, rx, p⟩ => ?_
  split at p
  · rename_i d q
    exact hu g S H1 x d xv Q l rx q fun v rv => post_ok p l e rv
  · exact p.elim
end
def rawM (n : Nat) (fb : SF) : MF := fun ds S => endOf (fb (startE n ds) S)
def cleanF (n : Nat) : RF → RF
  | .ok d S => if (S.take n).all (bndO n) && bnd n (fz n S 60 d) then .ok (fz n S 60 d) (S.take n) else .no
  | .er (.ins C ns ds) S => if (S.take n).all (bndO n) && bndL n (ds.map (fz n S 60)) then .er (.ins C ns (ds.map (fz n S 60))) (S.take n) else .no
  | _ => .no
theorem take_bnd {n : Nat} {S : Sto} (h : (S.take n).all (bndO n) = true) (i : Nat) (o : AO) (hi : i < n) (e : S[i]? = some o) : bndO n o = true := by
  refine List.all_eq_true.mp h o (List.mem_of_getElem? (i := i) ?_)
  rw [List.getElem?_take, if_pos hi]
  exact e
theorem clean_settled (n : Nat) (x : RF) : Settled n x (cleanF n x) := by
  cases x with
  | no => exact trivial
  | ok d S =>
    show Settled n _ (if (S.take n).all (bndO n) && bnd n (fz n S 60 d) then RF.ok (fz n S 60 d) (S.take n) else .no)
    split
    · rename_i h
      simp only [Bool.and_eq_true] at h
      exact ⟨d, S, 60, rfl, take_bnd h.1, rfl, h.2, rfl⟩
    · exact trivial
  | er d S =>
    cases d with
    | ins C ns ds =>
      show Settled n _ (if (S.take n).all (bndO n) && bndL n (ds.map (fz n S 60)) then RF.er (.ins C ns (ds.map (fz n S 60))) (S.take n) else .no)
      split
      · rename_i h
        simp only [Bool.and_eq_true] at h
        exact ⟨C, ns, ds, S, 60, rfl, take_bnd h.1, rfl, h.2, rfl⟩
      · exact trivial
    | _ => exact trivial
def outF : RF → Out
  | .ok d _ => .ok d
  | .er d _ => .er d
  | .no => .no
theorem out_settled (x : RF) : Settled 0 x ((outF (cleanF 0 x)).at []) := by
  have h := clean_settled 0 x
  have e : (outF (cleanF 0 x)).at [] = cleanF 0 x := by
    cases x with
    | no => rfl
    | ok d S => simp only [cleanF]; split <;> rfl
    | er d S =>
      cases d with
      | ins C ns ds => simp only [cleanF]; split <;> rfl
      | _ => rfl
  rw [e]
  exact h
def purF (n : Nat) (fb : SF) : PF := fun ds => outF (cleanF 0 (endOf (fb (startE n ds) [])))
def purM (n : Nat) (fb : SF) : MF := pureM (purF n fb)
section
variable {P : Program} {w : World} {K : PySem.W.Frag} {mg : Str → Option Value} {base : Heap} {x qual : Str} {params : Arguments} {body : List Stmt} {scope : Scope} {f : Addr} {fd : FuncData} {N ps : List Str} {k : Nat}
abbrev BodyU (P : Program) (w : World) (K : PySem.W.Frag) (mg : Str → Option Value) (base : Heap) (k : Nat) (N : List Str) (qual : Str) (scope : Scope) (f : Addr) (body : List Stmt) (fb : SF) : Prop :=
  ∀ (cdv : Value) (A : Around) (outer : List PySem.Env) (s : Shared) (H : Hp) (E : XK), Room k (A.deeper (envOfC qual scope s.heap.objs.size f cdv)) → Tk (bodyCx P w K mg base N qual scope f cdv A outer s H E) (wOf E) →
      PassesOwn (model P w) (A.deeper (envOfC qual scope s.heap.objs.size f cdv)) (envOfC qual scope s.heap.objs.size f cdv) (bodyCx P w K mg base N qual scope f cdv A outer s H E).xe → SSs (bodyCx P w K mg base N qual scope f cdv A outer s H E) (wOf E) body fb
variable {dvs : List V} {kws : List (Str × V)}
theorem fn_raw (F : FunD K x qual params body scope dvs kws f fd) (S : FnScope N ps scope) (fb : SF) (hbody : BodyU P w K mg base k N qual scope f body fb) : FnU P w K mg base (k + 1) f fd ps (rawM N.length fb) := by
  refine F.ok S spU_len fun cdv A outer s H vs Q E hr h => ⟨TSd K (wOf E) fb, hbody cdv A outer s H E hr (tk_of rfl rfl rfl rfl) (passes_of rfl), ?_⟩
  obtain ⟨hl, g, ds, S, l, rd, p⟩ := h
  refine ⟨g, _, S, l, start_rel rd, ?_⟩
  unfold rawM at p
  cases q : fb (startE N.length ds) S with
  | ok a r S1 =>
    rw [q] at p
    cases a with
    | nx => exact fun g' H' σ' e l' _ => p g' H' .non e l' rfl
    | rt d => exact p
    | bk => exact p.elim
    | ct => exact p.elim
  | er y r S1 =>
    rw [q] at p
    exact fun g' H' σ' cls od e l' _ r' => p g' H' cls od e l' r'
  | no => rw [q] at p; exact p.elim
theorem fn_pur (F : FunD K x qual params body scope dvs kws f fd) (S : FnScope N ps scope) (fb : SF) (hbody : BodyU P w K mg base k N qual scope f body fb) : FnU P w K mg base (k + 1) f fd ps (purM N.length fb) :=
  pu_of F S _ fb hbody fun ds _ _ => out_settled _
theorem fn_no (F : FunD K x qual params body scope dvs kws f fd) (S : FnScope N ps scope) : FnU P w K mg base (k + 1) f fd ps (fun _ _ => .no) :=
  F.ok S spU_len fun cdv A outer s H vs Q E hr h => by
    obtain ⟨hl, g, ds, S, l, rd, p⟩ := h
    exact p.elim
theorem def1_of {m : MF} {k : Nat} (hF : FnU P w K mg base k f fd ps m) (F : FunD K x qual params body scope [] [] f fd) (hm : mg x = some (.ref f))
    (h : ∀ (kV doc pm : Value) (an : Option Addr) (cdv ct : Value) (us : List Value), us.length = ps.length → bindArgs (PySem.W.fnOf x qual params body scope .none kV doc pm an cdv ct) ⟨us, []⟩ = pure (ps.zip us)) : Def1 P w K mg base x k ps m [] :=
  ⟨f, fd, [], [], hF, hm, F.kp, F.bindsN h, .nil, fun _ => .nil⟩
theorem defK_of {m : MF} {k : Nat} (n : Nat) (ks : List Str) (gv : {α : Type} → List α → List α → List α) (hF : FnU P w K mg base k f fd ps m) (F : FunD K x qual params body scope [] [] f fd) (hm : mg x = some (.ref f))
    (hrel : ∀ {α β : Type} {R : α → β → Prop} {as : List α} {bs : List β} {cs : List α} {es : List β}, Paired R as bs → Paired R cs es → Paired R (gv as cs) (gv bs es))
    (h : ∀ (kV doc pm : Value) (an : Option Addr) (cdv ct : Value) (us ws : List Value), us.length = n → ws.length = ks.length → bindArgs (PySem.W.fnOf x qual params body scope .none kV doc pm an cdv ct) ⟨us, ks.zip ws⟩ = pure (ps.zip (gv us ws))) :
    DefK P w K mg base x k ps m n ks gv := by
  refine ⟨f, fd, gv, gv, hF, hm, F.kp, ⟨fun s us ws X l1 l2 => ?_, fun r1 r2 => hrel r1 r2⟩, fun g ds vs zs us r1 r2 => hrel r1 r2⟩
  obtain ⟨oc, od, dV, kV, doc, pm, an, cdv, ct, osl, rfl, lk, hcd, hD, hK⟩ := F.ex
  rcases hD with ⟨_, rfl⟩ | ⟨e, _⟩
  · exact .of_eq (h kV doc pm an cdv ct us ws l1 l2)
  · exact absurd rfl e
end


section
variable {α β : Type} {Q Q' : α → Env → Sto → Prop} {Z Z' : D → Env → Sto → Prop}
@[simp] theorem wp_ok {a : α} {r : Env} {S : Sto} : wp (.ok a r S) Q Z = Q a r S := propext Iff.rfl
@[simp] theorem wp_er {d : D} {r : Env} {S : Sto} : wp (.er d r S : R α) Q Z = Z d r S := propext Iff.rfl
@[simp] theorem wp_no : wp (.no : R α) Q Z = False := propext Iff.rfl
@[simp] theorem wp_bind {x : R α} {k : α → Env → Sto → R β} {Q : β → Env → Sto → Prop} : wp (x.bind k) Q Z = wp x (fun a r S => wp (k a r S) Q Z) Z := by cases x <;> rfl
theorem wp_imp {x : R α} (h : wp x Q Z) (i : ∀ a r S, Q a r S → Q' a r S) (j : ∀ d r S, Z d r S → Z' d r S) : wp x Q' Z' := by
  cases x with
  | ok a r S => exact i a r S h
  | er d r S => exact j d r S h
  | no => exact h
theorem wp_calm {x : R α} (h : wp x Q fun _ _ _ => False) : wp x.calm Q Z := by
  cases x with
  | ok a r S => exact h
  | er d r S => exact h.elim
  | no => exact h
@[simp] theorem wp_run {x : RF} {r : Env} {Q : D → Env → Sto → Prop} : wp (x.run r) Q Z = wf x (fun d S => Q d r S) (fun d S => Z d r S) := by cases x <;> rfl
@[simp] theorem wf_ok {d : D} {S : Sto} {Q Z : D → Sto → Prop} : wf (.ok d S) Q Z = Q d S := propext Iff.rfl
theorem wf_imp {x : RF} {Q Q' Z Z' : D → Sto → Prop} (h : wf x Q Z) (i : ∀ a S, Q a S → Q' a S) (j : ∀ d S, Z d S → Z' d S) : wf x Q' Z' := by
  cases x with
  | ok a S => exact i a S h
  | er d S => exact j d S h
  | no => exact h
theorem wf_end {x : R Fl} {Q Z : D → Sto → Prop} (h : wp x (fun a _ S => match a with
    | .rt d => Q d S
    | .nx => Q .non S
    | _ => False) fun d _ S => Z d S) : wf (endOf x) Q Z := by
  cases x with
  | ok a r S => cases a <;> exact h
  | er d r S => exact h
  | no => exact h
theorem wp_seq {f h : SF} {r : Env} {S : Sto} {Q : Fl → Env → Sto → Prop} (e : wp (f r S) (fun a r S => match a with
    | .nx => wp (h r S) Q Z
    | a => Q a r S) Z) : wp (sSeq f h r S) Q Z := by
  unfold sSeq
  rw [wp_bind]
  refine wp_imp e (fun a r S q => ?_) (fun _ _ _ z => z)
  cases a <;> exact q
theorem wp_loop {b : Bn} {fb : SF} {Q : Fl → Env → Sto → Prop} (I : List D → Env → Sto → Prop) : ∀ (xs : List D) (r : Env) (S : Sto), I xs r S → (∀ r S, I [] r S → Q .nx r S) →
    (∀ x xs r S, I (x :: xs) r S → ∃ r1, b x r = some r1 ∧ wp (fb r1 S) (fun a r S => match a with
      | .nx => I xs r S
      | .ct => I xs r S
      | .bk => Q .nx r S
      | .rt d => Q (.rt d) r S) Z) → wp (loopF b fb xs r S) Q Z
  | [], r, S, h0, h1, _ => h1 r S h0
  | x :: xs, r, S, h0, h1, h2 => by
    obtain ⟨r1, e1, h3⟩ := h2 x xs r S h0
    unfold loopF
    rw [e1]
    simp only
    rw [wp_bind]
    refine wp_imp h3 (fun a r S q => ?_) (fun _ _ _ z => z)
    cases a with
    | nx => exact wp_loop I xs r S q h1 h2
    | ct => exact wp_loop I xs r S q h1 h2
    | bk => exact q
    | rt d => exact q
theorem wp_comp {b : Bn} {tt : TF} {fe : EF} {r : Env} {vs : List Nat} (I : List D → List D → Sto → Prop) {Q : List D → Env → Sto → Prop} : ∀ (xs ys : List D) (S : Sto), I xs ys S → (∀ ys S, I [] ys S → Q ys r S) →
    (∀ x xs ys S, I (x :: xs) ys S → ∃ r1, b x (wipeE r vs) = some r1 ∧ wp (tt r1 S) (fun c r2 S2 => if c = true then wp (fe r2 S2) (fun y _ S3 => I xs (ys ++ [y]) S3) (fun _ _ _ => False) else I xs ys S2) fun _ _ _ => False) →
    wp (compF b tt fe r vs xs S) (fun zs r S => Q (ys ++ zs) r S) Z
  | [], ys, S, h0, h1, _ => by
    show Q (ys ++ []) r S
    rw [List.append_nil]
    exact h1 ys S h0
  | x :: xs, ys, S, h0, h1, h2 => by
    obtain ⟨r1, e1, h3⟩ := h2 x xs ys S h0
    unfold compF
    rw [e1]
    simp only
    rw [wp_bind]
    refine wp_calm (wp_imp h3 (fun c r2 S2 q => ?_) (fun _ _ _ z => z))
    split
    · rename_i hc
      rw [if_pos hc] at q
      rw [wp_bind]
      refine wp_calm (wp_imp q (fun y _ S3 q => ?_) (fun _ _ _ z => z))
      rw [wp_bind]
      refine wp_imp (wp_comp I xs (ys ++ [y]) S3 q h1 h2) (fun zs r S q => ?_) (fun _ _ _ z => z)
      show Q (ys ++ y :: zs) r S
      rw [List.append_assoc] at q
      exact q
    · rename_i hc
      rw [if_neg hc] at q
      exact wp_comp I xs ys S2 q h1 h2
end
open PySem PySem.Spec PyProof.Rows He
def tyV0 (S : Sto) : D → Option String
  | .non => some "NoneType"
  | .bl _ => some "bool"
  | .int _ => some "int"
  | .str _ => some "str"
  | .tup _ => some "tuple"
  | .lst _ => some "list"
  | .fz _ => some "list"
  | .ref n => (match S[n]? with
    | some (.lst _) => some "list"
    | _ => none)
  | _ => none
theorem tyV0_ok {K : PySem.W.Frag} {S : Sto} {d : D} {t : String} (h : tyV0 S d = some t) : tyV K S d = some (.type t) := by
  cases d <;> simp only [tyV0, reduceCtorEq, Option.some.injEq] at h <;> try (subst h; rfl)
  simp only [tyV]
  split at h
  · rename_i q; rw [q]; cases h; rfl
  · cases h
def isa0 (t : String) : List String → Option Bool
  | [] => some false
  | c :: r => match subTy t c with
    | some true => some true
    | some false => isa0 t r
    | none => none
def tysOf : List D → Option (List String)
  | [] => some []
  | .ty c :: r => (tysOf r).map (c :: ·)
  | _ :: _ => none
theorem tysOf_ok {K : PySem.W.Frag} : ∀ {cs : List D} {ts : List String}, tysOf cs = some ts → clsVs K cs = some (ts.map .type)
  | [], ts, h => by cases h; rfl
  | d :: r, ts, h => by
    cases d <;> simp only [tysOf, reduceCtorEq] at h
    obtain ⟨us, e, rfl⟩ := Option.map_eq_some_iff.mp h
    simp only [clsVs, clsV, tysOf_ok e, List.map_cons]
theorem isa0_ok {K : PySem.W.Frag} {t : String} : ∀ {cs : List String} {b : Bool}, isa0 t cs = some b → isaVs K (.type t) (cs.map .type) = some b
  | [], b, h => h
  | c :: r, b, h => by
    unfold isa0 at h
    show (match isaV K (.type t) (.type c) with
      | some true => some true
      | some false => isaVs K (.type t) (r.map .type)
      | none => none) = some b
    rw [show isaV K (.type t) (.type c) = subTy t c from rfl]
    split at h
    · exact h
    · exact isa0_ok h
    · cases h
def oIsi0 : Sto → List D → Option D := fun S ds => match ds with
  | [x, .tup cs] => (match tyV0 S x, tysOf cs with
    | some t, some us => (isa0 t us).map .bl
    | _, _ => none)
  | [x, .ty c] => (match tyV0 S x with
    | some t => (subTy t c).map .bl
    | none => none)
  | _ => none
theorem isi0_ok {K : PySem.W.Frag} {S : Sto} {ds : List D} {d : D} (h : oIsi0 S ds = some d) : oIsi K S ds = some d := by
  unfold oIsi0 at h
  split at h
  · rename_i x cs
    split at h
    · rename_i t us h1 h2
      simp only [oIsi, tyV0_ok h1, tysOf_ok h2]
      obtain ⟨b, e, rfl⟩ := Option.map_eq_some_iff.mp h
      rw [isa0_ok e]; rfl
    · cases h
  · rename_i x c
    split at h
    · rename_i t h1
      simp only [oIsi, tyV0_ok h1, clsV]
      exact h
    · cases h
  · cases h
theorem cu_isi0 {X : Cx} : CallU X (.builtin "isinstance") oIsi0 := by
  obtain ⟨r, h1, h2⟩ := cu_isi (X := X)
  exact ⟨r, h1, fun g S H ds d vs Q l rd e k => h2 g S H ds d vs Q l rd (isi0_ok e) k⟩
theorem blk_mk {X : Cx} {scope : Scope} {own : List (Str × Nat)} {tg elt : Expr} {ifs : List Expr} {b : Bn} {tt : TF} {fe : EF} {t : TG} (h1 : ∀ s H C cl fp, PG (X.blk s H scope (compEnvC scope cl C X.env) fp) tg t) (h2 : GU X.K t b (own.map (·.2)))
    (h3 : ∀ s H C cl fp, PTs (X.blk s H scope (compEnvC scope cl C X.env) fp) ifs (TD X.K W0 relB tt)) (h4 : ∀ s H C cl fp, SE (X.blk s H scope (compEnvC scope cl C X.env) fp) W0 elt fe) : BlkU X scope own tg ifs elt b tt fe := ⟨t, h1, h2, h3, h4⟩
section
variable {X : Cx} {W : WX} {pos p : Pos} {x : Str} {a : Expr} {es : List Expr} {fs fk : AF} {k n c : Nat} {ps ks : List Str} {m : MF} {dds : List D} {j : Nat} {gD : List D → List D → List D} {kws : List Keyword}
theorem sf_fn (F : Def1 X.prog X.w X.K X.mg X.base x k ps m dds) (hr : Room k X.A) (tk : Tk X W) (ha : SA X W (a :: es) fs) (hl : ps.length = n := by rfl) (hg : Gl X x := by rfl) (hdb : (x == ("__debug__" : Str)) = false := by decide) (he : starEach (a :: es) X.env = (false, eval a X.env) :: starEach es X.env := by rfl)
    (hpl : (backTo pos (starEach es X.env)).any (·.1) = false := by rfl) : SE X W (.Call (.Name x p) (a :: es) [] pos) (eCallF n m dds fs) := by
  subst hl
  exact se_fn F hr tk ha hg hdb he hpl
theorem sf_fnK0 (F : DefK X.prog X.w X.K X.mg X.base x k ps m 0 ks gD) (hr : Room k X.A) (tk : Tk X W) (hkw : SK X W kws fk) (hl : ps.length = n := by rfl) (hc : ks.length = c := by rfl) (hg : Gl X x := by rfl) (hall : (backToKw pos (keywordEach kws X.env)).all (·.1.isSome) = true := by rfl) (hks : (backToKw pos (keywordEach kws X.env)).filterMap (·.1) = ks := by rfl)
    (hdb : (x == ("__debug__" : Str)) = false := by decide)
    (hpl : ((backTo pos (starEach [] X.env)).any (·.1) || (backToKw pos (keywordEach kws X.env)).any (·.1.isNone)) = false := by rfl) : SE X W (.Call (.Name x p) [] kws pos) (eCallK n 0 c m gD aNil fk) := by
  subst hl hc
  exact se_fnK0 F hr tk hkw hg hall hks hdb hpl
end
def permL {α : Type} (is : List Nat) (l : List α) : List α := is.filterMap (l[·]?)
theorem paired_get {α β : Type} {R : α → β → Prop} : ∀ {as : List α} {bs : List β} (i : Nat), Paired R as bs → (as[i]? = none ∧ bs[i]? = none) ∨ ∃ a b, as[i]? = some a ∧ bs[i]? = some b ∧ R a b
  | _, _, i, .nil => .inl ⟨by simp, by simp⟩
  | _, _, 0, .cons r _ => .inr ⟨_, _, rfl, rfl, r⟩
  | _, _, i + 1, .cons _ t => by
    rcases paired_get i t with ⟨h1, h2⟩ | ⟨a, b, h1, h2, h3⟩
    · exact .inl ⟨by simpa using h1, by simpa using h2⟩
    · exact .inr ⟨a, b, by simpa using h1, by simpa using h2, h3⟩
theorem paired_app {α β : Type} {R : α → β → Prop} : ∀ {as : List α} {bs : List β} {cs : List α} {es : List β}, Paired R as bs → Paired R cs es → Paired R (as ++ cs) (bs ++ es)
  | _, _, _, _, .nil, h => h
  | _, _, _, _, .cons r t, h => .cons r (paired_app t h)
theorem paired_perm {α β : Type} {R : α → β → Prop} {as : List α} {bs : List β} (h : Paired R as bs) : ∀ is : List Nat, Paired R (permL is as) (permL is bs)
  | [] => .nil
  | i :: is => by
    unfold permL
    rcases paired_get i h with ⟨h1, h2⟩ | ⟨a, b, h1, h2, h3⟩
    · rw [List.filterMap_cons_none h1, List.filterMap_cons_none h2]
      exact paired_perm h is
    · rw [List.filterMap_cons_some h1, List.filterMap_cons_some h2]
      exact .cons h3 (paired_perm h is)
abbrev kdL (is : List Nat) {α : Type} : List α → List α → List α := fun as bs => permL is (as ++ bs)
theorem kd_rel (is : List Nat) {α β : Type} {R : α → β → Prop} {as : List α} {bs : List β} {cs : List α} {es : List β} (h : Paired R as bs) (h' : Paired R cs es) : Paired R (kdL is as cs) (kdL is bs es) := paired_perm (paired_app h h') is
open PySem PySem.Spec PyProof.Rows He
section
variable {Z : D → Env → Sto → Prop} {r : Env} {S : Sto} {fa fb fc : EF} {ta tb : TF} {fs ft : AF}
@[simp] theorem wp_opt {α : Type} {o : Option D} {f : D → R α} {Q : α → Env → Sto → Prop} : wp (match o with
    | some d => f d
    | none => .no) Q Z = match o with
    | some d => wp (f d) Q Z
    | none => False := by cases o <;> rfl
variable {Q : D → Env → Sto → Prop}
@[simp] theorem Wb {d : D} : wp (eC d r S) Q Z = Q d r S := propext Iff.rfl


@[simp] theorem got_some {α : Type} {d : α} {P : α → Prop} : got (some d) P = P d := propext Iff.rfl
@[simp] theorem got_none {α : Type} {P : α → Prop} : got (none : Option α) P = False := propext Iff.rfl
@[simp] theorem got_ite {α : Type} {c : Prop} [Decidable c] {x y : Option α} {P : α → Prop} : got (if c then x else y) P = if c then got x P else got y P := by split <;> rfl
@[simp] theorem rd_cons0 {d : D} {r : Env} : rd (some d :: r) 0 = some d := rfl
@[simp] theorem rd_cons {x : Option D} {r : Env} {i : Nat} : rd (x :: r) (i + 1) = rd r i := rfl
@[simp] theorem Wc {i : Nat} : wp (eVar i r S) Q Z = got (rd r i) fun d => Q d r S := by
  unfold eVar rd; split <;> simp_all





@[simp] theorem Wd {o : Sto → D → D → Option D} : wp (eBin o fa fb r S) Q Z = wp (fa r S) (fun x r S => wp (fb r S) (fun y r S => got (o S x y) fun d => Q d r S) Z) Z := by
  unfold eBin
  simp only [wp_bind]
  congr; funext x r S; congr; funext y r S
  cases o S x y <;> rfl
@[simp] theorem We {o : Sto → D → D → Option Bool} : wp (eCmp o fa fb r S) Q Z = wp (fa r S) (fun x r S => wp (fb r S) (fun y r S => got (o S x y) fun d => Q (.bl d) r S) Z) Z := by
  unfold eCmp
  simp only [wp_bind]
  congr; funext x r S; congr; funext y r S
  cases o S x y <;> rfl
@[simp] theorem Wf {o : Sto → D → Option D} : wp (eUn o fa r S) Q Z = wp (fa r S) (fun x r S => got (o S x) fun d => Q d r S) Z := by
  unfold eUn
  simp only [wp_bind]
  congr; funext x r S
  cases o S x <;> rfl
@[simp] theorem Wg {o : Sto → List D → Option D} : wp (eCallB o fs r S) Q Z = wp (fs r S) (fun x r S => got (o S x) fun d => Q d r S) Z := by
  unfold eCallB
  simp only [wp_bind]
  congr; funext x r S
  cases o S x <;> rfl
@[simp] theorem Wh {fl fh : OF} : wp (eSl fa fl fh r S) Q Z = wp (fa r S) (fun x r S => wp (fl r S) (fun lo r S => wp (fh r S) (fun hi r S => got (sliceD S x lo hi) fun d => Q d r S) Z) Z) Z := by
  unfold eSl
  simp only [wp_bind]
  congr; funext x r S; congr; funext x2 r S; congr; funext x3 r S
  cases sliceD S x x2 x3 <;> rfl
@[simp] theorem Wi {Q : Option Int → Env → Sto → Prop} : wp (oNone r S) Q Z = Q none r S := propext Iff.rfl
@[simp] theorem Wj {Q : Option Int → Env → Sto → Prop} : wp (oSome fa r S) Q Z = wp (fa r S) (fun x r S => got (asI x) fun i => Q (some i) r S) Z := by
  unfold oSome
  simp only [wp_bind]
  congr; funext x r S
  cases x <;> rfl
@[simp] theorem Wm {Q : List D → Env → Sto → Prop} : wp (aNil r S) Q Z = Q [] r S := propext Iff.rfl
@[simp] theorem Wn {Q : List D → Env → Sto → Prop} : wp (aCons fa fs r S) Q Z = wp (fa r S) (fun x r S => wp (fs r S) (fun xs r S => Q (x :: xs) r S) Z) Z := by
  unfold aCons
  simp only [wp_bind, wp_ok]
theorem ite_and {c P : Prop} [Decidable c] : (if c then P else False) = (c ∧ P) := by by_cases h : c <;> simp [h]
@[simp] theorem wp_ite {α : Type} {c : Prop} [Decidable c] {x y : R α} {Q : α → Env → Sto → Prop} : wp (if c then x else y) Q Z = if c then wp x Q Z else wp y Q Z := by split <;> rfl
@[simp] theorem Wo : wp (eTup fs r S) Q Z = wp (fs r S) (fun xs r S => xs.length ≤ sizeLine ∧ Q (.tup xs) r S) Z := by
  unfold eTup
  simp only [wp_bind, wp_ite, wp_ok, wp_no, ite_and]
@[simp] theorem Wp : wp (eLst fs r S) Q Z = wp (fs r S) (fun xs r S => xs.length ≤ sizeLine ∧ Q (.lst xs) r S) Z := by
  unfold eLst
  simp only [wp_bind, wp_ite, wp_ok, wp_no, ite_and]
@[simp] theorem Wq : wp (eLstS fs r S) Q Z = wp (fs r S) (fun xs r S => xs.length ≤ sizeLine ∧ Q (.ref S.length) r (S ++ [.lst xs])) Z := by
  unfold eLstS
  simp only [wp_bind, wp_ite, wp_ok, wp_no, ite_and]
@[simp] theorem Wr : wp (eAnd fa fb r S) Q Z = wp (fa r S) (fun x r S => got (asB x) fun b => if b = true then wp (fb r S) Q Z else Q (.bl false) r S) Z := by
  unfold eAnd
  simp only [wp_bind]
  congr; funext x r S
  cases x with
  | bl b => cases b <;> rfl
  | _ => rfl
@[simp] theorem Ws : wp (eOr fa fb r S) Q Z = wp (fa r S) (fun x r S => got (asB x) fun b => if b = true then Q (.bl true) r S else wp (fb r S) Q Z) Z := by
  unfold eOr
  simp only [wp_bind]
  congr; funext x r S
  cases x with
  | bl b => cases b <;> rfl
  | _ => rfl
@[simp] theorem Wt : wp (eNot fa r S) Q Z = wp (fa r S) (fun x r S => got (asB x) fun b => Q (.bl !b) r S) Z := by
  unfold eNot
  simp only [wp_bind]
  congr; funext x r S
  cases x <;> rfl
@[simp] theorem Wu : wp (eIf ta fa fb r S) Q Z = wp (ta r S) (fun c r S => if c = true then wp (fa r S) Q Z else wp (fb r S) Q Z) Z := by
  unfold eIf
  simp only [wp_bind, wp_ite]
@[simp] theorem Wv {n : Nat} {m : MF} {dds : List D} : wp (eCallF n m dds fs r S) Q Z = wp (fs r S) (fun ds r S => (ds ++ dds).length = n ∧ wf (m (ds ++ dds) S) (fun d S => Q d r S) (fun d S => Z d r S)) Z := by
  unfold eCallF
  simp only [wp_bind, wp_ite, wp_run, wp_no, ite_and]
@[simp] theorem Ww {n j c : Nat} {m : MF} {gD : List D → List D → List D} : wp (eCallK n j c m gD fs ft r S) Q Z = wp (fs r S) (fun ds r S => wp (ft r S) (fun zs r S => (ds.length = j ∧ zs.length = c ∧ (gD ds zs).length = n) ∧ wf (m (gD ds zs) S) (fun d S => Q d r S) (fun d S => Z d r S)) Z) Z := by
  unfold eCallK
  simp only [wp_bind, wp_ite, wp_run, wp_no, ite_and]
variable {T : Bool → Env → Sto → Prop}
@[simp] theorem Wx : wp (tVal fa r S) T Z = wp (fa r S) (fun x r S => got (asB x) fun b => T b r S) Z := by
  unfold tVal
  simp only [wp_bind]
  congr; funext x r S
  cases x <;> rfl
@[simp] theorem Wy {o : Sto → D → D → Option Bool} : wp (tCmp o fa fb r S) T Z = wp (fa r S) (fun x r S => wp (fb r S) (fun y r S => got (o S x y) fun d => T d r S) Z) Z := by
  unfold tCmp
  simp only [wp_bind]
  congr; funext x r S; congr; funext y r S
  cases o S x y <;> rfl
@[simp] theorem Wz : wp (tAndB ta tb r S) T Z = wp (ta r S) (fun c r S => if c = true then wp (tb r S) T Z else T false r S) Z := by
  unfold tAndB
  simp only [wp_bind, wp_ite, wp_ok]
@[simp] theorem WA : wp (tOrB ta tb r S) T Z = wp (ta r S) (fun c r S => if c = true then T true r S else wp (tb r S) T Z) Z := by
  unfold tOrB
  simp only [wp_bind, wp_ite, wp_ok]
@[simp] theorem WB : wp (tNotB ta r S) T Z = wp (ta r S) (fun c r S => T (!c) r S) Z := by
  unfold tNotB
  simp only [wp_bind, wp_ok]
@[simp] theorem WC {o o' : Sto → D → D → Option Bool} : wp (eChain o o' fa fb fc r S) Q Z = wp (fa r S) (fun x r S => wp (fb r S) (fun y r S => got (o S x y) fun c => if c = true then wp (fc r S) (fun z r S => got (o' S y z) fun d => Q (.bl d) r S) Z else Q (.bl false) r S) Z) Z := by
  unfold eChain
  simp only [wp_bind]
  congr; funext x r S; congr; funext y r S
  cases o S x y with
  | none => rfl
  | some c =>
    cases c with
    | false => rfl
    | true =>
      simp only [wp_bind, got, if_pos]
      congr; funext z r S
      cases o' S y z <;> rfl
@[simp] theorem WD {o o' : Sto → D → D → Option Bool} : wp (tChainB o o' fa fb fc r S) T Z = wp (fa r S) (fun x r S => wp (fb r S) (fun y r S => got (o S x y) fun c => if c = true then wp (fc r S) (fun z r S => got (o' S y z) fun d => T d r S) Z else T false r S) Z) Z := by
  unfold tChainB
  simp only [wp_bind]
  congr; funext x r S; congr; funext y r S
  cases o S x y with
  | none => rfl
  | some c =>
    cases c with
    | false => rfl
    | true =>
      simp only [wp_bind, got, if_pos]
      congr; funext z r S
      cases o' S y z <;> rfl
variable {L : Fl → Env → Sto → Prop} {f h : SF}
@[simp] theorem WF : wp (sNext r S) L Z = L .nx r S := propext Iff.rfl
@[simp] theorem WG : wp (sBrk r S) L Z = L .bk r S := propext Iff.rfl
@[simp] theorem WH : wp (sCont r S) L Z = L .ct r S := propext Iff.rfl
@[simp] theorem WI : wp (sRetN r S) L Z = L (.rt .non) r S := propext Iff.rfl
@[simp] theorem WJ : wp (sRet fa r S) L Z = wp (fa r S) (fun d r S => L (.rt d) r S) Z := by
  unfold sRet
  simp only [wp_bind, wp_ok]
@[simp] theorem WK : wp (sExpr fa r S) L Z = wp (fa r S) (fun d r S => L .nx r S) Z := by
  unfold sExpr
  simp only [wp_bind, wp_ok]
@[simp] theorem WL : wp (sIf ta f h r S) L Z = wp (ta r S) (fun c r S => if c = true then wp (f r S) L Z else wp (h r S) L Z) Z := by
  unfold sIf
  simp only [wp_bind, wp_ite]
@[simp] theorem Yj : wp (sSeq f h r S) L Z = wp (f r S) (fun a r S => match a with
    | .nx => wp (h r S) L Z
    | a => L a r S) Z := by
  unfold sSeq
  rw [wp_bind]
  congr; funext a r S
  cases a <;> rfl
@[simp] theorem WM {b : Bn} : wp (sAsg fa b r S) L Z = wp (fa r S) (fun d r S => got (b d r) fun r' => L .nx r' S) Z := by
  unfold sAsg
  simp only [wp_bind]
  congr; funext x r S
  cases b x r <;> rfl
@[simp] theorem WN : wp (sSub fa fb fc r S) L Z = wp (fa r S) (fun d r S => wp (fb r S) (fun x r S => wp (fc r S) (fun y r S => got (setD S x y d) fun S' => L .nx r S') Z) Z) Z := by
  unfold sSub
  simp only [wp_bind]
  congr; funext d r S; congr; funext x r S; congr; funext y r S
  cases setD S x y d <;> rfl
@[simp] theorem WO {i j : Nat} : wp (sPar i j fs r S) L Z = wp (fs r S) (fun ds r S => got (asTwo ds) fun q => L .nx ((r.set i (some q.1)).set j (some q.2)) S) Z := by
  unfold sPar
  simp only [wp_bind]
  congr; funext ds r S
  unfold asTwo
  split <;> simp_all
@[simp] theorem WP {i : Nat} {o : Sto → D → D → Option D} : wp (sAug i o fa r S) L Z = got (rd r i) fun x => wp (fa r S) (fun y r S => got (o S x y) fun d => L .nx (r.set i (some d)) S) Z := by
  unfold sAug rd
  split
  · rename_i x h
    simp only [h, wp_bind, got_some]
    congr; funext y r S
    cases o S _ y <;> rfl
  · simp_all
@[simp] theorem WQ {fi : AF} {b : Bn} : wp (sFor fi b f r S) L Z = wp (fi r S) (fun xs r S => wp (loopF b f xs r S) L Z) Z := by
  unfold sFor
  rw [wp_bind]
@[simp] theorem Zt {A : List D → Env → Sto → Prop} : wp (iRange1 fs r S) A Z = wp (fs r S) (fun ds r S => got (rng1 ds) fun xs => A xs r S) Z := by
  unfold iRange1
  rw [wp_bind]
  congr; funext ds r S
  unfold rng1
  split
  · rename_i j
    by_cases h : -(2 ^ 62) ≤ j ∧ j < 2 ^ 62
    · simp only [if_pos h]; rfl
    · simp only [if_neg h]; rfl
  · first
      | rfl
      | (split
         · rename_i h; exact absurd rfl (h _)
         · rfl)
@[simp] theorem Zu {A : List D → Env → Sto → Prop} : wp (iRange2 fs r S) A Z = wp (fs r S) (fun ds r S => got (rng2 ds) fun xs => A xs r S) Z := by
  unfold iRange2
  rw [wp_bind]
  congr; funext ds r S
  unfold rng2
  split
  · rename_i i j
    by_cases h : -(2 ^ 62) ≤ i ∧ i < 2 ^ 62 ∧ -(2 ^ 62) ≤ j ∧ j < 2 ^ 62
    · simp only [if_pos h]; rfl
    · simp only [if_neg h]; rfl
  · first
      | rfl
      | (split
         · rename_i h; exact absurd rfl (h _ _)
         · rfl)
@[simp] theorem Zs {A : List D → Env → Sto → Prop} : wp (iSeq fa r S) A Z = wp (fa r S) (fun d r S => got (itemsOf d) fun xs => A xs r S) Z := by
  unfold iSeq
  rw [wp_bind]
  congr; funext d r S
  cases itemsOf d <;> rfl
@[simp] theorem WR {fi : AF} {b : Bn} {vs : List Nat} : wp (eComp fi b vs ta fa r S) Q Z = wp (fi r S) (fun xs r S => xs.length < sizeLine ∧ wp (compF b ta fa r vs xs S) (fun ys r S => Q (.lst ys) r S) Z) Z := by
  unfold eComp
  simp only [wp_bind, wp_ite, wp_ok, wp_no, ite_and]
@[simp] theorem Zv : wp (tYesB r S) T Z = T true r S := propext Iff.rfl
end
open PySem PySem.Spec PyProof.Rows He
section
variable {S : Sto} {n : Nat}
theorem oIx_ref {xs : List D} {i : Int} (h : S[n]? = some (.lst xs)) : oIx S (.ref n) (.int i) = atI xs i := by
  simp only [oIx, seqOf, lstOf, h]; rfl
@[simp] theorem at4_0 {α : Type} {a b c d : α} : atI [a, b, c, d] 0 = some a := rfl
@[simp] theorem at4_1 {α : Type} {a b c d : α} : atI [a, b, c, d] 1 = some b := rfl
@[simp] theorem at4_2 {α : Type} {a b c d : α} : atI [a, b, c, d] 2 = some c := rfl
@[simp] theorem at4_3 {α : Type} {a b c d : α} : atI [a, b, c, d] 3 = some d := rfl
theorem set4_1 {a b c d x : D} (h : S[n]? = some (.lst [a, b, c, d])) : setD S (.ref n) (.int 1) x = some (S.set n (.lst [a, x, c, d])) := by
  simp only [setD, h]; rfl
theorem set4_2 {a b c d x : D} (h : S[n]? = some (.lst [a, b, c, d])) : setD S (.ref n) (.int 2) x = some (S.set n (.lst [a, b, x, d])) := by
  simp only [setD, h]; rfl
theorem set4_3 {a b c d x : D} (h : S[n]? = some (.lst [a, b, c, d])) : setD S (.ref n) (.int 3) x = some (S.set n (.lst [a, b, c, x])) := by
  simp only [setD, h]; rfl
theorem atI_nat {α : Type} {xs : List α} {p : Nat} (h : p < xs.length) : atI xs (p : Int) = some xs[p] := by
  unfold atI ixN
  simp [h]
end
@[simp] theorem oAdd_int {S : Sto} {i j : Int} : oAdd S (.int i) (.int j) = some (.int (i + j)) := rfl
@[simp] theorem oSub_int {S : Sto} {i j : Int} : oSub S (.int i) (.int j) = some (.int (i - j)) := rfl
theorem oMul_int {S : Sto} {i j : Int} (h : i.natAbs.log2 + j.natAbs.log2 < 1000000) : oMul S (.int i) (.int j) = some (.int (i * j)) := by
  simp only [oMul, orO, oInt, decide_eq_true h, if_true]
theorem oMod_int {S : Sto} {i j : Int} (h : 0 < j) : oMod S (.int i) (.int j) = some (.int (i % j)) := by
  simp only [oMod, oInt, decide_eq_true h, if_true]
theorem oDiv_int {S : Sto} {i j : Int} (h : 0 < j) (h' : j.natAbs.log2 < 9000) : oDiv S (.int i) (.int j) = some (.int (i / j)) := by
  simp only [oDiv, oInt, decide_eq_true h, decide_eq_true h', Bool.and_self, if_true]
@[simp] theorem eqB_int {S : Sto} {i j : Int} : eqB S (.int i) (.int j) = some (decide (i = j)) := by
  simp only [eqB, orB, eqFB, flatD]
  have h : scal (.int i) (.int j) = true := rfl
  rw [if_pos h]
  simp
@[simp] theorem ltB_int {S : Sto} {i j : Int} : ltB S (.int i) (.int j) = some (decide (i < j)) := rfl
@[simp] theorem gtB_int {S : Sto} {i j : Int} : swapB ltB S (.int i) (.int j) = some (decide (j < i)) := rfl
@[simp] theorem leB_int {S : Sto} {i j : Int} : notB (swapB ltB) S (.int i) (.int j) = some (decide (i ≤ j)) := by
  show some (!decide (j < i)) = _
  by_cases h : j < i
  · simp [h, Int.not_le.mpr h]
  · simp [h, Int.not_lt.mp h]
@[simp] theorem geB_int {S : Sto} {i j : Int} : notB ltB S (.int i) (.int j) = some (decide (j ≤ i)) := by
  show some (!decide (i < j)) = _
  by_cases h : i < j
  · simp [h, Int.not_le.mpr h]
  · simp [h, Int.not_lt.mp h]
@[simp] theorem oIntOf_int {S : Sto} {i : Int} : oIntOf S [.int i] = some (.int i) := rfl
@[simp] theorem oAbs_int {S : Sto} {i : Int} : oAbs S [.int i] = some (.int (i.natAbs : Int)) := by
  simp only [oAbs]
  congr 2
  split <;> omega
def fbBag (c : Int) : SF := (sSeq (sAsg (eCallB oListOf (aCons (eSl (eVar 0) oNone (oSome (eC (.int 63)))) aNil)) (bName 1))
    (sRet (eLstS (aCons (eVar 1) (aCons (eC (.int 0)) (aCons (eC (.int 0)) (aCons (eBin oAdd (eC (.int c)) (eCallB oLen (aCons (eVar 1) aNil))) aNil)))))))
def fbDraw : SF := (sSeq (sIf (tAndB (tCmp eqB (eIx (eVar 0) (eC (.int 2))) (eC (.int 0))) (tCmp ltB (eIx (eVar 0) (eC (.int 1))) (eCallB oLen (aCons (eIx (eVar 0) (eC (.int 0))) aNil)))) (sSeq (sAsg (eIx (eIx (eVar 0) (eC (.int 0))) (eIx (eVar 0) (eC (.int 1)))) (bName 2))
    (sSeq (sSub (eBin oAdd (eIx (eVar 0) (eC (.int 1))) (eC (.int 1))) (eVar 0) (eC (.int 1)))
    (sIf (tCmp (notB ltB) (eCallB oAbs (aCons (eVar 2) aNil)) (eBin oPow (eC (.int 10)) (eC (.int 18)))) (sSub (eCallB oAbs (aCons (eVar 2) aNil)) (eVar 0) (eC (.int 2))) (sSub (eBin oMod (eCallB oIntOf (aCons (eBin oAdd (eBin oAdd (eBin oMul (eIx (eVar 0) (eC (.int 3))) (eC (.int 40961))) (eBin oMul (eBin oMod (eCallB oIntOf (aCons (eVar 2) aNil)) (eC (.int 1000003))) (eC (.int 523)))) (eC (.int 29))) aNil)) (eC (.int 2147483587))) (eVar 0) (eC (.int 3)))))) sNext)
    (sSeq (sIf (tCmp (swapB ltB) (eIx (eVar 0) (eC (.int 2))) (eC (.int 0))) (sSeq (sAsg (eBin oMod (eCallB oIntOf (aCons (eIx (eVar 0) (eC (.int 2))) aNil)) (eVar 1)) (bName 3))
    (sSeq (sSub (eBin oDiv (eIx (eVar 0) (eC (.int 2))) (eVar 1)) (eVar 0) (eC (.int 2)))
    (sRet (eVar 3)))) sNext)
    (sSeq (sSub (eBin oMod (eCallB oIntOf (aCons (eBin oAdd (eBin oAdd (eBin oMul (eIx (eVar 0) (eC (.int 3))) (eIx (eVar 0) (eC (.int 3)))) (eBin oMul (eIx (eVar 0) (eC (.int 3))) (eC (.int 28657)))) (eC (.int 1299709))) aNil)) (eC (.int 2147483579))) (eVar 0) (eC (.int 3)))
    (sRet (eBin oMod (eCallB oIntOf (aCons (eBin oDiv (eIx (eVar 0) (eC (.int 3))) (eC (.int 64))) aNil)) (eVar 1))))))
def fbPick (m : MF) : SF := sRet (eIx (eVar 1) (eCallF 2 m [] (aCons (eVar 0) (aCons (eCallB oLen (aCons (eVar 1) aNil)) aNil))))
structure BagO (o : AO) : Prop where
  ex : ∃ (cs : List Int) (p : Nat) (a m : Int), o = .lst [.lst (cs.map .int), .int p, .int a, .int m] ∧ p ≤ cs.length ∧ 0 ≤ a ∧ 0 ≤ m ∧ m < 2147483587
theorem log2_lt {i : Int} {k : Nat} (h : i.natAbs < 2 ^ k) (hk : 0 < k) : i.natAbs.log2 < k := by
  by_cases h0 : i.natAbs = 0
  · rw [h0]; simpa using hk
  · exact (Nat.log2_lt h0).mpr h
theorem _root_.List.set_getElem?_self' {α : Type} {l : List α} {n : Nat} {x : α} (h : l[n]? = some x) : l.set n x = l := by
  obtain ⟨h1, rfl⟩ := List.getElem?_eq_some_iff.mp h
  exact List.set_getElem_self h1
theorem pow18 {S : Sto} : oPow S (.int 10) (.int 18) = some (.int 1000000000000000000) := by
  simp only [oPow, oInt]
  rfl
theorem log_a : (40961 : Int).natAbs.log2 < 20 := by decide +kernel
theorem log_b : (523 : Int).natAbs.log2 < 20 := by decide +kernel
theorem log_c : (28657 : Int).natAbs.log2 < 20 := by decide +kernel
theorem log_d : (64 : Int).natAbs.log2 < 9000 := by decide +kernel
theorem draw_ok {S : Sto} {n : Nat} {o : AO} {many : Int} {Z : D → Sto → Prop} (hS : S[n]? = some o) (hB : BagO o) (h0 : 0 < many) (hl : many.natAbs.log2 < 9000) :
    wf (rawM 4 fbDraw [.ref n, .int many] S) (fun d S' => ∃ v o', d = .int v ∧ 0 ≤ v ∧ v < many ∧ BagO o' ∧ S' = S.set n o') Z := by
  obtain ⟨cs, p, a, m, rfl, hp, ha, hm, hm'⟩ := hB
  have hn : n < S.length := (List.getElem?_eq_some_iff.mp hS).1
  refine wf_end ?_
  have e0 : startE 4 [.ref n, .int many] = [some (.ref n), some (.int many), none, none] := rfl
  rw [e0]
  unfold fbDraw
  obtain ⟨B, hB⟩ : ∃ B : Int, ∀ S : Sto, oPow S (.int 10) (.int 18) = some (.int B) := ⟨_, fun _ => pow18⟩
  refine wp_seq (wp_imp (Q := fun x r S' => x = .nx ∧ (∃ c, r = [some (.ref n), some (.int many), c, none]) ∧ ∃ (p' : Nat) (a' m' : Int), p' ≤ cs.length ∧ 0 ≤ a' ∧ 0 ≤ m' ∧ m' < 2147483587 ∧ S' = S.set n (.lst [.lst (cs.map .int), .int p', .int a', .int m'])) (Z := fun _ _ _ => False) ?_ ?_ (fun _ _ _ z => z.elim))
  · have hlen : oLen S [.lst (cs.map .int)] = some (.int cs.length) := by
      simp [oLen, seqOf, lstOf]
    have hself : ∀ (x : AO), (S.set n x)[n]? = some x := fun x => List.getElem?_set_self hn
    simp only [WL, Wz, Wy, eIx, Wd, Wc, Wb, rd_cons0, rd_cons, got_some, oIx_ref hS, at4_0, at4_1, at4_2, at4_3, eqB_int, ltB_int, Wg, Wn, Wm, hlen]
    split
    · split
      · rename_i hz hlt
        have hlt' : p < cs.length := by simpa using hlt
        have hc : oIx S (.lst (cs.map .int)) (.int p) = some (.int cs[p]) := by
          show atI (cs.map D.int) (p : Int) = _
          rw [atI_nat (by simpa using hlt')]
          simp
        simp only [Yj, WM, WN, WL, Wy, Wd, Wc, Wb, rd_cons0, rd_cons, got_some, oIx_ref hS, at4_0, at4_1, at4_2, at4_3, hc, bName, List.set_cons_zero, List.set_cons_succ, oAdd_int, set4_1 hS, hB]
        simp only [Wg, Wn, Wm, Wc, rd_cons0, rd_cons, got_some, oAbs_int, geB_int]
        split
        · rename_i hbig
          simp only [WN, Wg, Wn, Wm, Wc, Wb, rd_cons0, rd_cons, got_some, oAbs_int, set4_2 (hself _), List.set_set]
          refine ⟨trivial, ⟨_, rfl⟩, p + 1, _, m, hlt', ?_, hm, hm', rfl⟩
          omega
        · simp only [WN, Wd, Wg, Wn, Wm, Wc, Wb, rd_cons0, rd_cons, got_some, oIx_ref (hself _), at4_3, oIntOf_int]
          have h1 : ∀ S : Sto, oMul S (.int m) (.int 40961) = some (.int (m * 40961)) := fun S => oMul_int (by
            have := log2_lt (i := m) (k := 31) (by omega) (by decide)
            have := log_a
            omega)
          have h2 : ∀ S : Sto, oMod S (.int cs[p]) (.int 1000003) = some (.int (cs[p] % 1000003)) := fun S => oMod_int (by decide)
          have h3 : ∀ S : Sto, oMul S (.int (cs[p] % 1000003)) (.int 523) = some (.int (cs[p] % 1000003 * 523)) := fun S => oMul_int (by
            have := log2_lt (i := cs[p] % 1000003) (k := 31) (by omega) (by decide)
            have := log_b
            omega)
          have h4 : ∀ (S : Sto) (x : Int), oMod S (.int x) (.int 2147483587) = some (.int (x % 2147483587)) := fun S x => oMod_int (by decide)
          simp only [h1, h2, h3, h4, got_some, oAdd_int, oIntOf_int, set4_3 (hself _), List.set_set]
          refine ⟨trivial, ⟨_, rfl⟩, p + 1, a, _, hlt', ha, ?_, ?_, rfl⟩ <;> omega
      · simp only [WF]
        refine ⟨trivial, ⟨_, rfl⟩, p, a, m, hp, ha, hm, hm', ?_⟩
        exact (List.set_getElem?_self' hS).symm
    · simp only [WF]
      refine ⟨trivial, ⟨_, rfl⟩, p, a, m, hp, ha, hm, hm', ?_⟩
      exact (List.set_getElem?_self' hS).symm
  · rintro x r S' ⟨rfl, ⟨c, rfl⟩, p', a', m', hp', ha', hm1, hm2, rfl⟩
    have hself : ∀ (x : AO), (S.set n x)[n]? = some x := fun x => List.getElem?_set_self hn
    simp only [Yj, WL, Wy, eIx, Wd, Wc, Wb, rd_cons0, rd_cons, got_some, oIx_ref (hself _), at4_2, gtB_int]
    split
    · rename_i hpos
      simp only [Yj, WM, WN, WJ, Wd, Wc, Wb, Wg, Wn, Wm, rd_cons0, rd_cons, got_some, oIx_ref (hself _), at4_2, oIntOf_int, oMod_int h0, oDiv_int h0 hl, bName, List.set_cons_zero, List.set_cons_succ, set4_2 (hself _), List.set_set]
      refine ⟨_, _, rfl, Int.emod_nonneg _ (by omega), Int.emod_lt_of_pos _ h0, ⟨cs, p', a' / many, m', rfl, hp', Int.ediv_nonneg ha' (by omega), hm1, hm2⟩, rfl⟩
    · simp only [WF, Yj, WM, WN, WJ, Wd, Wc, Wb, Wg, Wn, Wm, rd_cons0, rd_cons, got_some, oIx_ref (hself _), at4_3, oIntOf_int]
      have l1 := log2_lt (i := m') (k := 31) (by omega) (by decide)
      have h1 : ∀ S : Sto, oMul S (.int m') (.int m') = some (.int (m' * m')) := fun S => oMul_int (by omega)
      have h2 : ∀ S : Sto, oMul S (.int m') (.int 28657) = some (.int (m' * 28657)) := fun S => oMul_int (by
        have := log_c
        omega)
      have h4 : ∀ (S : Sto) (x : Int), oMod S (.int x) (.int 2147483579) = some (.int (x % 2147483579)) := fun S x => oMod_int (by decide)
      have h5 : ∀ (S : Sto) (x : Int), oDiv S (.int x) (.int 64) = some (.int (x / 64)) := fun S x => oDiv_int (by decide) log_d
      simp only [h1, h2, h4, got_some, oAdd_int, oIntOf_int, set4_3 (hself _), List.set_set, oIx_ref (hself _), at4_3, h5, oMod_int h0]
      refine ⟨_, _, rfl, Int.emod_nonneg _ (by omega), Int.emod_lt_of_pos _ h0, ⟨cs, p', a', _, rfl, hp', ha', ?_, ?_⟩, rfl⟩ <;> omega
open PySem PySem.Spec PyProof.Rows He
def fbSame (mself : MF) : SF := (sSeq (sIf (tAndB (tVal (eCallB oIsi0 (aCons (eVar 1) (aCons (eTup (aCons (eC (.ty "list")) (aCons (eC (.ty "tuple")) aNil))) aNil)))) (tVal (eCallB oIsi0 (aCons (eVar 0) (aCons (eTup (aCons (eC (.ty "list")) (aCons (eC (.ty "tuple")) aNil))) aNil))))) (sSeq (sAsg (eAnd (eCmp eqB (eCallB oIsi0 (aCons (eVar 1) (aCons (eC (.ty "list")) aNil))) (eCallB oIsi0 (aCons (eVar 0) (aCons (eC (.ty "list")) aNil)))) (eCmp eqB (eCallB oLen (aCons (eVar 0) aNil)) (eCallB oLen (aCons (eVar 1) aNil)))) (bName 2))
    (sRet (eAnd (eVar 2) (eCallB oAll (aCons (eComp (iRange1 (aCons (eCallB oLen (aCons (eVar 1) aNil)) aNil)) (bName 3) [3] tYesB (eCallF 2 mself [] (aCons (eIx (eVar 0) (eVar 3)) (aCons (eIx (eVar 1) (eVar 3)) aNil)))) aNil))))) sNext)
    (sSeq (sIf (tOrB (tVal (eCallB oIsi0 (aCons (eVar 1) (aCons (eTup (aCons (eC (.ty "list")) (aCons (eC (.ty "tuple")) aNil))) aNil)))) (tOrB (tVal (eCallB oIsi0 (aCons (eVar 0) (aCons (eTup (aCons (eC (.ty "list")) (aCons (eC (.ty "tuple")) aNil))) aNil)))) (tCmp (notB eqB) (eCmp isB (eVar 1) (eC .non)) (eCmp isB (eVar 0) (eC .non))))) (sRet (eC (.bl false))) sNext)
    (sSeq (sAsg (eAnd (eCmp eqB (eCallB oIsi0 (aCons (eVar 1) (aCons (eC (.ty "bool")) aNil))) (eCallB oIsi0 (aCons (eVar 0) (aCons (eC (.ty "bool")) aNil)))) (eCmp eqB (eCallB oIsi0 (aCons (eVar 1) (aCons (eC (.ty "int")) aNil))) (eCallB oIsi0 (aCons (eVar 0) (aCons (eC (.ty "int")) aNil))))) (bName 2))
    (sRet (eAnd (eVar 2) (eAnd (eCmp eqB (eCallB oIsi0 (aCons (eVar 1) (aCons (eC (.ty "str")) aNil))) (eCallB oIsi0 (aCons (eVar 0) (aCons (eC (.ty "str")) aNil)))) (eCmp eqB (eVar 0) (eVar 1))))))))
def sameM : Nat → MF
  | 0 => fun _ _ => .no
  | k + 1 => purM 4 (fbSame (sameM k))
def plainD : Nat → D → Bool
  | 0, _ => false
  | _ + 1, .non => true
  | _ + 1, .bl _ => true
  | _ + 1, .int _ => true
  | _ + 1, .str _ => true
  | k + 1, .tup xs => decide (xs.length < 4000000) && xs.all (plainD k)
  | k + 1, .lst xs => decide (xs.length < 4000000) && xs.all (plainD k)
  | k + 1, .fz xs => decide (xs.length < 4000000) && xs.all (plainD k)
  | _ + 1, _ => false
theorem bndL_of {n : Nat} : ∀ {xs : List D}, (∀ x ∈ xs, bnd n x = true) → bndL n xs = true := fun h => bndL_all.mpr h
theorem plain_bnd : ∀ (k : Nat) (d : D), plainD k d = true → bnd 0 d = true
  | 0, _, h => by simp [plainD] at h
  | k + 1, d, h => by
    cases d with
    | tup xs => simp only [plainD, Bool.and_eq_true, List.all_eq_true] at h; exact bndL_of fun x hx => plain_bnd k x (h.2 x hx)
    | lst xs => simp only [plainD, Bool.and_eq_true, List.all_eq_true] at h; exact bndL_of fun x hx => plain_bnd k x (h.2 x hx)
    | fz xs => simp only [plainD, Bool.and_eq_true, List.all_eq_true] at h; exact bndL_of fun x hx => plain_bnd k x (h.2 x hx)
    | dic _ _ => simp [plainD] at h
    | ins _ _ _ => simp [plainD] at h
    | ty _ => simp [plainD] at h
    | con _ => simp [plainD] at h
    | ref _ => simp [plainD] at h
    | _ => rfl
theorem pur_flat {n : Nat} {fb : SF} {ds : List D} {S : Sto} {d : D} (hd : bnd 0 d = true) (hb : bndL 0 ds = true) (h : wp (fb (startE n ds) []) (fun a _ _ => a = .rt d) fun _ _ _ => False) : purM n fb ds S = .ok d S := by
  unfold purM pureM purF
  rw [if_pos hb]
  cases q : fb (startE n ds) [] with
  | ok a r S1 =>
    rw [q] at h
    cases (show a = .rt d from h)
    simp only [endOf, cleanF]
    have e : fz 0 S1 60 d = d := fz_id 60 d hd
    rw [e]
    simp [hd, outF]
  | er x r S1 => rw [q] at h; exact h.elim
  | no => rw [q] at h; exact h.elim
theorem all_true {n : Nat} : blsD (List.replicate n (.bl true)) = some (List.replicate n true) := by
  induction n with
  | zero => rfl
  | succ n ih => rw [List.replicate_succ, blsD, ih]; rfl
theorem oAll_true {S : Sto} {n : Nat} : oAll S [.lst (List.replicate n (.bl true))] = some (.bl true) := by
  simp only [oAll, lstOf, Option.bind_some, all_true, Option.map_some]
  simp
theorem oIx_seq {S : Sto} {x : D} {xs : List D} {i : Int} (h : seqOf S x = some xs) (hs : ∀ z, x ≠ .str z) : oIx S x (.int i) = atI xs i := by
  cases x with
  | str z => exact absurd rfl (hs z)
  | _ => simp only [oIx, h, Option.bind_some]
theorem oLen_seq {S : Sto} {x : D} {xs : List D} (h : seqOf S x = some xs) (hs : ∀ z, x ≠ .str z) : oLen S [x] = some (.int xs.length) := by
  cases x with
  | str z => exact absurd rfl (hs z)
  | _ => simp only [oLen, h, Option.map_some]
@[simp] theorem eqB_bl {S : Sto} {a b : Bool} : eqB S (.bl a) (.bl b) = some (decide (a = b)) := by
  cases a <;> cases b <;> rfl
theorem rng1_int {j : Int} (h1 : -(2 ^ 62) ≤ j) (h2 : j < 2 ^ 62) : rng1 [.int j] = some (rangeD 0 j.toNat) := by
  show (if -(2 ^ 62) ≤ j ∧ j < 2 ^ 62 then some (rangeD 0 j.toNat) else none) = _
  rw [if_pos ⟨h1, h2⟩]
theorem sz_big : (4000000 : Nat) ≤ sizeLine := by decide +kernel
theorem sz_le {n : Nat} (h : n ≤ 4000000) : n ≤ sizeLine := Nat.le_trans h sz_big
theorem same_seq {m : MF} {x y : D} {xs ys : List D} {t : String} (hx : seqOf [] x = some xs) (hy : seqOf [] y = some ys) (tx : tyV0 [] x = some t) (ty : tyV0 [] y = some t) (ht : t = "list" ∨ t = "tuple") (hl : xs.length = ys.length) (hlt : ys.length < 4000000)
    (he : ∀ (i : Nat) (a b : D), xs[i]? = some a → ys[i]? = some b → m [a, b] [] = .ok (.bl true) []) : wp (fbSame m (startE 4 [x, y]) []) (fun a _ _ => a = .rt (.bl true)) fun _ _ _ => False := by
  have nx : ∀ z, x ≠ .str z := fun z e => by subst e; simp [tyV0] at tx; subst tx; simp at ht
  have ny : ∀ z, y ≠ .str z := fun z e => by subst e; simp [tyV0] at ty; subst ty; simp at ht
  have e0 : startE 4 [x, y] = [some x, some y, none, none] := rfl
  have i1 : ∀ {z : D}, tyV0 [] z = some t → oIsi0 [] [z, .tup [.ty "list", .ty "tuple"]] = some (.bl true) := fun {z} hz => by
    simp only [oIsi0, hz, tysOf]
    rcases ht with rfl | rfl <;> rfl
  have i2 : ∀ {z : D}, tyV0 [] z = some t → oIsi0 [] [z, .ty "list"] = some (.bl (decide (t = "list"))) := fun {z} hz => by
    simp only [oIsi0, hz]
    rcases ht with rfl | rfl <;> rfl
  rw [e0]
  unfold fbSame
  have two : ([D.ty "list", D.ty "tuple"]).length ≤ sizeLine := sz_le (by decide)
  simp only [Yj, WL, Wz, Wx, Wg, Wn, Wm, Wo, Wb, Wc, rd_cons0, rd_cons, two, true_and, i1 tx, i1 ty, got_some, asB, if_true]
  simp only [WM, Wr, We, Wg, Wn, Wm, Wb, Wc, rd_cons0, rd_cons, i2 tx, i2 ty, got_some, asB, eqB_bl, oLen_seq hx nx, oLen_seq hy ny, eqB_int, hl, decide_true, if_true, bName, List.set_cons_succ, List.set_cons_zero, WJ]
  have r1 : rng1 [.int (ys.length : Int)] = some (rangeD 0 ys.length) := by
    rw [rng1_int (by omega) (by omega)]
    simp
  have rl : (rangeD 0 ys.length).length = ys.length := by simp [rangeD]
  have rs : (rangeD 0 ys.length).length < sizeLine := by
    rw [rl]
    exact Nat.lt_of_lt_of_le hlt sz_big
  simp only [WR, Zt, Wg, Wn, Wm, Wb, Wc, rd_cons0, rd_cons, got_some, r1, oLen_seq hy ny, rs, true_and]
  refine wp_imp (wp_comp (Z := fun _ _ _ => False) (fun (l : List D) (zs : List D) (S : Sto) => S = [] ∧ ∃ j : Nat, l = (rangeD 0 ys.length).drop j ∧ j ≤ ys.length ∧ zs = List.replicate j (.bl true))
    (Q := fun zs r S => S = [] ∧ zs = List.replicate ys.length (.bl true)) (rangeD 0 ys.length) [] [] ⟨rfl, 0, rfl, Nat.zero_le _, rfl⟩ ?_ ?_) ?_ (fun _ _ _ z => z)
  · rintro zs S ⟨rfl, j, h1, h2, rfl⟩
    have : ¬ j < ys.length := fun h => by
      have := congrArg List.length h1
      rw [List.length_drop, rl] at this
      simp at this
      omega
    have e : j = ys.length := by omega
    rw [e]
    exact ⟨rfl, rfl⟩
  · rintro z l zs S ⟨rfl, j, h1, h2, rfl⟩
    have hj : j < ys.length := by
      by_cases h : j < ys.length
      · exact h
      · rw [List.drop_eq_nil_of_le (by rw [rl]; omega)] at h1
        cases h1
    have hj' : j < (rangeD 0 ys.length).length := by rw [rl]; exact hj
    rw [List.drop_eq_getElem_cons hj'] at h1
    injection h1 with h3 h4
    have h5 : z = .int (j : Int) := by
      rw [h3]; simp [rangeD]
    subst h5
    refine ⟨_, rfl, ?_⟩
    have hx1 : j < xs.length := by omega
    have a1 : oIx [] x (.int (j : Int)) = some xs[j] := by rw [oIx_seq hx nx, atI_nat hx1]
    have a2 : oIx [] y (.int (j : Int)) = some ys[j] := by rw [oIx_seq hy ny, atI_nat hj]
    have hm := he j xs[j] ys[j] (by simp [hx1]) (by simp [hj])
    simp only [Zv, if_true, true_and, wipeE, bName, List.set_cons_succ, List.set_cons_zero, Wv, Wn, Wm, eIx, Wd, Wc, rd_cons0, rd_cons, got_some, a1, a2, List.append_nil, List.length_cons, List.length_nil, hm, wf_ok, Nat.zero_add, Nat.reduceAdd]
    refine ⟨j + 1, h4, hj, ?_⟩
    rw [List.replicate_succ']
  · rintro zs r S ⟨rfl, rfl⟩
    simp only [List.nil_append, oAll_true, got_some]
def lz : D → D
  | .tup xs => .tup (xs.map lz)
  | .lst xs => .lst (xs.map lz)
  | .fz xs => .lst (xs.map lz)
  | d => d
theorem lz_get {xs ys : List D} (h : xs.map lz = ys.map lz) (i : Nat) (a b : D) (ha : xs[i]? = some a) (hb : ys[i]? = some b) : lz a = lz b := by
  have e := congrArg (fun l : List D => l[i]?) h
  simp only [List.getElem?_map, ha, hb, Option.map_some] at e
  exact Option.some.inj e
theorem same_flat {m : MF} {x : D} (hx : x = .non ∨ (∃ b, x = .bl b) ∨ (∃ i, x = .int i) ∨ ∃ z, x = .str z) : wp (fbSame m (startE 4 [x, x]) []) (fun a _ _ => a = .rt (.bl true)) fun _ _ _ => False := by
  have e0 : startE 4 [x, x] = [some x, some x, none, none] := rfl
  rw [e0]
  unfold fbSame
  have two : ([D.ty "list", D.ty "tuple"]).length ≤ sizeLine := sz_le (by decide)
  have i1 : oIsi0 [] [x, .tup [.ty "list", .ty "tuple"]] = some (.bl false) := by
    rcases hx with rfl | ⟨b, rfl⟩ | ⟨b, rfl⟩ | ⟨b, rfl⟩ <;> rfl
  obtain ⟨b1, i2⟩ : ∃ b, oIsi0 [] [x, .ty "bool"] = some (.bl b) := by
    rcases hx with rfl | ⟨b, rfl⟩ | ⟨b, rfl⟩ | ⟨b, rfl⟩ <;> exact ⟨_, rfl⟩
  obtain ⟨b2, i3⟩ : ∃ b, oIsi0 [] [x, .ty "int"] = some (.bl b) := by
    rcases hx with rfl | ⟨b, rfl⟩ | ⟨b, rfl⟩ | ⟨b, rfl⟩ <;> exact ⟨_, rfl⟩
  obtain ⟨b3, i4⟩ : ∃ b, oIsi0 [] [x, .ty "str"] = some (.bl b) := by
    rcases hx with rfl | ⟨b, rfl⟩ | ⟨b, rfl⟩ | ⟨b, rfl⟩ <;> exact ⟨_, rfl⟩
  obtain ⟨b4, i5⟩ : ∃ b, isB [] x .non = some b := ⟨_, rfl⟩
  have i6 : eqB [] x x = some true := by
    rcases hx with rfl | ⟨b, rfl⟩ | ⟨b, rfl⟩ | ⟨b, rfl⟩
    · rfl
    · cases b <;> rfl
    · simp
    · simp only [eqB, orB, eqFB, flatD]
      have h : scal (.str b) (.str b) = true := rfl
      rw [if_pos h]
      simp
  have i7 : ∀ b : Bool, notB eqB [] (.bl b) (.bl b) = some false := fun b => by cases b <;> rfl
  simp only [Yj, WL, Wz, WA, Wx, Wy, We, Wg, Wn, Wm, Wo, Wb, Wc, rd_cons0, rd_cons, two, true_and, i1, i5, i7, got_some, asB, Bool.false_eq_true, if_false, WF]
  simp only [WM, Wr, We, Wg, Wn, Wm, Wb, Wc, rd_cons0, rd_cons, i2, i3, i4, i6, got_some, asB, eqB_bl, decide_true, if_true, bName, List.set_cons_succ, List.set_cons_zero, WJ]
theorem plain_two {k : Nat} {x y : D} (hx : plainD k x = true) (hy : plainD k y = true) : bndL 0 [x, y] = true := by
  simp [bndL, plain_bnd k x hx, plain_bnd k y hy]
theorem same_ok : ∀ (k : Nat) (x y : D) (S : Sto), plainD k x = true → plainD k y = true → lz x = lz y → sameM k [x, y] S = .ok (.bl true) S
  | 0, _, _, _, h, _, _ => by simp [plainD] at h
  | k + 1, x, y, S, hx, hy, e => by
    refine pur_flat rfl (plain_two hx hy) ?_
    have seqs : ∀ (xs ys : List D) (t : String), seqOf [] x = some xs → seqOf [] y = some ys → tyV0 [] x = some t → tyV0 [] y = some t → (t = "list" ∨ t = "tuple") → xs.map lz = ys.map lz → xs.all (plainD k) = true → ys.all (plainD k) = true → ys.length < 4000000 → wp (fbSame (sameM k) (startE 4 [x, y]) []) (fun a _ _ => a = .rt (.bl true)) fun _ _ _ => False := fun xs ys t h1 h2 h3 h4 h5 h6 h7 h8 h9 => by
      have hl : xs.length = ys.length := by have := congrArg List.length h6; simpa using this
      exact same_seq h1 h2 h3 h4 h5 hl h9 fun i a b ha hb => same_ok k a b [] (List.all_eq_true.mp h7 a (List.mem_of_getElem? ha)) (List.all_eq_true.mp h8 b (List.mem_of_getElem? hb)) (lz_get h6 i a b ha hb)
    cases x <;> cases y <;> first
      | (simp [plainD] at hx; done)
      | (simp [plainD] at hy; done)
      | (simp [lz] at e; done)
      | (simp only [lz] at e; cases e; first | exact same_flat (.inl rfl) | exact same_flat (.inr (.inl ⟨_, rfl⟩)) | exact same_flat (.inr (.inr (.inl ⟨_, rfl⟩))) | exact same_flat (.inr (.inr (.inr ⟨_, rfl⟩))))
      | (simp only [plainD, Bool.and_eq_true, decide_eq_true_eq] at hx hy
         simp only [lz, D.lst.injEq, D.tup.injEq] at e
         first | exact seqs _ _ "list" rfl rfl rfl rfl (.inl rfl) e hx.2 hy.2 hy.1 | exact seqs _ _ "tuple" rfl rfl rfl rfl (.inr rfl) e hx.2 hy.2 hy.1)
theorem bag_ok {c : Int} {ns : List Int} {S : Sto} {Z : D → Sto → Prop} (h0 : 0 ≤ c) (h1 : c < 2147480000) (hl : ns.length ≤ 63) : wf (rawM 2 (fbBag c) [.fz (ns.map .int)] S) (fun d S' => d = .ref S.length ∧ ∃ o, BagO o ∧ S' = S ++ [o]) Z := by
  refine wf_end ?_
  have e0 : startE 2 [.fz (ns.map .int)] = [some (.fz (ns.map .int)), none] := rfl
  rw [e0]
  unfold fbBag
  have sl : sliceD S (.fz (ns.map .int)) none (some 63) = some (.lst (ns.map .int)) := by
    have e : cutD (ns.map D.int) none (some 63) = ns.map D.int := by
      unfold cutD HT.sIx
      simp
      exact List.take_of_length_le (by simp; omega)
    show (lstOf S (.fz (ns.map .int))).map (fun xs => D.lst (cutD xs none (some 63))) = _
    simp only [lstOf, Option.map_some, e]
  have lo : oListOf S [.lst (ns.map .int)] = some (.lst (ns.map .int)) := by simp [oListOf, seqOf, lstOf]
  have ln : oLen S [.lst (ns.map .int)] = some (.int ns.length) := by simp [oLen, seqOf, lstOf]
  simp only [Yj, WM, Wg, Wn, Wm, Wh, Wc, Wb, rd_cons0, rd_cons, got_some, Wi, Wj, asI, sl, lo, bName, List.set_cons_succ, List.set_cons_zero, WJ, Wq, Wd, ln, oAdd_int]
  refine ⟨sz_le (by simp), trivial, _, ⟨ns, 0, 0, _, rfl, Nat.zero_le _, Int.le_refl _, ?_, ?_⟩, rfl⟩ <;> omega
theorem pick_ok {m : MF} {S : Sto} {n : Nat} {x : D} {xs : List D} {Q Z : D → Sto → Prop} (hx : ∀ S : Sto, seqOf S x = some xs) (hs : ∀ z, x ≠ .str z)
    (hm : wf (m [.ref n, .int xs.length] S) (fun d S' => ∃ v : Int, d = .int v ∧ 0 ≤ v ∧ v < xs.length ∧ ∀ y, xs[v.toNat]? = some y → Q y S') Z) : wf (rawM 2 (fbPick m) [.ref n, x] S) Q Z := by
  refine wf_end ?_
  have e0 : startE 2 [.ref n, x] = [some (.ref n), some x] := rfl
  rw [e0]
  unfold fbPick
  simp only [WJ, eIx, Wd, Wc, rd_cons0, rd_cons, got_some, Wv, Wn, Wm, Wg, oLen_seq (hx S) hs, List.append_nil, List.length_cons, List.length_nil, Nat.zero_add, Nat.reduceAdd, true_and]
  refine wf_imp hm (fun d S' ⟨v, h1, h2, h3, h4⟩ => ?_) (fun _ _ z => z)
  subst h1
  have hv : v.toNat < xs.length := by omega
  have e : v = (v.toNat : Int) := by omega
  rw [oIx_seq (hx S') hs]
  rw [e, atI_nat hv]
  exact h4 _ (by simp [hv])
theorem pur_eq {n : Nat} {fb : SF} {ds : List D} {d : D} {S : Sto} (hb : bndL 0 ds = true) (h : outF (cleanF 0 (endOf (fb (startE n ds) []))) = .ok d) : purM n fb ds S = .ok d S := by
  show pureM _ _ _ = _
  unfold pureM purF
  rw [if_pos hb, h]
theorem asB_bl {b : Bool} : asB (.bl b) = some b := rfl
theorem asI_int {b : Int} : asI (.int b) = some b := rfl
theorem draw_c {T : Sto} {o : AO} {many : Int} {Z : D → Sto → Prop} (hB : BagO o) (h0 : 0 < many) (hl : many.natAbs.log2 < 9000) :
    wf (rawM 4 fbDraw [.ref 0, .int many] (o :: T)) (fun d S' => ∃ v o', d = .int v ∧ 0 ≤ v ∧ v < many ∧ BagO o' ∧ S' = o' :: T) Z :=
  wf_imp (draw_ok (S := o :: T) (n := 0) (Z := fun _ _ => False) rfl hB h0 hl) (fun d S' ⟨v, o', h1, h2, h3, h4, h5⟩ => ⟨v, o', h1, h2, h3, h4, h5⟩) (fun _ _ z => z.elim)
theorem pick_c {T : Sto} {o : AO} {x : D} {xs : List D} {Z : D → Sto → Prop} (hB : BagO o) (hx : ∀ S : Sto, seqOf S x = some xs) (hs : ∀ z, x ≠ .str z) (h0 : 0 < xs.length) (hl : xs.length < 4000000) :
    wf (rawM 2 (fbPick (rawM 4 fbDraw)) [.ref 0, x] (o :: T)) (fun y S' => y ∈ xs ∧ ∃ o', BagO o' ∧ S' = o' :: T) Z := by
  refine pick_ok hx hs (wf_imp (draw_c (Z := fun _ _ => False) hB (by omega) ?_) (fun d S' ⟨v, o', h1, h2, h3, h4, h5⟩ => ⟨v, h1, h2, h3, fun y hy => ⟨List.mem_of_getElem? hy, o', h4, h5⟩⟩) (fun _ _ z => z.elim))
  have := log2_lt (i := (xs.length : Int)) (k := 30) (by omega) (by decide)
  omega
open PySem PySem.Spec PyProof.Rows He
def eNo : EF := fun _ _ => .no
section
variable {X : Cx} {W : WX}
theorem se_no {e : Expr} : SE X W e eNo := ⟨fun _ _ _ _ _ _ ⟨_, _, _, _, _, p⟩ => p.elim⟩
end
def UMt (K : PySem.W.Frag) (r : V → List V → Hp → VK → Prop) (o : Sto → D → List D → Option (D × Sto)) : Prop :=
  ∀ g S H x ds d S' xv vs (Q : VK), Rl K g S H → RelD K g x xv → RelDs K g ds vs → o S x ds = some (d, S') → (∀ g' H' v, Ext g g' → Rl K g' S' H' → RelD K g' d v → Q v H') → r xv vs H Q
def tyR (K : PySem.W.Frag) (T : String) (t : Sto → D → Bool) : Prop := ∀ g S H x xv, Rl K g S H → RelD K g x xv → t S x = true → L2.tyV K T xv H
structure MethU (X : Cx) (T id : String) (name : Str) (t : Sto → D → Bool) (o : Sto → D → List D → Option (D × Sto)) : Prop where
  pa : PlainAttrs T
  slot : Slot T name id
  ty : typeOf (.builtin id) = pure (.type "method_descriptor")
  tr : tyR X.K T t
  ex : ∃ r, MtR X id r ∧ UMt X.K r o

section
variable {X : Cx} {W : WX} {o e : Expr} {es : List Expr} {fo : EF} {fs : AF} {name : Str} {apos cpos : Pos} {T id : String} {t : Sto → D → Bool} {op : Sto → D → List D → Option (D × Sto)}
theorem se_meth (u : MethU X T id name t op) (ho : SE X W o fo) (ha : SA X W (e :: es) fs) (hbase : attributeBase o name X.env (eval o X.env) = eval o X.env := by rfl)
    (hfew : ((backTo cpos (starEach (e :: es) X.env)).all (fun x => !x.1) && (backToKw cpos (keywordEach [] X.env)).all (fun x => x.1.isSome)
      && decide ((e :: es).length + ([] : List Keyword).length + (if ([] : List Keyword).isEmpty then 0 else 1) < 30)) = true := by rfl)
    (hline : (apos.endLine == cpos.line) = true := by rfl) (hs : starEach (e :: es) X.env = (false, eval e X.env) :: starEach es X.env := by rfl) (hplain : (backTo cpos (starEach es X.env)).any (·.1) = false := by rfl) :
    SE X W (.Call (.Attribute o name apos) (e :: es) [] cpos) (eMeth t op fo fs) := by
  obtain ⟨pa, slot, ty, tr, r, hm, hu⟩ := u
  refine pe_imp (pe_bm pa slot ty hm ho ha hbase hfew hline hs hplain) fun σ H Q h => td_seq (TD.split (rel := RelD X.K) h) fun xv H1 ⟨g, x, r1, S, l, e1, rx, p⟩ => ?_
  split at p
  · rename_i ht
    refine ⟨tr g S H1 x xv l rx ht, g, r1, S, l, e1, PostG.imp (PostG.split (rel := RelDs X.K) p) fun vs H2 ⟨g2, ds, r2, S2, x2, l2, e2, rd, p2⟩ => ?_⟩
    split at p2
    · rename_i d S' q
      exact hu g2 S2 H2 x ds d S' xv vs Q l2 (rx.mono x2) rd q fun g' H' v x' l' r' => p2 g' H' v x' l' (e2.mono x') r'
    · exact p2.elim
  · exact p.elim
end
def isStr : Sto → D → Bool := fun _ x => match x with
  | .str _ => true
  | _ => false
theorem tr_str {K : PySem.W.Frag} : tyR K "str" isStr := fun g S H x xv l rx h => by
  cases x <;> simp only [isStr, reduceCtorEq, Bool.false_eq_true] at h
  cases rx
  rfl

theorem strsD_ok {K : PySem.W.Frag} {g : Gh} : ∀ {ds : List D} {vs : List V} {xs : List Str}, RelDs K g ds vs → strsD ds = some xs → vs = xs.map V.str
  | _, _, _, .nil, h => by cases h; rfl
  | d :: _, _, xs, .cons r t, h => by
    cases d <;> simp only [strsD, reduceCtorEq] at h
    obtain ⟨ys, h1, rfl⟩ := Option.map_eq_some_iff.mp h
    cases r
    rw [strsD_ok t h1]; rfl
theorem rel_strs {K : PySem.W.Frag} {g : Gh} : ∀ xs : List Str, RelDs K g (xs.map D.str) (xs.map V.str)
  | [] => .nil
  | x :: xs => .cons rfl (rel_strs xs)
def mJoin : Sto → D → List D → Option (D × Sto) := fun S x ds => match x, ds with
  | .str a, [c] => (match (seqOf S c).bind strsD with
    | some ys => if (ys.map (·.length)).sum + ys.length * a.length ≤ 16777216 then some (.str (Txt.join a ys), S) else none
    | none => none)
  | _, _ => none
def mSplit : Sto → D → List D → Option (D × Sto) := fun S x ds => match x, ds with
  | .str a, [.str b] => if (b.length == 0) = false ∧ a.length + 2 ≤ sizeLine then some (.lst ((Txt.split a b).map .str), S) else none
  | _, _ => none
section
variable {X : Cx}
theorem rels_s {K : PySem.W.Frag} {g : Gh} {i : Str} {vs : List V} (r : RelDs K g [.str i] vs) : vs = [.str i] := by
  cases r with
  | cons a b => cases b; cases a; rfl
theorem mu_join : MethU X "str" "str.join" "join" isStr mJoin := ⟨F.plainAttrs_str, F.slot_str_join, F.type_str_join, tr_str, _, mt_join, fun g S H x ds d S' xv vs Q l rx rd e k => by
  unfold mJoin at e
  split at e
  · rename_i a c
    split at e
    · rename_i ys q
      split at e
      · rename_i hz
        cases e
        cases rx
        obtain ⟨v, rfl, rc⟩ := rel1 rd
        obtain ⟨xs, q1, q2⟩ := Option.bind_eq_some_iff.mp q
        obtain ⟨p, us, rfl, hs, rs⟩ := seq_view l rc q1
        rw [strsD_ok rs q2] at hs
        exact ⟨a, p, ys, rfl, rfl, hs, hz, k g H _ (.refl g) l rfl⟩
      · cases e
    · cases e
  · cases e⟩
theorem mu_split : MethU X "str" "str.split" "split" isStr mSplit := ⟨F.plainAttrs_str, F.slot_str_split, F.type_str_split, tr_str, _, mt_split, fun g S H x ds d S' xv vs Q l rx rd e k => by
  unfold mSplit at e
  split at e
  · rename_i a b
    split at e
    · rename_i hz
      cases e
      cases rx
      rw [rels_s rd]
      refine ⟨a, b, rfl, rfl, hz.1, hz.2, fun p hp => ?_⟩
      obtain ⟨g', e1, l1, r1⟩ := l.newLst hp (rel_strs (Txt.split a b))
      exact k g' _ _ e1 l1 r1
    · cases e
  · cases e⟩
end




open PySem PySem.Spec PyProof.Rows He






open PySem PySem.Spec PyProof.Rows He



open PySem PySem.Spec PyProof.Rows He

open PySem PySem.Spec PyProof.Rows He







section
variable {X : Cx} {W : WX} {C : Str} {k : Nat} {ps : List Str} {mm : MF} {a b : Expr} {fa fb : EF} {pos : Pos}
variable {es : List Expr} {fs : AF} {p : Pos}

end
open PySem PySem.Spec PyProof.Rows He




open PySem PySem.Spec PyProof.Rows He

open PySem PySem.Spec PyProof.Rows He

open PySem PySem.Spec PyProof.Rows He

open PySem PySem.Spec PyProof.Rows He

open PySem PySem.Spec PyProof.Rows He

@[simp] theorem orGot_some {α : Type} {d : α} {P : α → Prop} {q : Prop} : orGot (some d) P q = P d := propext Iff.rfl
@[simp] theorem orGot_none {α : Type} {P : α → Prop} {q : Prop} : orGot (none : Option α) P q = q := propext Iff.rfl



theorem asS_str {z : Str} : asS (.str z) = some z := rfl
theorem asOne_one {x : D} : asOne [x] = some x := rfl
theorem asTwo_two {x y : D} : asTwo [x, y] = some (x, y) := rfl

section
variable {Z : D → Env → Sto → Prop} {r : Env} {S : Sto} {fa fb fc : EF} {ta tb : TF} {fs ft : AF} {Q : D → Env → Sto → Prop} {T : Bool → Env → Sto → Prop} {L : Fl → Env → Sto → Prop} {f h : SF} {C m : Str} {mm : MF} {n j c : Nat} {cs : List Str} {o : Sto → D → D → Option Bool} {neg : Bool} {dds : List D}
@[simp] theorem wf_er {d : D} {S : Sto} {Q Z : D → Sto → Prop} : wf (.er d S) Q Z = Z d S := propext Iff.rfl
@[simp] theorem wf_no {Q Z : D → Sto → Prop} : wf .no Q Z = False := propext Iff.rfl
@[simp] theorem Zi : wp (eIx fa fb r S) Q Z = wp (fa r S) (fun x r S => wp (fb r S) (fun y r S => got (oIx S x y) fun d => Q d r S) Z) Z := Wd
@[simp] theorem WS : wp (eSettle fa r S) Q Z = wp (fa r S) (fun d _ S1 => ((S1.take S.length).all (bndO S.length) && bnd S.length (fz S.length S1 60 d)) = true ∧ Q (fz S.length S1 60 d) r (S1.take S.length)) Z := by
  unfold eSettle
  cases fa r S with
  | ok d r1 S1 => simp only [wp_ok, wp_ite, wp_no, ite_and]
  | er d r1 S1 => simp only [wp_er]
  | no => simp only [wp_no]
theorem wp_made {x : RF} {n : Nat} : wp (x.made r n) Q Z = wf x (fun d S' => d = .non ∧ Q (.ref n) r S') (fun d S' => Z d r S') := by
  cases x with
  | ok d S' => cases d <;> simp [RF.made]
  | er d S' => simp only [RF.made, wp_er, wf_er]
  | no => simp only [RF.made, wp_no, wf_no]
@[simp] theorem WT : wp (eMake C n mm dds fs r S) Q Z = wp (fs r S) (fun ds r S => (.ref S.length :: (ds ++ dds)).length = n ∧ wf (mm (.ref S.length :: (ds ++ dds)) (S ++ [.ins C [] []])) (fun d S' => d = .non ∧ Q (.ref S.length) r S') (fun d S' => Z d r S')) Z := by
  unfold eMake
  simp only [wp_bind, wp_ite, wp_made, wp_no, ite_and]
@[simp] theorem WU {gD : List D → List D → List D} : wp (eMakeK C n j c mm gD fs ft r S) Q Z = wp (fs r S) (fun ds r S => wp (ft r S) (fun zs r S => (ds.length = j ∧ zs.length = c ∧ (gD (.ref S.length :: ds) zs).length = n) ∧ wf (mm (gD (.ref S.length :: ds) zs) (S ++ [.ins C [] []])) (fun d S' => d = .non ∧ Q (.ref S.length) r S') (fun d S' => Z d r S')) Z) Z := by
  unfold eMakeK
  simp only [wp_bind, wp_ite, wp_made, wp_no, ite_and]
@[simp] theorem WV {f : Str} : wp (eFld cs f fa r S) Q Z = wp (fa r S) (fun x r S => got (fldD cs f S x) fun d => Q d r S) Z := by
  unfold eFld
  simp only [wp_bind]
  congr; funext x r S
  unfold fldD
  cases insOf S x with
  | none => rfl
  | some q =>
    obtain ⟨C, ns, ds⟩ := q
    simp only
    split
    · cases (ns.zip ds).lookup f <;> rfl
    · rfl
@[simp] theorem WW {f : Str} : wp (sFldS cs f fa fb r S) L Z = wp (fa r S) (fun d r S => wp (fb r S) (fun x r S => got (putD cs f S x d) fun S' => L .nx r S') Z) Z := by
  unfold sFldS
  simp only [wp_bind]
  congr; funext d r S; congr; funext x r S
  cases putD cs f S x d <;> rfl
@[simp] theorem WY : wp (eMethC C m n mm dds fa fs r S) Q Z = wp (fa r S) (fun x r S => got (insOf S x) fun q => (q.1 = C ∧ (q.2.1.zip q.2.2).lookup m = none) ∧ wp (fs r S) (fun as r S => (x :: (as ++ dds)).length = n ∧ wf (mm (x :: (as ++ dds)) S) (fun d S => Q d r S) (fun d S => Z d r S)) Z) Z := by
  unfold eMethC
  simp only [wp_bind]
  congr; funext x r S
  cases insOf S x with
  | none => rfl
  | some q =>
    obtain ⟨C', ns, ds⟩ := q
    simp only [got_some, wp_ite, wp_bind, wp_run, wp_no, ite_and]
theorem wp_asBl {x : RF} : wp (x.asBl neg r) T Z = wf x (fun d S' => got (asB d) fun b => T (b != neg) r S') (fun _ _ => False) := by
  cases x with
  | ok d S' => cases d <;> simp [RF.asBl]
  | er d S' => simp [RF.asBl]
  | no => simp [RF.asBl]
theorem wp_inCB {x y : D} : wp (inCB C mm neg o x y r S) T Z = orGot (o S x y) (fun b => T b r S) (got (insOf S y) fun q => q.1 = C ∧ wf (mm [y, x] S) (fun d S' => got (asB d) fun b => T (b != neg) r S') (fun _ _ => False)) := by
  unfold inCB
  cases o S x y with
  | some b => simp only [wp_ok, orGot_some]
  | none =>
    cases insOf S y with
    | none => rfl
    | some q => simp only [wp_ite, wp_asBl, wp_no, ite_and, orGot_none, got_some]
theorem wp_eqCB {x y : D} : wp (eqCB C mm o x y r S) T Z = orGot (o S x y) (fun b => T b r S) (got (insOf S x) fun q => (q.1 = C ∧ tyOk C S y = true) ∧ wf (mm [x, y] S) (fun d S' => got (asB d) fun b => T (b != false) r S') (fun _ _ => False)) := by
  unfold eqCB
  cases o S x y with
  | some b => simp only [wp_ok, orGot_some]
  | none =>
    cases insOf S x with
    | none => rfl
    | some q => simp only [wp_ite, wp_asBl, wp_no, ite_and, orGot_none, got_some]
@[simp] theorem WZ : wp (eInC C mm neg o fa fb r S) Q Z = wp (fa r S) (fun x r S => wp (fb r S) (fun y r S => orGot (o S x y) (fun b => Q (.bl b) r S) (got (insOf S y) fun q => q.1 = C ∧ wf (mm [y, x] S) (fun d S' => got (asB d) fun b => Q (.bl (b != neg)) r S') (fun _ _ => False))) Z) Z := by
  unfold eInC
  simp only [wp_bind, wp_inCB, wp_ok]
@[simp] theorem W4 : wp (tInC C mm neg o fa fb r S) T Z = wp (fa r S) (fun x r S => wp (fb r S) (fun y r S => orGot (o S x y) (fun b => T b r S) (got (insOf S y) fun q => q.1 = C ∧ wf (mm [y, x] S) (fun d S' => got (asB d) fun b => T (b != neg) r S') (fun _ _ => False))) Z) Z := by
  unfold tInC
  simp only [wp_bind, wp_inCB]
@[simp] theorem W5 : wp (eEqC C mm o fa fb r S) Q Z = wp (fa r S) (fun x r S => wp (fb r S) (fun y r S => orGot (o S x y) (fun b => Q (.bl b) r S) (got (insOf S x) fun q => (q.1 = C ∧ tyOk C S y = true) ∧ wf (mm [x, y] S) (fun d S' => got (asB d) fun b => Q (.bl (b != false)) r S') (fun _ _ => False))) Z) Z := by
  unfold eEqC
  simp only [wp_bind, wp_eqCB, wp_ok]
@[simp] theorem W6 : wp (tEqC C mm o fa fb r S) T Z = wp (fa r S) (fun x r S => wp (fb r S) (fun y r S => orGot (o S x y) (fun b => T b r S) (got (insOf S x) fun q => (q.1 = C ∧ tyOk C S y = true) ∧ wf (mm [x, y] S) (fun d S' => got (asB d) fun b => T (b != false) r S') (fun _ _ => False))) Z) Z := by
  unfold tEqC
  simp only [wp_bind, wp_eqCB]
theorem wp_asLen {x : RF} : wp (x.asLen r) Q Z = wf x (fun d S' => got (asI d) fun i => (0 ≤ i ∧ i < 2 ^ 63) ∧ Q (.int i) r S') (fun _ _ => False) := by
  cases x with
  | ok d S' => cases d <;> simp [RF.asLen, ite_and]
  | er d S' => simp [RF.asLen]
  | no => simp [RF.asLen]
theorem wp_asTxt {x : RF} : wp (x.asTxt r) Q Z = wf x (fun d S' => got (asS d) fun i => Q (.str i) r S') (fun _ _ => False) := by
  cases x with
  | ok d S' => cases d <;> simp [RF.asTxt]
  | er d S' => simp [RF.asTxt]
  | no => simp [RF.asTxt]
theorem wp_call1 {o : Sto → List D → Option D} {back : Env → RF → R D} : wp (eCall1C C mm o back fs r S) Q Z = wp (fs r S) (fun ds r S => orGot (o S ds) (fun d => Q d r S) (got (asOne ds) fun x => got (insOf S x) fun q => q.1 = C ∧ wp (back r (mm [x] S)) Q Z)) Z := by
  unfold eCall1C
  simp only [wp_bind]
  congr; funext ds r S
  cases o S ds with
  | some d => rfl
  | none =>
    simp only [orGot_none]
    match ds with
    | [x] =>
      simp only [asOne_one, got_some]
      cases insOf S x with
      | none => rfl
      | some q => simp only [got_some, wp_ite, wp_no, ite_and]
    | [] => rfl
    | _ :: _ :: _ => rfl
@[simp] theorem W7 : wp (eCall1C C mm oLen (fun r y => y.asLen r) fs r S) Q Z = wp (fs r S) (fun ds r S => orGot (oLen S ds) (fun d => Q d r S) (got (asOne ds) fun x => got (insOf S x) fun q => q.1 = C ∧ wf (mm [x] S) (fun d S' => got (asI d) fun i => (0 ≤ i ∧ i < 2 ^ 63) ∧ Q (.int i) r S') (fun _ _ => False))) Z := by
  rw [wp_call1]; simp only [wp_asLen]
@[simp] theorem W8 : wp (eCall1C C mm oNever (fun r y => y.asTxt r) fs r S) Q Z = wp (fs r S) (fun ds r S => got (asOne ds) fun x => got (insOf S x) fun q => q.1 = C ∧ wf (mm [x] S) (fun d S' => got (asS d) fun i => Q (.str i) r S') (fun _ _ => False)) Z := by
  rw [wp_call1]; simp only [wp_asTxt, oNever, orGot_none]
variable {G : Str → Env → Sto → Prop} {k : Str → Env → Sto → R Str} {a : Str}
@[simp] theorem W9 : wp (jNil a r S) G Z = G a r S := propext Iff.rfl
@[simp] theorem Za : wp (jCons fa k a r S) G Z = wp (fa r S) (fun x r S => got (asS x) fun y => (a ++ y).length ≤ sizeLine ∧ wp (k (a ++ y) r S) G Z) Z := by
  unfold jCons
  simp only [wp_bind]
  congr; funext x r S
  cases x <;> simp [ite_and]
@[simp] theorem Zb : wp (eJoined k r S) Q Z = wp (k Str.empty r S) (fun y r S => Q (.str y) r S) Z := by
  unfold eJoined
  simp only [wp_bind, wp_ok]
@[simp] theorem Ze : wp (eFmt fa r S) Q Z = wp (fa r S) (fun x r S => got (fmtD x) fun z => Q (.str z) r S) Z := by
  unfold eFmt
  simp only [wp_bind]
  congr; funext x r S
  cases x <;> simp [fmtD, ite_and]
@[simp] theorem Zf : wp (sCalm f r S) L Z = wp (f r S) L (fun _ _ _ => False) := by
  unfold sCalm
  cases f r S <;> simp [R.calm]
@[simp] theorem Zg {d : D} : wp (eCval C d fa r S) Q Z = wp (fa r S) (fun x r S => x = .con C ∧ Q d r S) Z := by
  unfold eCval
  simp only [wp_bind]
  congr; funext x r S
  cases x <;> simp [ite_and]
@[simp] theorem Zh {t : Sto → D → Bool} {o : Sto → D → List D → Option (D × Sto)} : wp (eMeth t o fa fs r S) Q Z = wp (fa r S) (fun x r S => t S x = true ∧ wp (fs r S) (fun ds r S => got (o S x ds) fun q => Q q.1 r q.2) Z) Z := by
  unfold eMeth
  simp only [wp_bind]
  congr; funext x r S
  simp only [wp_ite, wp_bind, wp_no, ite_and]
  congr; funext ds r S
  cases o S x ds <;> rfl
end
theorem comp_maps {α : Type} {i : Nat} {fe : EF} {r : Env} {vs : List Nat} {S : Sto} (f g : α → D) : ∀ {xs : List α}, (∀ x ∈ xs, wp (fe ((wipeE r vs).set i (some (f x))) S) (fun y _ S' => y = g x ∧ S' = S) fun _ _ _ => False) → compF (bName i) tYesB fe r vs (xs.map f) S = .ok (xs.map g) r S
  | [], _ => rfl
  | x :: xs, h => by
    have h1 := h x (List.mem_cons_self ..)
    have h2 := comp_maps f g (xs := xs) fun y hy => h y (List.mem_cons_of_mem _ hy)
    cases q : fe ((wipeE r vs).set i (some (f x))) S with
    | ok y r' S' =>
      rw [q] at h1
      obtain ⟨rfl, rfl⟩ := h1
      simp only [List.map_cons, compF, bName, tYesB, R.calm, R.bind, if_true, q, h2]
    | er y r' S' => rw [q] at h1; exact h1.elim
    | no => rw [q] at h1; exact h1.elim
theorem wf_eq {x : RF} {d : D} {S : Sto} (h : wf x (fun d' S' => d' = d ∧ S' = S) fun _ _ => False) : x = .ok d S := by
  cases x with
  | ok d' S' => obtain ⟨rfl, rfl⟩ := h; rfl
  | er d' S' => exact h.elim
  | no => exact h.elim
open PySem PySem.Spec PyProof.Rows He

@[simp] theorem txt_cps {l : List Nat} : (txt l).cps.toList = l := by simp [txt]
@[simp] theorem txt_len {l : List Nat} : (txt l).length = l.length := by simp [txt, Str.length]
theorem txt_eta (z : Str) : z = txt z.cps.toList := by cases z; simp [txt]
theorem txt_app {a b : List Nat} : txt a ++ txt b = txt (a ++ b) := by
  show Str.append _ _ = _
  simp [txt, Str.append]
theorem txt_inj {a b : List Nat} : txt a = txt b ↔ a = b := ⟨fun h => by rw [← txt_cps (l := a), h, txt_cps], fun h => by rw [h]⟩
section
variable {S : Sto} {a b l : List Nat} {c d : Nat}
theorem in_sg {z : Str} : inB S (.str (txt [c])) (.str z) = some (decide (c ∈ z.cps.toList)) := by
  show some (!(Builtin.Str.occurrences z ⟨#[c]⟩ 0 z.length 1).isEmpty) = _
  rw [StrLaws.found_one]
theorem in_sgt : inB S (.str (txt [c])) (.str (txt l)) = some (decide (c ∈ l)) := by
  rw [in_sg, txt_cps]
theorem oLen_txt (h : l.length ≤ 4000000) : oLen S [.str (txt l)] = some (.int l.length) := by
  show (if (txt l).length ≤ sizeLine then some (D.int (txt l).length) else none) = _
  rw [txt_len, if_pos (sz_le h)]
theorem eqB_str {x y : Str} : eqB S (.str x) (.str y) = some (decide (x = y)) := by
  simp only [eqB, orB, eqFB, flatD]
  have h : scal (.str x) (.str y) = true := rfl
  rw [if_pos h]
  simp
theorem eqB_txt : eqB S (.str (txt a)) (.str (txt b)) = some (decide (a = b)) := by
  rw [eqB_str]
  simp only [txt_inj]
theorem neB_txt : notB eqB S (.str (txt a)) (.str (txt b)) = some (!decide (a = b)) := by
  unfold notB
  rw [eqB_txt]; rfl
theorem oIx_txt {n : Nat} (hl : l.length ≤ 4000000) (h : n < l.length) : oIx S (.str (txt l)) (.int n) = some (.str (txt [l[n]])) := by
  show (if (txt l).length ≤ sizeLine then (atI (txt l).cps.toList (n : Int)).map (fun c => D.str ⟨#[c]⟩) else none) = _
  rw [txt_len, if_pos (sz_le hl), txt_cps, atI_nat h]
  rfl
theorem oAdd_txt (h : a.length + b.length ≤ 4000000) : oAdd S (.str (txt a)) (.str (txt b)) = some (.str (txt (a ++ b))) := by
  have h' : (txt a).length + (txt b).length ≤ sizeLine := by
    rw [txt_len, txt_len]; exact sz_le h
  simp only [oAdd, orO, oInt0, oCatS, if_pos h', txt_app]
theorem items_txt : itemsOf (.str (txt l)) = some (l.map fun c => .str (txt [c])) := by
  show some (signsD (txt l)) = _
  unfold signsD
  rw [txt_cps]
  rfl
end
def cutL (c : Nat) : List Nat → List (List Nat)
  | [] => [[]]
  | x :: r => if x = c then [] :: cutL c r else match cutL c r with
    | [] => [[x]]
    | p :: q => (x :: p) :: q
theorem cutL_free {c : Nat} : ∀ {a : List Nat}, c ∉ a → cutL c a = [a]
  | [], _ => rfl
  | x :: r, h => by
    simp only [List.mem_cons, not_or] at h
    unfold cutL
    rw [if_neg (Ne.symm h.1), cutL_free h.2]
theorem cutL_app {c : Nat} {b : List Nat} : ∀ {a : List Nat}, c ∉ a → cutL c (a ++ c :: b) = a :: cutL c b
  | [], _ => by
    show (if c = c then [] :: cutL c b else _) = _
    rw [if_pos rfl]
  | x :: r, h => by
    simp only [List.mem_cons, not_or] at h
    show (if x = c then [] :: cutL c (r ++ c :: b) else match cutL c (r ++ c :: b) with
      | [] => [[x]]
      | p :: q => (x :: p) :: q) = _
    rw [if_neg (Ne.symm h.1), cutL_app h.2]
def joinL (s : List Nat) : List (List Nat) → List Nat
  | [] => []
  | [x] => x
  | x :: y :: r => x ++ s ++ joinL s (y :: r)
theorem join_txt {s : List Nat} : ∀ xs : List (List Nat), Str.join (txt s) (xs.map txt) = txt (joinL s xs)
  | [] => rfl
  | [x] => rfl
  | x :: y :: r => by
    show txt x ++ txt s ++ Str.join (txt s) ((y :: r).map txt) = txt (x ++ s ++ joinL s (y :: r))
    rw [join_txt (y :: r), txt_app, txt_app]
theorem cut_join {c : Nat} : ∀ {xs : List (List Nat)}, xs ≠ [] → (∀ x ∈ xs, c ∉ x) → cutL c (joinL [c] xs) = xs
  | [], h, _ => absurd rfl h
  | [x], _, h => cutL_free (h x (List.mem_cons_self ..))
  | x :: y :: r, _, h => by
    show cutL c (x ++ [c] ++ joinL [c] (y :: r)) = _
    rw [List.append_assoc]
    show cutL c (x ++ c :: joinL [c] (y :: r)) = _
    rw [cutL_app (h x (List.mem_cons_self ..)), cut_join (by simp) fun z hz => h z (List.mem_cons_of_mem _ hz)]
theorem txts (ps : List Str) : ps = (ps.map fun p => p.cps.toList).map txt := by
  induction ps with
  | nil => rfl
  | cons p ps ih =>
    simp only [List.map_cons]
    rw [← ih, ← txt_eta]
theorem split_txt {c : Nat} {l : List Nat} : Txt.split (txt l) (txt [c]) = (cutL c l).map txt := by
  have h1 := StrLaws.join_split (txt l) (txt [c])
  have h2 : ∀ p ∈ Txt.split (txt l) (txt [c]), c ∉ p.cps.toList := StrLaws.split_free (txt l) c
  have h3 := (fact_split (txt l) (txt [c])).1
  generalize Txt.split (txt l) (txt [c]) = ps at h1 h2 h3 ⊢
  rw [txts ps] at h1 ⊢
  rw [join_txt, txt_inj] at h1
  congr 1
  rw [← h1]
  refine (cut_join ?_ ?_).symm
  · cases ps with
    | nil => simp at h3
    | cons p ps => simp
  · intro x hx
    obtain ⟨p, hp, rfl⟩ := List.mem_map.mp hx
    exact h2 p hp
theorem glue_txt {s : List Nat} {xs : List (List Nat)} : Txt.join (txt s) (xs.map txt) = txt (joinL s xs) := by
  show Builtin.Str.glued _ _ = _
  rw [StrLaws.glued_eq_join, join_txt]
theorem strsD_txt : ∀ xs : List (List Nat), strsD (xs.map fun x => .str (txt x)) = some (xs.map txt)
  | [] => rfl
  | x :: xs => by simp only [List.map_cons, strsD, strsD_txt xs, Option.map_some]
theorem mJoin_txt {S : Sto} {s : List Nat} {xs : List (List Nat)} {d : D} (hd : seqOf S d = some (xs.map fun x => .str (txt x))) (h : (xs.map (·.length)).sum + xs.length * s.length ≤ 16777216) : mJoin S (.str (txt s)) [d] = some (.str (txt (joinL s xs)), S) := by
  have e : ((xs.map txt).map (·.length)).sum + (xs.map txt).length * (txt s).length ≤ 16777216 := by
    rw [List.map_map]
    have : ((·.length) ∘ txt : List Nat → Nat) = (·.length) := by funext x; simp
    rw [this, List.length_map, txt_len]
    exact h
  simp only [mJoin, hd, Option.bind_some, strsD_txt, if_pos e, glue_txt]
theorem mSplit_txt {S : Sto} {c : Nat} {l : List Nat} (h : l.length ≤ 3000000) : mSplit S (.str (txt l)) [.str (txt [c])] = some (.lst ((cutL c l).map fun x => .str (txt x)), S) := by
  have e : ((txt [c]).length == 0) = false ∧ (txt l).length + 2 ≤ sizeLine := ⟨by simp, by rw [txt_len]; exact sz_le (by omega)⟩
  simp only [mSplit, if_pos e, split_txt, List.map_map]
  rfl
open PySem PySem.Spec PyProof.Rows He
section
variable {X : Cx} {W : WX} {e : Expr} {fs : AF} {p pos tpos : Pos} {elts : List Expr} {kk : Nat}


end
open PySem PySem.Spec PyProof.Rows He



section
variable {X : Cx} {W : WX} {a : Expr} {es : List Expr} {fs : AF} {fe : EF} {C : Str} {k j : Nat} {mm : MF} {p p' pos : Pos}
variable {Z : D → Env → Sto → Prop} {r : Env} {S : Sto} {Q : D → Env → Sto → Prop}
theorem wp_goR {ds : List D} : wp (goR C j mm ds r S) Q Z = ((j ≤ ds.length ∧ ds.length ≤ sizeLine) ∧ wf (mm (.ref S.length :: (ds.take j ++ [.tup (ds.drop j)])) (S ++ [.ins C [] []])) (fun d S' => d = .non ∧ Q (.ref S.length) r S') (fun d S' => Z d r S')) := by
  unfold goR
  rw [wp_ite, wp_made, wp_no, ite_and]
@[simp] theorem Zk : wp (eMakeR C j mm fs r S) Q Z = wp (fs r S) (fun ds r S => (j ≤ ds.length ∧ ds.length ≤ sizeLine) ∧ wf (mm (.ref S.length :: (ds.take j ++ [.tup (ds.drop j)])) (S ++ [.ins C [] []])) (fun d S' => d = .non ∧ Q (.ref S.length) r S') (fun d S' => Z d r S')) Z := by
  unfold eMakeR
  simp only [wp_bind, wp_goR]
@[simp] theorem Zo : wp (eMakeS C j mm fe r S) Q Z = wp (fe r S) (fun x r S => got (seqOf S x) fun ds => (j ≤ ds.length ∧ ds.length ≤ sizeLine) ∧ wf (mm (.ref S.length :: (ds.take j ++ [.tup (ds.drop j)])) (S ++ [.ins C [] []])) (fun d S' => d = .non ∧ Q (.ref S.length) r S') (fun d S' => Z d r S')) Z := by
  unfold eMakeS
  simp only [wp_bind]
  congr; funext x r S
  cases seqOf S x with
  | none => rfl
  | some ds => exact wp_goR
@[simp] theorem Zq {A : List D → Env → Sto → Prop} : wp (iEnumU fs r S) A Z = wp (fs r S) (fun ds r S => got ((asOne ds).bind fun d => match d with
    | .tup xs => some xs
    | d => vlst d) fun xs => A (enumD xs) r S) Z := by
  unfold iEnumU
  simp only [wp_bind]
  congr; funext ds r S
  match ds with
  | [.tup xs] => rfl
  | [.lst xs] => rfl
  | [.fz xs] => rfl
  | [.non] | [.bl _] | [.int _] | [.str _] | [.ty _] | [.con _] | [.dic _ _] | [.ins _ _ _] | [.ref _] => rfl
  | [] => rfl
  | x :: _ :: _ => cases x <;> rfl
end
open PySem PySem.Spec PyProof.Rows He
section
variable {X : Cx}
theorem CallU.or {f : Value} {o o' : Sto → List D → Option D} (h : CallU X f o) (h' : CallU X f o') : CallU X f (orL o o') := by
  obtain ⟨r, h1, h2⟩ := h
  obtain ⟨r', h1', h2'⟩ := h'
  exact ⟨_, h1.or h1', h2.or h2'⟩
def oStrOf : Sto → List D → Option D := fun _ ds => match ds with
  | [.int i] => if i.natAbs.log2 < 1920 then some (.str (toString i)) else none
  | _ => none
theorem cu_strI : CallU X (.type "str") oStrOf := ⟨_, call_str_int, fun g S H ds d vs Q l rd e k => by
  match ds, e with
  | [c], e =>
    obtain ⟨v, rfl, r⟩ := rel1 rd
    cases c <;> simp only [oStrOf, reduceCtorEq] at e
    rename_i i
    split at e
    · rename_i hz
      cases e
      cases r
      exact ⟨i, rfl, hz, k g H _ (.refl g) l rfl⟩
    · cases e
  | [], e => cases e
  | _ :: _ :: _, e => simp [oStrOf] at e⟩
end

section
variable {X : Cx} {W : WX} {pos p : Pos} {a : Expr} {es : List Expr} {fs : AF}
variable {Z : D → Env → Sto → Prop} {r : Env} {S : Sto} {Q : D → Env → Sto → Prop}
@[simp] theorem Zr : wp (eListS fs r S) Q Z = wp (fs r S) (fun ds r S => got ((asOne ds).bind (seqOf S)) fun xs => Q (.ref S.length) r (S ++ [.lst xs])) Z := by
  unfold eListS
  simp only [wp_bind]
  congr; funext ds r S
  cases (asOne ds).bind (seqOf S) <;> rfl
end
open PySem PySem.Spec PyProof.Rows He
section
variable {T : Sto} {o : AO} {Q Z : D → Sto → Prop}
theorem draw_to {many : Int} (hB : BagO o) (h0 : 0 < many) (hl : many < 1000000000) (h : ∀ (v : Int) (o' : AO), 0 ≤ v → v < many → BagO o' → Q (.int v) (o' :: T)) : wf (rawM 4 fbDraw [.ref 0, .int many] (o :: T)) Q Z :=
  wf_imp (draw_c (Z := fun _ _ => False) hB h0 (by
    have := log2_lt (i := many) (k := 30) (by omega) (by decide)
    omega)) (fun d S ⟨v, o', e, h1, h2, h3, h4⟩ => by subst e h4; exact h v o' h1 h2 h3) (fun _ _ z => z.elim)
theorem pick_to {x : D} (xs : List D) (hB : BagO o) (hx : ∀ S : Sto, seqOf S x = some xs) (hs : ∀ z, x ≠ .str z) (h0 : 0 < xs.length) (hl : xs.length < 4000000) (h : ∀ y o', y ∈ xs → BagO o' → Q y (o' :: T)) :
    wf (rawM 2 (fbPick (rawM 4 fbDraw)) [.ref 0, x] (o :: T)) Q Z :=
  wf_imp (pick_c (Z := fun _ _ => False) hB hx hs h0 hl) (fun d S ⟨hy, o', h1, h2⟩ => by subst h2; exact h d o' hy h1) (fun _ _ z => z.elim)
theorem comp_draws {α β : Type} {Z : D → Env → Sto → Prop} {i : Nat} {fe : EF} {r : Env} {vs : List Nat} (g : β → D) (f : α → D) (P : β → α → Prop) : ∀ (xs : List β) {o : AO}, BagO o →
    (∀ x o, x ∈ xs → BagO o → wp (fe ((wipeE r vs).set i (some (g x))) (o :: T)) (fun y _ S' => ∃ a o', y = f a ∧ P x a ∧ BagO o' ∧ S' = o' :: T) fun _ _ _ => False) →
    wp (compF (bName i) tYesB fe r vs (xs.map g) (o :: T)) (fun ys r' S' => r' = r ∧ ∃ as o', ys = as.map f ∧ Paired P xs as ∧ BagO o' ∧ S' = o' :: T) Z
  | [], o, hB, _ => ⟨rfl, [], o, rfl, .nil, hB, rfl⟩
  | x :: xs, o, hB, h => by
    simp only [List.map_cons, compF, bName, tYesB]
    have h1 := h x o (List.mem_cons_self ..) hB
    rw [wp_bind]
    refine wp_calm ?_
    rw [wp_ok, if_pos rfl, wp_bind]
    refine wp_calm (wp_imp h1 ?_ (fun _ _ _ z => z))
    rintro y _ S' ⟨a, o', rfl, ha, hB', rfl⟩
    rw [wp_bind]
    refine wp_imp (comp_draws (Z := Z) g f P xs hB' fun z o hz => h z o (List.mem_cons_of_mem _ hz)) ?_ (fun _ _ _ z => z)
    rintro ys r' S' ⟨rfl, as, o'', rfl, hp, hB'', rfl⟩
    exact ⟨rfl, a :: as, o'', rfl, .cons ha hp, hB'', rfl⟩
end
theorem comp_to {α β : Type} {Z : D → Env → Sto → Prop} {Q : List D → Env → Sto → Prop} {T : Sto} {o : AO} {i : Nat} {fe : EF} {r : Env} {vs : List Nat} (g : β → D) (f : α → D) (P : β → α → Prop) (xs : List β) (hB : BagO o)
    (h : ∀ x o, x ∈ xs → BagO o → wp (fe ((wipeE r vs).set i (some (g x))) (o :: T)) (fun y _ S' => ∃ a o', y = f a ∧ P x a ∧ BagO o' ∧ S' = o' :: T) fun _ _ _ => False)
    (k : ∀ as o', Paired P xs as → BagO o' → Q (as.map f) r (o' :: T)) : wp (compF (bName i) tYesB fe r vs (xs.map g) (o :: T)) Q Z :=
  wp_imp (comp_draws (Z := fun _ _ _ => False) g f P xs hB h) (fun ys r' S' hh => by
    obtain ⟨e1, as, o', e2, h1, h2, e3⟩ := hh
    subst e1 e2 e3
    exact k as o' h1 h2) (fun _ _ _ z => z.elim)
theorem pair_mem {α β : Type} {P : α → β → Prop} : ∀ {xs : List α} {ys : List β}, Paired P xs ys → ∀ y ∈ ys, ∃ x ∈ xs, P x y
  | _, _, .nil, y, h => by simp at h
  | _, _, .cons (a := x) (b := z) a t, y, h => by
    rcases List.mem_cons.mp h with rfl | h
    · exact ⟨x, List.mem_cons_self .., a⟩
    · obtain ⟨x', h1, h2⟩ := pair_mem t y h
      exact ⟨x', List.mem_cons_of_mem _ h1, h2⟩
theorem rangeD_map {n : Nat} : rangeD 0 n = (List.range n).map fun i : Nat => .int (i : Int) := by
  unfold rangeD
  refine List.map_congr_left fun i _ => ?_
  rw [Int.zero_add]
open PySem PySem.Spec PyProof.Rows He

section
variable {X : Cx} {W : WX} {pos : Pos}
variable {Z : D → Env → Sto → Prop} {r : Env} {S : Sto} {fs : AF} {L : Fl → Env → Sto → Prop}

theorem asThree_three {x y z : D} : asThree [x, y, z] = some (x, y, z) := rfl
@[simp] theorem ZJ {i j k : Nat} : wp (sPar3 i j k fs r S) L Z = wp (fs r S) (fun ds r S => got (asThree ds) fun q => L .nx (((r.set i (some q.1)).set j (some q.2.1)).set k (some q.2.2)) S) Z := by
  unfold sPar3
  simp only [wp_bind]
  congr; funext ds r S
  match ds with
  | [x, y, z] => rfl
  | [] => rfl
  | [x] => rfl
  | [x, y] => rfl
  | x :: y :: z :: _ :: _ => rfl
end
theorem nil_appD {l : List D} : [] ++ l = l := List.nil_append l
open PySem PySem.Spec PyProof.Rows He

section
variable {X : Cx} {W : WX} {e : Expr} {es : List Expr} {fe : EF} {fs : AF} {p : Pos}
variable {Z : D → Env → Sto → Prop} {r : Env} {S : Sto}
@[simp] theorem Zm {Q : List D → Env → Sto → Prop} : wp (aStar fe fs r S) Q Z = wp (fe r S) (fun x r S => got (seqOf S x) fun xs => wp (fs r S) (fun ys r S => Q (xs ++ ys) r S) Z) Z := by
  unfold aStar
  simp only [wp_bind]
  congr; funext x r S
  cases seqOf S x with
  | none => rfl
  | some xs => simp only [wp_bind, wp_ok, got_some]
end




section
variable {X : Cx} {W : WX} {a : Expr} {es : List Expr} {fs fk : AF} {C : Str} {k j n c : Nat} {mm : MF} {p pos : Pos} {ks : List Str} {gD : List D → List D → List D} {kws : List Keyword}
variable {Z : D → Env → Sto → Prop} {r : Env} {S : Sto} {Q : D → Env → Sto → Prop}
@[simp] theorem Zl : wp (eMakeRK C j n c gD mm fs fk r S) Q Z = wp (fs r S) (fun ds r S => wp (fk r S) (fun zd r S => ((j ≤ ds.length ∧ zd.length = c ∧ ds.length ≤ sizeLine) ∧ (gD (.ref S.length :: ds.take j) zd).length + 1 = n) ∧ wf (mm (gD (.ref S.length :: ds.take j) zd ++ [.tup (ds.drop j)]) (S ++ [.ins C [] []])) (fun d S' => d = .non ∧ Q (.ref S.length) r S') (fun d S' => Z d r S')) Z) Z := by
  unfold eMakeRK goRK
  simp only [wp_bind, wp_ite, wp_made, wp_no, ite_and]
end
open PySem PySem.Spec PyProof.Rows He


section
variable {X : Cx} {W : WX} {e : Expr} {fs : AF} {x : Str} {d : D} {p0 apos cpos : Pos}
variable {Z : D → Env → Sto → Prop} {r : Env} {S : Sto} {Q : D → Env → Sto → Prop}
@[simp] theorem ZW : wp (eIndexC d fs r S) Q Z = wp (fs r S) (fun ds r S => got (mIndex S d ds) fun q => Q q.1 r q.2) Z := by
  unfold eIndexC
  simp only [wp_bind]
  congr; funext ds r S
  cases mIndex S d ds <;> rfl
end
open PySem PySem.Spec PyProof.Rows He











open PySem PySem.Spec PyProof.Rows He


open PySem PySem.Spec PyProof.Rows He


section
variable {X : Cx} {W : WX} {a : Expr} {fa : EF} {pos : Pos}
variable {Z : D → Env → Sto → Prop} {r : Env} {S : Sto} {L : Fl → Env → Sto → Prop}
@[simp] theorem ZX {i : Nat} : wp (sAugL i fa r S) L Z = got (rd r i) fun x => wp (fa r S) (fun y r S => got (oExt S x y) fun S' => L .nx (r.set i (some x)) S') Z := by
  unfold sAugL rd
  split
  · rename_i x h
    simp only [h, wp_bind, got_some]
    congr; funext y r S
    cases oExt S _ y <;> rfl
  · simp_all
end

open PySem PySem.Spec PyProof.Rows He
section
variable {P : Program} {w : World} {K : PySem.W.Frag} {mg : Str → Option Value} {base : Heap} {x qual : Str} {params : Arguments} {body : List Stmt} {scope : Scope} {f : Addr} {fd : FuncData} {ps : List Str} {k j : Nat} {mm : MF} {C m : Str} {dvs : List V} {kws : List (Str × V)} {dds : List D}
theorem def1_ofD (hF : FnU P w K mg base k f fd ps mm) (F : FunD K x qual params body scope dvs kws f fd) (hm : mg x = some (.ref f)) (hb : ∃ ds, Vals (dvs.drop j) ds ∧ Binds K fd ps ds) (hD : ∀ g, RelDs K g dds (dvs.drop j)) : Def1 P w K mg base x k ps mm dds :=
  let ⟨ds, hv, hb⟩ := hb
  ⟨f, fd, _, ds, hF, hm, F.kp, hb, hv, hD⟩
end

open PySem PySem.Spec PyProof.Rows He




open PySem PySem.Spec PyProof.Rows He

open PySem PySem.Spec PyProof.Rows He
section
variable {Z : D → Env → Sto → Prop} {r : Env} {S : Sto} {fa fb fc : EF} {ta tb : TF} {fs ft : AF} {Q : D → Env → Sto → Prop} {T : Bool → Env → Sto → Prop} {L : Fl → Env → Sto → Prop} {C m : Str} {mm : MF} {n c : Nat} {o : Sto → D → D → Option Bool} {neg : Bool}
@[simp] theorem ZL : wp (eProp C mm fa r S) Q Z = wp (fa r S) (fun x r S => got (insOf S x) fun q => q.1 = C ∧ wf (mm [x] S) (fun d S' => Q d r S') (fun _ _ => False)) Z := by
  unfold eProp
  simp only [wp_bind]
  congr; funext x r S
  cases insOf S x with
  | none => rfl
  | some q =>
    simp only [got_some, wp_ite, wp_no, ite_and]
    congr
    cases mm [x] S <;> simp
theorem wp_neCB {x y : D} : wp (neCB C mm o x y r S) T Z = orGot (o S x y) (fun b => T b r S) (got (insOf S x) fun q => (q.1 = C ∧ tyOk C S y = true) ∧ wf (mm [x, y] S) (fun d S' => got (asB d) fun b => T (b != true) r S') (fun _ _ => False)) := by
  unfold neCB
  cases o S x y with
  | some b => simp only [wp_ok, orGot_some]
  | none =>
    cases insOf S x with
    | none => rfl
    | some q => simp only [wp_ite, wp_asBl, wp_no, ite_and, orGot_none, got_some]
@[simp] theorem ZM : wp (eNeC C mm o fa fb r S) Q Z = wp (fa r S) (fun x r S => wp (fb r S) (fun y r S => orGot (o S x y) (fun b => Q (.bl b) r S) (got (insOf S x) fun q => (q.1 = C ∧ tyOk C S y = true) ∧ wf (mm [x, y] S) (fun d S' => got (asB d) fun b => Q (.bl (b != true)) r S') (fun _ _ => False))) Z) Z := by
  unfold eNeC
  simp only [wp_bind, wp_neCB, wp_ok]
@[simp] theorem ZN : wp (tNeC C mm o fa fb r S) T Z = wp (fa r S) (fun x r S => wp (fb r S) (fun y r S => orGot (o S x y) (fun b => T b r S) (got (insOf S x) fun q => (q.1 = C ∧ tyOk C S y = true) ∧ wf (mm [x, y] S) (fun d S' => got (asB d) fun b => T (b != true) r S') (fun _ _ => False))) Z) Z := by
  unfold tNeC
  simp only [wp_bind, wp_neCB]
@[simp] theorem ZO {gD : List D → List D → List D} : wp (eMethK C m n c mm gD fa ft r S) Q Z = wp (fa r S) (fun x r S => got (insOf S x) fun q => (q.1 = C ∧ (q.2.1.zip q.2.2).lookup m = none) ∧ wp (ft r S) (fun zs r S => (zs.length = c ∧ (gD [x] zs).length = n) ∧ wf (mm (gD [x] zs) S) (fun d S => Q d r S) (fun d S => Z d r S)) Z) Z := by
  unfold eMethK
  simp only [wp_bind]
  congr; funext x r S
  cases insOf S x with
  | none => rfl
  | some q =>
    obtain ⟨C', ns, ds⟩ := q
    simp only [got_some, wp_ite, wp_bind, wp_run, wp_no, ite_and]
@[simp] theorem ZP : wp (eDGet fa fb r S) Q Z = wp (fa r S) (fun x r S => wp (fb r S) (fun y r S => got (oDGet S x y) fun d => Q d r S) Z) Z := by
  unfold eDGet
  simp only [wp_bind]
  congr; funext x r S; congr; funext y r S
  cases oDGet S x y <;> rfl
@[simp] theorem ZQ : wp (eDHas neg fa fb r S) Q Z = wp (fa r S) (fun y r S => wp (fb r S) (fun x r S => got (oDHas S y x) fun b => Q (.bl (b != neg)) r S) Z) Z := by
  unfold eDHas
  simp only [wp_bind]
  congr; funext x r S; congr; funext y r S
  cases oDHas S x y <;> rfl
@[simp] theorem ZR : wp (tDHas neg fa fb r S) T Z = wp (fa r S) (fun y r S => wp (fb r S) (fun x r S => got (oDHas S y x) fun b => T (b != neg) r S) Z) Z := by
  unfold tDHas
  simp only [wp_bind]
  congr; funext x r S; congr; funext y r S
  cases oDHas S x y <;> rfl
@[simp] theorem ZS : wp (sDPutU fa fb fc r S) L Z = wp (fa r S) (fun d r S => wp (fb r S) (fun x r S => wp (fc r S) (fun y r S => got (oDPut S x y d) fun S' => L .nx r S') Z) Z) Z := by
  unfold sDPutU
  simp only [wp_bind]
  congr; funext d r S; congr; funext x r S; congr; funext y r S
  cases oDPut S x y d <;> rfl

@[simp] theorem ZT : wp (eListDS fs r S) Q Z = wp (fs r S) (fun ds r S => got (keysD S ds) fun ks => Q (.ref S.length) r (S ++ [.lst ks])) Z := by
  unfold eListDS
  simp only [wp_bind]
  congr; funext ds r S
  unfold keysD
  match ds with
  | [] => rfl
  | [x] =>
    cases x <;> try rfl
    rename_i n
    simp only
    cases S[n]? with
    | none => rfl
    | some o => cases o <;> rfl
  | x :: _ :: _ => cases x <;> rfl

@[simp] theorem ZU : wp (eListTS fs r S) Q Z = wp (fs r S) (fun ds r S => got (strOne ds) fun z => Q (.ref S.length) r (S ++ [.lst (signsD z)])) Z := by
  unfold eListTS
  simp only [wp_bind]
  congr; funext ds r S
  unfold strOne
  match ds with
  | [] => rfl
  | [x] =>
    cases x <;> try rfl
    rename_i z
    simp only
    split <;> rfl
  | x :: _ :: _ => cases x <;> rfl
@[simp] theorem ZV {fi : AF} {b : Bn} {vs : List Nat} {tt : TF} {fk fv : EF} : wp (eDcS fi b vs tt fk fv r S) Q Z = wp (fi r S) (fun xs r S => xs.length < sizeLine ∧ wp (dcF b tt fk fv r vs xs [] [] S) (fun q r S => Q (.ref S.length) r (S ++ [.dic q.1 q.2])) Z) Z := by
  unfold eDcS
  simp only [wp_bind, wp_ite, wp_no, ite_and, wp_ok]
end
open PySem PySem.Spec PyProof.Rows He

section
variable {X : Cx} {W : WX} {pos : Pos} {a b : Expr} {fa fb : EF}
variable {Z : D → Env → Sto → Prop} {r : Env} {S : Sto} {Q : D → Env → Sto → Prop}

@[simp] theorem ZY : wp (eCatLS fa fb r S) Q Z = wp (fa r S) (fun x r S => wp (fb r S) (fun y r S => got (lstCat S x y) fun zs => Q (.ref S.length) r (S ++ [.lst zs])) Z) Z := by
  unfold eCatLS
  simp only [wp_bind]
  congr; funext x r S; congr; funext y r S
  unfold lstCat
  cases lstMOf S x with
  | none => rfl
  | some xs =>
    cases lstMOf S y with
    | none => rfl
    | some ys =>
      simp only
      split
      · rfl
      · rfl
end
open PySem PySem.Spec PyProof.Rows He
def oIntStr : Sto → List D → Option D := fun _ ds => match ds with
  | [.str a] => if a.length ≤ 640 then (PySem.intText? a).map .int else none
  | _ => none
theorem cu_intS {X : Cx} : CallU X (.type "int") oIntStr := ⟨_, call_int_str, fun g S H ds d vs Q l rd e k => by
  unfold oIntStr at e
  split at e
  · rename_i a
    split at e
    · rename_i h
      obtain ⟨n, h1, rfl⟩ := Option.map_eq_some_iff.mp e
      rw [rels_s rd]
      exact ⟨a, n, rfl, h1, h, k g H _ (.refl g) l rfl⟩
    · cases e
  · cases e⟩
open PySem PySem.Spec PyProof.Rows He
def Wk (w : World) (h : Heap) (a : Addr) (es : Array (Int × Value)) : Prop :=
  ∃ (o : Obj) (ep : Nat) (t : SetTable), (h.get? a = some o ∧ o.ExactSet ∧ o.data = .set es ep t) ∧ t.fits es.size = true ∧ Ris t.place.toList ∧ (w.params.followText "set-order" = true ∨ t.led = true)
theorem Wk.stay {w : World} {h h' : Heap} {a : Addr} {es : Array (Int × Value)} (W : Wk w h a es) (k : ∀ o, h.get? a = some o → h'.get? a = some o) : Wk w h' a es :=
  let ⟨o, ep, t, ⟨e, x⟩, r⟩ := W
  ⟨o, ep, t, ⟨k o e, x⟩, r⟩
section
variable {P : Program} {w : World} {A : Around} {E : Value → Shared → Prop} {s : Shared} {a : Addr}
theorem say_any {M : Model} {b : Bool} {x : String} {s1 : Shared} {Q : Unit → Shared → Prop} (q : Q () s1) : wpAny M A (match b with | true => rule x | false => pure ()) Q E s1 := by
  cases b
  · exact wpAny_pure q
  · exact wpAny_rule q
theorem wk_store {say : Bool → Sem Unit} (hs : ∀ (b : Bool) (s1 : Shared) (Q : Unit → Shared → Prop), Q () s1 → wpAny (model P w) A (say b) Q E s1) {o : Obj} {es es1 : Array (Int × Value)} {ep : Nat} {t t1 : SetTable}
    (at_ : s.heap.get? a = some o ∧ o.ExactSet ∧ o.data = .set es ep t) (room : es1.size < scanBound) (ok : t1.fits es1.size = true ∧ Ris t1.place.toList ∧ (w.params.followText "set-order" = true ∨ t1.led = true)) {dm : Bool} {R : Option Bool → Shared → Prop}
    (done : ∀ (h' : Heap) (es2 : Array (Int × Value)), Heap.SameBut a s.heap h' → Wk w h' a es2 → es2.toList.Perm es1.toList → R (some true) { s with heap := h' }) :
    wpAny (model P w) A (do
        storeSet a es1 t1
        if (!dm && t1.tooFull) = true then do
            say (relayAll t1 es1 (SetTable.grown es1.size)).2.2
            storeSet a (relayAll t1 es1 (SetTable.grown es1.size)).1 (relayAll t1 es1 (SetTable.grown es1.size)).2.1
            pure (some true)
          else pure (some true)) R E s := by
  obtain ⟨ho, hex, hd⟩ := at_
  obtain ⟨hf, hr, hl⟩ := ok
  have first := store_at (es' := es1) (t' := t1) ho hd
  have moved := Heap.SameBut.update s.heap a (Obj.putSet es1 t1)
  refine wpAny_bind (wpAny_storeSet_of ho hd ?_ (fits_of_scanBound room))
  by_cases full : (!dm && t1.tooFull) = true
  · rw [if_pos full]
    have p2 := relayAll_perm t1 es1 (SetTable.grown es1.size)
    have f2 := relayAll_fits t1 es1 (SetTable.grown es1.size)
    have r2 := relayAll_ris t1 es1 (SetTable.grown es1.size)
    have l2 := relayAll_led t1 es1 (SetTable.grown es1.size)
    generalize relayAll t1 es1 (SetTable.grown es1.size) = z at p2 f2 r2 l2 ⊢
    obtain ⟨es2, t2, gave⟩ := z
    dsimp only at p2 f2 r2 l2 ⊢
    have n2 : es2.size = es1.size := by simpa using p2.length_eq
    refine wpAny_bind (hs _ _ _ (wpAny_bind (wpAny_storeSet_of first rfl ?_ (fits_of_scanBound (by rw [n2]; exact room)))))
    exact wpAny_pure (done _ es2 (moved.trans (Heap.SameBut.update _ a _)) ⟨_, _, t2, ⟨store_at (es' := es2) (t' := t2) first rfl, hex, rfl⟩, f2, r2, hl.imp id fun z => l2.trans z⟩ p2)
  · rw [if_neg full]
    exact wpAny_pure (done _ es1 moved ⟨_, _, t1, ⟨first, hex, rfl⟩, hf, hr, hl⟩ .rfl)
variable {K : Type} [DecidableEq K] {knd : KeyKind P w K}
theorem wk_add {k : K} {v : Value} {es : Array (Int × Value)} {Q : Bool → Shared → Prop} (hk : knd.is k v = true) (hv : v.scannable = true) (W : Wk w s.heap a es) (hel : ElemsOf knd es.toList) (room : es.size + 1 < scanBound)
    (old : (∃ e ∈ es.toList, knd.is k e.2 = true) → Q false s)
    (new : (∀ e ∈ es.toList, knd.is k e.2 = false) → ∀ (h' : Heap) (es1 : Array (Int × Value)), Heap.SameBut a s.heap h' → Wk w h' a es1 → es1.toList.Perm ((knd.hash k, v) :: es.toList) → Q true { s with heap := h' }) :
    wpAny (model P w) A (setAddHashed a v (knd.hash k)) Q E s := by
  obtain ⟨o, ep, t, ⟨ho, hex, hd⟩, hf, hr, hl⟩ := W
  unfold setAddHashed setAddHashedIn
  refine wpAny_holding (wpAny_bind (wpAny_setState_of ho hd hf ?_))
  dsimp only
  rw [byScan_of hv (by omega) hel]
  simp only [↓reduceIte]
  unfold setAddByScan
  refine wpAny_bind (wpAny_bind (wpAny_rule (wpAny_bind (wpAny_setScan_of hk ho hd hf hel ?_))))
  cases met : List.findIdx? (fun e => knd.is k e.2) es.toList with
  | some j =>
    dsimp only
    obtain ⟨hj, pj, _⟩ := List.findIdx?_eq_some_iff_getElem.mp met
    exact wpAny_pure (wpAny_pure (old ⟨_, List.getElem_mem hj, pj⟩))
  | none =>
    dsimp only
    have fresh := List.findIdx?_eq_none_iff.mp met
    have p1 := layNew_perm t es (knd.hash k) v
    have f1 := layNew_fits t es (knd.hash k) v
    have r1 := layNew_ris t es (knd.hash k) v hr
    have l1 := layNew_led t es (knd.hash k) v
    generalize layNew t es (knd.hash k) v = z at p1 f1 r1 l1 ⊢
    obtain ⟨es1, t1, dm, gave⟩ := z
    dsimp only at p1 f1 r1 l1 ⊢
    rw [Array.toList_push] at p1
    have p2 := p1.trans (List.perm_append_singleton (knd.hash k, v) es.toList)
    have n1 : es1.size < scanBound := by
      have e : es1.size = es.size + 1 := by simpa using p2.length_eq
      omega
    have led1 : w.params.followText "set-order" = true ∨ t1.led = true := hl.imp id fun z => by rw [l1]; exact z
    have fin : ∀ (h' : Heap) (es2 : Array (Int × Value)), Heap.SameBut a s.heap h' → Wk w h' a es2 → es2.toList.Perm es1.toList → Q true { s with heap := h' } := fun h' es2 sb W2 p => new (fun e he => by simpa using fresh e he) h' es2 sb W2 (p.trans p2)
    have say : ∀ (x : String) (b : Bool) (s1 : Shared) (Q' : Unit → Shared → Prop), Q' () s1 → wpAny (model P w) A (match b with | true => rule x | false => pure ()) Q' E s1 := fun x b s1 Q' q => say_any q
    refine wpAny_bind ?_
    refine (show ∀ (b : Bool) {s1 : Shared} {Q' : Unit → Shared → Prop}, Q' () s1 → wpAny (model P w) A (match b with | true => rule "set.scan.the-table-gave-way" | false => pure ()) Q' E s1 from fun b {s1 Q'} q => say_any q) _ ?_
    split
    · rw [hashByValue_scannable 8 hv]
      refine wpAny_bind ?_
      refine wpAny_pure ?_
      refine wk_store (fun b s1 Q' q => ?_) ⟨ho, hex, hd⟩ n1 ⟨?_, ?_, ?_⟩ fun h' es2 sb W2 p => ?_
      · cases b <;> first | exact wpAny_pure q | exact wpAny_rule q
      · first | (split <;> first | exact f1 | exact SetTable.fits_plain_off f1) | exact f1
      · first | (split <;> exact r1) | exact r1
      · first | (split <;> exact led1) | exact led1
      · dsimp only; exact wpAny_pure (fin h' es2 sb W2 p)
    · refine wpAny_bind (wpAny_pure ?_)
      simp only [↓reduceIte]
      refine wk_store (fun b s1 Q' q => ?_) ⟨ho, hex, hd⟩ n1 ⟨f1, r1, led1⟩ fun h' es2 sb W2 p => ?_
      · cases b <;> first | exact wpAny_pure q | exact wpAny_rule q
      · dsimp only; exact wpAny_pure (fin h' es2 sb W2 p)
end
def kyT (e : Int × Value) : Str := match e.2 with
  | .str k _ => k
  | _ => Str.empty
structure TxE (w : World) (es : Array (Int × Value)) (l : List Str) : Prop where
  good : ∀ e ∈ es.toList, ∃ k t, e = (hashStr w k, Value.str k t)
  nd : (es.toList.map kyT).Nodup
  mem : ∀ k, k ∈ es.toList.map kyT ↔ k ∈ l
section
variable {P : Program} {w : World} {es : Array (Int × Value)} {l : List Str}
theorem TxE.elems (h : TxE w es l) : ElemsOf (strKind P w) es.toList := fun e he => by
  obtain ⟨k, t, rfl⟩ := h.good e he
  exact ⟨⟨k, strKind_is P w k t, rfl⟩, rfl⟩
theorem TxE.is_iff (h : TxE w es l) {e : Int × Value} (he : e ∈ es.toList) (k : Str) : (strKind P w).is k e.2 = true ↔ kyT e = k := by
  obtain ⟨k0, t, rfl⟩ := h.good e he
  show (k0 == k) = true ↔ k0 = k
  exact beq_iff_eq
theorem TxE.more {es1 : Array (Int × Value)} {k : Str} {u : Tok} (h : TxE w es l) (fresh : ∀ e ∈ es.toList, (strKind P w).is k e.2 = false) (p : es1.toList.Perm ((hashStr w k, Value.str k u) :: es.toList)) : TxE w es1 (l ++ [k]) := by
  have nin : k ∉ es.toList.map kyT := fun hm => by
    obtain ⟨e, he, q⟩ := List.mem_map.mp hm
    have := (h.is_iff (P := P) he k).mpr q
    rw [fresh e he] at this
    cases this
  have pk : (es1.toList.map kyT).Perm (k :: es.toList.map kyT) := p.map kyT
  refine ⟨fun e he => ?_, pk.nodup_iff.mpr (List.nodup_cons.mpr ⟨nin, h.nd⟩), fun x => ?_⟩
  · rcases List.mem_cons.mp (p.mem_iff.mp he) with rfl | he
    · exact ⟨k, u, rfl⟩
    · exact h.good e he
  · rw [pk.mem_iff, List.mem_cons, List.mem_append, List.mem_singleton, h.mem x]
    exact Or.comm
theorem TxE.same {k : Str} (h : TxE w es l) (old : ∃ e ∈ es.toList, (strKind P w).is k e.2 = true) : TxE w es (l ++ [k]) := by
  obtain ⟨e, he, q⟩ := old
  have hk : k ∈ l := (h.mem k).mp (List.mem_map.mpr ⟨e, he, (h.is_iff (P := P) he k).mp q⟩)
  refine ⟨h.good, h.nd, fun x => ?_⟩
  rw [h.mem x, List.mem_append, List.mem_singleton]
  exact ⟨.inl, fun z => z.elim id fun e => e ▸ hk⟩
theorem TxE.size_le (h : TxE w es l) : es.size ≤ l.length := by
  have := List.Nodup.length_le_of_subset h.nd fun x hx => (h.mem x).mp hx
  simpa using this
end
section
variable {P : Program} {w : World} {A : Around} {E : Value → Shared → Prop} {s : Shared}
theorem upd_texts {I : Addr} {fp wr : List Addr} {G : Array GenState → Array GenState → Prop} {n : Nat} {Pv : Nat → Value → Prop} {St : Nat → Shared → Prop} {R : Result → Shared → Prop} {l : List Str} {a : Addr}
    (W : WalksS P w A.in1 I fp wr G n Pv St) (off : a ∉ fp) (hn : l.length = n) (room : n + 1 < scanBound) (val : ∀ i v, Pv i v → ∃ (h : i < l.length) (t : Tok), v = .str l[i] t)
    (done : ∀ s' es, Moved (a :: wr) G s s' → Wk w s'.heap a es → TxE w es l → R (.ok (.ret .none)) s') (m i : Nat) :
    ∀ s1 es, n - i = m → i ≤ n → St i s1 → Moved (a :: wr) G s s1 → Wk w s1.heap a es → TxE w es (l.take i) → codeAny (model P w) A (.builtin "set.update.loop" ⟨[.ref a, .ref I], []⟩) R s1 := by
  have aw : a ∉ wr := fun h => off (W.sub _ h)
  have more : ∀ b ∈ wr, b ∈ a :: wr := fun b hb => List.mem_cons_of_mem _ hb
  induction m generalizing i with
  | zero =>
    intro s1 es hm hi st mv Wa T
    have e : i = n := by omega
    subst e
    rw [show l.take i = l from List.take_of_length_le (by omega)] at T
    refine codeAny_builtin F.entry_set_update_loop ?_
    rw [Around.under_plainId F.plain_set_update_loop _]
    show wpAny _ A.in1 (pyNext (.ref I) >>= _) _ _ s1
    refine wpAny_bind (W.done s1 _ _ st fun s2 mv2 => ?_)
    show wpAny _ A.in1 (ret Value.none) _ _ s2
    exact wpAny_pure (done s2 es (Moved.trans W.gtrans mv (mv2.mono more)) (Wa.stay fun o e => mv2.heap a o aw e) T)
  | succ m ih =>
    intro s1 es hm hi st mv Wa T
    have lt : i < n := by omega
    refine codeAny_builtin F.entry_set_update_loop ?_
    rw [Around.under_plainId F.plain_set_update_loop _]
    show wpAny _ A.in1 (pyNext (.ref I) >>= _) _ _ s1
    refine wpAny_bind (W.item i s1 _ _ lt st fun v s2 hv st2 mv2 => ?_)
    obtain ⟨hl, t, rfl⟩ := val i v hv
    have W2 : Wk w s2.heap a es := Wa.stay fun o e => mv2.heap a o aw e
    have mvs := Moved.trans W.gtrans mv (mv2.mono more)
    have tk : l.take (i + 1) = l.take i ++ [l[i]] := by rw [List.take_add_one, List.getElem?_eq_getElem hl]; rfl
    have sz := T.size_le
    rw [List.length_take] at sz
    show wpAny _ A.in1 (holding [Value.str l[i] t] (setAdd a (.str l[i] t)) >>= _) _ _ s2
    refine wpAny_bind (wpAny_holding ?_)
    unfold setAdd
    refine wpAny_holding (wpAny_bind ((strKind P w).pyHash (strKind_is _ _ _ _) ?_))
    refine wk_add (s := { s2 with toks := s2.toks + 1 }) (strKind_is _ _ _ _) rfl W2 (T.elems (P := P)) (by omega) (fun old => ?_) (fun fresh h' es1 sb W3 p => ?_)
    · refine wpAny_pure ⟨plainId_quiet F.plain_set_update_loop _, ih (i + 1) { s2 with toks := s2.toks + 1 } es (by omega) lt ?_ ?_ W2 (by rw [tk]; exact T.same (P := P) old)⟩
      · exact W.frame _ s2 _ _ st2 (Nat.le_succ _) fun b hb o e => e
      · exact ⟨mvs.heap, mvs.gens, mvs.drawn, mvs.os, Nat.le_succ_of_le mvs.toks⟩
    · refine wpAny_pure ⟨plainId_quiet F.plain_set_update_loop _, ih (i + 1) { s2 with heap := h', toks := s2.toks + 1 } es1 (by omega) lt ?_ ?_ W3 (by rw [tk]; exact T.more (P := P) fresh p)⟩
      · exact W.frame _ s2 _ _ st2 (Nat.le_succ _) fun b hb o e => by rw [sb.2 b (fun z => off (z ▸ hb))]; exact e
      · exact ⟨fun b o hb e => by rw [sb.2 b (fun z => hb (z ▸ List.mem_cons_self ..))]; exact mvs.heap b o hb e, mvs.gens, mvs.drawn, mvs.os, Nat.le_succ_of_le mvs.toks⟩
abbrev set0 (w : World) : Obj := { cls := .type "set", dict := none, data := .set #[] 0 (.fresh 0 0 (!w.params.followText "set-order")) }
theorem wk_new {h : Heap} {b : Addr} (e : h.get? b = some (set0 w)) : Wk w h b #[] := by
  refine ⟨_, 0, _, ⟨e, ⟨rfl, rfl, rfl⟩, rfl⟩, by rfl, List.Pairwise.nil, ?_⟩
  show _ ∨ (!w.params.followText "set-order") = true
  cases w.params.followText "set-order"
  · exact .inr rfl
  · exact .inl rfl
theorem txe_new : TxE w #[] [] := ⟨fun e he => by simp at he, by simp, fun k => by simp⟩
abbrev SetEnd (w : World) (s : Shared) (l : List Str) : Value → Shared → Prop := fun v s2 => v = .none ∧ ∃ (h' : Heap) (tk : Nat) (es : Array (Int × Value)), s2 = { s with heap := h', toks := tk } ∧ Wk w h' s.heap.objs.size es ∧ TxE w es l ∧ ∀ b o, s.heap.get? b = some o → h'.get? b = some o
set_option maxHeartbeats 3200000 in
theorem set_core {x : Value} {l : List Str} {Q : Value → Shared → Prop}
    (init : wpAny (model P w) A.in1.in1 (Builtin.«set.__init__» ⟨[.ref s.heap.objs.size] ++ [x], []⟩) (fun fin s' => match fin with
      | .done f => wants (SetEnd w s l) E (.ok f) s'
      | .again c' => c'.quiet = true ∧ codeAny (model P w) A.in1 c' (wants (SetEnd w s l) E) s') (fun e s' => wants (SetEnd w s l) E (.error e) s') { s with heap := s.heap.push (set0 w) })
    (q : ∀ (h' : Heap) (tk : Nat) (es : Array (Int × Value)), Wk w h' s.heap.objs.size es → TxE w es l → (∀ b o, s.heap.get? b = some o → h'.get? b = some o) → Q (.ref s.heap.objs.size) { s with heap := h', toks := tk }) :
    wpAny (model P w) A (call (.type "set") [x]) Q E s := by
  obtain ⟨c, tl, hmro⟩ := F.called_set.mro
  have g1 := F.called_set.made
  have g2 := F.called_set.sub
  have g3 := F.called_set.notType
  have g4 := F.called_set.canCreate
  have g5 := F.typeCall_set_1 x
  refine wpAny_call (codeAny_of_tree ?_)
  show wpAny _ _ (callAny (.type "set") _) _ _ _
  refine wpAny_pure ⟨Code.quiet_builtin _ (by decide +kernel), codeAny_builtin F.entry_type_call ?_⟩
  rw [Around.under_plain (weight_type_call_type "set" [x] []) rfl]
  repeat (any_goals (first | assumption | wp_step))
  refine codeAny_mono (code_set_led1 x (E := E) (Q₁ := fun v s1 => v = .ref s.heap.objs.size ∧ s1 = { s with heap := s.heap.push (set0 w) }) ⟨rfl, rfl⟩) fun r s1 made => ?_
  cases r with
  | error e => exact made
  | ok f =>
    cases f with
    | ret v =>
      obtain ⟨rfl, rfl⟩ := made
      have at_ : (s.heap.push (set0 w)).get? s.heap.objs.size = some (set0 w) := Heap.get?_push_size _ rfl
      have ty : Shared.TypeIs { s with heap := s.heap.push (set0 w) } (.ref s.heap.objs.size) "set" := ⟨_, at_, rfl⟩
      have g6 := F.called_set.init.lookup
      have g7 := F.called_set.init.bind (.ref s.heap.objs.size)
      repeat (any_goals (first | assumption | wp_step))
      refine codeAny_mono (codeAny_call_builtin (R := wants (SetEnd w s l) E) F.called_set.init.plain F.entry_set_init (check_set_init_1 ty init)) fun r s2 out => ?_
      cases r with
      | error e => exact out
      | ok f =>
        cases f with
        | ret v =>
          obtain ⟨rfl, h', tk, es, rfl, W, T, kp⟩ := out
          repeat (any_goals (first | assumption | wp_step))
          exact q _ _ _ W T kp
        | _ => exact out.elim
    | _ => exact made.elim
theorem upd_end {I : Addr} {fp wr : List Addr} {n : Nat} {Pv : Nat → Value → Prop} {St : Nat → Heap → Prop} {l : List Str} {B : Around} {h1 : Heap}
    (W : Walks P w B.in1 I fp wr n Pv St) (off : s.heap.objs.size ∉ fp) (wrI : ∀ b ∈ wr, s.heap.objs.size < b) (hn : l.length = n) (room : n + 1 < scanBound) (val : ∀ i v, Pv i v → ∃ (h : i < l.length) (t : Tok), v = .str l[i] t)
    (st : St 0 h1) (kp : ∀ b o, (s.heap.push (set0 w)).get? b = some o → h1.get? b = some o) {R : Result → Shared → Prop} (done : ∀ s2, SetEnd w s l .none s2 → R (.ok (.ret .none)) s2) :
    codeAny (model P w) B (.builtin "set.update.loop" ⟨[.ref s.heap.objs.size, .ref I], []⟩) R { s with heap := h1 } := by
  have at_ : (s.heap.push (set0 w)).get? s.heap.objs.size = some (set0 w) := Heap.get?_push_size _ rfl
  refine upd_texts (l := l) W.toS off hn room val (fun s3 es mv Wa T => done _ ?_) n 0 { s with heap := h1 } #[] (by omega) (Nat.zero_le _) st ⟨fun b o _ e => e, rfl, rfl, rfl, Nat.le_refl _⟩ (wk_new (kp _ _ at_)) txe_new
  obtain ⟨h', g', d', tk', os'⟩ := s3
  obtain rfl : g' = s.gens := mv.gens
  obtain rfl : d' = s.drawn := mv.drawn
  obtain rfl : os' = s.os := mv.os
  refine ⟨rfl, h', tk', es, rfl, Wa, T, fun b o e => ?_⟩
  have lb : b < s.heap.objs.size := Heap.lt_size e
  refine mv.heap b o (fun hm => ?_) (kp _ _ (Heap.get?_push_of_some _ e))
  rcases List.mem_cons.mp hm with z | z
  · rw [z] at lb; exact Nat.lt_irrefl _ lb
  · exact Nat.lt_irrefl _ (Nat.lt_trans lb (wrI b z))
theorem set_list {a : Addr} {its : Array Value} {l : List Str} {Q : Value → Shared → Prop} (hh : A.handled = none) (hl : s.heap.IsList a its) (tx : StrsAre its.toList l) (room : l.length + 1 < scanBound)
    (q : ∀ (h' : Heap) (tk : Nat) (es : Array (Int × Value)), Wk w h' s.heap.objs.size es → TxE w es l → (∀ b o, s.heap.get? b = some o → h'.get? b = some o) → Q (.ref s.heap.objs.size) { s with heap := h', toks := tk }) :
    wpAny (model P w) A (call (.type "set") [.ref a]) Q E s := by
  have size : its.size = l.length := by simpa using StrsAre.len_eq tx
  refine set_core (l := l) ?_ q
  obtain ⟨⟨oc, od, ob, os⟩, ho, e1, n, e2⟩ := hl
  simp only at e1 e2
  subst e1
  subst e2
  have there : (s.heap.push (set0 w)).get? a = some { cls := .type "list", dict := od, data := .seq its n, slots := os } := Heap.get?_push_of_some _ ho
  have isl : (s.heap.push (set0 w)).IsList a its := ⟨_, there, rfl, n, rfl⟩
  have k1 := F.sub_list_set
  have k2 := F.sub_list_frozenset
  have k3 : (Value.type "list" == Value.type "dict") = false := by decide
  have lt : a < s.heap.objs.size := Heap.lt_size ho
  have sz1 : (s.heap.push (set0 w)).objs.size = s.heap.objs.size + 1 := Heap.size_push ..
  have ne : a ≠ (s.heap.push (set0 w)).objs.size := by rw [sz1]; exact Nat.ne_of_lt (Nat.lt_succ_of_lt lt)
  have h3 : A.in1.in1.in1.handled = none := by simp [hh]
  unfold Builtin.«set.__init__» noKeywords Builtin.Frozenset.updateFrom
  generalize hPI : pyIter = PI
  wp_walk
  subst hPI
  refine wpAny_pyIter_list isl ?_
  refine wpAny_bind (wpAny_runValue ?_)
  refine upd_end (l := l) (Walks.list h3 _ a ne its) ?_ (fun b hb => ?_) size.symm (by rw [size]; exact room) (fun i v hv => ?_) ⟨⟨_, Heap.get?_push_size _ rfl, rfl, rfl⟩, isl.push _⟩ (fun b o e => Heap.get?_push_of_some _ e) fun s2 out => ?_
  · rw [sz1]
    simp only [List.mem_cons, List.not_mem_nil, or_false, not_or]
    exact ⟨Nat.ne_of_lt (Nat.lt_succ_self _), Nat.ne_of_gt lt⟩
  · rw [List.mem_singleton.mp hb, sz1]; exact Nat.lt_succ_self _
  · have hi : i < l.length := by rw [← size]; exact (Array.getElem?_eq_some_iff.mp hv).1
    obtain ⟨y, u, rfl, hy⟩ := tx.item i v (by rw [Array.getElem?_toList]; exact hv)
    rw [List.getElem?_eq_getElem hi] at hy
    exact ⟨hi, u, by rw [Option.some.inj hy]⟩
  · show wpAny _ _ _ _ _ _
    refine wpAny_pure ?_
    show wpAny _ _ (ret Value.none) _ _ _
    exact wpAny_pure out
end
open PySem PySem.Spec PyProof.Rows He



open PySem PySem.Spec PyProof.Rows He



section
variable {X : Cx} {W : WX} {pos p p2 p3 : Pos} {a : Expr} {fa : EF}
variable {Z : D → Env → Sto → Prop} {r : Env} {S : Sto} {Q : D → Env → Sto → Prop}
@[simp] theorem ZZ : wp (eSortSet fa r S) Q Z = wp (fa r S) (fun x r S => got (txtsOf S x) fun l => l.length < 4000 ∧ Q (.lst ((sortT l).map .str)) r S) Z := by
  unfold eSortSet
  simp only [wp_bind]
  congr; funext x r S
  cases txtsOf S x with
  | none => rfl
  | some l =>
    by_cases h : l.length < 4000
    · simp only [got_some, if_pos h, h, true_and]; rfl
    · simp only [got_some, if_neg h, h, false_and]; rfl
@[simp] theorem Z0 : wp (eSortSetS fa r S) Q Z = wp (fa r S) (fun x r S => got (txtsOf S x) fun l => l.length < 4000 ∧ Q (.ref S.length) r (S ++ [.lst ((sortT l).map .str)])) Z := by
  unfold eSortSetS
  simp only [wp_bind]
  congr; funext x r S
  cases txtsOf S x with
  | none => rfl
  | some l =>
    by_cases h : l.length < 4000
    · simp only [got_some, if_pos h, h, true_and]; rfl
    · simp only [got_some, if_neg h, h, false_and]; rfl
end
open PySem PySem.Spec PyProof.Rows He

theorem oexB_ok {K : PySem.W.Frag} {C : Addr} (h : oexB K C = true) : OexC K C := by
  obtain ⟨q, h⟩ := ba h
  obtain ⟨h1, h⟩ := ba h
  obtain ⟨h2, h⟩ := ba h
  obtain ⟨h3, h4⟩ := ba h
  refine ⟨?_, eqO_ok h1, of_decide_eq_true h2, of_decide_eq_true h3, h4⟩
  split at q
  · rename_i dd cd sl ho
    split at q
    · rename_i C' bm k0 k1 k2 k3 n k5 hm hs
      simp only [Bool.and_eq_true, beq_iff_eq, Bool.not_eq_true'] at q
      obtain ⟨rfl, rfl, hdel, hd, hok⟩ := q
      obtain ⟨nm, bs, mro, ns, qn, hd', sn, sub, ab, col, del⟩ := cd
      dsimp only at hm hdel hd
      subst hm hdel hd
      have hsl : sl = #[k0, k1, k2, k3, some (.builtin "ValueError.__new__"), k5] := by
        obtain ⟨l⟩ := sl
        simp only at hs
        rw [hs]
      subst hsl
      exact ⟨nm, qn, ns, bs, bm, sn, sub, ab, col, dd, k0, k1, k2, k3, k5, ho, hok⟩
    · cases q
  · cases q

structure Xcl (K : PySem.W.Frag) (C : Str) (fs : List Str) : Prop where
  oex : OexC K (ga K C)
  xf : XfC K (ga K C)
  noc : PySem.W.findIn K (.ref (ga K C)) "code" = some none
  no : ∀ f ∈ fs, PySem.W.findIn K (.ref (ga K C)) f = some none
  ini : PySem.W.findIn K (.ref (ga K C)) "__init__" = some (some (.ref (fAd K (C, some "__init__"))))
  ty : PySem.W.typeIn K (.ref (fAd K (C, some "__init__"))) = some (.type "function")
theorem xclB_ok {K : PySem.W.Frag} {C : Str} {fs : List Str} (h : xclB K (C, fs) = true) : Xcl K C fs := by
  obtain ⟨h1, h⟩ := ba h
  obtain ⟨h2, h⟩ := ba h
  obtain ⟨h3, h⟩ := ba h
  obtain ⟨h4, h5⟩ := ba h
  have n := List.all_eq_true.mp h3
  exact ⟨oexB_ok h1, xfB_ok h2, eqO_ok (n _ (List.mem_cons_self ..)), fun f hf => eqO_ok (n f (List.mem_cons_of_mem _ hf)), eqO_ok h4, of_decide_eq_true h5⟩
def spX1 (K : PySem.W.Frag) (f code : Str) : Sp := fun vs H Q E => ∃ (a C : Addr) (y : V), vs = [.ref a, y] ∧ OexC K C ∧ PySem.W.findIn K (.ref C) f = some none ∧ PySem.W.findIn K (.ref C) "code" = some none ∧ H a = some (exo a C none) ∧
  ∀ dx, H dx = none → dx ≠ a → Q .non (upd (upd (upd H dx (exd dx [(f, y)])) a (exo a C (some dx))) dx (exd dx [("code", .str code), (f, y)]))
def spX0 (K : PySem.W.Frag) (code : Str) : Sp := fun vs H Q E => ∃ (a C : Addr), vs = [.ref a] ∧ OexC K C ∧ PySem.W.findIn K (.ref C) "code" = some none ∧ H a = some (exo a C none) ∧
  ∀ dx, H dx = none → dx ≠ a → Q .non (upd (upd H dx (exd dx [("code", .str code)])) a (exo a C (some dx)))
section
variable {P : Program} {w : World} {K : PySem.W.Frag} {mg : Str → Option Value} {base : Heap} {x qual f code : Str} {params : Arguments} {scope : Scope} {fI : Addr} {fd : FuncData} {j : Nat} {p1 p2 p3 p4 p5 p6 p7 p8 : Pos}
theorem exc1_ok (F : FunD K x qual params [.Assign [.Attribute (.Name "self" p1) f p2] (.Name f p3) p4, .Assign [.Attribute (.Name "self" p5) "code" p6] (.Constant (.str code) j p7) p8] scope [] [] fI fd)
    (S : FnScope ["self", f] ["self", f] scope) (v0 : Vis scope "self") (v1 : Vis scope f) (hd : (f == ("__debug__" : Str)) = false) (hcd : (f == ("__classdict__" : Str)) = false) : FnOk P w K mg base (CXU K P w) 1 fI fd ["self", f] (spX1 K f code) := by
  refine F.ok S (fun vs H Q E ⟨a, C, y, e, _⟩ => by rw [e]; rfl) fun cdv A outer s H vs Q E hr ⟨a, C, y, e, T, n1, n2, ha, q⟩ => ⟨_, pss_cons (ps_ost (pe_var (i := 0) rfl v0) (pe_var (i := 1) rfl v1 hd hcd)) (pss_one (ps_ost (pe_var (i := 0) rfl v0) pe_str)), ?_⟩
  subst e
  refine ⟨y, rfl, .ref a, rfl, a, C, rfl, T, n1, .inl ⟨ha, fun dx h1 h2 => ?_⟩⟩
  refine ⟨.ref a, rfl, a, C, rfl, T, n2, .inr ⟨dx, [(f, y)], upd_same, ?_, by simp, q dx h1 h2⟩⟩
  rw [upd_ne h2, upd_same]
theorem exc0_ok (F : FunD K x qual params [.Assign [.Attribute (.Name "self" p5) "code" p6] (.Constant (.str code) j p7) p8] scope [] [] fI fd)
    (S : FnScope ["self"] ["self"] scope) (v0 : Vis scope "self") : FnOk P w K mg base (CXU K P w) 1 fI fd ["self"] (spX0 K code) := by
  refine F.ok S (fun vs H Q E ⟨a, C, e, _⟩ => by rw [e]; rfl) fun cdv A outer s H vs Q E hr ⟨a, C, e, T, n2, ha, q⟩ => ⟨_, pss_one (ps_ost (pe_var (i := 0) rfl v0) pe_str), ?_⟩
  subst e
  exact ⟨.ref a, rfl, a, C, rfl, T, n2, .inl ⟨ha, fun dx h1 h2 => q dx h1 h2⟩⟩
end
structure DefX1 (P : Program) (w : World) (K : PySem.W.Frag) (mg : Str → Option Value) (base : Heap) (C f code : Str) : Prop where
  ex : ∃ fI fd, FnOk P w K mg base (CXU K P w) 1 fI fd ["self", f] (spX1 K f code) ∧ Binds K fd ["self", f] [] ∧ Xcl K C [f] ∧ fAd K (C, some "__init__") = fI ∧ mg C = some (.ref (ga K C))
structure DefX0 (P : Program) (w : World) (K : PySem.W.Frag) (mg : Str → Option Value) (base : Heap) (C code : Str) : Prop where
  ex : ∃ fI fd, FnOk P w K mg base (CXU K P w) 1 fI fd ["self"] (spX0 K code) ∧ Binds K fd ["self"] [] ∧ Xcl K C [] ∧ fAd K (C, some "__init__") = fI ∧ mg C = some (.ref (ga K C))


section
variable {X : Cx} {W : WX} {e : Expr} {es : List Expr} {fs : AF} {C f code : Str} {p pos pos' : Pos}
theorem run_oexG {CX : CXT} {C fI : Addr} {sp : Sp} {pins : List (Addr × Obj)} {σ : St} {H : Hp} {Q : XK} {s : Shared} {us : List Value} {vs : List V} (T : OexC X.K C) (iC : PySem.W.findIn X.K (.ref C) "__init__" = some (some (.ref fI))) (tI : PySem.W.typeIn X.K (.ref fI) = some (.type "function"))
    (body : ∀ (s2 : Shared) (H2 : Hp) (a : Addr) (Q2 : VK), Inv X pins σ H2 s2 → Vals (.ref a :: vs) (.ref a :: us) → sp (.ref a :: vs) H2 Q2 (fun _ _ _ => False) →
      codeAny (model X.prog X.w) (X.A.under (.builtin "type.__call__" ⟨.ref C :: us, []⟩)) (.call (.ref fI) ⟨.ref a :: us, []⟩) (CR CX X.stack X.prog X.w H2 s2 Q2 (fun _ _ _ => False)) s2)
    (hx : Passes CX X (fun _ _ _ => False)) (I : Inv X pins σ H s) (r1 : Vals vs us) (hus : us.length ≤ sizeLine)
    (q1 : ∀ a, H a = none → sp (.ref a :: vs) (upd H a (exo a C none)) (fun v H2 => v = .non ∧ ∃ (d : Addr) (fs : List (Str × V)), H2 a = some (exo a C (some d)) ∧ H2 d = some (exd d fs) ∧ H d = none ∧ Q (.ref C) (some d) (upd (del H2 a) d (.xd fs))) (fun _ _ _ => False)) :
    wpAny (model X.prog X.w) X.A (call (.ref C) us) (fun u s' => L2N.MkP X pins σ Q u s' ∧ L2H.Six u s') X.xe s := by
  obtain ⟨nm, q, N, bs, bm, sn, sub, ab, col, dd, k0, k1, k2, k3, k5, hC, hbm⟩ := T.cls
  obtain ⟨hp, g, dr, tk, os⟩ := s
  obtain ⟨z, hz⟩ : ∃ z, z = hp.objs.size := ⟨_, rfl⟩
  have hsz : hp.objs.size ≤ z + 1 := by omega
  have hn : H (z + 1) = none := I.hok.fresh hsz
  obtain ⟨G, hG⟩ : ∃ G, G = (hp.push (PySem.W.kdv_tup us)).push (PySem.HandSPX.excO C z) := ⟨_, rfl⟩
  have kk : ∀ b o, hp.get? b = some o → G.get? b = some o := fun b o e => by rw [hG]; exact Heap.get?_push_of_some _ (Heap.get?_push_of_some _ e)
  have hget : G.get? (z + 1) = some (PySem.HandSPX.excO C z) := by rw [hG, hz]; heap_get
  have I2 : Inv X pins σ (upd H (z + 1) (exo (z + 1) C none)) ⟨G, g, dr, tk, os⟩ := I.laid (t' := tk) (a := z + 1) (o := exo (z + 1) C none) (h' := G) kk hsz (exo_ok hget)
  have run := body _ _ (z + 1) _ I2 (.cons rfl r1) (q1 (z + 1) hn)
  subst hG hz
  refine wpAny_call (PySem.HandSPX.call_own F.excBase_ValueError (fun Y => PySem.HandSPX.refsVE_contains Y bm hbm) (I.kIn _ _ hC) (PySem.W.looks_findIn I.kIn iC) (fun self => PySem.W.bind_fn I.kIn self tI) hus (codeAny_mono run fun r s' hq' => ?_))
  match r, hq' with
  | .error er, hq' => exact hx pins σ _ _ er s' I2 hq'
  | .ok .next, hq' => exact False.elim hq'
  | .ok .brk, hq' => exact False.elim hq'
  | .ok .cont, hq' => exact False.elim hq'
  | .ok (.ret u), hq' =>
    obtain ⟨v, H2, os2, bare2, un2, hok2, rv, ev, d, fs, ea, ed, hd1, q2⟩ := hq'
    subst ev
    obtain ⟨h2, g2, d2, t2, os'⟩ := s'
    obtain ⟨t0, G2, J, kG, ge, hoe, na⟩ := mk_end0 (d2 := d2) (t2 := t2) I hsz kk un2 hok2 os2 bare2 ea ed hd1
    refine ⟨rv, ⟨_, _, _, ⟨G2, g2, d2, t2, os'⟩, _, .ref C, some d, rfl, J, kG, ge, hoe, ⟨rfl, rfl, fun vs e => ?_⟩, rfl, rfl, na, rfl, bare2, raises_own T.exC T.tyC, q2⟩, fun a oe vs e1 e2 e3 => ?_⟩
    · cases e
      rfl
    · cases e1
      have e4 : h2.get? (hp.objs.size + 1) = some oe := e2
      rw [hoe] at e4
      cases e4
      cases e3
      exact (by decide : (4 : Nat) < 6)
theorem run_oex {CX : CXT} {C fI : Addr} {k : Nat} {fd : FuncData} {ps : List Str} {sp : Sp} {pins : List (Addr × Obj)} {σ : St} {H : Hp} {Q : XK} {s : Shared} {us : List Value} {vs : List V} (T : OexC X.K C) (iC : PySem.W.findIn X.K (.ref C) "__init__" = some (some (.ref fI))) (tI : PySem.W.typeIn X.K (.ref fI) = some (.type "function"))
    (F1 : FnOk X.prog X.w X.K X.mg X.base CX k fI fd ps sp) (hr : Room (k + 1) X.A) (hb : Binds X.K fd ps []) (hx : Passes CX X (fun _ _ _ => False)) (I : Inv X pins σ H s) (r1 : Vals vs us) (hus : us.length ≤ sizeLine)
    (q1 : ∀ a, H a = none → sp (.ref a :: vs) (upd H a (exo a C none)) (fun v H2 => v = .non ∧ ∃ (d : Addr) (fs : List (Str × V)), H2 a = some (exo a C (some d)) ∧ H2 d = some (exd d fs) ∧ H d = none ∧ Q (.ref C) (some d) (upd (del H2 a) d (.xd fs))) (fun _ _ _ => False)) :
    wpAny (model X.prog X.w) X.A (call (.ref C) us) (L2N.MkP X pins σ Q) X.xe s :=
  thn (run_oexG (fI := fI) T iC tI (fun s2 H2 a Q2 I2 r2 hq => by
    have hb' := hb s2 (.ref a :: us) I2.kIn (by rw [List.append_nil, ← r2.length]; exact F1.len _ _ _ _ hq)
    rw [List.append_nil] at hb'
    exact F1.run _ X.stack _ _ ⟨.ref a :: us, []⟩ (.ref a :: us) _ _ (fun _ _ _ => False) (hr.make C us []) (I2.env0.make C us []) hb' r2 hq) hx I r1 hus q1) fun _ _ x => x.1
def tMkO0 (C : Addr) (sp : Sp) : St → Hp → XK → Prop := fun σ H Q => ∀ a, H a = none → sp [.ref a] (upd H a (exo a C none))
  (fun v H2 => v = .non ∧ ∃ (d : Addr) (fs : List (Str × V)), H2 a = some (exo a C (some d)) ∧ H2 d = some (exd d fs) ∧ H d = none ∧ Q (.ref C) (some d) (upd (del H2 a) d (.xd fs))) (fun _ _ _ => False)
theorem pmk_oex0 {CX : CXT} {x : Str} {C fI : Addr} {k : Nat} {fd : FuncData} {ps : List Str} {sp : Sp} (T : OexC X.K C) (iC : PySem.W.findIn X.K (.ref C) "__init__" = some (some (.ref fI))) (tI : PySem.W.typeIn X.K (.ref fI) = some (.type "function"))
    (F1 : FnOk X.prog X.w X.K X.mg X.base CX k fI fd ps sp) (hr : Room (k + 1) X.A) (hb : Binds X.K fd ps []) (hx : Passes CX X (fun _ _ _ => False)) (hg : Gl X x) (hm : X.mg x = some (.ref C))
    (hdb : (x == ("__debug__" : Str)) = false := by decide) : L2N.PMk X (.Call (.Name x p) [] [] pos) (tMkO0 C sp) := fun pins s σ H Q I q1 =>
  wpAny_Call_Name_kw (ld_glob I hg hm (PySem.W.callWith_K0 I.kIn T.kC (run_oex (us := []) (vs := []) T iC tI F1 hr hb hx I .nil (Nat.zero_le _) q1)) hdb)
theorem pmk_oex1 {CX : CXT} {x : Str} {C fI : Addr} {k : Nat} {fd : FuncData} {ps : List Str} {sp : Sp} {ta : TA} (T : OexC X.K C) (iC : PySem.W.findIn X.K (.ref C) "__init__" = some (some (.ref fI))) (tI : PySem.W.typeIn X.K (.ref fI) = some (.type "function"))
    (F1 : FnOk X.prog X.w X.K X.mg X.base CX k fI fd ps sp) (hr : Room (k + 1) X.A) (hb : Binds X.K fd ps []) (hx : Passes CX X (fun _ _ _ => False)) (hg : Gl X x) (hm : X.mg x = some (.ref C)) (ha : PA X (e :: es) ta)
    (hdb : (x == ("__debug__" : Str)) = false := by decide) (he : starEach (e :: es) X.env = (false, eval e X.env) :: starEach es X.env := by rfl) (hpl : (backTo pos (starEach es X.env)).any (·.1) = false := by rfl) :
    L2N.PMk X (.Call (.Name x p) (e :: es) [] pos) (tMkO C sp [] ta) := fun pins s σ H Q I h =>
  wpAny_Call_Name_kw (ld_glob I hg hm (PySem.W.callWith_K (h₀ := X.base) I.ok.mod.kin T.kC (thn (ha.run pos pins s σ H _ I h) fun us s1 ⟨vs, H1, I1, r1, hz, q1⟩ => ⟨I1.kIn, run_oex T iC tI F1 hr hb hx I1 r1 (by have y := Paired.length r1; rw [List.nil_append, sizeLine_eq]; omega) fun a ha => by
    have z := q1 a ha
    rw [List.append_nil] at z
    exact z⟩) he hpl) hdb)
theorem passes_no (tk : Tk X W) : Passes (CXU X.K X.prog X.w) X (fun _ _ _ => False) := fun pins σ H s e s' I h => (cxU_no h).elim
theorem ss_raise1 (hc : X.calm = true) (D : DefX1 X.prog X.w X.K X.mg X.base C f code) (hr : Room 2 X.A) (tk : Tk X W) (ha : SA X W [e] fs) (hg : Gl X C := by rfl) (hdb : (C == ("__debug__" : Str)) = false := by decide)
    (he : starEach [e] X.env = (false, eval e X.env) :: starEach [] X.env := by rfl) (hpl : (backTo pos (starEach [] X.env)).any (·.1) = false := by rfl) : SS X W (.Raise (some (.Call (.Name C p) [e] [] pos)) none pos') (sRaise1 C f code fs) := by
  obtain ⟨fI, fd, F1, hb, xc, hf, hm⟩ := D
  refine ps_imp (L2N.ps_raise hc tk.1 (pmk_oex1 xc.oex (by rw [xc.ini, hf]) (by rw [← hf]; exact xc.ty) F1 hr hb (passes_no tk) hg hm ha hdb he hpl)) fun E σ H h => ?_
  refine ts_seq h fun vs H1 g ds r S l en rd p => ?_
  split at p
  · rename_i d
    split at p
    · rename_i hbd
      obtain ⟨y, rfl, ry⟩ := rel1 rd
      refine ⟨(show 1 ≤ 1000 by decide), fun a ha => ⟨a, ga X.K C, y, rfl, xc.oex, xc.no f (List.mem_singleton_self _), xc.noc, upd_same, fun dx h1 h2 => ⟨rfl, dx, [("code", .str code), (f, y)], ?_, upd_same, ?_, ?_⟩⟩⟩
      · rw [upd_ne (Ne.symm h2), upd_same]
      · rw [upd_ne h2] at h1; exact h1
      · have h1' : H1 dx = none := by rw [upd_ne h2] at h1; exact h1
        have kp : ∀ b o, upd H1 dx (.xd [("code", .str code), (f, y)]) b = some o → upd (del (upd (upd (upd (upd H1 a (exo a (ga X.K C) none)) dx (exd dx [(f, y)])) a (exo a (ga X.K C) (some dx))) dx (exd dx [("code", .str code), (f, y)])) a) dx (.xd [("code", .str code), (f, y)]) b = some o := fun b o hb => by
          by_cases nb2 : b = dx
          · rw [nb2, upd_same] at hb ⊢; exact hb
          · rw [upd_ne nb2] at hb
            have nb1 : b ≠ a := fun z => by rw [z, ha] at hb; cases hb
            rw [upd_ne nb2, del_ne nb1, upd_ne nb2, upd_ne nb1, upd_ne nb2, upd_ne nb1]
            exact hb
        have x1 := Gh.put_ext (d := xdD C ["code", f] [.str code, d]) (l.free h1')
        have l1 : Rl X.K (g.put dx (xdD C ["code", f] [.str code, d])) S (upd H1 dx (.xd [("code", .str code), (f, y)])) := l.put h1' ⟨dicB_of0 (by simp [bndL, bnd, hbd]), [.str code, y], upd_same, rfl, .cons rfl (.cons ry .nil)⟩
        exact p _ _ σ _ _ x1 (l1.keep kp) (en.mono x1) ⟨C, ["code", f], [.str code, d], dx, rfl, rfl, rfl, Gh.put_at⟩
    · exact p.elim
  · exact p.elim
theorem raise0_post {E : Ends} {σ : St} {H : Hp} (xc : Xcl X.K C []) (h : TSd X.K W (sRaise0 C code) E σ H) : tMkO0 (ga X.K C) (spX0 X.K code) σ H (fun cls d H' => W cls d σ H') := by
  obtain ⟨g, r, S, l, en, p⟩ := h
  intro a ha
  refine ⟨a, ga X.K C, rfl, xc.oex, xc.noc, upd_same, fun dx h1 h2 => ⟨rfl, dx, [("code", .str code)], upd_same, ?_, ?_, ?_⟩⟩
  · rw [upd_ne h2, upd_same]
  · rw [upd_ne h2] at h1; exact h1
  · have h1' : H dx = none := by rw [upd_ne h2] at h1; exact h1
    have kp : ∀ b o, upd H dx (.xd [("code", .str code)]) b = some o → upd (del (upd (upd (upd H a (exo a (ga X.K C) none)) dx (exd dx [("code", .str code)])) a (exo a (ga X.K C) (some dx))) a) dx (.xd [("code", .str code)]) b = some o := fun b o hb => by
      by_cases nb2 : b = dx
      · rw [nb2, upd_same] at hb ⊢; exact hb
      · rw [upd_ne nb2] at hb
        have nb1 : b ≠ a := fun z => by rw [z, ha] at hb; cases hb
        rw [upd_ne nb2, del_ne nb1, upd_ne nb1, upd_ne nb2, upd_ne nb1]
        exact hb
    have x1 := Gh.put_ext (d := xdD C ["code"] [.str code]) (l.free h1')
    have l1 : Rl X.K (g.put dx (xdD C ["code"] [.str code])) S (upd H dx (.xd [("code", .str code)])) := l.put h1' ⟨rfl, [.str code], upd_same, rfl, .cons rfl .nil⟩
    exact p _ _ σ _ _ x1 (l1.keep kp) (en.mono x1) ⟨C, ["code"], [.str code], dx, rfl, rfl, rfl, Gh.put_at⟩
theorem ss_raise0 (hc : X.calm = true) (D : DefX0 X.prog X.w X.K X.mg X.base C code) (hr : Room 2 X.A) (tk : Tk X W) (hg : Gl X C := by rfl) (hdb : (C == ("__debug__" : Str)) = false := by decide) : SS X W (.Raise (some (.Call (.Name C p) [] [] pos)) none pos') (sRaise0 C code) := by
  obtain ⟨fI, fd, F1, hb, xc, hf, hm⟩ := D
  exact ps_imp (L2N.ps_raise hc tk.1 (pmk_oex0 xc.oex (by rw [xc.ini, hf]) (by rw [← hf]; exact xc.ty) F1 hr hb (passes_no tk) hg hm hdb)) fun E σ H h => raise0_post xc h
end
open PySem PySem.Spec PyProof.Rows He
theorem flying_keeps {base h h' : Heap} {l : List PySem.Env} {a : Addr} {Z : Obj → Prop} (x : HandSPX.FlyingZ base l a Z h) (k : ∀ b o, h.get? b = some o → h'.get? b = some o) : HandSPX.FlyingZ base l a Z h' := by
  obtain ⟨h1, h2, h3, oe, vs, T, oT, ts, q1, q2, q3, q4, q5, q6, q7, q8, q9⟩ := x
  exact ⟨fun b o e => k b o (h1 b o e), h2, h3.of_keeps fun b o e _ => ⟨o, k b o e, rfl⟩, oe, vs, T, oT, ts, k _ _ q1, q2, q3, q4, q5, q6, k _ _ q7, q8, q9⟩
section
variable {X : Cx} {pins : List (Addr × Obj)} {σ : St} {H : Hp} {sI s' : Shared} {B : Heap} {a : Addr} {oe : Obj}
theorem landedT (I : Inv X pins σ H sI) (nb : ∀ b o, sI.heap.get? b = some o → b ∉ frs X.stack → B.get? b = some o) (st : B.StaysIn s'.heap) (up : sI.heap.UpToSlots s'.heap) (os : s'.os = sI.os) (ag : AllBare s'.gens)
    (na : H a = none) (n0 : sI.heap.get? a = none) (he : s'.heap.get? a = some oe) : Inv X pins σ (upd H a (stillO oe a)) s' := by
  have nf : ∀ b ∈ frs X.stack, ∀ o, sI.heap.get? b = some o → ∃ sl, s'.heap.get? b = some { o with slots := sl } := fun b hb o e => by
    obtain ⟨_, o', e', hd⟩ := I.stack.mem hb
    rw [e] at e'; cases e'
    exact up b o e hd
  have nab : ∀ {b : Addr} {o : Obj}, sI.heap.get? b = some o → b ≠ a := fun {b o} e z => by rw [z, n0] at e; cases e
  have nah : ∀ {b : Addr} {o : HO}, H b = some o → b ≠ a := fun {b o} e z => by rw [z, na] at e; cases e
  have hok : HOk X.prog X.w (upd H a (stillO oe a)) s'.heap := fun b o q => by
    by_cases hb : b = a
    · subst hb
      rw [upd_same] at q
      cases q
      exact ⟨he, ⟨_, he⟩, ⟨_, he⟩, fun h1 h2 ⟨o, z⟩ k => ⟨o, k o z⟩⟩
    · rw [upd_ne hb] at q
      exact ((I.inGround nb).kept st b o q).stay (fun c v _ q => q) (fun c q => by rw [upd_ne (nah q)]; exact q) fun c xs q => by rw [upd_ne (nah q)]; exact q
  have J := I.call (ch := []) (h' := s'.heap) (g' := s'.gens) (t' := s'.toks) (d' := s'.drawn) (H' := upd H a (stillO oe a))
    ⟨fun b o e _ hb _ => st b o (nb b o e hb), fun b o e _ hb _ => nf b hb o e, fun b o e n _ => by rw [upd_ne (nab e)]; exact n, fun b o e _ => by
      by_cases hb : b ∈ frs X.stack
      · obtain ⟨sl, q⟩ := nf b hb o e
        exact ⟨_, q⟩
      · exact ⟨o, st b o (nb b o e hb)⟩, fun b _ e => by rw [upd_ne (nah e)]; exact e, fun b _ _ e => by rw [upd_ne (nah e)]; exact e, fun b ps e => ⟨#[], by rw [upd_ne (nah e), e]; simp⟩⟩
    hok ag (fun _ z => nomatch z)
  obtain ⟨a1, a2, a3, a4, a5⟩ := s'
  have e5 : a5 = sI.os := os
  subst e5
  exact J
theorem _root_.L2.Inv.toSuite {s : Shared} (I : Inv X pins σ H s) (a : Addr) : Inv (X.suite a (X.pn ++ pins)) [] σ H s :=
  ⟨I.ok.suite _ _, I.os, I.bare, I.base, I.loc, I.cell, I.free, I.freeC, fun p hp => I.pin p (by have hp' : p ∈ (X.pn ++ pins) ++ [] := hp; rw [List.append_nil] at hp'; exact hp'), I.hok, I.len⟩
theorem _root_.L2.Inv.offSuite {s : Shared} {a : Addr} {pn' : List (Addr × Obj)} (I : Inv (X.suite a (X.pn ++ pins)) pn' σ H s) (ok : X.Ok) : Inv X pins σ H s :=
  ⟨ok, I.os, I.bare, I.base, I.loc, I.cell, I.free, I.freeC, fun p hp => I.pin p (List.mem_append_left _ hp), I.hok, I.len⟩
end
def wAsT (K : PySem.W.Frag) (cs : List Value) (i : Nat) (ts : TS) (Wout : WX) (D : Ends) : WX := fun cls d σ H =>
  ∃ b, PySem.W.exmAny K cls cs = some b ∧ (b = true → ∀ (a : Addr) (oe : Obj), H a = none → Zc cls d oe → (∃ vs, oe.data = .fields vs) → ts { nx := fun σ' H' => D.nx (σ'.set i none) H', rt := D.rt, bk := fun σ' H' => D.bk (σ'.set i none) H', ct := fun σ' H' => D.ct (σ'.set i none) H' } (σ.set i (some (.ref a))) (upd H a (stillO oe a))) ∧
    (b = false → Wout cls d σ H)
section
variable {X : Cx} {x1 x2 x3 n : Str} {c1 c2 c3 : Value} {i kk : Nat} {body suite : List Stmt} {b₀ : Stmt} {np1 np2 np3 tpos pos pos' : Pos} {tb : WX → TS} {ts : TS} {Wout : WX}
theorem ps_try3 (hs : X.stack = X.env :: X.outer) (hf : X.env.frame = some X.env.locals) (hN : X.N.Nodup) (hi : X.N[i]? = some n) (hln : X.env.kindOf n = some .local) (hc1 : Names X x1 c1) (hc2 : Names X x2 c2) (hc3 : Names X x3 c3) (tk : L2.Takes X Wout)
    (hb : ∀ (W : WX) (pn : List (Addr × Obj)) (xe : Value → Shared → Prop), L2.Takes (X.tr pn xe) W → PassesOwn (model X.prog X.w) X.A X.env xe → PSs (X.tr pn xe) body (tb W))
    (hsu : ∀ (a : Addr) (pn : List (Addr × Obj)), PSs (X.suite a pn) (b₀ :: suite) ts) :
    PS X (.Try body [.ExceptHandler (some (.Tuple [.Name x1 np1, .Name x2 np2, .Name x3 np3] kk tpos)) (some n) (b₀ :: suite) pos'] [] [] pos) (fun D σ H => tb (wAsT X.K [c1, c2, c3] i ts Wout D) D σ H) := by
  refine ⟨fun pins s σ H D I h => ?_⟩
  have ok := I.ok
  have hfr : X.A.frames = some (X.env :: X.outer) := by rw [ok.frames, hs]
  have hloc : Loc X.env.scope n := .inl hln
  refine wpAny_Try_except ?_
  refine wpAny_mono ((hb (wAsT X.K [c1, c2, c3] i ts Wout D) (X.pn ++ pins) (fun e s₁ => wpAny (model X.prog X.w) X.A (noteFrame e X.env) (fun _ s₂ => wpAny (model X.prog X.w) X.A (setFlight e none) (fun _ s₃ =>
    wpAny (model X.prog X.w) X.A (handleBy e X.env [.ExceptHandler (some (.Tuple [.Name x1 np1, .Name x2 np2, .Name x3 np3] kk tpos)) (some n) (b₀ :: suite) pos']) (SP X pins D) X.xe s₃) X.xe s₂) X.xe s₁) (fun u s' xx => ?_) PassesOwn.looking).run [] s σ H D (I.toTry _) h) (fun f s1 hsp => ?_) (fun e s1 he => he)
  · -- the catch
    obtain ⟨a, B, sI, pins', σ', H', cls, d, rfl, J', nb, up, sky, na, os, ag, b, hb1, hyes, hno⟩ := xx
    have J : Inv X pins σ' H' sI := J'.ofTry ok
    have sky' : Sky B (X.env :: X.outer) a (Zc cls d) X.env.locals s'.heap := by rw [← hs]; exact sky
    show wpAny (model X.prog X.w) X.A (noteFrame (.ref a) X.env) _ _ _
    refine Sky.land Zc.steady hfr hf sky' fun h3 fl3 up3 => ?_
    have J3 : Inv X pins σ' H' { s' with heap := h3 } := J.landed nb fl3.1 (up.trans up3) os ag
    obtain ⟨oe3, vs3, he3, hz3, hd3⟩ := fl3.there
    have notFr : ∀ {h : Heap} {o : Obj} {vs : Array Value}, h.FunFrames B (X.env :: X.outer) → h.get? a = some o → o.data = .fields vs → a ∉ frs (X.env :: X.outer) := fun {h o vs} ff e dd hm => by
      obtain ⟨_, o', e', hnf⟩ := ff.mem hm
      rw [e] at e'; cases e'
      exact hnf _ dd
    have nfr := notFr fl3.2.2.1 he3 hd3
    have n0 : sI.heap.get? a = none := by
      cases q : sI.heap.get? a with
      | none => rfl
      | some o =>
        have := nb a o q (by rw [hs]; exact nfr)
        rw [fl3.2.1] at this; cases this
    have S3 : Inv (X.suite a (X.pn ++ pins)) [] σ' H' { s' with heap := h3 } := J3.toSuite a
    refine wpAny_handleBy_cons (codeAny_handlers_test ?_) (by intro q; cases q)
    have name : ∀ {x : Str} {c : Value} {np : Pos} {Q : Value → Shared → Prop} {E : Value → Shared → Prop}, Names X x c → Q c { s' with heap := h3 } → wpAny (model X.prog X.w) (X.A.mark (some (.ref a))) (eval (.Name x np) X.env) Q E { s' with heap := h3 } := fun {x c np Q E} hc q => by
      obtain ⟨hg, hdbg, hm | ⟨hm, hv, hnn⟩⟩ := hc
      · exact ld_glob (X := X.suite a (X.pn ++ pins)) S3 hg hm q hdbg
      · exact ld_blt (X := X.suite a (X.pn ++ pins)) S3 hg hm hv q hnn hdbg
    refine wpAny_Tuple ?_
    refine wpAny_items_cons (name hc1 ?_)
    refine wpAny_items_cons (name hc2 ?_)
    refine wpAny_items_cons (name hc3 ?_)
    refine wpAny_items_nil ⟨by size_fits, ?_⟩
    have kp : ∀ q o, h3.get? q = some o → (h3.push { cls := .type "tuple", data := .seq [c1, c2, c3].toArray }).get? q = some o := fun _ _ z => Heap.get?_push_of_some _ z
    have fl3' := flying_keeps fl3 kp
    have up3' : s'.heap.UpToSlots (h3.push { cls := .type "tuple", data := .seq [c1, c2, c3].toArray }) := up3.trans (Heap.UpToSlots.of_keeps kp)
    have hpt := Heap.get?_push_size h3 (o := { cls := .type "tuple", data := .seq [c1, c2, c3].toArray }) rfl
    generalize h3.push { cls := .type "tuple", data := .seq [c1, c2, c3].toArray } = h5 at fl3' up3' kp hpt ⊢
    have J5 : Inv X pins σ' H' { s' with heap := h5 } := J.landed nb fl3'.1 (up.trans up3') os ag
    have LT : PySem.W.Looks (model X.prog X.w) h5 (typeOf (.ref a)) cls := fun A Q E s k q => wpAny_typeOf_ref (k _ _ (kp _ _ he3)) (by rw [hz3.1]; exact q)
    have LM := PySem.W.exm_tup3 (M := model X.prog X.w) (J5.kIn) LT hpt hb1
    refine LM.here ?_
    cases b with
    | true =>
      refine codeAny_handlers_suite_as ?_
      refine HandSPX.lands_againZ fl3' fun h4 fl4 up4 => ?_
      obtain ⟨oe4, vs4, he4, hz4, hd4⟩ := fl4.there
      have J4 : Inv X pins σ' (upd H' a (stillO oe4 a)) { s' with heap := h4 } := landedT J nb fl4.1 ((up.trans up3').trans up4) os ag na n0 he4
      have S4 := J4.toSuite a
      refine store_ok (X := X.suite a (X.pn ++ pins)) (v := .ref a) S4 hN hi hloc rfl (fun s5 S5 => ?_) (.inr hln)
      refine wpAny_mono ((hsu a (X.pn ++ pins)).run [] s5 _ _ _ S5 (hyes rfl a oe4 na hz4 ⟨_, hd4⟩)) (fun f s6 hsp => ?_) (fun _ _ z => False.elim z)
      have end_ : ∀ {σ6 : St} {H6 : Hp} {Q : Shared → Prop}, Inv (X.suite a (X.pn ++ pins)) [] σ6 H6 s6 → (∀ s7, Inv X pins (σ6.set i none) H6 s7 → Q s7) →
          wpAny (model X.prog X.w) X.A (do bindName X.env n .none; unbindBehindTheSuite X.env n pos') (fun _ s7 => Q s7) X.xe s6 := fun {σ6 H6 Q} S6 hq => gone_ok (S6.offSuite ok) hN hi hln hq
      cases f with
      | next =>
        obtain ⟨σ6, H6, S6, q6⟩ := hsp
        exact end_ S6 fun s7 J7 => ⟨_, _, J7, q6⟩
      | brk =>
        obtain ⟨σ6, H6, S6, q6⟩ := hsp
        exact end_ S6 fun s7 J7 => ⟨_, _, J7, q6⟩
      | cont =>
        obtain ⟨σ6, H6, S6, q6⟩ := hsp
        exact end_ S6 fun s7 J7 => ⟨_, _, J7, q6⟩
      | ret u =>
        obtain ⟨v6, σ6, H6, S6, r6, q6⟩ := hsp
        exact end_ S6 fun s7 J7 => ⟨_, _, _, J7, r6, q6⟩
    | false =>
      show wpAny _ X.A (handleBy (.ref a) X.env []) _ _ _
      refine wpAny_handleBy_nil ?_
      obtain ⟨k1, k2, k3, oe, vs, T, oT, ts', he, hz, hd, h1, hr⟩ := id fl3'
      unfold PySem.passOn
      refine wpAny_bind (wpAny_field he hd h1 ?_)
      rw [if_neg (show ¬ ((Value.ref T == Value.none) = true) from by simp)]
      have fin : wpAny (model X.prog X.w) X.A (setFlight (.ref a) X.env.frame) (fun _ s4 => wpAny (model X.prog X.w) X.A (throw (.ref a) : Sem Flow) (SP X pins D) X.xe s4) X.xe { s' with heap := h5 } := by
        rw [hf]
        refine HandSPX.setFlight_upZ fl3' fun h4 hh4 up4 => wpAny_throw (tk _ _ ?_)
        exact ⟨a, B, sI, pins, σ', H', cls, d, rfl, J, nb, (up.trans up3').trans up4, .inr (.inr (by rw [hs]; exact hh4)), na, os, ag, hno rfl⟩
      first
        | exact wpAny_bind (wpAny_pure (wpAny_bind fin))
        | exact wpAny_bind fin
  · cases f with
    | next =>
      obtain ⟨σ', H', J', q⟩ := hsp
      exact wpAny_execs_nil ⟨σ', H', J'.ofTry ok, q⟩
    | brk =>
      obtain ⟨σ', H', J', q⟩ := hsp
      exact ⟨σ', H', J'.ofTry ok, q⟩
    | cont =>
      obtain ⟨σ', H', J', q⟩ := hsp
      exact ⟨σ', H', J'.ofTry ok, q⟩
    | ret u =>
      obtain ⟨v, σ', H', J', r, q⟩ := hsp
      exact ⟨v, σ', H', J'.ofTry ok, r, q⟩
end


theorem REnv.unset {K : PySem.W.Frag} {g : Gh} {r : Env} {σ : St} (h : REnv K g r σ) (i : Nat) : REnv K g (r.set i none) (σ.set i none) := by
  refine ⟨by simpa using h.1, fun j d e => ?_⟩
  by_cases hj : i = j
  · subst hj
    by_cases hl : i < r.length
    · rw [List.getElem?_set_self hl] at e; cases e
    · rw [List.getElem?_eq_none (by simpa using hl)] at e; cases e
  · rw [List.getElem?_set_ne hj] at e
    obtain ⟨v, a, b⟩ := h.2 j d e
    exact ⟨v, by rw [List.getElem?_set_ne hj]; exact a, b⟩
section
variable {X : Cx} {W : WX} {x1 x2 x3 n : Str} {i kk : Nat} {body suite : List Stmt} {b₀ : Stmt} {np1 np2 np3 tpos pos pos' : Pos} {fb fs : SF} {cs : List Str}
theorem ss_try3 (hN : X.N.Nodup) (tk : Tk X W) (ht : takB X.K [x1, x2, x3] cs = true) (m1 : X.mg x1 = some (.ref (ga X.K x1))) (m2 : X.mg x2 = some (.ref (ga X.K x2))) (m3 : X.mg x3 = some (.ref (ga X.K x3)))
    (hb : ∀ (W' : WX) (pn : List (Addr × Obj)) (xe : Value → Shared → Prop), Tk (X.tr pn xe) W' → PassesOwn (model X.prog X.w) X.A X.env xe → SSs (X.tr pn xe) W' body fb)
    (hsu : ∀ (a : Addr) (pn : List (Addr × Obj)), SSs (X.suite a pn) W0 (b₀ :: suite) fs)
    (hs : X.stack = X.env :: X.outer := by rfl) (hf : X.env.frame = some X.env.locals := by rfl) (hi : X.N[i]? = some n := by rfl) (hln : X.env.kindOf n = some .local := by rfl)
    (hg1 : Gl X x1 := by rfl) (hg2 : Gl X x2 := by rfl) (hg3 : Gl X x3 := by rfl) (d1 : (x1 == ("__debug__" : Str)) = false := by decide) (d2 : (x2 == ("__debug__" : Str)) = false := by decide) (d3 : (x3 == ("__debug__" : Str)) = false := by decide) :
    SS X W (.Try body [.ExceptHandler (some (.Tuple [.Name x1 np1, .Name x2 np2, .Name x3 np3] kk tpos)) (some n) (b₀ :: suite) pos'] [] [] pos) (sTry cs i fb fs) := by
  refine ps_imp (ps_try3 (i := i) (ts := TSd X.K W0 fs) (tb := fun W' => TSd X.K W' fb) (Wout := fun _ _ _ _ => False) hs hf hN hi hln ⟨hg1, d1, .inl m1⟩ ⟨hg2, d2, .inl m2⟩ ⟨hg3, d3, .inl m3⟩ (fun u s' ⟨_, _, _, _, _, _, _, _, _, _, _, _, _, _, _, _, z⟩ => z.elim) (fun W' pn xe t => hb W' pn xe (tk_l2 t)) hsu) fun D σ H h => ?_
  obtain ⟨g, r, S, l, e, p⟩ := h
  refine ⟨g, r, S, l, e, ?_⟩
  unfold sTry at p
  cases q : fb r S with
  | ok a r1 S1 =>
    rw [q] at p
    cases a <;> exact p
  | no => rw [q] at p; exact p.elim
  | er x r1 S1 =>
    rw [q] at p
    cases x with
    | ins C ns ds =>
      simp only at p
      split at p
      · rename_i hc
        obtain ⟨hc, hb0⟩ := ba hc
        intro g' H' σ' cls od xx l' e' rx
        obtain ⟨C', ns', ds', dx, z1, rfl, rfl, z4⟩ := rx
        cases z1
        have hm : PySem.W.exmAny X.K (.ref (ga X.K C)) [.ref (ga X.K x1), .ref (ga X.K x2), .ref (ga X.K x3)] = some true := eq_of_beq (List.all_eq_true.mp ht C (List.contains_iff_mem.mp hc))
        refine ⟨true, hm, fun _ a oe na hz hd => ?_, fun z => by cases z⟩
        have x1 := Gh.put_ext (d := exD C ns ds) (l'.free na)
        have l2 : Rl X.K (g'.put a (exD C ns ds)) S1 (upd H' a (stillO oe a)) := l'.put na ⟨dicB_of0 (by simp [bndL, bnd, hb0]), oe, dx, upd_same, hz.1, hz.2, hd, z4⟩
        have hr : RelD X.K (g'.put a (exD C ns ds)) (exD C ns ds) (.ref a) := ⟨by simp [bndL, bnd, bndL_mono (Nat.zero_le _) _ hb0], a, rfl, Gh.put_at⟩
        refine ⟨_, _, S1, l2, (e'.mono x1).set i hr, ?_⟩
        cases q2 : fs (r1.set i (some (exD C ns ds))) S1 with
        | ok a2 r2 S2 =>
          rw [q2] at p
          cases a2 with
          | nx => exact fun g3 H3 σ3 y l3 e3 => p g3 H3 _ (xx.trans (x1.trans y)) l3 (e3.unset i)
          | rt v => exact fun g3 H3 v3 y l3 r3 => p g3 H3 _ (xx.trans (x1.trans y)) l3 r3
          | bk => exact fun g3 H3 σ3 y l3 e3 => p g3 H3 _ (xx.trans (x1.trans y)) l3 (e3.unset i)
          | ct => exact fun g3 H3 σ3 y l3 e3 => p g3 H3 _ (xx.trans (x1.trans y)) l3 (e3.unset i)
        | er x2 r2 S2 => rw [q2] at p; exact p.elim
        | no => rw [q2] at p; exact p.elim
      · exact p.elim
    | _ => exact p.elim
end
open PySem PySem.Spec PyProof.Rows He


theorem zip_lookupR {K : PySem.W.Frag} {g : Gh} {f : Str} {d : D} : ∀ {ns : List Str} {ds : List D} {vs : List V}, RelDs K g ds vs → (ns.zip ds).lookup f = some d → ∃ v, (ns.zip vs).lookup f = some v ∧ RelD K g d v
  | [], _, _, _, e => by simp at e
  | _ :: _, _, _, .nil, e => by simp at e
  | n :: ns, _, _, .cons r t, e => by
    simp only [List.zip_cons_cons, List.lookup_cons] at e ⊢
    split
    · rename_i h; rw [h] at e; cases e; exact ⟨_, rfl, r⟩
    · rename_i h; rw [h] at e; exact zip_lookupR t e
section
variable {X : Cx} {W : WX} {e : Expr} {fo : EF} {cs : List Str} {f : Str} {pos : Pos}
theorem se_xf (hF : xfLB X.K cs f = true) (he : SE X W e fo) (hb : attributeBase e f X.env (eval e X.env) = eval e X.env := by rfl) : SE X W (.Attribute e f pos) (eXf cs f fo) := by
  refine ⟨fun pins s σ H Q I h => ?_⟩
  refine attr_of hb (thn (he.run pins s σ H _ I (TD.split (rel := RelD X.K) h)) fun u s1 hh => ?_)
  obtain ⟨x, H1, I1, rx, g, d, r, S, l, en, rd, p⟩ := hh
  split at p
  · rename_i C ns ds
    split at p
    · rename_i hc
      split at p
      · rename_i d' hl
        obtain ⟨k1, k2⟩ := ba (List.all_eq_true.mp hF C (List.contains_iff_mem.mp hc))
        have T := xfB_ok k1
        have hno := eqO_ok k2
        obtain ⟨_, a, rfl, ea⟩ := rd
        obtain rfl : u = Value.ref a := rx
        obtain ⟨_, oe, dx, h1, h2, h3, ⟨fv, h4⟩, h5⟩ := l.imm a _ ea
        obtain ⟨_, vs, h6, h7, h8⟩ := l.imm dx _ h5
        obtain ⟨v, lv, rv⟩ := zip_lookupR h8 hl
        obtain ⟨ha, _⟩ := I1.hok a _ h1
        have hx : ObjOk X.prog X.w H1 s1.heap dx (.xd (ns.zip vs)) := I1.hok dx _ h6
        obtain ⟨mA, hns, hr⟩ := hx
        obtain ⟨od, ho, hlk⟩ := lookIn_ns hns
        obtain ⟨u, hu, ru⟩ := RelO.some_of (v := v) (o := mA f) (by rw [← lv]; exact hr f)
        have J : PySem.W.InstAt s1.heap a oe (ga X.K C) (some od) := ⟨ha, h2, by unfold PySem.W.notCls; rw [h4] <;> rfl, by rw [h3]; exact ho⟩
        exact HandSPX.exc_get I1.kIn J T.ga T.gg T.exC (PySem.W.findObj_own T.hdC hno rfl (by rw [hlk, hu])) (handed_of ru) ⟨v, H1, I1.tok _, ru, post_ok p l en rv⟩
      · exact p.elim
    · exact p.elim
  · exact p.elim
end
structure FnC (P : Program) (w : World) (K : PySem.W.Frag) (mg : Str → Option Value) (base : Heap) (k : Nat) (f : Addr) (fd : FuncData) (ps : List Str) (sp : Sp) : Prop where
  len : ∀ vs H Q E, sp vs H Q E → vs.length = ps.length
  run : ∀ (A : Around) (outer : List PySem.Env) (s : Shared) (H : Hp) (args : Args) (us : List Value) (vs : List V) (Q : VK), L2H.RoomH k A → Env0 P w K mg base A outer s H → BindsTo s fd args (ps.zip us) → Vals vs us → sp vs H Q (fun _ _ _ => False) →
    codeAny (model P w) A (.call (.ref f) args) (CR (CXU K P w) outer P w H s Q (fun _ _ _ => False)) s
abbrev bodyCxH (P : Program) (w : World) (K : PySem.W.Frag) (mg : Str → Option Value) (base : Heap) (N : List Str) (qual : Str) (scope : Scope) (f : Addr) (cdv : Value) (A : Around) (outer : List PySem.Env) (s : Shared) (H : Hp) : Cx :=
  { cxOf (CXU K P w) P w K mg base N qual scope f cdv A outer s H (fun _ _ _ => False) with calm := false }
section
variable {P : Program} {w : World} {K : PySem.W.Frag} {mg : Str → Option Value} {base : Heap}
theorem inv_startC {N ps : List Str} {qual : Str} {scope : Scope} {f : Addr} {cd : Value} {A : Around} {outer : List PySem.Env} {s s1 : Shared} {H : Hp} {us : List Value} {vs : List V}
    (S : FnScope N ps scope) (e0 : Env0 P w K mg base A outer s H) (hl : vs.length = ps.length) (r : Vals vs us)
    (x : InCallC s s.heap.objs.size (bindL (envOfC qual scope s.heap.objs.size f cd).kindOf (ps.zip us) fun _ => none) (cellsFrom (s.heap.objs.size + 1) scope.names []) (bindC (envOfC qual scope s.heap.objs.size f cd).kindOf (ps.zip us) fun _ => none) s1) :
    Inv (bodyCxH P w K mg base N qual scope f cd A outer s H) [] (L2.start N vs) H s1 := by
  have hpl : ps.length ≤ N.length := by have := congrArg List.length S.pre; rw [List.length_take] at this; omega
  obtain ⟨h1, tk, rfl, hk⟩ := x.done
  have noA : ∀ b : Addr, b ∉ (bodyCxH P w K mg base N qual scope f cd A outer s H).ex := fun b z => absurd (show b ∈ ([] : List Addr) from z) (by simp)
  refine ⟨⟨e0.mod, S.kind, rfl, rfl, Nat.le_refl _, fun y z c h1 h2 => ?_, fun y hy => ?_, fun y c _ h => ?_, (fun z => Bool.noConfusion (show false = true from z)), Around.frames_deeper e0.frames, .inr ⟨rfl, rfl⟩, fun b z => absurd z (noA b), e0.bs, e0.bsz, fun b _ _ => noA b, fun b z => absurd z (noA b), e0.funs, e0.frf⟩,
    rfl, e0.bare, Un.kept hk, ⟨_, x.toInCall.ns, fun i y v h1 h2 h3 => ?_⟩, fun y c h => ⟨_, x.cell y c h⟩, e0.hok.fresh (Nat.le_refl _), fun y c h => ?_, fun q hq => ?_, e0.hok.kept hk, ?_⟩
  · exact name_of_addr x.apart (PySem.mem_of_lookup h1) (PySem.mem_of_lookup h2)
  · have hy : scope.names.lookup y = some .cell ∨ scope.names.lookup y = some .free := hy
    rcases hy with hy | hy
    · exact cell_has hy
    · exact absurd rfl (S.nofree _ (PySem.mem_of_lookup hy))
  · exact Nat.le_of_lt (x.above y c (PySem.mem_of_lookup h))
  · have hi : i < vs.length := by
      unfold L2.start at h2
      by_cases hi : i < vs.length
      · exact hi
      · rw [List.getElem?_append_right (by simpa using hi)] at h2
        rw [List.getElem?_replicate] at h2
        split at h2 <;> cases h2
    have ha : vs[i]? = some v := by
      unfold L2.start at h2
      rw [List.getElem?_append_left (by simpa using hi), List.getElem?_map] at h2
      cases e : vs[i]? with
      | none => rw [e] at h2; cases h2
      | some a => rw [e] at h2; cases h2; rfl
    obtain ⟨u, hu, rv⟩ := r.get ha
    have hp : ps[i]? = some y := by
      rw [← S.pre, List.getElem?_take_of_lt (by omega)]; exact h1
    have ndP : ps.Nodup := by rw [← S.pre]; exact S.nd.sublist (List.take_sublist _ _)
    refine ⟨u, rv, ?_⟩
    rcases S.par y (List.mem_of_getElem? hp) with k | k
    · exact .inl ⟨k, bindL_get ndP hp hu k⟩
    · obtain ⟨c, e⟩ := cell_has (n := s.heap.objs.size + 1) k
      refine .inr ⟨.inl k, c, e, ?_⟩
      have q := x.cell y c e
      rw [bindC_get ndP hp hu (by show scope.names.lookup y ≠ _; rw [k]; decide)] at q
      exact q
  · exact e0.hok.fresh (Nat.le_of_lt (x.above y c (PySem.mem_of_lookup h)))
  · exact absurd (show q ∈ ([] : List (Addr × Obj)) ++ [] from hq) (by simp)
  · unfold L2.start
    show _ = N.length
    rw [List.length_append, List.length_map, List.length_replicate]
    omega
theorem fn_ofC {k : Nat} {f : Addr} {name qual : Str} {params : Arguments} {body : List Stmt} {scope : Scope} {dV kV doc pm cdv ct oc : Value} {an od : Option Addr}
    {osl : Array (Option Value)} {N ps : List Str} {sp : Sp} (lk : K.lookup f = some ⟨oc, od, .func (PySem.W.fnOf name qual params body scope dV kV doc pm an cdv ct), osl⟩) (hcd : PySem.W.codeIn K cdv qual = true) (S : FnScope N ps scope)
    (len : ∀ vs H Q E, sp vs H Q E → vs.length = ps.length)
    (hbody : ∀ (A : Around) (outer : List PySem.Env) (s : Shared) (H : Hp) (vs : List V) (Q : VK), L2H.RoomH k (A.deeper (envOfC qual scope s.heap.objs.size f cdv)) → sp vs H Q (fun _ _ _ => False) →
      ∃ t, PSs (bodyCxH P w K mg base N qual scope f cdv A outer s H) body t ∧ t { nx := fun _ H' => Q .non H', rt := Q } (L2.start N vs) H) :
    FnC P w K mg base (k + 1) f (PySem.W.fnOf name qual params body scope dV kV doc pm an cdv ct) ps sp := by
  refine ⟨len, fun A outer s H args us vs Q hr e0 hb r hsp => ?_⟩
  have hl := len _ _ _ _ hsp
  have KX : K.In s.heap := e0.mod.kin.keeps fun b o e => (e0.bs b o e).1
  have lim : s.heap.NoLimit := e0.mod.nolimit.keeps fun b o e => (e0.bs b o e).1
  have hkind : ∀ y ∈ ps.zip us, scope.names.lookup y.1 = some .local ∨ (scope.names.lookup y.1 = some .cell ∧ ((cellsFrom (s.heap.objs.size + 1) scope.names []).lookup y.1).isSome = true) := fun ⟨n, v⟩ hy => by
    rcases S.par n (List.of_mem_zip hy).1 with q | q
    · exact .inl q
    · exact .inr ⟨q, PySem.W.cellsFrom_some _ _ _ (.inl q)⟩
  refine codeAny_call_function hr.depth (KX _ _ lk) rfl S.co S.gen rfl (PySem.W.codeRec_of KX hcd) (hb _ _ _ _ ?_)
  refine wpAny_newFunctionEnv_cells S.kind hkind fun env he s1 x => ?_
  subst he
  refine ⟨lim.keeps x.toInCall.keep, codeAny_func ?_⟩
  obtain ⟨t, ht, hq⟩ := hbody A outer s H vs Q (hr.deeper _) hsp
  have I : Inv (bodyCxH P w K mg base N qual scope f cdv A outer s H) [] (L2.start N vs) H s1 := inv_startC S e0 hl r x
  refine wpAny_mono (ht.run [] s1 (L2.start N vs) H _ I hq) (fun fl s' hs => ?_) fun e s' hs => hs
  have fin : ∀ {σ' : St} {H' : Hp} {v : V} {u : Value}, Inv (bodyCxH P w K mg base N qual scope f cdv A outer s H) [] σ' H' s' → RelV v u → Q v H' → CE outer P w H s Q u s' :=
    fun {σ' H' v u} J rv q => ⟨v, H', J.os, J.bare, J.base, J.hok, rv, q⟩
  cases fl with
  | ret u =>
    obtain ⟨v, σ', H', J, rv, q⟩ := hs
    exact fin J rv q
  | next =>
    obtain ⟨σ', H', J, q⟩ := hs
    exact fin (v := V.non) (u := Value.none) J rfl q
  | brk =>
    obtain ⟨_, _, _, q⟩ := hs
    exact False.elim q
  | cont =>
    obtain ⟨_, _, _, q⟩ := hs
    exact False.elim q
theorem pu_ofC {x qual : Str} {params : Arguments} {body : List Stmt} {scope : Scope} {dvs : List V} {kws : List (Str × V)} {f : Addr} {fd : FuncData} {N ps : List Str} {k : Nat} (F : FunD K x qual params body scope dvs kws f fd) (S : FnScope N ps scope) (fb : SF)
    (hbody : ∀ (cdv : Value) (A : Around) (outer : List PySem.Env) (s : Shared) (H : Hp), L2H.RoomH k (A.deeper (envOfC qual scope s.heap.objs.size f cdv)) → SSs (bodyCxH P w K mg base N qual scope f cdv A outer s H) W0 body fb) :
    FnC P w K mg base (k + 1) f fd ps (spU K ps.length (rawM N.length fb)) := by
  obtain ⟨oc, od, dV, kV, doc, pm, an, cdv, ct, osl, rfl, lk, hcd, _, _⟩ := F.ex
  refine fn_ofC lk hcd S spU_len fun A outer s H vs Q hr h => ⟨TSd K W0 fb, hbody cdv A outer s H hr, ?_⟩
  obtain ⟨hl, g, ds, S, l, rd, p⟩ := h
  refine ⟨g, _, S, l, start_rel rd, ?_⟩
  have p2 : PostF K g (endOf (fb (startE N.length ds) S)) Q (fun _ _ _ => False) := p
  cases q : fb (startE N.length ds) S with
  | ok a r S1 =>
    rw [q] at p2
    cases a with
    | nx => exact fun g' H' σ' e l' _ => p2 g' H' .non e l' rfl
    | rt d => exact p2
    | bk => exact p2.elim
    | ct => exact p2.elim
  | er y r S1 =>
    rw [q] at p2
    exact fun g' H' σ' cls od e l' _ r' => p2 g' H' cls od e l' r'
  | no => rw [q] at p2; exact p2.elim
end
structure Def1C (P : Program) (w : World) (K : PySem.W.Frag) (mg : Str → Option Value) (base : Heap) (x : Str) (k : Nat) (ps : List Str) (m : MF) : Prop where
  ex : ∃ f fd, FnC P w K mg base k f fd ps (spU K ps.length m) ∧ mg x = some (.ref f) ∧ PySem.W.keepIn K (.ref f) = true ∧ Binds K fd ps []
section
variable {X : Cx} {pos p : Pos} {x : Str} {a : Expr} {es : List Expr} {fs : AF} {k : Nat} {ps : List Str} {m : MF}
theorem se_fnC (F : Def1C X.prog X.w X.K X.mg X.base x k ps m) (hr : L2H.RoomH k X.A) (ha : SA X W0 (a :: es) fs) (hg : Gl X x := by rfl) (hdb : (x == ("__debug__" : Str)) = false := by decide)
    (he : starEach (a :: es) X.env = (false, eval a X.env) :: starEach es X.env := by rfl) (hpl : (backTo pos (starEach es X.env)).any (·.1) = false := by rfl) : SE X W0 (.Call (.Name x p) (a :: es) [] pos) (eCallF ps.length m [] fs) := by
  obtain ⟨f, fd, F, hm, hk, hb⟩ := F
  refine ⟨fun pins s σ H Q I h => ?_⟩
  refine wpAny_Call_Name_kw (ld_glob I hg hm ?_ hdb)
  refine PySem.W.callWith_K (h₀ := X.base) I.ok.mod.kin hk (thn (ha.run pos pins s σ H _ I (TD.split (rel := RelDs X.K) h)) fun us s1 ⟨vs, H1, I1, r1, g, ds, r, S, l, e, rd, p⟩ => ⟨I1.kIn, ?_⟩) he hpl
  split at p
  · rename_i hn
    rw [List.append_nil] at hn p
    have hl : us.length = ps.length := by rw [← r1.length, ← rd.length]; exact hn
    have b := hb s1 us I1.kIn (by rw [List.append_nil]; exact hl)
    rw [List.append_nil] at b
    have sp : spU X.K ps.length m vs H1 Q (fun _ _ _ => False) := by
      refine ⟨by rw [← rd.length]; exact hn, g, ds, S, l, rd, ?_⟩
      cases q : m ds S with
      | ok d S' =>
        rw [q] at p
        exact fun g' H' v x' l' r' => p g' H' v x' l' (e.mono x') r'
      | er d S' =>
        rw [q] at p
        exact fun g' H' cls od x' l' r' => p g' H' cls od x' l' (e.mono x') r'
      | no => rw [q] at p; exact p.elim
    refine wpAny_call (codeAny_mono (F.run X.A X.stack s1 H1 ⟨us, []⟩ us vs Q hr I1.env0 b r1 sp) fun r s' hq => ?_)
    cases r with
    | error e =>
      exact (cxU_no hq).elim
    | ok fl =>
      cases fl with
      | ret u => exact I1.after hq
      | next => exact False.elim hq
      | brk => exact False.elim hq
      | cont => exact False.elim hq
  · exact p.elim
end
open PySem PySem.Spec PyProof.Rows He
theorem upd_comm {H : Hp} {a b : Addr} {x y : HO} (h : a ≠ b) : upd (upd H a x) b y = upd (upd H b y) a x := by
  funext c
  by_cases h1 : c = a
  · subst h1; rw [upd_ne h, upd_same, upd_same]
  · by_cases h2 : c = b
    · subst h2; rw [upd_same, upd_ne h1, upd_same]
    · rw [upd_ne h2, upd_ne h1, upd_ne h1, upd_ne h2]
section
variable {K : PySem.W.Frag} {g : Gh} {S : Sto} {H : Hp}
theorem Rl.retab {P : Addr} {q : Str} {ps : Array Value} (l : Rl K g S H) (gP : g.G P = some (tabD q P)) (ht : TriplesOk ps.toList) (hc : ∀ (pos : Pos) (cv : Value), codeAmong pos ps.toList = some cv → ∃ c, cv = .ref c ∧ g.G c = some (codD q)) : Rl K g S (upd H P (.tbl ps)) := by
  refine ⟨fun a d e => ?_, fun n o e ho => ?_, l.inj, l.sz, fun a o e => ?_⟩
  · by_cases ha : a = P
    · subst ha
      rw [gP] at e
      cases e
      exact ⟨rfl, rfl, ps, upd_same, ht, hc⟩
    · exact (l.imm a d e).stay (.refl g) fun o z => by rw [upd_ne ha]; exact z
  · obtain ⟨m1, m2⟩ := l.sto n o e ho
    have ne : g.m n ≠ P := fun z => by rw [z, gP] at m1; cases m1
    exact ⟨m1, m2.stay (.refl g) fun u z => by rw [upd_ne ne]; exact z⟩
  · obtain ⟨x1, x2, x3⟩ := l.fr a o e
    have ne : a ≠ P := fun z => by rw [z, gP] at x2; cases x2
    exact ⟨by rw [upd_ne ne]; exact x1, x2, x3⟩
end
def fnHO (f : Addr) (o : Obj) : HO := .ext fun h => h.get? f = some o
theorem fnHO_ok {P : Program} {w : World} {H : Hp} {h : Heap} {f : Addr} {o : Obj} (e : h.get? f = some o) : ObjOk P w H h f (fnHO f o) := ⟨e, ⟨o, e⟩, fun h1 h2 z k => k _ z⟩
inductive DfK : Arguments → Bool → Prop
  | no {p : Arguments} (h : p.defaults = []) (k : p.kw_defaults = []) : DfK p false
  | one {p : Arguments} {j : Nat} {pos : Pos} (h : p.defaults = [.Constant (.int 0) j pos]) (k : p.kw_defaults = []) : DfK p true
section
variable {X : Cx} {pins : List (Addr × Obj)} {σ : St} {H : Hp} {s : Shared} {g : Gh} {S : Sto}
theorem lam_tail {b : Nat} {i : Nat} {lk : LamA} {c P : Addr} {dV : Value} {pos : Pos} {E : Value → Shared → Prop} {Q : Value → Shared → Prop} (I : Inv X pins σ H s) (l : Rl X.K g S H) (gP : g.G P = some (tabD lk.qual P)) (TB : LamX.TabB X.base X.mg c P) (hcode : X.env.code = .ref c)
    (ht : theLams i = some lk) (hcl : cloFrom X.env.cells lk.scope.names [] = cloFrom (lk.cells b) lk.scope.names []) (hfree : ∀ y ∈ lk.scope.names, y.2 = .free → ∃ c, X.env.cells.lookup y.1 = some c)
    (hdV : (lk.params.defaults = [] ∧ dV = .none) ∨ (lk.params.defaults ≠ [] ∧ ∃ td, dV = .ref td ∧ g.G td = some (.tup [.int 0])))
    (h : ∀ (f : Addr) (g' : Gh) (H1 : Hp) (s' : Shared), Inv X pins σ H1 s' → Ext g g' → Rl X.K g' S H1 → g'.G f = some (lamD i b) → Q (.ref f) s') :
    wpAny (model X.prog X.w) X.A (makeTail "<lambda>" lk.qual lk.params (.expr lk.body) lk.scope X.env dV .none none pos pos.line) Q E s := by
  obtain ⟨_, _, ps, hP, htr, ha⟩ := l.imm P _ gP
  have bP : s.heap.BuiltinsAt X.mg P := TB.bm.keeps I.bk
  have hP' : s.heap.get? P = some { cls := .none, data := .fields ps } := I.hok P _ hP
  have cm : ∀ {y c}, (cloFrom (lk.cells b) lk.scope.names []).lookup y = some c → X.env.cells.lookup y = some c := fun {y c} e => by
    rw [← hcl] at e
    rcases cloFrom_mem (PySem.mem_of_lookup e) with hm | ⟨h1, h2⟩
    · cases hm
    · obtain ⟨c1, hc⟩ := hfree _ h1 rfl
      have hc : X.env.cells.lookup y = some c1 := hc
      have e2 : c = c1 := by
        rw [h2, hc] <;> rfl
      rw [e2]
      exact hc
  -- the function's object is put
  have fin : ∀ {g1 : Gh} {H1 : Hp} {h' : Heap} {tk : Tok} {pm doc ctv : Value} {c' : Addr}, Ext g g1 → Inv X pins σ H1 { s with heap := h', toks := tk } → Rl X.K g1 S H1 → g1.G c' = some (codD lk.qual) →
      Q (.ref h'.objs.size) { s with heap := h'.push (PySem.W.kdv_obj "<lambda>" lk.qual lk.params (.expr lk.body) lk.scope (cloFrom X.env.cells lk.scope.names []) dV doc pm c' ctv), toks := tk } := fun {g1 H1 h' tk pm doc ctv c'} e1 I1 l1 gc => by
    have hn : H1 h'.objs.size = none := I1.hok.fresh (Nat.le_refl _)
    have I2 := I1.laid (t' := tk) (a := h'.objs.size) (o := fnHO h'.objs.size (PySem.W.kdv_obj "<lambda>" lk.qual lk.params (.expr lk.body) lk.scope (cloFrom X.env.cells lk.scope.names []) dV doc pm c' ctv)) (fun b o e => Heap.get?_push_of_some _ e) (Nat.le_refl _) (fnHO_ok (Heap.get?_push_size _ rfl))
    have hdV' : (lk.params.defaults = [] ∧ dV = .none) ∨ (lk.params.defaults ≠ [] ∧ ∃ td, dV = .ref td ∧ g1.G td = some (.tup [.int 0])) := hdV.imp id fun ⟨z0, td, z1, z2⟩ => ⟨z0, td, z1, e1.G _ _ z2⟩
    have l2 : Rl X.K (g1.put h'.objs.size (lamD i b)) S (upd H1 h'.objs.size (fnHO h'.objs.size (PySem.W.kdv_obj "<lambda>" lk.qual lk.params (.expr lk.body) lk.scope (cloFrom X.env.cells lk.scope.names []) dV doc pm c' ctv))) :=
      l1.put hn ⟨rfl, lk, pm, doc, c', ctv, dV, ht, gc, by rw [upd_same, hcl]; rfl, fun x y c h1 h2 => I.ok.inj x y c (cm h1) (cm h2), hdV'⟩
    exact h _ _ _ _ I2 (e1.trans (Gh.put_ext (l1.free hn))) l2 Gh.put_at
  cases hc : codeAmong pos ps.toList with
  | none =>
    refine PySem.W.kdv_makeTail (mg := X.mg) (c := c) (P := P) (ps := ps) (closure_ok hfree) I.ok.glob (I.mod.glob.keeps I.bk) hcode (TB.code.keeps I.bk) hP' htr hc TB.gP bP fun c' ctv doc h' tk hx hge hlt hrec htb => ?_
    obtain ⟨c2, oc, vs, t, e2, hoc, hd, hv⟩ := hrec
    cases e2
    have nC : H c' = none := I.hok.fresh hge
    have nPc : P ≠ c' := ne_of_none hP nC
    have I1 := LamX.inv_table (t' := tk) (more := #[rawInt pos.line, rawInt pos.col, .ref c']) (h' := h') I hP (fun b o hb e => hx b o hb e) htb hge ⟨oc, vs, t, hoc, hd, hv⟩
    rw [upd_comm nPc] at I1
    have x1 := Gh.put_ext (d := codD lk.qual) (l.free nC)
    have l1 : Rl X.K (g.put c' (codD lk.qual)) S (upd H c' (LamX.CodeO c' lk.qual)) := l.put nC ⟨rfl, upd_same⟩
    have eL : (ps ++ #[rawInt pos.line, rawInt pos.col, .ref c']).toList = ps.toList ++ [rawInt pos.line, rawInt pos.col, .ref c'] := by simp
    have l2 := l1.retab (P := P) (q := lk.qual) (ps := ps ++ #[rawInt pos.line, rawInt pos.col, .ref c']) (x1.G _ _ gP) (by rw [eL]; exact PySem.TriplesOk_snoc _ _ _ _ htr) (fun p' cv hcv => by
      rw [eL] at hcv
      rcases LamX.among_app _ htr hcv with z | z
      · obtain ⟨c0, e1, e2⟩ := ha p' cv z
        exact ⟨c0, e1, x1.G _ _ e2⟩
      · exact ⟨c', z, Gh.put_at⟩)
    exact fin x1 I1 l2 Gh.put_at
  | some cv =>
    obtain ⟨c', e, hco⟩ := ha pos cv hc
    subst e
    refine PySem.W.kdv_makeTailHit (mg := X.mg) (c := c) (P := P) (ps := ps) (closure_ok hfree) I.ok.glob (I.mod.glob.keeps I.bk) hcode (TB.code.keeps I.bk) hP' htr hc bP fun ctv doc h' tk hx hsz => ?_
    have I1 : Inv X pins σ H { s with heap := h', toks := tk } := I.kept fun b o e => hx b o e
    exact fin (.refl g) I1 l hco
end

section
variable {X : Cx} {W : WX} {params : Arguments} {body : Expr} {scope : Scope} {pos : Pos} {lk : LamA} {c P : Addr} {i b t : Nat} {df : Bool}
theorem se_lam (TB : LamX.TabB X.base X.mg c P) (hcode : X.env.code = .ref c) (ht : theLams i = some lk) (hq : lk.qual = X.env.qual ++ "<lambda>") (hp : lk.params = params) (hb : lk.body = body) (hs : lk.scope = scope)
    (hcl : cloFrom X.env.cells scope.names [] = cloFrom (lk.cells b) scope.names []) (hL : ∀ y ∈ scope.names, y.2 = .free → X.env.kindOf y.1 = some .cell ∨ X.env.kindOf y.1 = some .free) (D : DfK params df) : SE X W (.Lambda params body scope pos) (eLam i b P t lk.qual) := by
  subst hp hb hs
  refine ⟨fun pins s σ H Q I h => ?_⟩
  obtain ⟨g, r, S, l, e, p⟩ := h
  unfold eLam at p
  split at p
  · rename_i q' p' hr
    split at p
    · rename_i hqq
      obtain ⟨rfl, rfl⟩ := hqq
      obtain ⟨v, hv, rv⟩ := e.2 t _ hr
      obtain ⟨_, a, ea, gP⟩ := rv
      obtain ⟨_, eaP, _⟩ := l.imm a _ gP
      have eaP' : a = P := by simpa using eaP
      subst eaP'
      have p : ∀ (g' : Gh) (H' : Hp) (b_1 : V), Ext g g' → Rl X.K g' S H' → REnv X.K g' r σ → RelD X.K g' (lamD i b) b_1 → Q b_1 H' := p
      have hfree : ∀ y ∈ lk.scope.names, y.2 = .free → ∃ c, X.env.cells.lookup y.1 = some c := fun y hy z => I.ok.has _ (hL y hy z)
      cases D with
      | no hd hk =>
        refine PySem.W.kla_eval (by rw [PySem.defaultsOf_eq, hd, hk]; rfl) ?_
        rw [makeFunction_eq]
        simp only [List.zip_nil_right, List.filterMap_nil, List.isEmpty_nil, if_true, pure_bind]
        rw [← hq]
        exact lam_tail I l gP TB hcode ht hcl hfree (.inl ⟨hd, rfl⟩) fun f g' H1 s' I1 x1 l1 gf => ⟨.ref f, H1, I1, rfl, p g' H1 _ x1 l1 (e.mono x1) ⟨rfl, f, rfl, gf⟩⟩
      | @one j pos' hd hk =>
        refine PySem.W.kdv_lam (by rw [hd]; rfl) hk ?_
        rw [hd]
        refine PySem.W.kdv_all1 (wpAny_Constant_int ?_)
        refine PySem.W.kdv_all0 ?_
        rw [makeFunction_eq]
        simp only [List.zip_nil_right, List.filterMap_nil, List.isEmpty_nil, List.isEmpty_cons, if_true, Bool.false_eq_true, if_false, pure_bind]
        refine wpAny_bind (wpAny_newTextTuple ?_)
        rw [← hq]
        have I0 : Inv X pins σ H { s with toks := s.toks + 1 } := I.tok _
        have hn : H s.heap.objs.size = none := I.hok.fresh (Nat.le_refl _)
        have I1 := I0.laid (t' := s.toks + 1) (a := s.heap.objs.size) (o := .tup [.int 0]) (h' := s.heap.push { cls := .type "tuple", data := .seq [Value.int 0 s.toks].toArray }) (fun b o e => Heap.get?_push_of_some _ e) (Nat.le_refl _) (show ObjOk X.prog X.w _ _ _ (.tup [.int 0]) from ⟨by show 1 ≤ sizeLine; exact sz_le (by decide), [Value.int 0 s.toks], .cons ⟨_, rfl⟩ .nil, IsTup.new _ _⟩)
        have x0 := Gh.put_ext (d := D.tup [.int 0]) (l.free hn)
        have l0 : Rl X.K (g.put s.heap.objs.size (.tup [.int 0])) S (upd H s.heap.objs.size (.tup [.int 0])) := l.put hn ⟨[.int 0], upd_same, .cons rfl .nil⟩
        exact lam_tail I1 l0 (x0.G _ _ gP) TB hcode ht hcl hfree (.inr ⟨by rw [hd]; simp, _, rfl, Gh.put_at⟩) fun f g' H1 s' I1 x1 l1 gf => ⟨.ref f, H1, I1, rfl, p g' H1 _ (x0.trans x1) l1 (e.mono (x0.trans x1)) ⟨rfl, f, rfl, gf⟩⟩
    · exact p.elim
  · exact p.elim
end
open PySem PySem.Spec PyProof.Rows He
mutual
def okD : D → Bool
  | .dic [.str _, .int _] [] => true
  | .dic [.str _] [.non] => true
  | .dic _ _ => false
  | .tup xs => okL xs
  | .lst xs => okL xs
  | .fz xs => okL xs
  | .ins _ _ xs => okL xs
  | _ => true
def okL : List D → Bool
  | [] => true
  | x :: r => okD x && okL r
end
def isXd : D → Bool
  | .dic [.bl true] [.ins _ _ ds] => okL ds
  | _ => false
theorem okL_all : ∀ {l : List D}, okL l = true ↔ ∀ d ∈ l, okD d = true
  | [] => by simp [okL]
  | x :: r => by simp [okL, okL_all (l := r)]
open PySem PySem.Spec PyProof.Rows He
structure LamOk (lk : LamA) : Prop where
  kind : lk.scope.kind = .function
  co : lk.scope.isCoroutine = false
  gen : lk.scope.isGenerator = false
  nocell : ∀ y ∈ lk.scope.names, y.2 ≠ .cell
  loc : ∀ y ∈ lk.scope.names, y.2 = .local → y.1 ∉ lk.frees
  free : ∀ y ∈ lk.scope.names, y.2 = .free → y.1 ∈ lk.frees
  isfree : ∀ y ∈ lk.frees, lk.scope.names.lookup y = some .free
def lamOkB (lk : LamA) : Bool := decide (lk.scope.kind = .function) && (!lk.scope.isCoroutine && (!lk.scope.isGenerator && (lk.scope.names.all (fun y => !decide (y.2 = .cell) && ((!decide (y.2 = .local) || !lk.frees.contains y.1) && (!decide (y.2 = .free) || lk.frees.contains y.1))) && lk.frees.all fun y => decide (lk.scope.names.lookup y = some .free))))
theorem lamOk_by {lk : LamA} (h : lamOkB lk = true) : LamOk lk := by
  unfold lamOkB at h
  simp only [Bool.and_eq_true, Bool.or_eq_true, Bool.not_eq_true', decide_eq_true_eq, decide_eq_false_iff_not, List.all_eq_true, List.contains_iff_mem] at h
  obtain ⟨h1, h2, h3, h4, h5⟩ := h
  refine ⟨h1, h2, h3, fun y hy => (h4 y hy).1, fun y hy e => ?_, fun y hy e => ?_, h5⟩
  · rcases (h4 y hy).2.1 with z | z
    · exact absurd e z
    · intro hm
      have := List.contains_iff_mem.mpr hm
      rw [z] at this; cases this
  · rcases (h4 y hy).2.2 with z | z
    · exact absurd e z
    · exact z
abbrev lamE (lk : LamA) (b : Nat) (L f c' : Addr) : PySem.Env := PySem.W.envX lk.qual lk.scope L f (.ref c') (cloFrom (lk.cells b) lk.scope.names [])
abbrev lamCxU (P : Program) (w : World) (K : PySem.W.Frag) (mg : Str → Option Value) (base : Heap) (lk : LamA) (b : Nat) (f c' : Addr) (A : Around) (outer : List PySem.Env) (s : Shared) (H : Hp) (E : XK) : Cx where
  prog := P
  w := w
  K := K
  mg := mg
  base := base
  A := A.deeper (lamE lk b s.heap.objs.size f c')
  N := lk.frees
  s_0 := s
  H_0 := H
  env := lamE lk b s.heap.objs.size f c'
  outer := outer
  stack := lamE lk b s.heap.objs.size f c' :: outer
  ex := []
  fn := fun _ => false
  calm := true
  pn := []
  xe := fun e s' => wpAny (model P w) (A.deeper (lamE lk b s.heap.objs.size f c')) (leaving (lamE lk b s.heap.objs.size f c') e) (fun _ s'' => CXU K P w outer H s E e s'') (fun e' s'' => CXU K P w outer H s E e' s'') s'
section
variable {P : Program} {w : World} {K : PySem.W.Frag} {mg : Str → Option Value} {base : Heap} {lk : LamA} {b : Nat}
theorem clo_cells (hf : ∀ y ∈ lk.scope.names, y.2 = .free → ∃ c, (lk.cells b).lookup y.1 = some c) {y : Str} {c : Addr} (e : (cloFrom (lk.cells b) lk.scope.names []).lookup y = some c) : (y, NameKind.free) ∈ lk.scope.names ∧ (lk.cells b).lookup y = some c := by
  rcases cloFrom_mem (PySem.mem_of_lookup e) with hm | ⟨h1, h2⟩
  · cases hm
  · obtain ⟨c1, hc⟩ := hf _ h1 rfl
    have hc : (lk.cells b).lookup y = some c1 := hc
    have e2 : c = c1 := by
      rw [h2, hc] <;> rfl
    rw [e2]
    exact ⟨h1, hc⟩
theorem lam_startU {A : Around} {outer : List PySem.Env} {s : Shared} {H : Hp} {E : XK} {f c' : Addr} {h₁ : Heap} {tk : Tok} {binds : List (Str × Value)} {vs : List V} (L : LamOk lk) (e0 : Env0 P w K mg base A outer s H) (hd : A.handled = none)
    (hf : ∀ y ∈ lk.scope.names, y.2 = .free → ∃ c, (lk.cells b).lookup y.1 = some c) (inj : ∀ x y c, (cloFrom (lk.cells b) lk.scope.names []).lookup x = some c → (cloFrom (lk.cells b) lk.scope.names []).lookup y = some c → x = y)
    (hl : vs.length = lk.frees.length) (hc : ∀ (j : Nat) (y : Str) (v : V), lk.frees[j]? = some y → vs[j]? = some v → ∃ c u, (cloFrom (lk.cells b) lk.scope.names []).lookup y = some c ∧ s.heap.IsCell c (some u) ∧ RelV v u)
    (hn : ∀ y c, (cloFrom (lk.cells b) lk.scope.names []).lookup y = some c → H c = none ∧ ∃ v, s.heap.IsCell c v)
    (hns : h₁.Ns s.heap.objs.size fun y => binds.reverse.lookup y) (kp : ∀ b o, s.heap.get? b = some o → h₁.get? b = some o) :
    Inv (lamCxU P w K mg base lk b f c' A outer s H E) [] (vs.map some) H { s with heap := h₁, toks := tk } := by
  have noA : ∀ a : Addr, a ∉ (lamCxU P w K mg base lk b f c' A outer s H E).ex := fun a z => absurd (show a ∈ ([] : List Addr) from z) (by simp)
  have cellK : ∀ {c : Addr} {v : Option Value}, s.heap.IsCell c v → h₁.IsCell c v := fun {c v} ⟨o, ho, hd⟩ => ⟨o, kp _ _ ho, hd⟩
  have look : ∀ {y}, lk.scope.names.lookup y = some .free → ∃ c, (cloFrom (lk.cells b) lk.scope.names []).lookup y = some c := fun {y} hl => by
    have hy : (y, NameKind.free) ∈ lk.scope.names := PySem.mem_of_lookup hl
    exact mem_lookup (cloFrom_has (cells := lk.cells b) (acc := []) hy)
  refine ⟨⟨e0.mod, L.kind, rfl, rfl, Nat.le_refl _, inj, fun y hy => ?_, fun y c z _ => ?_, fun _ => hd, Around.frames_deeper e0.frames, .inr ⟨rfl, rfl⟩, fun b z => absurd z (noA b), e0.bs, e0.bsz, fun b _ _ => noA b,
      fun b z => absurd z (noA b), e0.funs, e0.frf⟩,
    rfl, e0.bare, Un.kept kp, ⟨_, hns, fun i y v e1 e2 e3 => ?_⟩, fun y c e => ?_, e0.hok.fresh (Nat.le_refl _), fun y c e => (hn y c e).1, fun q hq => absurd (show q ∈ ([] : List (Addr × Obj)) ++ [] from hq) (by simp), e0.hok.kept kp, by rw [List.length_map]; exact hl⟩
  · have hy : lk.scope.names.lookup y = some .cell ∨ lk.scope.names.lookup y = some .free := hy
    rcases hy with hy | hy
    · exact absurd rfl (L.nocell _ (PySem.mem_of_lookup hy))
    · exact look hy
  · have z : false = true := z
    cases z
  · have e1 : lk.frees[i]? = some y := e1
    have e2' : vs[i]? = some v := by
      rw [List.getElem?_map] at e2
      cases q : vs[i]? with
      | none => rw [q] at e2; cases e2
      | some v' => rw [q] at e2; cases e2; rfl
    obtain ⟨c, u, h1, h2, h3⟩ := hc i y v e1 e2'
    exact ⟨u, h3, .inr ⟨.inr (L.isfree y (List.mem_of_getElem? e1)), c, h1, cellK h2⟩⟩
  · obtain ⟨_, v, z⟩ := hn y c e
    exact ⟨v, cellK z⟩
end
theorem all_ex {α β : Type} {P : Nat → α → β → Prop} : ∀ (l : List α), (∀ (j : Nat) (d : α), l[j]? = some d → ∃ v, P j d v) → ∃ vs : List β, vs.length = l.length ∧ ∀ (j : Nat) (d : α) (v : β), l[j]? = some d → vs[j]? = some v → P j d v
  | [], _ => ⟨[], rfl, fun j d v h => by simp at h⟩
  | x :: l, h => by
    obtain ⟨v, hv⟩ := h 0 x rfl
    obtain ⟨vs, h1, h2⟩ := all_ex (P := fun j => P (j + 1)) l fun j d e => h (j + 1) d (by simpa using e)
    refine ⟨v :: vs, by simp [h1], fun j d u e1 e2 => ?_⟩
    cases j with
    | zero => simp at e1 e2; subst e1 e2; exact hv
    | succ j => exact h2 j d u (by simpa using e1) (by simpa using e2)
theorem relDs_of {K : PySem.W.Frag} {g : Gh} : ∀ {ds : List D} {vs : List V}, vs.length = ds.length → (∀ (j : Nat) (d : D) (v : V), ds[j]? = some d → vs[j]? = some v → RelD K g d v) → RelDs K g ds vs
  | [], [], _, _ => .nil
  | [], _ :: _, h, _ => by simp at h
  | _ :: _, [], h, _ => by simp at h
  | d :: ds, v :: vs, h, q => .cons (q 0 d v rfl rfl) (relDs_of (by simpa using h) fun j d v e1 e2 => q (j + 1) d v (by simpa using e1) (by simpa using e2))
theorem renv_of {K : PySem.W.Frag} {g : Gh} {ds : List D} {vs : List V} (r : RelDs K g ds vs) : REnv K g (ds.map some) (vs.map some) := by
  refine ⟨by simp [r.length], fun i d e => ?_⟩
  rw [List.getElem?_map] at e
  cases q : ds[i]? with
  | none => rw [q] at e; cases e
  | some d' =>
    rw [q] at e; cases e
    obtain ⟨v, h1, h2⟩ := r.get q
    exact ⟨v, by rw [List.getElem?_map, h1]; rfl, h2⟩
def BindK (lk : LamA) (df : Option Str) : Prop := match df with
  | none => lk.params.defaults = [] ∧ ∀ (cl : List (Str × Addr)) (pm doc cv ctv : Value), bindArgs (PySem.W.kdv_fn "<lambda>" lk.qual lk.params (.expr lk.body) lk.scope cl .none doc pm cv ctv) ⟨[], []⟩ = pure []
  | some x => lk.params.defaults ≠ [] ∧ lk.scope.names.lookup x = some .local ∧ ∀ (s : Shared) (cl : List (Str × Addr)) (pm doc cv ctv : Value) (td : Addr) (o : Obj) (n : Nat) (t : Tok), s.heap.get? td = some o → o.data = .seq #[.int 0 t] n → BindsTo s (PySem.W.kdv_fn "<lambda>" lk.qual lk.params (.expr lk.body) lk.scope cl (.ref td) doc pm cv ctv) ⟨[], []⟩ [(x, .int 0 t)]
section
variable {P : Program} {w : World} {K : PySem.W.Frag} {mg : Str → Option Value} {base : Heap} {lk : LamA} {i b : Int} {k : Nat} {fb : EF} {df : Option Str}
abbrev LamBody (P : Program) (w : World) (K : PySem.W.Frag) (mg : Str → Option Value) (base : Heap) (lk : LamA) (k : Nat) (fb : EF) : Prop := ∀ (b : Nat) (f c' : Addr) (A : Around) (outer : List PySem.Env) (s : Shared) (H : Hp) (E : XK), Room k (A.deeper (lamE lk b s.heap.objs.size f c')) → Tk (lamCxU P w K mg base lk b f c' A outer s H E) (wOf E) → SE (lamCxU P w K mg base lk b f c' A outer s H E) (wOf E) lk.body fb
end
open PySem PySem.Spec PyProof.Rows He
structure LamT (P : Program) (w : World) (K : PySem.W.Frag) (mg : Str → Option Value) (base : Heap) (k : Nat) (T : Nat → Option EF) : Prop where
  ok : ∀ n fb, T n = some fb → ∃ lk df, theLams n = some lk ∧ LamOk lk ∧ BindK lk df ∧ LamBody P w K mg base lk k fb
def capD (slots : Nat → List Nat) (r : Env) (i : Int) : List D := (slots i.toNat).filterMap fun t => (r[t]?).join
def lamIx (b : Nat) : D → Option Int
  | .dic [.int i, .int b'] [] => if b' = b then some i else none
  | _ => none
def lamIxs (b : Nat) : List D → Option (List Int)
  | [] => some []
  | d :: r => match lamIx b d, lamIxs b r with
    | some i, some is => some (i :: is)
    | _, _ => none
def clsL (slots : Nat → List Nat) (r : Env) (b : Nat) (is : List Int) : List D := is.map fun i => clsD i b (capD slots r i)
theorem lamIx_some {b : Nat} {d : D} {i : Int} (h : lamIx b d = some i) : d = lamD i b := by
  unfold lamIx at h
  split at h
  · split at h
    · rename_i e; cases h; rw [e]; rfl
    · cases h
  · cases h
theorem lamIxs_some {b : Nat} : ∀ {ds : List D} {is : List Int}, lamIxs b ds = some is → ds = is.map fun i => lamD i b
  | [], is, h => by cases h; rfl
  | d :: r, is, h => by
    unfold lamIxs at h
    split at h
    · rename_i i is' h1 h2
      cases h
      rw [lamIx_some h1, lamIxs_some h2]
      rfl
    · cases h
theorem capD_get {slots : Nat → List Nat} {r : Env} {i : Int} (h : (slots i.toNat).all (fun t => ((r[t]?).join).isSome) = true) : (capD slots r i).length = (slots i.toNat).length ∧ ∀ (j : Nat) (t : Nat) (d : D), (slots i.toNat)[j]? = some t → (capD slots r i)[j]? = some d → r[t]? = some (some d) := by
  unfold capD
  generalize slots i.toNat = l at h ⊢
  induction l with
  | nil => exact ⟨rfl, fun j t d e => by simp at e⟩
  | cons x l ih =>
    simp only [List.all_cons, Bool.and_eq_true] at h
    obtain ⟨d0, hd0⟩ := Option.isSome_iff_exists.mp h.1
    obtain ⟨ih1, ih2⟩ := ih h.2
    rw [show List.filterMap (fun t => (r[t]?).join) (x :: l) = d0 :: List.filterMap (fun t => (r[t]?).join) l from List.filterMap_cons_some hd0]
    refine ⟨by simp [ih1], fun j t d e1 e2 => ?_⟩
    cases j with
    | zero =>
      simp at e1 e2
      subst e1 e2
      exact Option.join_eq_some_iff.mp hd0
    | succ j => exact ih2 j t d (by simpa using e1) (by simpa using e2)
theorem LamR.stayOk {g g' : Gh} {H H' : Hp} {a : Addr} {i b : Int} (eG : ∀ a d, g.G a = some d → bnd 0 d = true → okD d = true → g'.G a = some d) (hH : ∀ o, H a = .some o → H' a = .some o) (h : LamR g H a i b) : LamR g' H' a i b := by
  obtain ⟨lk, pm, doc, c, ctv, dV, e1, e2, e3, e5, e4⟩ := h
  refine ⟨lk, pm, doc, c, ctv, dV, e1, eG _ _ e2 rfl rfl, hH _ e3, e5, e4.imp id ?_⟩
  rintro ⟨z0, td, z1, z2⟩
  exact ⟨z0, td, z1, eG _ _ z2 rfl rfl⟩
structure MkrOk (X : Cx) (slots : Nat → List Nat) (b : Nat) : Prop where
  cells : ∀ i lk, theLams i = some lk → (∀ t ∈ slots i, t < X.N.length) → lk.cells b = X.env.cells
  slot : ∀ i lk, theLams i = some lk → (∀ t ∈ slots i, t < X.N.length) → (slots i).length = lk.frees.length ∧ ∀ (j : Nat) (y : Str), lk.frees[j]? = some y → ∃ t, (slots i)[j]? = some t ∧ X.N[t]? = some y
  kind : ∀ i t y, t ∈ slots i → X.N[t]? = some y → X.env.scope.names.lookup y = some .cell
  fn : ∀ y, X.fn y = true
  nd : X.N.Nodup
structure MkS (X : Cx) (slots : Nat → List Nat) (b : Nat) (cells : List (Str × Addr)) (σ : St) (H : Hp) (s : Shared) : Prop where
  cel : ∀ i lk, theLams i = some lk → (∀ t ∈ slots i, t < X.N.length) → lk.cells b = cells
  slot : ∀ i lk, theLams i = some lk → (∀ t ∈ slots i, t < X.N.length) → (slots i).length = lk.frees.length ∧ ∀ (j : Nat) (y : Str), lk.frees[j]? = some y → ∃ t, (slots i)[j]? = some t ∧ X.N[t]? = some y
  has : ∀ i t y, t ∈ slots i → X.N[t]? = some y → ∃ c, cells.lookup y = some c
  val : ∀ i t y c v, t ∈ slots i → X.N[t]? = some y → cells.lookup y = some c → σ[t]? = some (some v) → H c = none ∧ ∃ o u, s.heap.get? c = some o ∧ o.data = .cell (some u) ∧ RelV v u
  inj : ∀ x y c, cells.lookup x = some c → cells.lookup y = some c → x = y
  sz : ∀ y c, cells.lookup y = some c → X.base.objs.size ≤ c
  fr : ∀ y c, cells.lookup y = some c → c ∉ frs X.stack
  nd : X.N.Nodup
theorem mkS_of {X : Cx} {slots : Nat → List Nat} {b : Nat} {pins : List (Addr × Obj)} {σ : St} {H : Hp} {s : Shared} (M : MkrOk X slots b) (I : Inv X pins σ H s) : MkS X slots b X.env.cells σ H s := by
  have sz0 : ∀ y c, X.env.cells.lookup y = some c → X.s_0.heap.objs.size ≤ c := fun y c hl => I.ok.cab y c (M.fn y) hl
  refine ⟨M.cells, M.slot, fun i t y h1 h2 => I.ok.has y (.inl (M.kind i t y h1 h2)), fun i t y c v h1 h2 h3 h4 => ?_, I.ok.inj, fun y c hl => Nat.le_trans I.ok.bsz (sz0 y c hl), fun y c hl hm => ?_, M.nd⟩
  · have hk := M.kind i t y h1 h2
    obtain ⟨mm, hns, hloc⟩ := id I.loc
    obtain ⟨u, ru', lk⟩ := hloc t y v h2 h4 (.inr (.inl hk))
    rcases lk with ⟨z, _⟩ | ⟨_, c2, h5, o, h6, h7⟩
    · rw [show X.env.kindOf y = some .cell from hk] at z; cases z
    · rw [h3] at h5; cases h5
      exact ⟨I.freeC y c h3, o, u, h6, h7, ru'⟩
  · rcases List.mem_cons.mp (I.stkSub c hm) with e | e
    · exact I.cne y c hl e
    · obtain ⟨_, o, e', _⟩ := I.ok.funs.mem e
      exact absurd (Heap.lt_size e') (Nat.not_lt.mpr (sz0 y c hl))
open PySem PySem.Spec PyProof.Rows He
theorem _root_.L2.Inv.hide {X : Cx} {pins : List (Addr × Obj)} {σ : St} {H : Hp} {s : Shared} {j : Nat} {v : V} (I : Inv X pins σ H s) (hN : ∀ x, X.N[j]? = some x → ¬ Vis X.env.scope x) : Inv X pins (σ.set j (some v)) H s := by
  obtain ⟨m, hn, hl⟩ := I.loc
  refine ⟨I.ok, I.os, I.bare, I.base, ⟨m, hn, fun i x w h1 h2 h3 => ?_⟩, I.cell, I.free, I.freeC, I.pin, I.hok, by rw [List.length_set]; exact I.len⟩
  by_cases e : j = i
  · subst e
    exact absurd h3 (hN x h1)
  · rw [List.getElem?_set_ne e] at h2
    exact hl i x w h1 h2 h3
theorem pss_hide {X : Cx} {st : List Stmt} {t : TS} {j : Nat} {v : V} (hN : ∀ x, X.N[j]? = some x → ¬ Vis X.env.scope x) (h : PSs X st t) : PSs X st (fun E σ H => t E (σ.set j (some v)) H) :=
  ⟨fun pins s σ H E I q => h.run pins s (σ.set j (some v)) H E (I.hide hN) q⟩
def spL (K : PySem.W.Frag) (P : Addr) (n : Nat) : Sp := fun vs H Q E => ∃ (ad : Addr) (ns : List Int), vs = [.ref ad] ∧ SqL K H ad (ns.map V.int) ∧ H P = some (.tbl #[]) ∧ Q = (fun v _ => v = .bl true) ∧ ns.length ≤ n
section
variable {P : Program} {w : World} {K : PySem.W.Frag} {mg : Str → Option Value} {base : Heap} {x qual q : Str} {params : Arguments} {body : List Stmt} {scope : Scope} {f c Pt : Addr} {fd : FuncData} {N : List Str} {a : Str} {k n t : Nat}
theorem fn_lawL (F : FunD K x qual params body scope [] [] f fd) (S : FnScope N [a] scope) (KX : K.In base) (G : base.Ns mainGlobals mg) (ht : PySem.W.tabIn K x = some (c, Pt)) (hm : mg x = some (.ref f)) (fb : Nat → SF) (hN : ∀ y, N[t]? = some y → ¬ Vis scope y)
    (hbody : ∀ (A : Around) (outer : List PySem.Env) (s : Shared) (H : Hp) (E : XK), Room k (A.deeper (envOfC qual scope s.heap.objs.size f (.ref c))) → Tk (bodyCx P w K mg base N qual scope f (.ref c) A outer s H E) (wOf E) →
      PassesOwn (model P w) (A.deeper (envOfC qual scope s.heap.objs.size f (.ref c))) (envOfC qual scope s.heap.objs.size f (.ref c)) (bodyCx P w K mg base N qual scope f (.ref c) A outer s H E).xe → SSs (bodyCx P w K mg base N qual scope f (.ref c) A outer s H E) (wOf E) body (fb s.heap.objs.size))
    (hrun : ∀ (b : Nat) (ns : List Int), ns.length ≤ n → ∃ r S, fb b ((startE N.length [.fz (ns.map .int)]).set t (some (tabD q Pt))) [] = .ok (.rt (.bl true)) r S) : FnOk P w K mg base (CXU K P w) (k + 1) f fd [a] (spL K Pt n) := by
  obtain ⟨oc, od, dV, kV, doc, pm, an, cdv, ct, osl, rfl, lk, hcd, _, _⟩ := F.ex
  have hc : cdv = .ref c := PySem.W.law_code KX G ht hm (KX _ _ lk) rfl
  subst hc
  refine fn_of lk hcd S (fun vs H Q E ⟨ad, ns, e, _⟩ => by rw [e]; rfl) fun A outer s H vs Q E hr ⟨ad, ns, e, hS, hP, hQ, hn⟩ => ?_
  subst e
  subst hQ
  refine ⟨_, pss_hide (j := t) (v := .ref Pt) hN (hbody A outer s H E hr (tk_of rfl rfl rfl rfl) (passes_of rfl)), ?_⟩
  obtain ⟨r, S1, hrn⟩ := hrun s.heap.objs.size ns hn
  have hn' : ∀ (ns : List Int) (g : Gh), RelDs K g (ns.map D.int) (ns.map V.int) := fun ns g => by
    induction ns with
    | nil => exact .nil
    | cons n ns ih => exact .cons rfl ih
  have fin : ∀ g : Gh, Rl K g [] H → RelD K g (.fz (ns.map .int)) (.ref ad) → g.G Pt = some (tabD q Pt) → TSd K (wOf E) (fb s.heap.objs.size) { nx := fun _ H' => (V.non = .bl true), rt := fun v _ => v = .bl true } ((L2.start N [.ref ad]).set t (some (.ref Pt))) H := fun g l rd gP => by
    refine ⟨g, (startE N.length [.fz (ns.map .int)]).set t (some (tabD q Pt)), [], l, (start_rel (.cons rd .nil)).set t ⟨rfl, Pt, rfl, gP⟩, ?_⟩
    rw [hrn]
    exact fun g' H' v _ _ rv => rv
  have tab : ∀ g : Gh, IRep K g H Pt (tabD q Pt) := fun g => ⟨rfl, rfl, #[], hP, True.intro, fun pos cv hcv => by
    have z : codeAmong pos [] = some cv := hcv
    simp [codeAmong] at z⟩
  rcases hS with hS | ⟨o, its, m', h1, h2, h3, h4, h5, h6⟩
  · have ne : ad ≠ Pt := fun z => by
      rw [z] at hS
      rcases hS with hS | ⟨o, hS⟩
      · rw [hP] at hS; cases hS
      · rw [hP] at hS; cases hS
    refine fin ⟨fun b => if b = ad then some (.fz (ns.map .int)) else if b = Pt then some (tabD q Pt) else none, fun _ => 0, 0, fun _ => none⟩ ⟨fun b d qq => ?_, fun n o qq => by simp at qq, fun i j oi oj qq => by simp at qq, rfl, fun b o qq => by cases qq⟩ ⟨bndL_ints 0 ns, ad, rfl, .inl (if_pos rfl)⟩ (by
      show (if Pt = ad then _ else if Pt = Pt then some (tabD q Pt) else none) = _
      rw [if_neg (Ne.symm ne), if_pos rfl])
    have q' : (if b = ad then some (D.fz (ns.map .int)) else if b = Pt then some (tabD q Pt) else none) = some d := qq
    split at q'
    · rename_i e
      subst e
      cases q'
      exact ⟨_, hS, hn' ns _⟩
    · split at q'
      · rename_i e
        subst e
        cases q'
        exact tab _
      · cases q'
  · refine fin ⟨fun b => if b = Pt then some (tabD q Pt) else none, fun _ => 0, 0, fun _ => none⟩ ⟨fun b d qq => ?_, fun n o qq => by simp at qq, fun i j oi oj qq => by simp at qq, rfl, fun b o qq => by cases qq⟩ ⟨bndL_ints 0 ns, ad, rfl, .inr ⟨ns.length + 3, ?_⟩⟩ (if_pos rfl)
    · have q' : (if b = Pt then some (tabD q Pt) else none) = some d := qq
      split at q'
      · rename_i e
        subst e
        cases q'
        exact tab _
      · cases q'
    · obtain ⟨oc, od, dt, sl⟩ := o
      simp only at h2 h3 h4
      subst h2 h3 h4
      unfold kRep
      rw [h1]
      simp only [Bool.and_eq_true, decide_eq_true_eq]
      exact ⟨by first | rfl | trivial, h5, kReps_ints ns _ _ h6 (by omega)⟩
end


theorem tabB_ok {K : PySem.W.Frag} {x : Str} (h : tabB K x = true) : ∃ c P, PySem.W.tabIn K x = some (c, P) ∧ K.lookup P = none := by
  unfold tabB at h
  split at h
  · rename_i c P e; exact ⟨c, P, e, Option.isNone_iff_eq_none.mp h⟩
  · cases h
theorem walk_UL {l : PySem.W.OpenLaw} {n k : Nat} {q : Program} {loose : List Str} {XP : (Str → Option Value) → Heap → Prop} {YP : World → Heap → Prop} {d : DefRec} {x : Str}
    (hn : l.most = some n) (hn2 : n ≤ sizeLine) (hdf : d.params.defaults = []) (hr : Room k callerA) (hrec : ((recsOf q).any fun e => e.name == d.name) = true)
    (F : ∀ (w : World) (mg : Str → Option Value) (fa : Addr) (h : Heap), YP w h → h.Ns mainGlobals mg → mg d.name = some (.ref fa) →
      ∃ (K : PySem.W.Frag) (fd : FuncData) (c P : Addr), K.In h ∧ PySem.W.tabIn K d.name = some (c, P) ∧ K.lookup P = none ∧ (∀ (s : Shared) (u : Value), BindsTo s fd ⟨[u], []⟩ [(x, u)]) ∧
        ∀ base : Heap, K.In base → base.Ns mainGlobals mg → LamX.TabB base mg c P → FnOk l.prog w K mg base (CXU K l.prog w) k fa fd [x] (spL K P n)) :
    PySem.W.WalkO q loose XP YP l.row.toRowW d [] (fun f vs => PySem.call f vs) := by
  refine Att.attach_call hn hdf fun w s₀ s₁ mg mb fa o pm cd doc a vs ns G Y ho hd hcd hmg hobj hints hlen hg => ?_
  obtain ⟨K, fd, c, P, KX, ht, nT, hb, hF⟩ := F w mg fa _ Y G.T.g hmg
  obtain ⟨hT, hE⟩ : PySem.W.CodeHd s₁.heap c P ∧ s₁.heap.get? P = some (PySem.W.tabObj #[]) := by
    cases hf : (recsOf q).find? (fun e => e.name == d.name) with
    | some d' => exact PySem.W.tab_of G.T KX hf ht
    | none =>
      have := List.find?_eq_none.mp hf
      obtain ⟨e, he, h⟩ := List.any_eq_true.mp hrec
      exact absurd h (this e he)
  exact LamX.law_callTs (cs := [(c, P)]) (sp := spL K P n) KX G.T.g G.T.b G.T.builtins G.T.nolimit hg (fun p hp => by cases List.mem_singleton.mp hp; exact hE) (fun p hp => by cases List.mem_singleton.mp hp; exact nT) (fun p hp => by cases List.mem_singleton.mp hp; exact hT) G.T.bmain hobj hints (Nat.le_trans hlen hn2) hr
    (fun base kb nb tb => hF base kb nb (tb (c, P) (List.mem_singleton_self _))) hb (fun H hH hS => ⟨a, ns, rfl, hS, hH (c, P) (List.mem_singleton_self _), rfl, hlen⟩) fun H e s' => cx_none
open PySem PySem.Spec PyProof.Rows He
section
variable {α : Type} {fa fb : EF} {fs : AF} {f h : SF} {r : Env} {S : Sto} {Q : D → Env → Sto → Prop} {L : Fl → Env → Sto → Prop} {Z : D → Env → Sto → Prop}
@[simp] theorem wp_Raise1 {C g code : Str} : wp (sRaise1 C g code fs r S) L Z = wp (fs r S) (fun ds r S => got (asOne ds) fun d => bnd 0 d = true ∧ Z (.ins C ["code", g] [.str code, d]) r S) Z := by
  unfold sRaise1
  rw [wp_bind]
  refine congrArg (fun q => wp (fs r S) q Z) ?_
  funext ds r S
  match ds with
  | [d] =>
    show wp (if bnd 0 d = true then _ else _) L Z = _
    rw [wp_ite]
    show (if bnd 0 d = true then Z _ r S else False) = (bnd 0 d = true ∧ Z _ r S)
    exact ite_and
  | [] => rfl
  | _ :: _ :: _ => rfl
@[simp] theorem wp_Raise0 {C code : Str} : wp (sRaise0 C code r S) L Z = Z (.ins C ["code"] [.str code]) r S := propext Iff.rfl

@[simp] theorem asX_ins {C : Str} {ns : List Str} {ds : List D} : asX (.ins C ns ds) = some (C, ns, ds) := rfl
@[simp] theorem wp_Try {cs : List Str} {i : Nat} : wp (sTry cs i f h r S) L Z = wp (f r S) L (fun x r1 S1 => got (asX x) fun q => (cs.contains q.1 && bndL 0 q.2.2) = true ∧ wp (h (r1.set i (some (exD q.1 q.2.1 q.2.2))) S1) (fun a r2 S2 => L a (r2.set i none) S2) (fun _ _ _ => False)) := by
  unfold sTry
  cases f r S with
  | ok a r1 S1 => rfl
  | no => rfl
  | er x r1 S1 =>
    cases x with
    | ins C ns ds =>
      show wp (if (cs.contains C && bndL 0 ds) = true then _ else _) L Z = ((cs.contains C && bndL 0 ds) = true ∧ _)
      rw [wp_ite, ← ite_and]
      refine congrArg (fun q => if (cs.contains C && bndL 0 ds) = true then q else False) ?_
      cases h (r1.set i (some (exD C ns ds))) S1 with
      | ok a r2 S2 => rfl
      | er x r2 S2 => rfl
      | no => rfl
    | _ => rfl

@[simp] theorem asE_ex {C : Str} {ns : List Str} {ds : List D} : asE (exD C ns ds) = some (C, ns, ds) := rfl
@[simp] theorem wp_Xf {cs : List Str} {g : Str} : wp (eXf cs g fa r S) Q Z = wp (fa r S) (fun x r S => got (asE x) fun q => cs.contains q.1 = true ∧ got ((q.2.1.zip q.2.2).lookup g) fun d => Q d r S) Z := by
  unfold eXf
  rw [wp_bind]
  refine congrArg (fun q => wp (fa r S) q Z) ?_
  funext x r S
  unfold asE
  split
  · rename_i C ns ds
    rw [wp_ite]
    show (if cs.contains C = true then _ else False) = (cs.contains C = true ∧ _)
    rw [ite_and]
    refine congrArg (And _) ?_
    cases (ns.zip ds).lookup g <;> rfl
  · rename_i hn
    first
    | rfl
    | (split
       · rename_i C ns ds
         exact absurd rfl (hn C ns ds)
       · rfl)
@[simp] theorem wp_Lam {i b P t : Nat} {q : Str} : wp (eLam i b P t q r S) Q Z = (rd r t = some (tabD q P) ∧ Q (lamD i b) r S) := by
  unfold eLam rd
  split
  · rename_i q' p' hr
    rw [hr]
    show wp (if q' = q ∧ p' = (P : Int) then _ else _) Q Z = (some (D.dic [.str q', .int p'] []) = some (tabD q P) ∧ _)
    rw [wp_ite, show (wp (R.no : R D) Q Z) = False from rfl, ite_and]
    refine propext (and_congr ?_ Iff.rfl)
    constructor
    · rintro ⟨rfl, rfl⟩; rfl
    · intro h; cases h; exact ⟨rfl, rfl⟩
  · rename_i hn
    refine propext ⟨fun h => h.elim, fun ⟨h, _⟩ => ?_⟩
    split at h
    · rename_i d hd
      cases h
      exact absurd hd (hn q P)
    · cases h

@[simp] theorem asL_cls {i b : Int} {ds : List D} : asL (clsD i b ds) = some (i, ds) := rfl

@[simp] theorem wo_ok {d : D} {Q Z : D → Prop} : wo (.ok d) Q Z = Q d := propext Iff.rfl
@[simp] theorem wo_er {d : D} {Q Z : D → Prop} : wo (.er d) Q Z = Z d := propext Iff.rfl
end
theorem pur_er {n : Nat} {fb : SF} {ds : List D} {S : Sto} {C : Str} {ns : List Str} {es : List D} (hd : bndL 0 es = true) (hb : bndL 0 ds = true) (h : wp (fb (startE n ds) []) (fun _ _ _ => False) fun x _ _ => x = .ins C ns es) : purM n fb ds S = .er (.ins C ns es) S := by
  unfold purM pureM
  rw [hb, if_pos rfl]
  unfold purF
  cases q : fb (startE n ds) [] with
  | ok a r T => rw [q] at h; exact h.elim
  | no => rw [q] at h; exact h.elim
  | er x r T =>
    rw [q] at h
    have h : x = .ins C ns es := h
    subst h
    show (outF (cleanF 0 (.er (.ins C ns es) T))).at S = _
    have e : es.map (fz 0 T 60) = es := by
      have : ∀ l : List D, bndL 0 l = true → l.map (fz 0 T 60) = l := fun l => by
        induction l with
        | nil => exact fun _ => rfl
        | cons x l ih =>
          intro hl
          simp only [bndL, Bool.and_eq_true] at hl
          rw [List.map_cons, ih hl.2, fz_id 60 x hl.1]
      exact this es hd
    have e1 : cleanF 0 (.er (.ins C ns es) T) = .er (.ins C ns es) (T.take 0) := by
      show (if ((T.take 0).all (bndO 0) && bndL 0 (es.map (fz 0 T 60))) = true then RF.er (.ins C ns (es.map (fz 0 T 60))) (T.take 0) else .no) = _
      rw [e, hd]
      rfl
    rw [e1]
    rfl
theorem roomH_suite {n j : Nat} {A : Around} {v : Option Value} (h : Room n A) (hl : j ≤ n) : L2H.RoomH j (A.mark v) :=
  ⟨by have := h.dp; show A.depth + 3 * j + 5 < _; omega, by have := h.un; show A.units + 16 * j + 200 < _; omega⟩
theorem bindK_no {lk : LamA} (h : lk.params.defaults = []) (hb : ∀ (cl : List (Str × Addr)) (pm doc cv ctv : Value), bindArgs (PySem.W.kdv_fn "<lambda>" lk.qual lk.params (.expr lk.body) lk.scope cl .none doc pm cv ctv) ⟨[], []⟩ = pure []) : BindK lk none := ⟨h, hb⟩
theorem bindK_one {lk : LamA} {x : Str} (h : lk.params.defaults ≠ []) (hx : lk.scope.names.lookup x = some .local)
    (hb : ∀ (cl : List (Str × Addr)) (pm doc cv ctv : Value) (td : Addr) (v : Value), ∃ k, bindArgs (PySem.W.kdv_fn "<lambda>" lk.qual lk.params (.expr lk.body) lk.scope cl (.ref td) doc pm cv ctv) ⟨[], []⟩ = seqItems? (.ref td) >>= k ∧ k (some #[v]) = pure [(x, v)]) : BindK lk (some x) :=
  ⟨h, hx, fun s cl pm doc cv ctv td o n t h1 h2 => by
    obtain ⟨k, e1, e2⟩ := hb cl pm doc cv ctv td (.int 0 t)
    exact BindsTo.of_defaults (fd := PySem.W.kdv_fn "<lambda>" lk.qual lk.params (.expr lk.body) lk.scope cl (.ref td) doc pm cv ctv) rfl h1 h2 e1 e2⟩
def slotB (fr : List Str) (sl : List Nat) (N : List Str) : Bool := decide (sl.length = fr.length) && (fr.zip sl).all fun p => decide (N[p.2]? = some p.1)
theorem slotB_ok {fr : List Str} {sl : List Nat} {N : List Str} (h : slotB fr sl N = true) : sl.length = fr.length ∧ ∀ (j : Nat) (y : Str), fr[j]? = some y → ∃ t, sl[j]? = some t ∧ N[t]? = some y := by
  obtain ⟨h1, h2⟩ := ba h
  have h1 := of_decide_eq_true h1
  refine ⟨h1, fun j y e => ?_⟩
  have hj : j < sl.length := by rw [h1]; exact (List.getElem?_eq_some_iff.mp e).1
  refine ⟨sl[j], List.getElem?_eq_getElem hj, ?_⟩
  have hm : (y, sl[j]) ∈ fr.zip sl := by
    refine List.mem_iff_getElem?.mpr ⟨j, ?_⟩
    rw [List.getElem?_zip_eq_some]
    exact ⟨e, List.getElem?_eq_getElem hj⟩
  exact of_decide_eq_true (List.all_eq_true.mp h2 _ hm)
def kindB (sl : List Nat) (N : List Str) (names : List (Str × NameKind)) : Bool := sl.all fun t => match N[t]? with
  | some y => decide (names.lookup y = some .cell)
  | none => true
theorem kindB_ok {sl : List Nat} {N : List Str} {names : List (Str × NameKind)} (h : kindB sl N names = true) : ∀ t y, t ∈ sl → N[t]? = some y → names.lookup y = some .cell := fun t y ht e => by
  have := List.all_eq_true.mp h t ht
  rw [e] at this
  exact of_decide_eq_true this
section
variable {P : Program} {w : World} {K : PySem.W.Frag} {mg : Str → Option Value} {base : Heap} {C f code : Str} {x qual : Str} {params : Arguments} {scope : Scope} {fd : FuncData} {j : Nat} {p1 p2 p3 p4 p5 p6 p7 p8 : Pos}
theorem defX1_of (F : FunD K x qual params [.Assign [.Attribute (.Name "self" p1) f p2] (.Name f p3) p4, .Assign [.Attribute (.Name "self" p5) "code" p6] (.Constant (.str code) j p7) p8] scope [] [] (fAd K (C, some "__init__")) fd)
    (S : FnScope ["self", f] ["self", f] scope) (hx : xclB K (C, [f]) = true) (hm : mg C = some (.ref (ga K C))) (v0 : Vis scope "self" := by first | exact Or.inl rfl | exact Or.inr (Or.inl rfl)) (v1 : Vis scope f := by first | exact Or.inl rfl | exact Or.inr (Or.inl rfl)) (hd : (f == ("__debug__" : Str)) = false := by decide) (hcd : (f == ("__classdict__" : Str)) = false := by decide)
    (h : ∀ (kV doc pm : Value) (an : Option Addr) (cdv ct : Value) (us : List Value), us.length = 2 → bindArgs (PySem.W.fnOf x qual params [.Assign [.Attribute (.Name "self" p1) f p2] (.Name f p3) p4, .Assign [.Attribute (.Name "self" p5) "code" p6] (.Constant (.str code) j p7) p8] scope .none kV doc pm an cdv ct) ⟨us, []⟩ = pure ((["self", f] : List Str).zip us) := by exact fun _ _ _ _ _ _ us h => by match us, h with | [_, _], _ => rfl) : DefX1 P w K mg base C f code :=
  ⟨_, fd, exc1_ok F S v0 v1 hd hcd, F.bindsN h, xclB_ok hx, rfl, hm⟩
theorem defX0_of (F : FunD K x qual params [.Assign [.Attribute (.Name "self" p5) "code" p6] (.Constant (.str code) j p7) p8] scope [] [] (fAd K (C, some "__init__")) fd)
    (S : FnScope ["self"] ["self"] scope) (hx : xclB K (C, []) = true) (hm : mg C = some (.ref (ga K C))) (v0 : Vis scope "self" := by first | exact Or.inl rfl | exact Or.inr (Or.inl rfl))
    (h : ∀ (kV doc pm : Value) (an : Option Addr) (cdv ct : Value) (us : List Value), us.length = 1 → bindArgs (PySem.W.fnOf x qual params [.Assign [.Attribute (.Name "self" p5) "code" p6] (.Constant (.str code) j p7) p8] scope .none kV doc pm an cdv ct) ⟨us, []⟩ = pure ((["self"] : List Str).zip us) := by exact fun _ _ _ _ _ _ us h => by match us, h with | [_], _ => rfl) : DefX0 P w K mg base C code :=
  ⟨_, fd, exc0_ok F S v0, F.bindsN h, xclB_ok hx, rfl, hm⟩
theorem def1C_of {body : List Stmt} {N ps : List Str} {k : Nat} {x : Str} {f : Addr} (F : FunD K x qual params body scope [] [] f fd) (S : FnScope N ps scope) (fb : SF) (hm : mg x = some (.ref f))
    (hbody : ∀ (cdv : Value) (A : Around) (outer : List PySem.Env) (s : Shared) (H : Hp), L2H.RoomH k (A.deeper (envOfC qual scope s.heap.objs.size f cdv)) → SSs (bodyCxH P w K mg base N qual scope f cdv A outer s H) W0 body fb)
    (h : ∀ (kV doc pm : Value) (an : Option Addr) (cdv ct : Value) (us : List Value), us.length = ps.length → bindArgs (PySem.W.fnOf x qual params body scope .none kV doc pm an cdv ct) ⟨us, []⟩ = pure (ps.zip us)) : Def1C P w K mg base x (k + 1) ps (rawM N.length fb) :=
  ⟨f, fd, pu_ofC F S fb hbody, hm, F.kp, F.bindsN h⟩
end
section
variable {X : Cx} {W : WX} {pos p : Pos} {x : Str} {a : Expr} {es : List Expr} {fs : AF} {k n : Nat} {ps : List Str} {m : MF} {slots : Nat → List Nat} {b : Nat}
theorem sf_fnC (F : Def1C X.prog X.w X.K X.mg X.base x k ps m) (hr : L2H.RoomH k X.A) (ha : SA X W0 (a :: es) fs) (hl : ps.length = n := by rfl) (hg : Gl X x := by rfl) (hdb : (x == ("__debug__" : Str)) = false := by decide)
    (he : starEach (a :: es) X.env = (false, eval a X.env) :: starEach es X.env := by rfl) (hpl : (backTo pos (starEach es X.env)).any (·.1) = false := by rfl) : SE X W0 (.Call (.Name x p) (a :: es) [] pos) (eCallF n m [] fs) := by
  subst hl
  exact se_fnC F hr ha hg hdb he hpl
theorem _root_.L2H.RoomH.units {k : Nat} {A : Around} (h : L2H.RoomH k A) : A.units + 64 < cLine := by have := h.un; omega
end
open PySem PySem.Spec PyProof.Rows He


section
variable {fi fi1 : AF} {b b1 : Bn} {tt tt1 : TF} {fe : EF} {vs vs1 : List Nat} {r : Env} {S : Sto} {Q : D → Env → Sto → Prop} {Z : D → Env → Sto → Prop}
@[simp] theorem wp_Comp2 : wp (eComp2 fi b vs tt fi1 b1 vs1 tt1 fe r S) Q Z = wp (fi r S) (fun xs r S => wp (compF2 b tt fi1 b1 tt1 fe r vs vs1 xs S) (fun ys r S => ys.length ≤ sizeLine ∧ Q (.lst ys) r S) Z) Z := by
  unfold eComp2
  rw [wp_bind]
  refine congrArg (fun q => wp (fi r S) q Z) ?_
  funext xs r S
  rw [wp_bind]
  refine congrArg (fun q => wp (compF2 b tt fi1 b1 tt1 fe r vs vs1 xs S) q Z) ?_
  funext ys r S
  rw [wp_ite]
  exact ite_and
end
open PySem PySem.Spec PyProof.Rows He

open PySem PySem.Spec PyProof.Rows He
section
variable {X : Cx} {W : WX} {o : Expr} {to : TE} {fo fa : EF} {y z : Str} {j k : Nat} {c0 c1 apos pos : Pos} {r : Env} {S : Sto} {Q Z : D → Env → Sto → Prop}

@[simp] theorem wp_ReplC : wp (eReplC fa y z r S) Q Z = wp (fa r S) (fun x r S => got (asS x) fun a => a.length + (a.length + 1) * z.length ≤ 16777216 ∧ Q (.str (Txt.replace a y z)) r S) Z := by
  unfold eReplC
  rw [wp_bind]
  refine congrArg (fun q => wp (fa r S) q Z) ?_
  funext x r S
  cases x with
  | str a =>
    show wp (if _ then _ else _) Q Z = (_ ∧ _)
    rw [wp_ite]
    show (if _ then Q _ r S else False) = _
    rw [ite_and]
  | _ => rfl
end
end L2.U
open PySem PySem.Spec PyProof.Rows He
namespace L2.U
open PySem PySem.Spec PyProof.Rows He



theorem obsUR_eq {b n : Nat} {ck : PySem.W.Frag → Bool} {fn pn : List DefD} {g : Addr → Option Obj} {s : Shared} (h : ∀ a, g a = s.heap.get? a) : obsUR b n ck fn pn g = (hookUR b n ck fn pn).obs s := by
  have e : g = s.heap.get? := funext h
  rw [e] <;> rfl

open PySem PySem.Spec PyProof.Rows He
def repS (x : Str) (n : Nat) : Str := ⟨(List.replicate n x.cps).foldl (· ++ ·) #[]⟩
def rRepS : R2 := fun x y H Q => ∃ i k, x = .str i ∧ y = .int k ∧ (2 ≤ k ∧ k ≤ 1000 ∧ 1 ≤ i.length ∧ i.length ≤ 1000) ∧ Q (.str (repS i k.toNat)) H
theorem repS_len {x : Str} : ∀ (n : Nat) (a : Array Nat), ((List.replicate n x.cps).foldl (· ++ ·) a).size = a.size + n * x.cps.size
  | 0, a => by simp
  | n + 1, a => by
    rw [List.replicate_succ, List.foldl_cons, repS_len n, Array.size_append, Nat.add_mul]
    omega
section
variable {X : Cx} {K : PySem.W.Frag}
theorem op_repS : OpR X (binaryOp .Mult) rRepS := by
  intro pins s σ H x y v u Q I rx ry h
  obtain ⟨i, k, rfl, rfl, ⟨h1, h2, h3, h4⟩, q⟩ := h
  obtain ⟨t, rfl⟩ := rx
  obtain ⟨t', rfl⟩ := ry
  have c0 : (decide (k < -(2 ^ 63 : Int)) || decide (k ≥ 2 ^ 63)) = false := by
    rw [decide_eq_false (by omega), decide_eq_false (by omega)]; rfl
  have hk : ¬ k < 1 := by omega
  have he : (k == 1 || i.length == 0) = false := by
    rw [Bool.or_eq_false_iff]
    exact ⟨by rw [beq_eq_false_iff_ne]; omega, by rw [beq_eq_false_iff_ne]; omega⟩
  have hz : i.length * k.toNat ≤ 1000000 := by
    have := Nat.mul_le_mul h4 (show k.toNat ≤ 1000 by omega)
    omega
  have hl : (repS i k.toNat).length ≤ sizeLine := by
    have e : (repS i k.toNat).length = 0 + k.toNat * i.length := repS_len k.toNat #[]
    rw [e, Nat.zero_add, Nat.mul_comm, sizeLine_eq]
    omega
  refine PySem.P.mul_str c0 (fun _ _ z => ?_) (fun _ _ => ?_) ?_
  · have h5 : ((i.length : Nat) : Int) * k ≤ 1000000 := by
      have a1 : ((i.length : Nat) : Int) * k ≤ 1000 * k := Int.mul_le_mul_of_nonneg_right (by omega) (by omega)
      omega
    have h6 : (1000 : Int) ≤ (2 ^ 63 - 1) / k := (Int.le_ediv_iff_mul_le (by omega)).mpr (by omega)
    omega
  · show decide (sizeLine < i.length * k.toNat) = false
    exact decide_eq_false (by rw [sizeLine_eq]; omega)
  · rw [if_neg hk, if_neg (by rw [he]; decide)]
    exact ⟨hl, .str (repS i k.toNat), H, I.tok _, ⟨_, rfl⟩, q⟩
def oRepS : Sto → D → D → Option D := fun _ x y => match x, y with
  | .str a, .int k => if 2 ≤ k ∧ k ≤ 1000 ∧ 1 ≤ a.length ∧ a.length ≤ 1000 then some (.str (repS a k.toNat)) else none
  | _, _ => none
theorem u_repS : UOp K rRepS oRepS := by
  intro g S H x y d xv yv Q l rx ry e k
  cases x <;> cases y <;> try (simp [oRepS] at e; done)
  cases rx
  cases ry
  simp only [oRepS] at e
  split at e
  · rename_i h
    cases e
    exact ⟨_, _, rfl, rfl, h, k g H _ (.refl g) l rfl⟩
  · cases e
def oMulS : Sto → D → D → Option D := orO oMul oRepS
theorem b_mulS : BinU X .Mult oMulS := ⟨_, (op_mulW.or (op_rep.or op_repT)).or op_repS, ((u_int (C := CMulW) fun i j h => by unfold CMulW; exact of_decide_eq_true h).or (u_repL.or u_repT)).or u_repS⟩
end
open PySem PySem.Spec PyProof.Rows He
section
variable {X : Cx} {W : WX} {tg iter elt : Expr} {ifs : List Expr} {pos : Pos} {fi : AF} {b : Bn} {tt : TF} {fe : EF} {vs : List Nat} {scope : Scope} {own : List (Str × Nat)}
def KX (X : Cx) (W : WX) (g0 : Gh) (σ : St) (Q : VK) (zs : List D) (x : R (List D)) : Prop := PostG X.K W (RelD X.K) g0 σ (x.bind fun ws r S => .ok (.lst (zs ++ ws)) r S) Q
end
open PySem PySem.Spec PyProof.Rows He
def okO : AO → Bool
  | .lst xs => okL xs
  | .dic _ vs => okL vs
  | .ins _ _ vs => okL vs
  | .gone => true
def okS (S : Sto) : Bool := S.all okO
theorem okS_at {S : Sto} (h : okS S = true) {n : Nat} {o : AO} (e : S[n]? = some o) : okO o = true := List.all_eq_true.mp h o (List.mem_of_getElem? e)
section
variable {K : PySem.W.Frag} {g g1 g' : Gh} {S S1 : Sto} {H H1 U : Hp}
theorem relD_okS (hp : ∀ a d, g.G a = some d → okD d = true → g'.G a = some d) (hs : g.sz ≤ g'.sz) (hm : ∀ n, n < g.sz → g'.m n = g.m n) {d : D} {v : V} (r : RelD K g d v) (o : okD d = true) : RelD K g' d v := by
  cases d with
  | ref n =>
    obtain ⟨r1, r2⟩ := r
    exact ⟨Nat.lt_of_lt_of_le r1 hs, by rw [hm n r1]; exact r2⟩
  | tup xs =>
    obtain ⟨b, a, e, q⟩ := r
    exact ⟨bndL_mono hs _ b, a, e, q.imp (fun z => hp a _ z o) id⟩
  | fz xs =>
    obtain ⟨b, a, e, q⟩ := r
    exact ⟨bndL_mono hs _ b, a, e, q.imp (fun z => hp a _ z o) id⟩
  | lst xs =>
    obtain ⟨b, a, e, q⟩ := r
    exact ⟨bndL_mono hs _ b, a, e, hp a _ q o⟩
  | dic ks vs =>
    obtain ⟨b, a, e, q⟩ := r
    refine ⟨?_, a, e, hp a _ q o⟩
    simp only [Bool.and_eq_true] at b ⊢
    exact ⟨bndL_mono hs _ b.1, bndL_mono hs _ b.2⟩
  | ins C ns vs =>
    obtain ⟨b, a, e, q⟩ := r
    exact ⟨bndL_mono hs _ b, a, e, hp a _ q o⟩
  | _ => exact r
theorem relDs_okS (hp : ∀ a d, g.G a = some d → okD d = true → g'.G a = some d) (hs : g.sz ≤ g'.sz) (hm : ∀ n, n < g.sz → g'.m n = g.m n) : ∀ {ds : List D} {vs : List V}, RelDs K g ds vs → okL ds = true → RelDs K g' ds vs
  | _, _, .nil, _ => .nil
  | _, _, .cons r t, o => by
    simp only [okL, Bool.and_eq_true] at o
    exact .cons (relD_okS hp hs hm r o.1) (relDs_okS hp hs hm t o.2)
theorem iRep_okS (hp : ∀ a d, g.G a = some d → okD d = true → g'.G a = some d) (hs : g.sz ≤ g'.sz) (hm : ∀ n, n < g.sz → g'.m n = g.m n) {a : Addr} {d : D} (h : IRep K g H a d) (hH : ∀ o, H a = some o → U a = some o) (o : (okD d || isXd d) = true) : IRep K g' U a d := by
  cases d with
  | tup ds => obtain ⟨vs, e1, r⟩ := h; exact ⟨vs, hH _ e1, relDs_okS hp hs hm r (by simpa [okD, isXd] using o)⟩
  | lst ds => obtain ⟨vs, e1, r⟩ := h; exact ⟨vs, hH _ e1, relDs_okS hp hs hm r (by simpa [okD, isXd] using o)⟩
  | fz ds =>
    obtain ⟨vs, e1, r⟩ := h
    refine ⟨vs, ?_, relDs_okS hp hs hm r (by simpa [okD, isXd] using o)⟩
    rcases e1 with e1 | ⟨o, e1⟩
    · exact .inl (hH _ e1)
    · exact .inr ⟨o, hH _ e1⟩
  | ins C ns ds => obtain ⟨dx, vs, e1, ln, r⟩ := h; exact ⟨dx, vs, hH _ e1, ln, relDs_okS hp hs hm r (by simpa [okD, isXd] using o)⟩
  | dic ks vs =>
    refine ⟨dicB_mono hs h.1, ?_⟩
    have h2 := h.2
    unfold DRep at h2 ⊢
    split at h2
    · obtain ⟨e0, ps, e1, e2, e3⟩ := h2
      refine ⟨e0, ps, hH _ e1, e2, fun pos cv hc => ?_⟩
      obtain ⟨c, c1, c2⟩ := e3 pos cv hc
      exact ⟨c, c1, hp _ _ c2 rfl⟩
    · exact hH _ h2
    · simp [okD, isXd] at o
    · obtain ⟨ws, e1, e2, e3⟩ := h2
      exact ⟨ws, hH _ e1, e2, relDs_okS hp hs hm e3 (by simpa [okD, isXd] using o)⟩
    · simp [okD, isXd] at o
    · simp [okD, isXd] at o
    · simp [okD, isXd] at o
    · exact h2
  | _ => exact h.elim
theorem mRep_okS (hp : ∀ a d, g.G a = some d → okD d = true → g'.G a = some d) (hs : g.sz ≤ g'.sz) (hm : ∀ n, n < g.sz → g'.m n = g.m n) {a : Addr} {x : AO} (h : MRep K g H a x) (hH : ∀ o, H a = some o → U a = some o) (o : okO x = true) : MRep K g' U a x := by
  cases x with
  | lst ds => obtain ⟨vs, e1, r⟩ := h; exact ⟨vs, hH _ e1, relDs_okS hp hs hm r o⟩
  | ins C ns ds => obtain ⟨dx, vs, e1, l, r⟩ := h; exact ⟨dx, vs, hH _ e1, l, relDs_okS hp hs hm r o⟩
  | dic ks ds => obtain ⟨kk, vs, e0, e1, l, r⟩ := h; exact ⟨kk, vs, e0, hH _ e1, l, relDs_okS hp hs hm r o⟩
  | gone => trivial
def Gh.inn (Gf : Addr → Option D) (g : Gh) (H : Hp) : Gh where
  G := Gf
  m := g.m
  sz := g.sz
  F := fun a => match Gf a with
    | some _ => none
    | none => match g.F a with
      | some o => some o
      | none => match g.G a with
        | some _ => H a
        | none => none
theorem inn_F {Gf : Addr → Option D} {a : Addr} {o : HO} : (Gh.inn Gf g H).F a = some o ↔ Gf a = none ∧ (g.F a = some o ∨ (g.F a = none ∧ (∃ y, g.G a = some y) ∧ H a = some o)) := by
  unfold Gh.inn
  simp only
  cases q : Gf a with
  | some d => simp
  | none =>
    simp only [true_and]
    cases q1 : g.F a with
    | some o' => simp
    | none =>
      simp only [reduceCtorEq, false_or, true_and]
      cases q2 : g.G a with
      | none => simp
      | some u => simp
theorem inn_rl {Gf : Addr → Option D} (l : Rl K g S H) (hp : ∀ a d, g.G a = some d → okD d = true → Gf a = some d) (oS : okS S = true) (h : ∀ a d, Gf a = some d → IRep K (Gh.inn Gf g U) U a d)
    (hS : ∀ (n : Nat) (o : AO), S[n]? = some o → o ≠ .gone → Gf (g.m n) = none ∧ ∀ u, H (g.m n) = some u → U (g.m n) = some u) (hF : ∀ a o, g.F a = some o → U a = some o) : Rl K (Gh.inn Gf g U) S U :=
  ⟨fun a d q => h a d q, fun n o q ho => ⟨(hS n o q ho).1, mRep_okS (g := g) (g' := Gh.inn Gf g U) hp (Nat.le_refl g.sz) (fun _ _ => rfl) (l.sto n o q ho).2 (hS n o q ho).2 (okS_at oS q)⟩, l.inj, l.sz, fun a o q => by
    obtain ⟨z1, z⟩ := inn_F.mp q
    rcases z with z | ⟨_, ⟨y, z2⟩, z3⟩
    · exact ⟨hF a o z, z1, (l.fr a o z).2.2⟩
    · refine ⟨z3, z1, fun n ob w ho e => ?_⟩
      have e : g.m n = a := e
      have := (l.sto n ob w ho).1
      rw [e, z2] at this; cases this⟩
def Gh.mrgS (g g1 : Gh) : Gh where
  G := fun a => match g.G a with
    | some e => some e
    | none => match g1.G a with
      | some e => if (okD e || isXd e) = true then some e else none
      | none => none
  m := g1.m
  sz := g1.sz
  F := g.F
theorem mrgS_old {a : Addr} {d : D} (h : g.G a = some d) : (g.mrgS g1).G a = some d := by
  show (match g.G a with | some e => some e | none => _) = _
  rw [h]
theorem mrgS_new {a : Addr} {d : D} (h : g.G a = none) (h1 : g1.G a = some d) (k : (okD d || isXd d) = true) : (g.mrgS g1).G a = some d := by
  show (match g.G a with | some e => some e | none => match g1.G a with | some e => if (okD e || isXd e) = true then some e else none | none => none) = _
  rw [h, h1]
  exact if_pos k
theorem mrgS_inv {a : Addr} {d : D} (h : (g.mrgS g1).G a = some d) : g.G a = some d ∨ (g.G a = none ∧ g1.G a = some d ∧ (okD d || isXd d) = true) := by
  have h' : (match g.G a with | some e => some e | none => match g1.G a with | some e => if (okD e || isXd e) = true then some e else none | none => none) = some d := h
  cases q : g.G a with
  | some e => rw [q] at h'; exact .inl h'
  | none =>
    rw [q] at h'
    cases q1 : g1.G a with
    | none => rw [q1] at h'; cases h'
    | some e =>
      rw [q1] at h'
      simp only at h'
      split at h'
      · rename_i k; cases h'; exact .inr ⟨rfl, rfl, k⟩
      · cases h'
theorem mrgS_ext (hs : g.sz ≤ g1.sz) (hm : ∀ n, n < g.sz → g1.m n = g.m n) : Ext g (g.mrgS g1) := ⟨fun a d h => mrgS_old h, hs, hm, rfl⟩
theorem mrgS_over (hsame : ∀ a y e, g.G a = some y → g1.G a = some e → okD e = true → y = e) : ∀ a d, g1.G a = some d → okD d = true → (g.mrgS g1).G a = some d := fun a d h o => by
  cases q : g.G a with
  | some y => rw [mrgS_old q, hsame a y d q h o]
  | none => exact mrgS_new q h (by rw [o]; rfl)
theorem mergeS (l : Rl K g S H) (l1 : Rl K g1 S1 H1) (hs : g.sz ≤ g1.sz) (hm : ∀ n, n < g.sz → g1.m n = g.m n) (oS : okS S1 = true) (hsame : ∀ a y e, g.G a = some y → g1.G a = some e → okD e = true → y = e)
    (hA : ∀ a d, g.G a = some d → (okD d = true ∧ g1.G a = some d ∧ U a = H1 a) ∨ (∃ o, H a = some o ∧ U a = some o) ∨ IRep K (g.mrgS g1) U a d)
    (hB : ∀ n o, S1[n]? = some o → o ≠ .gone → g.G (g1.m n) = none ∧ U (g1.m n) = H1 (g1.m n)) (hC : ∀ a o, g.F a = some o → U a = some o ∧ g1.G a = none ∧ ∀ (n : Nat) (ob : AO), S1[n]? = some ob → ob ≠ .gone → g1.m n ≠ a)
    (hN : ∀ a e, g.G a = none → g1.G a = some e → (okD e || isXd e) = true → U a = H1 a) : Rl K (g.mrgS g1) S1 U := by
  have over := mrgS_over hsame
  have x := mrgS_ext hs hm
  refine ⟨fun a d h => ?_, fun n o e ho => ?_, l1.inj, l1.sz, fun a o e => ?_⟩
  · rcases mrgS_inv h with h | ⟨h0, h1, k⟩
    · rcases hA a d h with ⟨o, z1, z2⟩ | ⟨o, z1, z2⟩ | z
      · exact iRep_okS over (Nat.le_refl _) (fun _ _ => rfl) (l1.imm a d z1) (fun u hu => by rw [z2]; exact hu) (by rw [o]; rfl)
      · exact (l.imm a d h).stay x fun u hu => by rw [z1] at hu; cases hu; exact z2
      · exact z
    · exact iRep_okS over (Nat.le_refl _) (fun _ _ => rfl) (l1.imm a d h1) (fun u hu => by rw [hN a d h0 h1 k]; exact hu) k
  · obtain ⟨m1, m2⟩ := l1.sto n o e ho
    obtain ⟨b1, b2⟩ := hB n o e ho
    refine ⟨?_, mRep_okS over (Nat.le_refl _) (fun _ _ => rfl) m2 (fun u hu => by have hu : H1 (g1.m n) = some u := hu; show U (g1.m n) = some u; rw [b2]; exact hu) (okS_at oS e)⟩
    show (g.mrgS g1).G (g1.m n) = none
    cases q : (g.mrgS g1).G (g1.m n) with
    | none => rfl
    | some d =>
      rcases mrgS_inv q with h | ⟨h0, h1, k⟩
      · rw [b1] at h; cases h
      · rw [m1] at h1; cases h1
  · obtain ⟨c1, c2, c3⟩ := hC a o e
    refine ⟨c1, ?_, c3⟩
    cases q : (g.mrgS g1).G a with
    | none => rfl
    | some d =>
      rcases mrgS_inv q with h | ⟨h0, h1, k⟩
      · have := (l.fr a o e).2.1
        rw [h] at this; cases this
      · rw [c2] at h1; cases h1
end
def lamS (fb : EF) (ds : List D) (S : Sto) : RF := if (okL ds && okS S) = true then (match fb (ds.map some) S with
  | .ok d _ S1 => if (okD d && okS S1) = true then .ok d S1 else .no
  | .er (.ins C ns es) _ S1 => if (okL es && okS S1) = true then .er (.ins C ns es) S1 else .no
  | _ => .no) else .no
section
variable {P : Program} {w : World} {K : PySem.W.Frag} {mg : Str → Option Value} {base : Heap} {lk : LamA} {i b : Int} {k : Nat} {fb : EF} {df : Option Str}
open Classical in
theorem run_lamS (ht : theLams i.toNat = some lk) (L : LamOk lk) (hbn : BindK lk df) (hbody : LamBody P w K mg base lk k fb) {A : Around} {outer : List PySem.Env} {s : Shared} {H : Hp} {g : Gh} {S : Sto} {f : Addr} {ds : List D} {Q : VK} {E : XK}
    (room : Room (k + 1) A) (e0 : Env0 P w K mg base A outer s H) (l : Rl K g S H) (gf : g.G f = some (clsD i b ds)) (p : PostF K g (lamS fb ds S) Q E) : codeAny (model P w) A (.call (.ref f) ⟨[], []⟩) (CR (CXU K P w) outer P w H s Q E) s := by
  -- the object
  obtain ⟨_, ⟨lk', pm, doc, c', ctv, dV, t1, t2, t3, t5, t4⟩, lk2, u1, u2, u3⟩ := l.imm f _ gf
  rw [ht] at t1; cases t1
  rw [ht] at u1; cases u1
  obtain ⟨hof, _, _⟩ := e0.hok f _ t3
  have hco := (l.imm c' _ t2).2
  have hco : H c' = some (LamX.CodeO c' lk.qual) := hco
  obtain ⟨⟨oc, cvs, ct, hoc, hdc, hvc⟩, _, _⟩ := e0.hok c' _ hco
  have pure_ : (okL ds && okS S) = true := by
    by_cases h : (okL ds && okS S) = true
    · exact h
    · unfold lamS at p
      rw [if_neg h] at p
      exact p.elim
  obtain ⟨po, oS⟩ := ba pure_
  -- its cells
  generalize hclo : cloFrom (lk.cells b.toNat) lk.scope.names [] = clo at t5 hof
  have hfr : ∀ y ∈ lk.scope.names, y.2 = .free → ∃ c, (lk.cells b.toNat).lookup y.1 = some c := fun y hy e => by
    obtain ⟨j, hj⟩ := List.getElem_of_mem (L.free y hy e)
    obtain ⟨hj1, hj2⟩ := hj
    obtain ⟨c, h1, _⟩ := u3 j y.1 ds[j] (by rw [List.getElem?_eq_getElem hj1, hj2]) (List.getElem?_eq_getElem (by rw [u2]; exact hj1))
    exact ⟨c, h1⟩
  have cellG : ∀ y c, clo.lookup y = some c → ∃ (j : Nat) (d : D), lk.frees[j]? = some y ∧ ds[j]? = some d ∧ g.G c = some (celD d) := fun y c e => by
    rw [← hclo] at e
    obtain ⟨h1, h2⟩ := clo_cells hfr e
    obtain ⟨j, hj1, hj2⟩ := List.getElem_of_mem (L.free _ h1 rfl)
    have hj3 : lk.frees[j]? = some y := by rw [List.getElem?_eq_getElem hj1, hj2]
    have hj4 : ds[j]? = some ds[j] := List.getElem?_eq_getElem (by rw [u2]; exact hj1)
    obtain ⟨c2, h3, h4⟩ := u3 j y ds[j] hj3 hj4
    rw [h2] at h3; cases h3
    exact ⟨j, _, hj3, hj4, h4⟩
  let Z : Addr → Prop := fun a => ∃ y, clo.lookup y = some a
  have Zst : ∀ {c}, Z c → ∃ o d, g.G c = some (celD d) ∧ H c = some (stillO o c) ∧ s.heap.get? c = some o ∧ ∃ u, o.data = .cell (some u) := fun {c} ⟨y, e⟩ => by
    obtain ⟨j, d, _, _, h⟩ := cellG y c e
    obtain ⟨_, o, u, v, z1, z2, z3, z4⟩ := l.imm c _ h
    exact ⟨o, d, h, z1, (e0.hok c _ z1).1, u, z2⟩
  let Hm : Hp := fun a => if Z a then none else H a
  have HmZ : ∀ {a}, Z a → Hm a = none := fun h => if_pos h
  have HmN : ∀ {a}, ¬ Z a → Hm a = H a := fun h => if_neg h
  have HmS : ∀ {a o}, Hm a = some o → H a = some o ∧ ¬ Z a := fun {a o} h => by
    by_cases z : Z a
    · rw [HmZ z] at h; cases h
    · rw [HmN z] at h; exact ⟨h, z⟩
  have Zfr : ∀ {c}, Z c → c ∉ frs outer := fun {c} z hm => by
    obtain ⟨o, d, _, h, _⟩ := Zst z
    rw [e0.frf c hm] at h; cases h
  have Zown : ∀ {c x}, H c = some (.own x) → ¬ Z c := fun {c x} h z => by
    obtain ⟨o, d, _, h2, _⟩ := Zst z
    rw [h] at h2; cases h2
  have Ztup : ∀ {c xs}, H c = some (.tup xs) → ¬ Z c := fun {c xs} h z => by
    obtain ⟨o, d, _, h2, _⟩ := Zst z
    rw [h] at h2; cases h2
  have e1 : Env0 P w K mg base A outer s Hm := ⟨e0.frames, e0.mod, fun b o e => ⟨(e0.bs b o e).1, by
      by_cases z : Z b
      · exact HmZ z
      · rw [HmN z]; exact (e0.bs b o e).2⟩, e0.bsz, e0.funs, fun b hb => by
      by_cases z : Z b
      · exact HmZ z
      · rw [HmN z]; exact e0.frf b hb, fun b o q => by
      obtain ⟨q1, _⟩ := HmS q
      exact (e0.hok b o q1).stay (fun c v _ q => q) (fun c q => by rw [HmN (Zown q)]; exact q) fun c xs q => by rw [HmN (Ztup q)]; exact q, e0.bare⟩
  -- within
  let G0 : Addr → Option D := fun a => match g.G a with
    | some d => if okD d = true then some d else none
    | none => none
  have G0i : ∀ {a d}, G0 a = some d ↔ g.G a = some d ∧ okD d = true := fun {a d} => by
    show (match g.G a with | some d => if okD d = true then some d else none | none => none) = some d ↔ _
    cases q : g.G a with
    | none => simp
    | some e =>
      simp only [Option.some.injEq]
      by_cases h : okD e = true
      · rw [if_pos h]
        simp only [Option.some.injEq]
        constructor
        · rintro rfl; exact ⟨rfl, h⟩
        · exact fun z => z.1
      · rw [if_neg h]
        simp only [reduceCtorEq, false_iff]
        rintro ⟨rfl, z1⟩
        exact h z1
  have nZ : ∀ {a d}, g.G a = some d → okD d = true → ¬ Z a := fun {a d} h o z => by
    obtain ⟨_, d', h2, _⟩ := Zst z
    rw [h] at h2; cases h2; cases o
  let gw : Gh := Gh.inn G0 g Hm
  have hp0 : ∀ a d, g.G a = some d → okD d = true → gw.G a = some d := fun a d h o => G0i.mpr ⟨h, o⟩
  have gF : ∀ {a o}, g.F a = some o → ¬ Z a := fun {a o} h z => by
    obtain ⟨_, d, h2, _⟩ := Zst z
    rw [(l.fr a o h).2.1] at h2; cases h2
  have sZ : ∀ {n o}, S[n]? = some o → o ≠ AO.gone → ¬ Z (g.m n) := fun {n o} e ho z => by
    obtain ⟨_, d, h2, _⟩ := Zst z
    rw [(l.sto n o e ho).1] at h2; cases h2
  have sG : ∀ {n o}, S[n]? = some o → o ≠ AO.gone → G0 (g.m n) = none := fun {n o} e ho => by
    cases q : G0 (g.m n) with
    | none => rfl
    | some d =>
      have := (G0i.mp q).1
      rw [(l.sto n o e ho).1] at this; cases this
  have lw : Rl K gw S Hm := inn_rl (Gf := G0) (U := Hm) l hp0 oS (fun a d h => by
    obtain ⟨h1, h3⟩ := G0i.mp h
    exact iRep_okS hp0 (Nat.le_refl _) (fun _ _ => rfl) (l.imm a d h1) (fun u hu => by rw [HmN (nZ h1 h3)]; exact hu) (by rw [h3]; rfl)) (fun n o e ho => ⟨sG e ho, fun u hu => by rw [HmN (sZ e ho)]; exact hu⟩) fun a o h => by rw [HmN (gF h)]; exact (l.fr a o h).1
  -- what it caught
  obtain ⟨vs, vl, vq⟩ := all_ex (P := fun j d v => ∀ y, lk.frees[j]? = some y → RelD K g d v ∧ ∃ c u, clo.lookup y = some c ∧ s.heap.IsCell c (some u) ∧ RelV v u) ds fun j d hd => by
    have hj : j < lk.frees.length := by rw [← u2]; exact (List.getElem?_eq_some_iff.mp hd).1
    obtain ⟨c, h1, h2⟩ := u3 j _ d (List.getElem?_eq_getElem hj) hd
    obtain ⟨_, o, u, v, z1, z2, z3, z4⟩ := l.imm c _ h2
    refine ⟨v, fun y hy => ?_⟩
    rw [List.getElem?_eq_getElem hj] at hy
    cases hy
    refine ⟨z4, c, u, ?_, ⟨o, (e0.hok c _ z1).1, z2⟩, z3⟩
    obtain ⟨c2, h3⟩ := mem_lookup (cloFrom_has (cells := lk.cells b.toNat) (acc := []) (PySem.mem_of_lookup (L.isfree _ (List.getElem_mem hj))))
    obtain ⟨_, h4⟩ := clo_cells hfr h3
    rw [h1] at h4; cases h4
    rw [← hclo]; exact h3
  have rds : RelDs K gw ds vs := relDs_of vl fun j d v h1 h2 => by
    have hj : j < lk.frees.length := by rw [← u2]; exact (List.getElem?_eq_some_iff.mp h1).1
    obtain ⟨z, _⟩ := vq j d v h1 h2 _ (List.getElem?_eq_getElem hj)
    exact relD_okS hp0 (Nat.le_refl _) (fun _ _ => rfl) z (okL_all.mp po d (List.mem_of_getElem? h1))
  -- what comes back
  have back : ∀ {g1 : Gh} {H1 : Hp} {S1 : Sto}, Ext gw g1 → Rl K g1 S1 H1 → okS S1 = true → (∀ c, Z c → H1 c = none) →
      Rl K (g.mrgS g1) S1 (fun a => if Z a then H a else H1 a) ∧ (∀ a d, g1.G a = some d → okD d = true → (g.mrgS g1).G a = some d) ∧ (∀ a y e, g.G a = some y → g1.G a = some e → y = e) ∧ Ext g (g.mrgS g1) := fun {g1 H1 S1} x l1 oS1 hz => by
    have noF : ∀ {a : Addr} {d : D}, g.G a = some d → g.F a = none := fun {a d} q => by
      cases w : g.F a with
      | none => rfl
      | some o => have := (l.fr a o w).2.1; rw [q] at this; cases this
    have old : ∀ {a d}, g.G a = some d → ¬ okD d = true → ¬ Z a → ∃ o, H a = some o ∧ g1.F a = some o := fun {a d} h n nz => by
      obtain ⟨o, ho⟩ := (l.imm a d h).some
      refine ⟨o, ho, ?_⟩
      rw [x.F]
      refine inn_F.mpr ⟨?_, .inr ⟨noF h, ⟨d, h⟩, by rw [HmN nz]; exact ho⟩⟩
      cases q : G0 a with
      | none => rfl
      | some e =>
        obtain ⟨z1, z2⟩ := G0i.mp q
        rw [h] at z1; cases z1
        exact absurd z2 n
    have hF1 : ∀ {a o}, g.F a = some o → g1.F a = some o := fun {a o} e => by
      rw [x.F]
      refine inn_F.mpr ⟨?_, .inl e⟩
      cases q : G0 a with
      | none => rfl
      | some y => have := (l.fr a o e).2.1; rw [(G0i.mp q).1] at this; cases this
    have hsame : ∀ a y e, g.G a = some y → g1.G a = some e → y = e := fun a y e h1 h2 => by
      by_cases n : okD y = true
      · have := x.G a y (G0i.mpr ⟨h1, n⟩)
        rw [h2] at this; cases this; rfl
      · by_cases z : Z a
        · obtain ⟨u, hu⟩ := (l1.imm a e h2).some
          rw [hz a z] at hu; cases hu
        · obtain ⟨u, _, hu⟩ := old h1 n z
          have := (l1.fr a u hu).2.1
          rw [h2] at this; cases this
    have hs : g.sz ≤ g1.sz := x.sz
    have hm : ∀ n, n < g.sz → g1.m n = g.m n := x.m
    refine ⟨mergeS l l1 hs hm oS1 (fun a y e h1 h2 _ => hsame a y e h1 h2) (fun a d h => ?_) (fun n o e ho => ?_) (fun a o e => ?_) (fun a e h0 h1 kp => ?_), mrgS_over (fun a y e h1 h2 _ => hsame a y e h1 h2), hsame, mrgS_ext hs hm⟩
    · by_cases n : okD d = true
      · exact .inl ⟨n, x.G a d (G0i.mpr ⟨h, n⟩), if_neg (nZ h n)⟩
      · refine .inr (.inl ?_)
        by_cases z : Z a
        · obtain ⟨o, ho⟩ := (l.imm a d h).some
          exact ⟨o, ho, (if_pos z).trans ho⟩
        · obtain ⟨u, h2, hu⟩ := old h n z
          exact ⟨u, h2, (if_neg z).trans (l1.fr a u hu).1⟩
    · obtain ⟨m1, m2⟩ := l1.sto n o e ho
      obtain ⟨u, hu⟩ := m2.some ho
      have nz : ¬ Z (g1.m n) := fun z => by rw [hz _ z] at hu; cases hu
      refine ⟨?_, if_neg nz⟩
      cases q : g.G (g1.m n) with
      | none => rfl
      | some y =>
        by_cases k : okD y = true
        · have := x.G _ y (G0i.mpr ⟨q, k⟩)
          rw [m1] at this; cases this
        · obtain ⟨u', _, hu'⟩ := old q k nz
          exact absurd rfl ((l1.fr _ u' hu').2.2 n o e ho)
    · have nz := gF e
      have f1 := l1.fr a o (hF1 e)
      exact ⟨(if_neg nz).trans f1.1, f1.2.1, f1.2.2⟩
    · have nz : ¬ Z a := fun z => by
        obtain ⟨_, d, h2, _⟩ := Zst z
        rw [h0] at h2; cases h2
      exact if_neg nz
  -- the run
  let Q2 : VK := fun v H1 => ∃ g1 d S1, lamS fb ds S = .ok d S1 ∧ okD d = true ∧ okS S1 = true ∧ Ext gw g1 ∧ Rl K g1 S1 H1 ∧ RelD K g1 d v
  let E2 : XK := fun cls od H1 => ∃ g1 C ns es S1, lamS fb ds S = .er (.ins C ns es) S1 ∧ okL es = true ∧ okS S1 = true ∧ Ext gw g1 ∧ Rl K g1 S1 H1 ∧ RelX K g1 H1 (.ins C ns es) cls od
  have td : TD K (wOf E2) (RelD K) fb (vs.map some) Hm Q2 := by
    refine ⟨gw, ds.map some, S, lw, renv_of rds, ?_⟩
    have p' := p
    have hlam : lamS fb ds S = (match fb (ds.map some) S with
      | .ok d _ S1 => if (okD d && okS S1) = true then RF.ok d S1 else .no
      | .er (.ins C ns es) _ S1 => if (okL es && okS S1) = true then .er (.ins C ns es) S1 else .no
      | _ => .no) := by
      unfold lamS
      rw [if_pos pure_]
    rw [hlam] at p'
    cases q : fb (ds.map some) S with
    | ok d r1 S1 =>
      rw [q] at p' hlam
      simp only at p' hlam
      by_cases o : (okD d && okS S1) = true
      · rw [if_pos o] at hlam
        obtain ⟨o1, o2⟩ := ba o
        exact fun g1 H1 v x l1 _ r => ⟨g1, d, S1, hlam, o1, o2, x, l1, r⟩
      · rw [if_neg o] at p'; exact p'.elim
    | er y r1 S1 =>
      rw [q] at p' hlam
      cases y with
      | ins C ns es =>
        simp only at p' hlam
        by_cases o : (okL es && okS S1) = true
        · rw [if_pos o] at hlam
          obtain ⟨o1, o2⟩ := ba o
          exact fun g1 H1 cls od x l1 _ r => ⟨g1, C, ns, es, S1, hlam, o1, o2, x, l1, r⟩
        · rw [if_neg o] at p'; exact p'.elim
      | _ => exact p'.elim
    | no => rw [q] at p'; exact p'.elim
  have inner : codeAny (model P w) A (.call (.ref f) ⟨[], []⟩) (CR (CXU K P w) outer P w Hm s Q2 E2) s := by
    subst hclo
    refine PySem.W.kla_callFunE room.depth hof rfl L.co L.gen rfl ⟨c', oc, cvs, ct, rfl, hoc, hdc, hvc⟩ ?_
    have hclok : ∀ y c, (cloFrom (lk.cells b.toNat) lk.scope.names []).lookup y = some c → Hm c = none ∧ ∃ v, s.heap.IsCell c v := fun y c e => by
      have z : Z c := ⟨y, e⟩
      obtain ⟨o, d, _, h1, h2, u, h3⟩ := Zst z
      exact ⟨HmZ z, some u, o, h2, h3⟩
    have go : ∀ binds : List (Str × Value), (∀ y ∈ binds, lk.scope.names.lookup y.1 = some .local) → wpAny (model P w) A.in1 (newFunctionEnv lk.scope mainGlobals (cloFrom (lk.cells b.toNat) lk.scope.names []) binds (lk.qual ++ ".<locals>.") (some f) (.ref c') none builtinsNs)
        (fun env s₂ => s₂.heap.NoLimit ∧ codeAny (model P w) A (.expr lk.body env) (CR (CXU K P w) outer P w Hm s Q2 E2) s₂) (fun e s' => CR (CXU K P w) outer P w Hm s Q2 E2 (.error e) s') s := fun binds hloc => by
      refine wpAny_newFunctionEnv L.nocell hloc (fun h₁ hns hsb => ⟨(e0.mod.nolimit.keeps fun b o e => (e0.bs b o e).1).fresh _ hsb, ?_⟩) L.kind
      show codeAny _ _ (.expr lk.body (lamE lk b.toNat s.heap.objs.size f c')) _ _
      have kp : ∀ b o, s.heap.get? b = some o → h₁.get? b = some o := fun b o e => hsb.extBut b o (Nat.ne_of_lt (Heap.lt_size e)) (Heap.get?_push_of_some _ e)
      have J : Inv (lamCxU P w K mg base lk b.toNat f c' A outer s Hm E2) [] (vs.map some) Hm { s with heap := h₁, toks := s.toks + binds.length } :=
        lam_startU L e1 room.hd hfr t5 (by rw [vl, u2]) (fun j y v h1 h2 => by
          have hj : j < ds.length := by rw [u2]; exact (List.getElem?_eq_some_iff.mp h1).1
          exact (vq j _ v (List.getElem?_eq_getElem hj) h2 y h1).2) hclok hns kp
      refine PySem.W.kla_codeExpr (wpAny_mono ((hbody b.toNat f c' A outer s Hm E2 (room.deeper _) (tk_of rfl rfl rfl rfl)).run [] _ _ Hm Q2 J td) (fun v s' hq => ?_) fun e s' hq => hq)
      obtain ⟨w', H', J', rv, q⟩ := hq
      exact ⟨w', H', J'.os, J'.bare, J'.base, J'.hok, rv, q⟩
    cases df with
    | none =>
      obtain ⟨hd, hbd⟩ := hbn
      have hdV : dV = .none := by
        rcases t4 with ⟨_, z⟩ | ⟨z, _⟩
        · exact z
        · exact absurd hd z
      subst hdV
      rw [hbd]
      exact wpAny_pure (go [] (by simp))
    | some x =>
      obtain ⟨hd, hx, hbd⟩ := hbn
      rcases t4 with ⟨z, _⟩ | ⟨_, td, rfl, z2⟩
      · exact absurd z hd
      · obtain ⟨tvs, h1, h2⟩ := l.imm td _ z2
        obtain ⟨_, its, h3, o, h4, h5, n, h6⟩ := e0.hok td _ h1
        cases h2 with
        | cons r1 r2 =>
          cases r2
          cases h3 with
          | cons q1 q2 =>
            cases q2
            cases r1
            obtain ⟨t, rfl⟩ := q1
            refine hbd s _ pm doc (.ref c') ctv td o n t h4 h6 _ _ _ _ ?_
            exact go [(x, .int 0 t)] (fun y hy => by cases List.mem_singleton.mp hy; exact hx)
  refine codeAny_mono inner fun r s' hq => ?_
  cases r with
  | error e =>
    have core : ∀ (a : Addr) (B : Heap) (H1 : Hp) (cls : Value) (od : Option Addr), B.get? a = none → HOk P w H1 B → UB (frs outer) Hm H1 s.heap B s'.heap → H1 a = none → E2 cls od H1 →
        ∃ H2, HOk P w H2 B ∧ UB (frs outer) H H2 s.heap B s'.heap ∧ H2 a = none ∧ E cls od H2 := by
      rintro a B H1 cls od fn hok ub na ⟨g1, C, ns, es, S1, hx, o, oS1, x, l1, rx⟩
      have hz : ∀ c, Z c → H1 c = none := fun c z => by
        obtain ⟨o, d, _, _, h2, _⟩ := Zst z
        exact ub.free c o h2 (HmZ z)
      obtain ⟨lm, over, same, xx⟩ := back x l1 oS1 hz
      rw [hx] at p
      refine ⟨_, fun b o q => ?_, ⟨fun b o q n hb => ?_, ub.slot, fun b o q n => ?_, ub.there, fun b xs q => ?_, fun b o xs q => ?_, fun b ps q => ?_⟩, ?_, p _ _ cls od xx lm ?_⟩
      · by_cases z : Z b
        · have q' : H b = some o := (if_pos z).symm.trans q
          obtain ⟨ob, d, _, h1, h2, _⟩ := Zst z
          rw [h1] at q'; cases q'
          have hB := ub.keep b ob h2 (HmZ z) (Zfr z)
          exact ⟨hB, ⟨_, hB⟩, ⟨_, hB⟩, fun h1 h2 ⟨o, z⟩ k => ⟨o, k o z⟩⟩
        · have q' : H1 b = some o := (if_neg z).symm.trans q
          exact (hok b o q').stay (fun c v _ q => q) (fun c q => by
            have nz : ¬ Z c := fun z => by rw [hz c z] at q; cases q
            exact (if_neg nz).trans q) fun c xs q => by
            have nz : ¬ Z c := fun z => by rw [hz c z] at q; cases q
            exact (if_neg nz).trans q
      · have nz : ¬ Z b := fun z => by
          obtain ⟨_, _, _, h, _⟩ := Zst z
          rw [n] at h; cases h
        exact ub.keep b o q (by rw [HmN nz]; exact n) hb
      · have nz : ¬ Z b := fun z => by
          obtain ⟨_, _, _, h, _⟩ := Zst z
          rw [n] at h; cases h
        exact (if_neg nz).trans (ub.free b o q (by rw [HmN nz]; exact n))
      · have nz := Ztup q
        exact (if_neg nz).trans (ub.tups b xs (by rw [HmN nz]; exact q))
      · by_cases z : Z b
        · exact (if_pos z).trans q
        · exact (if_neg z).trans (ub.frzs b o xs (by rw [HmN z]; exact q))
      · have nz : ¬ Z b := fun z => by
          obtain ⟨_, _, _, h, _⟩ := Zst z
          rw [q] at h; cases h
        obtain ⟨m, h⟩ := ub.tbls b ps (by rw [HmN nz]; exact q)
        exact ⟨m, (if_neg nz).trans h⟩
      · have nz : ¬ Z a := fun z => by
          obtain ⟨o, _, _, _, h2, _⟩ := Zst z
          have := ub.keep a o h2 (HmZ z) (Zfr z)
          rw [fn] at this; cases this
        exact (if_neg nz).trans na
      · obtain ⟨C', ns', es', dx, z1, z2, z3, z4⟩ := rx
        cases z1
        refine ⟨C, ns, es, dx, rfl, z2, z3, ?_⟩
        have hk : (okD (xdD C ns es) || isXd (xdD C ns es)) = true := by simp [xdD, isXd, o]
        cases w : g.G dx with
        | none => exact mrgS_new w z4 hk
        | some y => rw [mrgS_old w, same dx y _ w z4]
    rcases hq with ⟨a, B, H1, cls, od, rfl, fl, hok, ub, na, os, bare, e2⟩ | ⟨a, B, H1, cls, od, rfl, fl, hok, ub, na, os, bare, h0, e2⟩
    · obtain ⟨H2, k1, k2, k3, k4⟩ := core a B H1 cls od fl.2.1 hok ub na e2
      exact .inl ⟨a, B, H2, cls, od, rfl, fl, k1, k2, k3, os, bare, k4⟩
    · obtain ⟨H2, k1, k2, k3, k4⟩ := core a B H1 cls od fl.2.1 hok ub na e2
      exact .inr ⟨a, B, H2, cls, od, rfl, fl, k1, k2, k3, os, bare, h0, k4⟩
  | ok fl =>
    cases fl with
    | ret u =>
      obtain ⟨v, H1, os, bare, un, hok, rv, g1, d, S1, hd, o, oS1, x, l1, rd⟩ := hq
      have hz : ∀ c, Z c → H1 c = none := fun c z => by
        obtain ⟨o, d, _, _, h2, _⟩ := Zst z
        exact un.free c o h2 (HmZ z) (by simp)
      obtain ⟨lm, over, same, xx⟩ := back x l1 oS1 hz
      rw [hd] at p
      refine ⟨v, _, os, bare, ⟨fun b o q n hb _ => ?_, fun b o q n hb _ => ?_, fun b o q n _ => ?_, fun b o q _ => un.there b o q (by simp), fun b xs q => ?_, fun b o xs q => ?_, fun b ps q => ?_⟩, fun b o q => ?_, rv, p _ _ v xx lm (relD_okS over (Nat.le_refl _) (fun _ _ => rfl) rd o)⟩
      · have nz : ¬ Z b := fun z => by
          obtain ⟨_, _, _, h, _⟩ := Zst z
          rw [n] at h; cases h
        exact un.keep b o q (by rw [HmN nz]; exact n) hb (by simp)
      · have nz : ¬ Z b := fun z => by
          obtain ⟨_, _, _, h, _⟩ := Zst z
          rw [n] at h; cases h
        exact un.slot b o q (by rw [HmN nz]; exact n) hb (by simp)
      · have nz : ¬ Z b := fun z => by
          obtain ⟨_, _, _, h, _⟩ := Zst z
          rw [n] at h; cases h
        exact (if_neg nz).trans (un.free b o q (by rw [HmN nz]; exact n) (by simp))
      · have nz := Ztup q
        exact (if_neg nz).trans (un.tups b xs (by rw [HmN nz]; exact q))
      · by_cases z : Z b
        · exact (if_pos z).trans q
        · exact (if_neg z).trans (un.frzs b o xs (by rw [HmN z]; exact q))
      · have nz : ¬ Z b := fun z => by
          obtain ⟨_, _, _, h, _⟩ := Zst z
          rw [q] at h; cases h
        obtain ⟨m, h⟩ := un.tbls b ps (by rw [HmN nz]; exact q)
        exact ⟨m, (if_neg nz).trans h⟩
      · by_cases z : Z b
        · have q' : H b = some o := (if_pos z).symm.trans q
          obtain ⟨ob, d, _, h1, h2, _⟩ := Zst z
          rw [h1] at q'; cases q'
          have hB := un.keep b ob h2 (HmZ z) (Zfr z) (by simp)
          exact ⟨hB, ⟨_, hB⟩, ⟨_, hB⟩, fun h1 h2 ⟨o, z⟩ k => ⟨o, k o z⟩⟩
        · have q' : H1 b = some o := (if_neg z).symm.trans q
          exact (hok b o q').stay (fun c v _ q => q) (fun c q => by
            have nz : ¬ Z c := fun z => by rw [hz c z] at q; cases q
            exact (if_neg nz).trans q) fun c xs q => by
            have nz : ¬ Z c := fun z => by rw [hz c z] at q; cases q
            exact (if_neg nz).trans q
    | next => exact False.elim hq
    | brk => exact False.elim hq
    | cont => exact False.elim hq
end
def eLamS (T : Nat → Option EF) (j : Nat) : EF := fun r S => match r[j]? with
  | some (some (.dic [.int i, .int _, .non] ds)) => (match T i.toNat with
    | some fb => (lamS fb ds S).run r
    | none => .no)
  | _ => .no
section
variable {X : Cx} {W : WX} {a : Str} {j k : Nat} {T : Nat → Option EF} {p1 p2 : Pos}
theorem se_lamS (hT : LamT X.prog X.w X.K X.mg X.base k T) (hr : Room (k + 1) X.A) (tk : Tk X W) (hN : X.N[j]? = some a := by rfl) (hv : Vis X.env.scope a := by first | exact Or.inl rfl | exact Or.inr (Or.inl rfl) | exact Or.inr (Or.inr rfl)) (hd : (a == ("__debug__" : Str)) = false := by decide) (hcd : (a == ("__classdict__" : Str)) = false := by decide) :
    SE X W (.Call (.Name a p1) [] [] p2) (eLamS T j) := by
  refine ⟨fun pins s σ H Q I h => ?_⟩
  obtain ⟨g, r, S, l, e, p⟩ := h
  unfold eLamS at p
  split at p
  · rename_i i b ds hj
    split at p
    · rename_i fb hfb
      obtain ⟨lk, df, ht, L, hbn, hbody⟩ := hT.ok _ _ hfb
      obtain ⟨v, hv1, rv⟩ := e.2 j _ hj
      obtain ⟨_, f, rfl, gf⟩ := rv
      refine wpAny_Call_Name_kw (thn ((pe_var (pos := p1) (i := j) hN hv hd hcd).run pins s σ H (fun v H1 => v = .ref f ∧ H1 = H) I ⟨.ref f, hv1, rfl, rfl⟩) fun u s1 ⟨v, H1, I1, r1, q1⟩ => ?_)
      obtain ⟨ev, eH⟩ := q1
      subst ev
      rw [eH] at I1
      obtain rfl : u = Value.ref f := r1
      obtain ⟨_, ⟨lk', pm, doc, c', ctv, dV, t1, t2, t3, t5, t4⟩, _⟩ := l.imm f _ gf
      obtain ⟨hof, _, _⟩ := I1.hok f _ t3
      refine PySem.W.callWith_F0 ⟨_, _, _, _, hof⟩ ?_
      have pf : PostF X.K g (lamS fb ds S) Q (fun cls od H => W cls od σ H) := by
        cases q : lamS fb ds S with
        | ok d S1 => rw [q] at p; exact fun g' H' v x' l' r' => p g' H' v x' l' (e.mono x') r'
        | er d S1 => rw [q] at p; exact fun g' H' cls od x' l' r' => p g' H' cls od x' l' (e.mono x') r'
        | no => rw [q] at p; exact p.elim
      refine wpAny_call (codeAny_mono (run_lamS ht L hbn hbody hr I1.env0 l gf pf) fun r s' hq => ?_)
      cases r with
      | error e => exact passAtU tk σ pins H s1 e s' I1 hq
      | ok fl =>
        cases fl with
        | ret u => exact I1.after hq
        | next => exact False.elim hq
        | brk => exact False.elim hq
        | cont => exact False.elim hq
    · exact p.elim
  · exact p.elim
end
open PySem PySem.Spec PyProof.Rows He
def capBS (slots : Nat → List Nat) (r : Env) (i : Int) : Bool := (slots i.toNat).all (fun t => ((r[t]?).join).isSome) && okL (capD slots r i)
def capArgS (slots : Nat → List Nat) (r : Env) (b : Nat) (d : D) : Option (List Int × D) := match lamIx b d with
  | some i => some ([i], clsD i b (capD slots r i))
  | none => match d with
    | .lst xs => (match lamIxs b xs with
      | some (i :: is) => some (i :: is, .fz (clsL slots r b (i :: is)))
      | _ => none)
    | _ => none
def eCallLS (n : Nat) (m : MF) (slots : Nat → List Nat) (b : Nat) (fs : AF) : EF := fun r S => (fs r S).bind fun ds r S => match ds with
  | [d] => (match capArgS slots r b d with
    | some (is, d') => if n = 1 ∧ (is.all (capBS slots r) = true ∧ okS S = true) then (match m [d'] S with
      | .ok x S1 => if (okD x && okS S1) = true then .ok x r S1 else .no
      | _ => .no) else .no
    | none => .no)
  | _ => .no
section
variable {X : Cx} {pins : List (Addr × Obj)} {σ : St} {H : Hp} {s : Shared} {g : Gh} {r : Env} {S : Sto} {slots : Nat → List Nat} {b : Nat} {cells : List (Str × Addr)}
open Classical in
theorem run_callLS {k : Nat} {f : Addr} {fd : FuncData} {ps : List Str} {m : MF} {us : List Value} {v : V} {d d' : D} {is : List Int} {x : D} {S1 : Sto} {Q : VK} (F : FnU X.prog X.w X.K X.mg X.base k f fd ps m) (hr : Room k X.A) (hb : Binds X.K fd ps []) (hps : ps.length = 1) (M : MkS X slots b cells σ H s)
    (I : Inv X pins σ H s) (l : Rl X.K g S H) (en : REnv X.K g r σ) (rv : RelD X.K g d v) (ru : Vals [v] us) (hc : capArgS slots r b d = some (is, d')) (hcap : is.all (capBS slots r) = true) (oS : okS S = true) (hm : m [d'] S = .ok x S1) (ho : okD x = true) (oS1 : okS S1 = true)
    (q : ∀ g' H' y, Ext g g' → Rl X.K g' S1 H' → RelD X.K g' x y → Q y H') : wpAny (model X.prog X.w) X.A (call (.ref f) us) (EP X pins σ Q) X.xe s := by
  -- the cells that are caught
  let Zj : Nat → Prop := fun t => ∃ i ∈ is, t ∈ slots i.toNat
  let Z : Addr → Prop := fun c => ∃ t y, Zj t ∧ X.N[t]? = some y ∧ cells.lookup y = some c
  have caps : ∀ i ∈ is, (slots i.toNat).all (fun t => ((r[t]?).join).isSome) = true ∧ okL (capD slots r i) = true := fun i hi => ba (List.all_eq_true.mp hcap i hi)
  have Zd : ∀ t, Zj t → ∃ d, r[t]? = some (some d) ∧ okD d = true := fun t ⟨i, hi, ht⟩ => by
    obtain ⟨h1, h3⟩ := caps i hi
    obtain ⟨c1, c2⟩ := capD_get h1
    obtain ⟨j, hj1, hj2⟩ := List.getElem_of_mem ht
    have hj3 : (slots i.toNat)[j]? = some t := by rw [List.getElem?_eq_getElem hj1, hj2]
    have hj4 : (capD slots r i)[j]? = some (capD slots r i)[j] := List.getElem?_eq_getElem (by rw [c1]; exact hj1)
    exact ⟨_, c2 j t _ hj3 hj4, okL_all.mp h3 _ (List.mem_of_getElem? hj4)⟩
  have bcap : ∀ i ∈ is, bndL g.sz (capD slots r i) = true := fun i hi => by
    obtain ⟨h1, h3⟩ := caps i hi
    obtain ⟨c1, c2⟩ := capD_get h1
    refine bndL_all.mpr fun d hd => ?_
    obtain ⟨j, hj1, hj2⟩ := List.getElem_of_mem hd
    have hj3 : (slots i.toNat)[j]? = some (slots i.toNat)[j] := List.getElem?_eq_getElem (by rw [← c1]; exact hj1)
    have hj4 : (capD slots r i)[j]? = some d := by rw [List.getElem?_eq_getElem hj1, hj2]
    obtain ⟨w, _, rw'⟩ := en.2 _ d (c2 j _ _ hj3 hj4)
    exact rw'.bnd
  have Zc : ∀ {c}, Z c → H c = none ∧ ∃ t o u w d, Zj t ∧ (∀ t' y', X.N[t']? = some y' → cells.lookup y' = some c → t' = t) ∧ s.heap.get? c = some o ∧ o.data = .cell (some u) ∧ RelV w u ∧ r[t]? = some (some d) ∧ okD d = true ∧ RelD X.K g d w := fun {c} ⟨t, y, hz, hN, hl⟩ => by
    obtain ⟨d, h1, h3⟩ := Zd t hz
    obtain ⟨w, hw, rw'⟩ := en.2 t d h1
    obtain ⟨i, hi, ht⟩ := hz
    obtain ⟨hn, o, u, h5, h6, ru'⟩ := M.val i.toNat t y c w ht hN hl hw
    refine ⟨hn, t, o, u, w, d, ⟨i, hi, ht⟩, fun t' y' h7 h8 => ?_, h5, h6, ru', h1, h3, rw'⟩
    have := M.inj y' y c h8 hl
    subst this
    exact nodup_ix M.nd h7 hN
  have ZH : ∀ {c}, Z c → H c = none := fun z => (Zc z).1
  have Zsz : ∀ {c}, Z c → X.base.objs.size ≤ c := fun {c} ⟨t, y, _, _, hl⟩ => M.sz y c hl
  have Zfr : ∀ {c}, Z c → c ∉ frs X.stack := fun {c} ⟨t, y, _, _, hl⟩ hm => M.fr y c hl hm
  -- the argument
  obtain ⟨La, hLa, hrel⟩ : ∃ La : Option (Addr × List V), (∀ a vs, La = some (a, vs) → H a = some (.lst vs) ∧ RelDs X.K g (is.map fun i => lamD i b) vs ∧ is ≠ [] ∧ g.G a = some (.lst (is.map fun i => lamD i b)) ∧ g.F a = none) ∧
      ∀ gw : Gh, gw.sz = g.sz → (∀ i ∈ is, ∀ a, g.G a = some (lamD i b) → gw.G a = some (clsD i b (capD slots r i))) → (∀ a vs, La = some (a, vs) → gw.G a = some (.fz (clsL slots r b is))) → RelD X.K gw d' v := by
    unfold capArgS at hc
    split at hc
    · rename_i i hi
      cases hc
      have hd := lamIx_some hi
      subst hd
      refine ⟨none, (fun a vs h => by cases h), fun gw hz h1 _ => ?_⟩
      obtain ⟨_, a, rfl, ga⟩ := rv
      have := bcap i (List.mem_singleton_self _)
      exact ⟨by rw [hz]; simp [bndL, bnd, this], a, rfl, h1 i (List.mem_singleton_self _) a ga⟩
    · split at hc
      · rename_i xs
        split at hc
        · rename_i i is' hi
          cases hc
          have hd := lamIxs_some hi
          subst hd
          obtain ⟨_, a, rfl, ga⟩ := rv
          obtain ⟨vs, ha, rs⟩ := l.imm a _ ga
          have bl : bndL g.sz (clsL slots r b (i :: is')) = true := bndL_all.mpr fun x hx => by
            obtain ⟨i', hi', rfl⟩ := List.mem_map.mp hx
            have := bcap i' hi'
            simp [clsD, bnd, bndL, this]
          have hF : g.F a = none := by
            cases w : g.F a with
            | none => rfl
            | some o => have := (l.fr a o w).2.1; rw [ga] at this; cases this
          refine ⟨some (a, vs), (fun a' vs' h => by cases h; exact ⟨ha, rs, by simp, ga, hF⟩), fun gw hz _ h2 => ?_⟩
          exact ⟨by rw [hz]; exact bl, a, rfl, .inl (h2 a vs rfl)⟩
        · cases hc
      · cases hc
  let isLa : Addr → Prop := fun a => ∃ vs, La = some (a, vs)
  have laZ : ∀ {a}, isLa a → ¬ Z a := fun {a} ⟨vs, h⟩ z => by
    have := (hLa a vs h).1
    rw [ZH z] at this; cases this
  let obj : Addr → Obj := fun a => match s.heap.get? a with | some o => o | none => { cls := .none, data := .plain }
  have objE : ∀ {a o}, s.heap.get? a = some o → obj a = o := fun {a o} h => by show (match s.heap.get? a with | some o => o | none => _) = o; rw [h]
  let Hf : Hp := fun a => if Z a then some (stillO (obj a) a) else if isLa a then (H a).map (fun u => .frz (obj a) u) else H a
  have HfZ : ∀ {a}, Z a → Hf a = some (stillO (obj a) a) ∧ s.heap.get? a = some (obj a) := fun {a} z => by
    obtain ⟨_, t, o, u, w, d, _, _, h, _⟩ := Zc z
    exact ⟨if_pos z, by rw [objE h]; exact h⟩
  have HfL : ∀ {a}, isLa a → ∃ vs, La = some (a, vs) ∧ H a = some (.lst vs) ∧ Hf a = some (.frz (obj a) (.lst vs)) ∧ s.heap.get? a = some (obj a) := fun {a} z => by
    obtain ⟨vs, h⟩ := id z
    have h1 := (hLa a vs h).1
    obtain ⟨_, its, n, _, h2⟩ := I.hok a _ h1
    refine ⟨vs, h, h1, ?_, by rw [objE h2]; exact h2⟩
    show (if Z a then _ else if isLa a then (H a).map (fun u => HO.frz (obj a) u) else H a) = _
    rw [if_neg (laZ z), if_pos z, h1]; rfl
  have HfN : ∀ {a}, ¬ Z a → ¬ isLa a → Hf a = H a := fun {a} h1 h2 => by
    show (if Z a then _ else if isLa a then (H a).map (fun u => HO.frz (obj a) u) else H a) = _
    rw [if_neg h1, if_neg h2]
  -- its knowledge
  let Gf : Addr → Option D := fun a => if Z a then (if h : ∃ d, ∃ t, Zj t ∧ (∃ y, X.N[t]? = some y ∧ cells.lookup y = some a) ∧ r[t]? = some (some d) then some (celD h.choose) else none) else if isLa a then some (.fz (clsL slots r b is)) else match g.G a with
    | some d => if okD d = true then some d else match lamIx b d with
      | some i => if i ∈ is then some (clsD i b (capD slots r i)) else none
      | none => none
    | none => none
  have GfZ : ∀ {a}, Z a → ∃ t o u w d, Gf a = some (celD d) ∧ Hf a = some (stillO o a) ∧ o.data = .cell (some u) ∧ RelV w u ∧ Zj t ∧ (∃ y, X.N[t]? = some y ∧ cells.lookup y = some a) ∧ r[t]? = some (some d) ∧ okD d = true ∧ RelD X.K g d w := fun {a} z => by
    obtain ⟨_, t, o, u, w, d, h1, h2, h3, h4, h5, h6, h8, h9⟩ := Zc z
    obtain ⟨t0, y0, z1, z2, z3⟩ := id z
    have e0 := h2 t0 y0 z2 z3
    subst e0
    have hex : ∃ d, ∃ t, Zj t ∧ (∃ y, X.N[t]? = some y ∧ cells.lookup y = some a) ∧ r[t]? = some (some d) := ⟨d, t0, z1, ⟨y0, z2, z3⟩, h6⟩
    have hch : hex.choose = d := by
      obtain ⟨t', z4, ⟨y', z5, z6⟩, z7⟩ := hex.choose_spec
      have := h2 t' y' z5 z6
      subst this
      rw [h6] at z7
      exact (Option.some.inj (Option.some.inj z7)).symm
    refine ⟨t0, o, u, w, d, ?_, ?_, h4, h5, z1, ⟨y0, z2, z3⟩, h6, h8, h9⟩
    · show (if Z a then (if h : ∃ d, ∃ t, Zj t ∧ (∃ y, X.N[t]? = some y ∧ cells.lookup y = some a) ∧ r[t]? = some (some d) then some (celD h.choose) else none) else _) = _
      rw [if_pos z, dif_pos hex, hch]
    · rw [(HfZ z).1, objE h3]
  have GfL : ∀ {a}, isLa a → Gf a = some (.fz (clsL slots r b is)) := fun {a} z => by
    show (if Z a then _ else if isLa a then some (D.fz (clsL slots r b is)) else _) = _
    rw [if_neg (laZ z), if_pos z]
  have GfN : ∀ {a}, ¬ Z a → ¬ isLa a → Gf a = match g.G a with
    | some d => if okD d = true then some d else match lamIx b d with
      | some i => if i ∈ is then some (clsD i b (capD slots r i)) else none
      | none => none
    | none => none := fun {a} h1 h2 => by
    show (if Z a then _ else if isLa a then _ else _) = _
    rw [if_neg h1, if_neg h2]
  have ZG : ∀ {a d}, g.G a = some d → ¬ Z a := fun {a d} h z => by
    obtain ⟨o, ho⟩ := (l.imm a d h).some
    rw [ZH z] at ho; cases ho
  have laG : ∀ {a d}, g.G a = some d → isLa a → okD d = false ∧ lamIx b d = none := fun {a d} h ⟨vs, e⟩ => by
    obtain ⟨_, _, h3, h4, _⟩ := hLa a vs e
    rw [h] at h4; cases h4
    cases is with
    | nil => exact absurd rfl h3
    | cons i is => exact ⟨rfl, rfl⟩
  have GfO : ∀ {a d}, g.G a = some d → okD d = true → Gf a = some d := fun {a d} h h2 => by
    have nl : ¬ isLa a := fun z => by have := (laG h z).1; rw [h2] at this; cases this
    rw [GfN (ZG h) nl, h]
    simp only [h2, if_true]
  have GfC : ∀ {a i}, g.G a = some (lamD i b) → i ∈ is → Gf a = some (clsD i b (capD slots r i)) := fun {a i} h hi => by
    have nl : ¬ isLa a := fun z => by
      have := (laG h z).2
      simp [lamIx, lamD] at this
    rw [GfN (ZG h) nl, h]
    have e1 : okD (lamD i b) = false := rfl
    have e2 : lamIx b (lamD i b) = some i := by simp [lamIx, lamD]
    simp only [e1, e2, Bool.false_eq_true, if_false, if_pos hi]
  have Gfi : ∀ {a e}, Gf a = some e → Z a ∨ isLa a ∨ (g.G a = some e ∧ okD e = true) ∨ ∃ i, i ∈ is ∧ g.G a = some (lamD i b) ∧ e = clsD i b (capD slots r i) := fun {a e} h => by
    by_cases z : Z a
    · exact .inl z
    · by_cases z2 : isLa a
      · exact .inr (.inl z2)
      · rw [GfN z z2] at h
        split at h
        · rename_i d hd
          split at h
          · rename_i k; cases h; exact .inr (.inr (.inl ⟨hd, k⟩))
          · split at h
            · rename_i i hi
              split at h
              · rename_i hm; cases h; rw [lamIx_some hi] at hd; exact .inr (.inr (.inr ⟨i, hm, hd, rfl⟩))
              · cases h
            · cases h
        · cases h
  let gw : Gh := Gh.inn Gf g Hf
  have hp0 : ∀ a d, g.G a = some d → okD d = true → gw.G a = some d := fun a d h h2 => GfO h h2
  have HfG : ∀ {a d}, g.G a = some d → ¬ isLa a → ∀ o, H a = some o → Hf a = some o := fun {a d} h nl o ho => by rw [HfN (ZG h) nl]; exact ho
  have okLa : ∀ {a d}, g.G a = some d → okD d = true → ¬ isLa a := fun {a d} h h2 z => by have := (laG h z).1; rw [h2] at this; cases this
  have lamLa : ∀ {a i}, g.G a = some (lamD i b) → ¬ isLa a := fun {a i} h z => by
    have := (laG h z).2
    simp [lamIx, lamD] at this
  have stZ : ∀ {n o}, S[n]? = some o → o ≠ AO.gone → ¬ Z (g.m n) := fun {n o} e hn z => by
    obtain ⟨u, hu⟩ := (l.sto n o e hn).2.some hn
    rw [ZH z] at hu; cases hu
  have stL : ∀ {n o}, S[n]? = some o → o ≠ AO.gone → ¬ isLa (g.m n) := fun {n o} e hn ⟨vs, z⟩ => by
    have := (hLa _ vs z).2.2.2.1
    rw [(l.sto n o e hn).1] at this; cases this
  have lw : Rl X.K gw S Hf := inn_rl (Gf := Gf) (U := Hf) l hp0 oS (fun a e h => by
    rcases Gfi h with z | z | ⟨h1, h3⟩ | ⟨i, hi, h1, rfl⟩
    · obtain ⟨t, o, u, w, d, g1, g2, g3, g4, _, _, _, g6, g7⟩ := GfZ z
      rw [h] at g1; cases g1
      exact ⟨by have := g7.bnd; show (true && bndL g.sz [d]) = true; simp [bndL, this], o, u, w, g2, g3, g4, relD_okS hp0 (Nat.le_refl _) (fun _ _ => rfl) g7 g6⟩
    · rw [GfL z] at h; cases h
      obtain ⟨vs, e1, e2, e3, e4⟩ := HfL z
      obtain ⟨_, rs, _, _, _⟩ := hLa a vs e1
      refine ⟨vs, .inr ⟨_, e3⟩, ?_⟩
      have go : ∀ (js : List Int) (ws : List V), (∀ i ∈ js, i ∈ is) → RelDs X.K g (js.map fun i => lamD i b) ws → RelDs X.K gw (clsL slots r b js) ws := by
        intro js
        induction js with
        | nil => intro ws _ q; cases q; exact .nil
        | cons i js ih =>
          intro ws hj q
          cases q with
          | cons q1 q2 =>
            obtain ⟨_, a', rfl, ga⟩ := q1
            have hi := hj i (List.mem_cons_self ..)
            exact .cons ⟨by have := bcap i hi; show (bndL g.sz _ && bndL g.sz _) = true; simp [bndL, bnd, this], a', rfl, GfC ga hi⟩ (ih _ (fun i hi => hj i (List.mem_cons_of_mem _ hi)) q2)
      exact go is vs (fun _ h => h) rs
    · exact iRep_okS hp0 (Nat.le_refl _) (fun _ _ => rfl) (l.imm a e h1) (fun u hu => HfG h1 (okLa h1 h3) u hu) (by rw [h3]; rfl)
    · obtain ⟨_, hL⟩ := l.imm a _ h1
      have hL : LamR g H a i b := hL
      have nl : ¬ isLa a := lamLa h1
      refine ⟨by have := bcap i hi; show (bndL 0 _ && bndL g.sz _) = true; simp [bndL, bnd, this], hL.stayOk (fun a d h _ o => hp0 a d h o) (fun u hu => HfG h1 nl u hu), ?_⟩
      obtain ⟨lk, pm, doc, c, ctv, dV, t1, _⟩ := hL
      have own : ∀ t ∈ slots i.toNat, t < X.N.length := fun t ht => by
        obtain ⟨d, h1, _⟩ := Zd t ⟨i, hi, ht⟩
        have h2 : t < r.length := by
          obtain ⟨h, _⟩ := List.getElem?_eq_some_iff.mp h1
          exact h
        rw [en.1, I.len] at h2
        exact h2
      obtain ⟨s1, s2⟩ := M.slot i.toNat lk t1 own
      obtain ⟨k1, k3⟩ := caps i hi
      obtain ⟨c1, c2⟩ := capD_get k1
      refine ⟨lk, t1, by rw [c1, s1], fun j y d e1 e2 => ?_⟩
      obtain ⟨t, e3, e4⟩ := s2 j y e1
      have hr' := c2 j t d e3 e2
      obtain ⟨c, hcl⟩ := M.has i.toNat t y (List.mem_of_getElem? e3) e4
      have zc : Z c := ⟨t, y, ⟨i, hi, List.mem_of_getElem? e3⟩, e4, hcl⟩
      refine ⟨c, ?_, ?_⟩
      · have : lk.cells b = cells := M.cel _ lk t1 own
        show (lk.cells (b : Int).toNat).lookup y = some c
        rw [Int.toNat_natCast, this]; exact hcl
      · obtain ⟨t', o, u, w, d', g1, g2, g3, g4, g5, ⟨y', g6, g7⟩, g8, _⟩ := GfZ zc
        obtain ⟨_, t2, _, _, _, _, _, un, _⟩ := Zc zc
        have e5 := un t y e4 hcl
        have e6 := un t' y' g6 g7
        subst e5
        subst e6
        rw [hr'] at g8
        cases g8
        exact g1) (fun n o e hn => ⟨by
      rw [GfN (stZ e hn) (stL e hn), (l.sto n o e hn).1], fun u hu => by rw [HfN (stZ e hn) (stL e hn)]; exact hu⟩) fun a o h => by
    have h1 := l.fr a o h
    have nz : ¬ Z a := fun z => by rw [ZH z] at h1; cases h1.1
    have nl : ¬ isLa a := fun ⟨vs, z⟩ => by
      have := (hLa a vs z).2.2.2.2
      rw [h] at this; cases this
    rw [HfN nz nl]; exact h1.1
  have rd' : RelD X.K gw d' v := hrel gw rfl (fun i hi a h => GfC h hi) fun a vs h => GfL ⟨vs, h⟩
  -- the state at the call
  have HfS : ∀ {a o}, H a = some o → (∀ xs, o ≠ .lst xs) → Hf a = some o := fun {a o} h n => by
    have nz : ¬ Z a := fun z => by rw [ZH z] at h; cases h
    have nl : ¬ isLa a := fun z => by
      obtain ⟨vs, _, h2, _⟩ := HfL z
      rw [h] at h2; cases h2
      exact n _ rfl
    rw [HfN nz nl]; exact h
  have HfB : ∀ {a}, H a = none → ¬ Z a → Hf a = none := fun {a} h nz => by
    have nl : ¬ isLa a := fun z => by
      obtain ⟨vs, _, h2, _⟩ := HfL z
      rw [h] at h2; cases h2
    rw [HfN nz nl]; exact h
  have zext : ∀ {h1 h2 : Heap} {a : Addr}, (∃ o, h1.get? a = some o) → (∀ o, h1.get? a = some o → h2.get? a = some o) → ∃ o, h2.get? a = some o := fun ⟨o, z⟩ k => ⟨o, k o z⟩
  have hokf : HOk X.prog X.w Hf s.heap := fun a o h => by
    by_cases z : Z a
    · obtain ⟨h1, h2⟩ := HfZ z
      rw [h] at h1; cases h1
      exact ⟨h2, ⟨_, h2⟩, ⟨_, h2⟩, fun h1 h2 z k => zext z k⟩
    · by_cases nl : isLa a
      · obtain ⟨vs, _, h2, h3, h4⟩ := HfL nl
        rw [h] at h3; cases h3
        exact ⟨h4, I.hok a _ h2⟩
      · rw [HfN z nl] at h
        exact (I.hok a o h).stay (fun c v _ q => q) (fun c q => HfS q (fun xs z => by cases z)) fun c xs q => HfS q (fun xs z => by cases z)
  have e0 := I.env0
  have ef : Env0 X.prog X.w X.K X.mg X.base X.A X.stack s Hf := ⟨e0.frames, e0.mod, fun a o h => ⟨(e0.bs a o h).1, HfB (e0.bs a o h).2 fun z => by
      have h1 := Zsz z
      have h3 := Heap.lt_size h
      exact absurd (Nat.lt_of_lt_of_le h3 h1) (Nat.lt_irrefl _)⟩, e0.bsz, e0.funs, fun a h => HfB (e0.frf a h) fun z => Zfr z h, hokf, e0.bare⟩
  -- what comes back
  have bn := hb s us I.kIn (by rw [List.append_nil, hps, ← ru.length]; rfl)
  rw [List.append_nil] at bn
  let Q2 : VK := fun y H1 => ∃ g1, Ext gw g1 ∧ Rl X.K g1 S1 H1 ∧ RelD X.K g1 x y
  have sp : spU X.K ps.length m [v] Hf Q2 (fun _ _ _ => False) := ⟨by rw [hps]; rfl, gw, [d'], S, lw, .cons rd' .nil, by
    rw [hm]
    exact fun g1 H1 y x1 l1 r1 => ⟨g1, x1, l1, r1⟩⟩
  refine wpAny_call (codeAny_mono (F.run X.A X.stack s Hf ⟨us, []⟩ us [v] Q2 (fun _ _ _ => False) hr ef bn ru sp) fun rr s' hq => ?_)
  cases rr with
  | error e =>
    exact (cxU_no hq).elim
  | ok fl =>
    cases fl with
    | next => exact False.elim hq
    | brk => exact False.elim hq
    | cont => exact False.elim hq
    | ret u =>
      obtain ⟨y, H1, os, bare, un, hok, rv1, g1, x1, l1, rd1⟩ := hq
      let U : Hp := fun a => if Z a then none else if isLa a then H a else H1 a
      have UZ : ∀ {a}, Z a → U a = none := fun z => if_pos z
      have UL : ∀ {a}, isLa a → U a = H a := fun {a} z => by
        show (if Z a then none else if isLa a then H a else H1 a) = _
        rw [if_neg (laZ z), if_pos z]
      have UN : ∀ {a}, ¬ Z a → ¬ isLa a → U a = H1 a := fun {a} z1 z2 => by
        show (if Z a then none else if isLa a then H a else H1 a) = _
        rw [if_neg z1, if_neg z2]
      have laH : ∀ {a}, isLa a → ∃ vs, H a = some (.lst vs) := fun z => by
        obtain ⟨vs, _, h, _⟩ := HfL z
        exact ⟨vs, h⟩
      have nLn : ∀ {a}, H a = none → ¬ isLa a := fun {a} h z => by
        obtain ⟨vs, h2⟩ := laH z
        rw [h] at h2; cases h2
      -- the knowledge outside
      have noF : ∀ {a : Addr} {d : D}, g.G a = some d → g.F a = none := fun {a d} q => by
        cases w : g.F a with
        | none => rfl
        | some o => have := (l.fr a o w).2.1; rw [q] at this; cases this
      have hs : g.sz ≤ g1.sz := x1.sz
      have hmm : ∀ n, n < g.sz → g1.m n = g.m n := x1.m
      have old : ∀ {a d}, g.G a = some d → ¬ isLa a → Gf a = none → ∃ o, H a = some o ∧ g1.F a = some o := fun {a d} h nl h0 => by
        obtain ⟨o, ho⟩ := (l.imm a d h).some
        refine ⟨o, ho, ?_⟩
        rw [x1.F]
        exact inn_F.mpr ⟨h0, .inr ⟨noF h, ⟨d, h⟩, HfG h nl o ho⟩⟩
      have hsame : ∀ a y e, g.G a = some y → g1.G a = some e → okD e = true → y = e := fun a y e h1 h2 o1 => by
        cases w : Gf a with
        | none =>
          have nl : ¬ isLa a := fun z => by rw [GfL z] at w; cases w
          obtain ⟨o, _, h3⟩ := old h1 nl w
          have := (l1.fr a o h3).2.1
          rw [h2] at this; cases this
        | some e' =>
          have h3 := x1.G a e' w
          rw [h2] at h3; cases h3
          rcases Gfi w with z | z | ⟨z, _⟩ | ⟨i, _, _, rfl⟩
          · exact absurd z (ZG h1)
          · rw [GfL z] at w; cases w
            obtain ⟨vs, e1⟩ := id z
            obtain ⟨_, _, h3, _⟩ := hLa a vs e1
            cases is with
            | nil => exact absurd rfl h3
            | cons i is => simp [okD, okL, clsL, clsD] at o1
          · rw [h1] at z; cases z; rfl
          · simp [okD, clsD] at o1
      have over := mrgS_over (g := g) (g1 := g1) hsame
      have xx := mrgS_ext (g := g) (g1 := g1) hs hmm
      -- what is known within of what is without
      have inG : ∀ {a e}, Gf a = some e → g1.G a = some e := fun {a e} h => x1.G a e h
      have st1 : ∀ {n o}, S1[n]? = some o → o ≠ AO.gone → ¬ Z (g1.m n) ∧ ¬ isLa (g1.m n) := fun {n o} e hn => by
        have m1 := (l1.sto n o e hn).1
        refine ⟨fun z => ?_, fun z => ?_⟩
        · obtain ⟨t, o, u, w, d, g1', _⟩ := GfZ z
          rw [inG g1'] at m1; cases m1
        · rw [inG (GfL z)] at m1; cases m1
      have lm : Rl X.K (g.mrgS g1) S1 U := mergeS l l1 hs hmm oS1 hsame (fun a d h => by
          cases w : Gf a with
          | none =>
            have nl : ¬ isLa a := fun z => by rw [GfL z] at w; cases w
            obtain ⟨o, h2, h3⟩ := old h nl w
            exact .inr (.inl ⟨o, h2, by rw [UN (ZG h) nl]; exact (l1.fr a o h3).1⟩)
          | some e' =>
            have h3 := x1.G a e' w
            rcases Gfi w with z | z | ⟨z, z2⟩ | ⟨i, hi, z, rfl⟩
            · exact absurd z (ZG h)
            · obtain ⟨o, ho⟩ := (l.imm a d h).some
              exact .inr (.inl ⟨o, ho, by rw [UL z]; exact ho⟩)
            · rw [h] at z; cases z
              exact .inl ⟨z2, h3, UN (ZG h) (okLa h z2)⟩
            · rw [h] at z; cases z
              refine .inr (.inr ⟨rfl, ?_⟩)
              obtain ⟨_, hL, _⟩ := l1.imm a _ h3
              exact hL.stayOk (fun a d h _ o => over a d h o) fun o ho => by rw [UN (ZG h) (lamLa h)]; exact ho)
        (fun n o e hn => by
          obtain ⟨m1, m2⟩ := l1.sto n o e hn
          obtain ⟨nz, nl⟩ := st1 e hn
          refine ⟨?_, UN nz nl⟩
          cases q : g.G (g1.m n) with
          | none => rfl
          | some y =>
            cases w : Gf (g1.m n) with
            | some e' => rw [inG w] at m1; cases m1
            | none =>
              obtain ⟨u', _, hu'⟩ := old q nl w
              exact absurd rfl ((l1.fr _ u' hu').2.2 n o e hn))
        (fun a o e => by
          have h1 := l.fr a o e
          have nz : ¬ Z a := fun z => by have := h1.1; rw [ZH z] at this; cases this
          have nl : ¬ isLa a := fun ⟨vs, z⟩ => by
            have := (hLa a vs z).2.2.2.2
            rw [e] at this; cases this
          have f1 := l1.fr a o (by
            rw [x1.F]
            exact inn_F.mpr ⟨by rw [GfN nz nl, h1.2.1], .inl e⟩)
          exact ⟨by rw [UN nz nl]; exact f1.1, f1.2.1, f1.2.2⟩)
        (fun a e h0 h1 kp => by
          have nz : ¬ Z a := fun z => by
            obtain ⟨t, o, u, w, d, g1', _⟩ := GfZ z
            have := x1.G a _ g1'
            rw [h1] at this; cases this
            simp [okD, celD, isXd] at kp
          have nl : ¬ isLa a := fun z => by
            obtain ⟨vs, z⟩ := z
            have := (hLa a vs z).2.2.2.1
            rw [h0] at this; cases this
          exact UN nz nl)
      refine I.after ⟨y, U, os, bare, ⟨fun a o h n hb _ => ?_, fun a o h n hb _ => ?_, fun a o h n _ => ?_, fun a o h _ => un.there a o h (by simp), fun a xs h => ?_, fun a o xs h => ?_, fun a ps h => ?_⟩, fun a o h => ?_, rv1, q _ _ y xx lm (relD_okS over (Nat.le_refl _) (fun _ _ => rfl) rd1 ho)⟩
      · by_cases z : Z a
        · obtain ⟨h1, h2⟩ := HfZ z
          have h3 := un.frzs a _ _ h1
          have h4 := (hok a _ h3).1
          rw [h] at h2; cases h2; exact h4
        · exact un.keep a o h (HfB n z) hb (by simp)
      · by_cases z : Z a
        · exact absurd hb (Zfr z)
        · exact un.slot a o h (HfB n z) hb (by simp)
      · by_cases z : Z a
        · exact UZ z
        · rw [UN z (nLn n)]
          exact un.free a o h (HfB n z) (by simp)
      · have h1 := un.tups a xs (HfS h (fun xs z => by cases z))
        have nz : ¬ Z a := fun z => by rw [ZH z] at h; cases h
        have nl : ¬ isLa a := fun z => by obtain ⟨vs, h2⟩ := laH z; rw [h] at h2; cases h2
        rw [UN nz nl]; exact h1
      · have h1 := un.frzs a o xs (HfS h (fun xs z => by cases z))
        have nz : ¬ Z a := fun z => by rw [ZH z] at h; cases h
        have nl : ¬ isLa a := fun z => by obtain ⟨vs, h2⟩ := laH z; rw [h] at h2; cases h2
        rw [UN nz nl]; exact h1
      · obtain ⟨mo, h1⟩ := un.tbls a ps (HfS h (fun xs z => by cases z))
        have nz : ¬ Z a := fun z => by rw [ZH z] at h; cases h
        have nl : ¬ isLa a := fun z => by obtain ⟨vs, h2⟩ := laH z; rw [h] at h2; cases h2
        exact ⟨mo, by rw [UN nz nl]; exact h1⟩
      · by_cases z : Z a
        · rw [UZ z] at h; cases h
        · by_cases nl : isLa a
          · rw [UL nl] at h
            obtain ⟨vs, _, h1, h2, _⟩ := HfL nl
            rw [h1] at h; cases h
            have h3 := un.frzs a _ _ h2
            exact (hok a _ h3).2
          · rw [UN z nl] at h
            have keep : ∀ {c u}, H1 c = some u → (∀ o v, u ≠ .frz o v) → U c = some u := fun {c u} hc hn => by
              have nz : ¬ Z c := fun z => by
                have := un.frzs c _ _ (HfZ z).1
                rw [hc] at this; cases this
                exact hn _ _ rfl
              have nl : ¬ isLa c := fun z => by
                obtain ⟨vs, _, _, h2, _⟩ := HfL z
                have := un.frzs c _ _ h2
                rw [hc] at this; cases this
                exact hn _ _ rfl
              rw [UN nz nl]; exact hc
            exact (hok a o h).stay (fun c v _ q => q) (fun c q => keep q (fun o v z => by cases z)) fun c xs q => keep q (fun o v z => by cases z)
end
open PySem PySem.Spec PyProof.Rows He
section
variable {X : Cx} {W : WX} {pos p : Pos} {x : Str} {a : Expr} {fs : AF} {k n : Nat} {ps : List Str} {m : MF} {slots : Nat → List Nat} {b : Nat}
theorem se_callLS (F : Def1 X.prog X.w X.K X.mg X.base x k ps m []) (M : MkrOk X slots b) (hr : Room k X.A) (ha : SA X W [a] fs) (hps : ps.length = 1 := by rfl) (hg : Gl X x := by rfl) (hdb : (x == ("__debug__" : Str)) = false := by decide)
    (he : starEach [a] X.env = (false, eval a X.env) :: starEach [] X.env := by rfl) (hpl : (backTo pos (starEach [] X.env)).any (·.1) = false := by rfl) : SE X W (.Call (.Name x p) [a] [] pos) (eCallLS ps.length m slots b fs) := by
  obtain ⟨f, fd, dvs, dus, F, hm, hk, hb, hd, hdd⟩ := F
  cases hdd ⟨fun _ => none, fun _ => 0, 0, fun _ => none⟩
  cases hd
  refine ⟨fun pins s σ H Q I h => ?_⟩
  refine wpAny_Call_Name_kw (ld_glob I hg hm ?_ hdb)
  refine PySem.W.callWith_K (h₀ := X.base) I.ok.mod.kin hk (thn (ha.run pos pins s σ H _ I (TD.split (rel := RelDs X.K) h)) fun us s1 ⟨vs, H1, I1, r1, g, ds, r, S, l, e, rd, p⟩ => ⟨I1.kIn, ?_⟩) he hpl
  split at p
  · rename_i d
    split at p
    · rename_i is d' hc
      split at p
      · rename_i hcap
        split at p
        · rename_i y S1 hm'
          split at p
          · rename_i hok
            obtain ⟨h2, h3⟩ := ba hok
            obtain ⟨v, rfl, rv⟩ := rel1 rd
            exact run_callLS F hr hb hps (mkS_of M I1) I1 l e rv r1 hc hcap.2.1 hcap.2.2 hm' h2 h3 fun g' H' z x' l' r' => p g' H' z x' l' (e.mono x') r'
          · exact p.elim
        · exact p.elim
      · exact p.elim
    · exact p.elim
  · exact p.elim
theorem sf_callLS (F : Def1 X.prog X.w X.K X.mg X.base x k ps m []) (M : MkrOk X slots b) (hr : Room k X.A) (ha : SA X W [a] fs) (hl : ps.length = n := by rfl) (hps : n = 1 := by rfl) (hg : Gl X x := by rfl) (hdb : (x == ("__debug__" : Str)) = false := by decide)
    (he : starEach [a] X.env = (false, eval a X.env) :: starEach [] X.env := by rfl) (hpl : (backTo pos (starEach [] X.env)).any (·.1) = false := by rfl) : SE X W (.Call (.Name x p) [a] [] pos) (eCallLS n m slots b fs) := by
  subst hl
  exact se_callLS F M hr ha hps hg hdb he hpl
end
section
variable {r : Env} {S : Sto} {Q Z : D → Env → Sto → Prop}
theorem wp_LamS {T : Nat → Option EF} {j : Nat} : wp (eLamS T j r S) Q Z = got (rd r j) fun x => got (asL x) fun q => got (T q.1.toNat) fun fb => wf (lamS fb q.2 S) (fun d S' => Q d r S') (fun d S' => Z d r S') := by
  unfold eLamS rd
  split
  · rename_i i b ds hj
    rw [hj]
    show wp _ Q Z = got (T i.toNat) fun fb => wf (lamS fb ds S) _ _
    cases T i.toNat with
    | none => rfl
    | some fb =>
      show wp ((lamS fb ds S).run r) Q Z = wf (lamS fb ds S) _ _
      cases lamS fb ds S <;> rfl
  · rename_i hn
    split
    · rename_i d hd
      show False = got (asL d) _
      cases e : asL d with
      | none => rfl
      | some q =>
        exfalso
        unfold asL at e
        split at e
        · rename_i i b ds
          exact hn i b ds hd
        · cases e
    · rfl
theorem wp_CallLS {n : Nat} {m : MF} {slots : Nat → List Nat} {b : Nat} {fs : AF} : wp (eCallLS n m slots b fs r S) Q Z = wp (fs r S) (fun ds r S => got (asOne ds) fun d => got (capArgS slots r b d) fun q => (n = 1 ∧ (q.1.all (capBS slots r) = true ∧ okS S = true)) ∧ wf (m [q.2] S) (fun x S1 => (okD x && okS S1) = true ∧ Q x r S1) (fun _ _ => False)) Z := by
  unfold eCallLS
  rw [wp_bind]
  refine congrArg (fun q => wp (fs r S) q Z) ?_
  funext ds r S
  match ds with
  | [d] =>
    show wp (match capArgS slots r b d with
      | some (is, d') => if n = 1 ∧ (is.all (capBS slots r) = true ∧ okS S = true) then (match m [d'] S with
        | .ok x S1 => if (okD x && okS S1) = true then .ok x r S1 else .no
        | _ => .no) else .no
      | none => .no) Q Z = got (capArgS slots r b d) _
    cases capArgS slots r b d with
    | none => rfl
    | some q =>
      obtain ⟨is, d'⟩ := q
      show wp (if n = 1 ∧ (is.all (capBS slots r) = true ∧ okS S = true) then _ else _) Q Z = _
      rw [wp_ite]
      show (if n = 1 ∧ (is.all (capBS slots r) = true ∧ okS S = true) then _ else False) = (_ ∧ _)
      rw [ite_and]
      refine congrArg (And _) ?_
      show _ = wf (m [d'] S) _ _
      cases m [d'] S with
      | ok x S1 =>
        show wp (if (okD x && okS S1) = true then _ else _) Q Z = ((okD x && okS S1) = true ∧ Q x r S1)
        rw [wp_ite]
        show (if (okD x && okS S1) = true then _ else False) = (_ ∧ _)
        rw [ite_and]
        rfl
      | er x S1 => rfl
      | no => rfl
  | [] => rfl
  | _ :: _ :: _ => rfl
end
theorem capS_one {slots : Nat → List Nat} {r : Env} {b : Nat} {i : Int} : capArgS slots r b (lamD i b) = some ([i], clsD i b (capD slots r i)) := by
  have e : lamIx b (lamD i b) = some i := by
    show (if (b : Int) = b then some i else none) = some i
    rw [if_pos rfl]
  unfold capArgS
  rw [e]
theorem capS_ok {slots : Nat → List Nat} {r : Env} {i : Int} {ds : List D} (h : capD slots r i = ds) (h1 : (slots i.toNat).all (fun t => ((r[t]?).join).isSome) = true) (h3 : okL ds = true) : [i].all (capBS slots r) = true := by
  simp only [List.all_cons, List.all_nil, Bool.and_true, capBS, h, h1, h3, Bool.and_self]
end L2.U
namespace L2.U.K03
open PySem PySem.Spec PyProof.Rows He


abbrev N_is_number : List Str := ["value"]
abbrev ps_is_number : List Str := ["value"]

abbrev N_is_key : List Str := ["value", "good", "part"]
abbrev ps_is_key : List Str := ["value"]

abbrev N_is_numeral : List Str := ["text", "most", "sign"]
abbrev ps_is_numeral : List Str := ["text", "most"]

abbrev N_is_signed : List Str := ["text"]
abbrev ps_is_signed : List Str := ["text"]

abbrev N_key_text : List Str := ["key", "part"]
abbrev ps_key_text : List Str := ["key"]

abbrev N_read_key : List Str := ["text", "parts", "part"]
abbrev ps_read_key : List Str := ["text"]

abbrev N_law_bag : List Str := ["_law_script", "_law_cells"]
abbrev ps_law_bag : List Str := ["_law_script"]

abbrev N_law_draw : List Str := ["_law_bag_here", "_law_many", "_law_cell", "_law_got_here"]
abbrev ps_law_draw : List Str := ["_law_bag_here", "_law_many"]

abbrev N_law_pick : List Str := ["_law_bag_here", "_law_some"]
abbrev ps_law_pick : List Str := ["_law_bag_here", "_law_some"]

abbrev N_law_same : List Str := ["_law_found", "_law_due", "_law_good", "_law_at"]
abbrev ps_law_same : List Str := ["_law_found", "_law_due"]

abbrev N_law_field : List Str := ["_law_e"]
abbrev ps_law_field : List Str := ["_law_e"]

abbrev N_law_got : List Str := ["_law_ask", "_law_said", "_law_e"]
abbrev ps_law_got : List Str := ["_law_ask"]

abbrev N_law_all_got : List Str := ["_law_asks", "_law_ask"]
abbrev ps_law_all_got : List Str := ["_law_asks"]

abbrev N_law_read : List Str := ["_law_my_text", "_law_parts", "_law_part", "_law_figures", "_law_good", "_law_sign"]
abbrev ps_law_read : List Str := ["_law_my_text"]

abbrev N_law : List Str := ["_law_script", "_law_bag_here", "_law_turn", "_law_good", "_law_my_text", "_law_bent", "_law_due", "_law_odd", "_law_asks", "_law_at", "_law_sign", "_law_k", "_law_part", "<tab>"]
abbrev ps_law : List Str := ["_law_script"]

abbrev N_invalidkey_init : List Str := ["self", "given"]
abbrev ps_invalidkey_init : List Str := ["self", "given"]

abbrev N_invalidtext_init : List Str := ["self"]
abbrev ps_invalidtext_init : List Str := ["self"]


structure Tp (K : PySem.W.Frag) (mg : Str → Option Value) : Prop where
  zz : True
  f_abs : mg "abs" = none
  f_all : mg "all" = none
  f_bool : mg "bool" = none
  f_int : mg "int" = none
  f_isinstance : mg "isinstance" = none
  f_len : mg "len" = none
  f_list : mg "list" = none
  f_range : mg "range" = none
  f_str : mg "str" = none
  f_tuple : mg "tuple" = none
  c_DIGITS : KCon K mg "DIGITS" (.str "0123456789")
  c_MOST_KEY_DIGITS : KCon K mg "MOST_KEY_DIGITS" (.int 40)
  c_MOST_NUMBERS : KCon K mg "MOST_NUMBERS" (.int 40)
  isi : isiB K isiL = true
  xc_InvalidKey : xclB K ("InvalidKey", ["given"]) = true
  xc_InvalidText : xclB K ("InvalidText", []) = true
  tr_RunError_Missing_NothingLeft : takB K ["RunError", "Missing", "NothingLeft"] xcs = true
  xf_code : xfLB K xcs "code" = true
  xf_given : xfLB K xcs "given" = true
  tab : tabB K "law" = true
  g_InvalidKey : mg "InvalidKey" = some (.ref (ga K "InvalidKey"))
  g_InvalidText : mg "InvalidText" = some (.ref (ga K "InvalidText"))
  g_Missing : mg "Missing" = some (.ref (ga K "Missing"))
  g_NothingLeft : mg "NothingLeft" = some (.ref (ga K "NothingLeft"))
  g_RunError : mg "RunError" = some (.ref (ga K "RunError"))

























theorem gl_of {K : PySem.W.Frag} (c : chk K = true) : gloB K gloL = true := (ba (ba (ba c).2).2).1
theorem fa_of {K : PySem.W.Frag} (c : chk K = true) : faB K faL = true := (ba (ba (ba (ba c).2).2).2).1
theorem tp_of {K : PySem.W.Frag} {mg : Str → Option Value} (N : Nm K mg) (c : chk K = true) : Tp K mg := by
  have cf := fa_of c
  obtain ⟨c1, c2⟩ := ba c
  obtain ⟨c2, c3⟩ := ba c2
  obtain ⟨c3, c4⟩ := ba c3
  obtain ⟨c4, c5⟩ := ba c4
  obtain ⟨c5, c6⟩ := ba c5
  exact ⟨trivial, free_at N c1 0, free_at N c1 1, free_at N c1 2, free_at N c1 3, free_at N c1 4, free_at N c1 5, free_at N c1 6, free_at N c1 7, free_at N c1 8, free_at N c1 9, con_at N c2 0, con_at N c2 1, con_at N c2 2, c5, (ba c6).1, (ba (ba c6).2).1, (ba (ba (ba c6).2).2).1, (ba (ba (ba (ba c6).2).2).2).1, (ba (ba (ba (ba (ba c6).2).2).2).2).1, (ba (ba (ba (ba (ba c6).2).2).2).2).2, glo_at N c3 15, glo_at N c3 16, glo_at N c3 17, glo_at N c3 18, glo_at N c3 19⟩
theorem sc_is_number : FnScope N_is_number ps_is_number (defScope s_is_number) := ⟨rfl, rfl, rfl, by decide +kernel, rfl, by decide +kernel, by decide +kernel⟩
theorem sc_is_key : FnScope N_is_key ps_is_key (defScope s_is_key) := ⟨rfl, rfl, rfl, by decide +kernel, rfl, by decide +kernel, by decide +kernel⟩
theorem sc_is_numeral : FnScope N_is_numeral ps_is_numeral (defScope s_is_numeral) := ⟨rfl, rfl, rfl, by decide +kernel, rfl, by decide +kernel, by decide +kernel⟩
theorem sc_is_signed : FnScope N_is_signed ps_is_signed (defScope s_is_signed) := ⟨rfl, rfl, rfl, by decide +kernel, rfl, by decide +kernel, by decide +kernel⟩
theorem sc_key_text : FnScope N_key_text ps_key_text (defScope s_key_text) := ⟨rfl, rfl, rfl, by decide +kernel, rfl, by decide +kernel, by decide +kernel⟩
theorem sc_read_key : FnScope N_read_key ps_read_key (defScope s_read_key) := ⟨rfl, rfl, rfl, by decide +kernel, rfl, by decide +kernel, by decide +kernel⟩
theorem sc_law_bag : FnScope N_law_bag ps_law_bag (defScope s_law_bag) := ⟨rfl, rfl, rfl, by decide +kernel, rfl, by decide +kernel, by decide +kernel⟩
theorem sc_law_draw : FnScope N_law_draw ps_law_draw (defScope s_law_draw) := ⟨rfl, rfl, rfl, by decide +kernel, rfl, by decide +kernel, by decide +kernel⟩
theorem sc_law_pick : FnScope N_law_pick ps_law_pick (defScope s_law_pick) := ⟨rfl, rfl, rfl, by decide +kernel, rfl, by decide +kernel, by decide +kernel⟩
theorem sc_law_same : FnScope N_law_same ps_law_same (defScope s_law_same) := ⟨rfl, rfl, rfl, by decide +kernel, rfl, by decide +kernel, by decide +kernel⟩
theorem sc_law_field : FnScope N_law_field ps_law_field (defScope s_law_field) := ⟨rfl, rfl, rfl, by decide +kernel, rfl, by decide +kernel, by decide +kernel⟩
theorem sc_law_got : FnScope N_law_got ps_law_got (defScope s_law_got) := ⟨rfl, rfl, rfl, by decide +kernel, rfl, by decide +kernel, by decide +kernel⟩
theorem sc_law_all_got : FnScope N_law_all_got ps_law_all_got (defScope s_law_all_got) := ⟨rfl, rfl, rfl, by decide +kernel, rfl, by decide +kernel, by decide +kernel⟩
theorem sc_law_read : FnScope N_law_read ps_law_read (defScope s_law_read) := ⟨rfl, rfl, rfl, by decide +kernel, rfl, by decide +kernel, by decide +kernel⟩
theorem sc_law : FnScope N_law ps_law (defScope s_law) := ⟨rfl, rfl, rfl, by decide +kernel, rfl, by decide +kernel, by decide +kernel⟩
theorem sc_invalidkey_init : FnScope N_invalidkey_init ps_invalidkey_init (defScope s_invalidkey_init) := ⟨rfl, rfl, rfl, by decide +kernel, rfl, by decide +kernel, by decide +kernel⟩
theorem sc_invalidtext_init : FnScope N_invalidtext_init ps_invalidtext_init (defScope s_invalidtext_init) := ⟨rfl, rfl, rfl, by decide +kernel, rfl, by decide +kernel, by decide +kernel⟩
theorem defx_InvalidKey {P : Program} {w : World} {K : PySem.W.Frag} {mg : Str → Option Value} {base : Heap} (C : SaysU chk fnL pnL K) (N : Nm K mg) : DefX1 P w K mg base "InvalidKey" "given" "InvalidKey" := by
  obtain ⟨fd, F⟩ := C.def_ 15
  exact defX1_of F sc_invalidkey_init (tp_of N C.chk).xc_InvalidKey (tp_of N C.chk).g_InvalidKey
theorem defx_InvalidText {P : Program} {w : World} {K : PySem.W.Frag} {mg : Str → Option Value} {base : Heap} (C : SaysU chk fnL pnL K) (N : Nm K mg) : DefX0 P w K mg base "InvalidText" "InvalidText" := by
  obtain ⟨fd, F⟩ := C.def_ 16
  exact defX0_of F sc_invalidtext_init (tp_of N C.chk).xc_InvalidText (tp_of N C.chk).g_InvalidText
theorem lamk_0 : ∀ y ∈ lam0.scope.names, y.2 = .free → (defScope s_law).names.lookup y.1 = some .cell ∨ (defScope s_law).names.lookup y.1 = some .free := by decide +kernel
theorem lamk_1 : ∀ y ∈ lam1.scope.names, y.2 = .free → (defScope s_law).names.lookup y.1 = some .cell ∨ (defScope s_law).names.lookup y.1 = some .free := by decide +kernel
theorem lamk_2 : ∀ y ∈ lam2.scope.names, y.2 = .free → (defScope s_law).names.lookup y.1 = some .cell ∨ (defScope s_law).names.lookup y.1 = some .free := by decide +kernel
def slots : Nat → List Nat
  | 0 => [5]
  | 1 => [7]
  | 2 => [1]
  | _ => []
theorem mkr_law {P : Program} {w : World} {K : PySem.W.Frag} {mg : Str → Option Value} {base : Heap} {f c : Addr} {A : Around} {outer : List PySem.Env} {s : Shared} {H : Hp} {E : XK} : MkrOk (bodyCx P w K mg base N_law "law" (defScope s_law) f (.ref c) A outer s H E) slots s.heap.objs.size where
  cells := fun i lk h h' => by
    match i, h, h' with
    | 0, h, h' => (cases h; rfl)
    | 1, h, h' => (cases h; rfl)
    | 2, h, h' => (cases h; rfl)
    | _ + 3, h, _ => (have h' : (none : Option LamA) = some lk := h; cases h')
  slot := fun i lk h h' => by
    match i, h, h' with
    | 0, h, h' => (cases h; exact slotB_ok (N := N_law) (by decide +kernel))
    | 1, h, h' => (cases h; exact slotB_ok (N := N_law) (by decide +kernel))
    | 2, h, h' => (cases h; exact slotB_ok (N := N_law) (by decide +kernel))
    | _ + 3, h, _ => (have h' : (none : Option LamA) = some lk := h; cases h')
  kind := fun i t y ht e => by
    match i, ht with
    | 0, h => exact kindB_ok (sl := slots 0) (N := N_law) (names := (defScope s_law).names) (by decide +kernel) t y h e
    | 1, h => exact kindB_ok (sl := slots 1) (N := N_law) (names := (defScope s_law).names) (by decide +kernel) t y h e
    | 2, h => exact kindB_ok (sl := slots 2) (N := N_law) (names := (defScope s_law).names) (by decide +kernel) t y h e
    | _ + 3, h => (have h' : t ∈ ([] : List Nat) := h; cases h')
  fn := fun _ => rfl
  nd := sc_law.nd



theorem ob_eq (s : PySem.W.SharedT) : ob s = hk.obs s.abs := obsUR_eq (HandSHeadRun.getT_eq s)








abbrev kd_key_text_0_key {α : Type} : List α → List α → List α := kdL [0]
abbrev kd_read_key_0_text {α : Type} : List α → List α → List α := kdL [0]
def fb_is_number : SF := (sRet (eAnd (eCallB oIsi0 (aCons (eVar 0) (aCons (eC (.ty "int")) aNil))) (eNot (eCallB oIsi0 (aCons (eVar 0) (aCons (eC (.ty "bool")) aNil))))))
theorem okb_is_number {P : Program} {w : World} {K : PySem.W.Frag} {mg : Str → Option Value} {base : Heap} {f : Addr} {cdv : Value} {A : Around} {outer : List PySem.Env} {s : Shared} {H : Hp} {E : XK} (T : Tp K mg)
    (hr : Room 0 (A.deeper (envOfC "is_number" (defScope s_is_number) s.heap.objs.size f cdv))) (tk : Tk (bodyCx P w K mg base N_is_number "is_number" (defScope s_is_number) f cdv A outer s H E) (wOf E)) (hp : PassesOwn (model P w) (A.deeper (envOfC "is_number" (defScope s_is_number) s.heap.objs.size f cdv)) (envOfC "is_number" (defScope s_is_number) s.heap.objs.size f cdv) (bodyCx P w K mg base N_is_number "is_number" (defScope s_is_number) f cdv A outer s H E).xe) :
    SSs (bodyCx P w K mg base N_is_number "is_number" (defScope s_is_number) f cdv A outer s H E) (wOf E) (defBody s_is_number) (fb_is_number) :=
  (sss_one (ss_ret (se_and (se_callB cu_isi0 T.f_isinstance (sa_cons (se_var 0) (sa_cons (se_ty T.f_int) sa_nil))) (se_one (se_not (se_callB cu_isi0 T.f_isinstance (sa_cons (se_var 0) (sa_cons (se_ty T.f_bool) sa_nil))))))))
def m_is_number : MF := purM 1 fb_is_number
theorem fn_is_number {P : Program} {w : World} {K : PySem.W.Frag} {mg : Str → Option Value} {base : Heap} (C : SaysU chk fnL pnL K) (N : Nm K mg) {fd : FuncData} (F : FunD K "is_number" "is_number" (defArgs s_is_number) (defBody s_is_number) (defScope s_is_number) [] [] (fAd K (d_is_number).at_) fd) : FnU P w K mg base 1 (fAd K (d_is_number).at_) fd ps_is_number m_is_number :=
  fn_pur F sc_is_number fb_is_number fun cdv A outer s H E hr tk hp => okb_is_number (tp_of N C.chk)  hr tk hp
theorem def_is_number {P : Program} {w : World} {K : PySem.W.Frag} {mg : Str → Option Value} {base : Heap} (C : SaysU chk fnL pnL K) (N : Nm K mg) : Def1 P w K mg base "is_number" 1 ps_is_number m_is_number [] := by
  obtain ⟨fd, F⟩ := C.def_ 0
  exact def1_of (fn_is_number C N F) F (glo_at N (gl_of C.chk) 0) (fun _ _ _ _ _ _ us h => by match us, h with | [_], _ => rfl)
def fb_is_key : SF := (sSeq (sAsg (eAnd (eCallB oIsi0 (aCons (eVar 0) (aCons (eC (.ty "tuple")) aNil))) (eChain (notB (swapB ltB)) (notB (swapB ltB)) (eC (.int 1)) (eCallB oLen (aCons (eVar 0) aNil)) (eC (.int 40)))) (bName 1))
    (sRet (eAnd (eVar 1) (eCallB oAll (aCons (eComp (iSeq (eVar 0)) (bName 2) [2] tYesB (eCallF 1 m_is_number [] (aCons (eVar 2) aNil))) aNil)))))
theorem okb_is_key {P : Program} {w : World} {K : PySem.W.Frag} {mg : Str → Option Value} {base : Heap} {f : Addr} {cdv : Value} {A : Around} {outer : List PySem.Env} {s : Shared} {H : Hp} {E : XK} (T : Tp K mg) (h_is_number : Def1 P w K mg base "is_number" 1 ps_is_number m_is_number [])
    (hr : Room 1 (A.deeper (envOfC "is_key" (defScope s_is_key) s.heap.objs.size f cdv))) (tk : Tk (bodyCx P w K mg base N_is_key "is_key" (defScope s_is_key) f cdv A outer s H E) (wOf E)) (hp : PassesOwn (model P w) (A.deeper (envOfC "is_key" (defScope s_is_key) s.heap.objs.size f cdv)) (envOfC "is_key" (defScope s_is_key) s.heap.objs.size f cdv) (bodyCx P w K mg base N_is_key "is_key" (defScope s_is_key) f cdv A outer s H E).xe) :
    SSs (bodyCx P w K mg base N_is_key "is_key" (defScope s_is_key) f cdv A outer s H E) (wOf E) (defBody s_is_key) (fb_is_key) :=
  (sss_cons (ss_set 1 (se_and (se_callB cu_isi0 T.f_isinstance (sa_cons (se_var 0) (sa_cons (se_ty T.f_tuple) sa_nil))) (se_one (se_chain c_le c_le (se_int) (se_callB cu_len T.f_len (sa_cons (se_var 0) sa_nil)) (se_gc T.c_MOST_NUMBERS)))) sc_is_key.nd)
    (sss_one (ss_ret (se_and (se_var 1) (se_one (se_callB (cu_all rfl) T.f_all (sa_cons (by exact se_comp (own := [("part", 2)]) rfl sc_is_key.nd (by exact it_seq (se_var 0)) (blkOk_by (N := N_is_key) (sc := defScope s_is_key) (by decide +kernel)) (by exact blk_mk (t := gName 2) (fun _ _ _ _ _ => by exact pg_name (i := 2) sc_is_key.nd rfl (by first | exact Or.inl rfl | exact Or.inr rfl)) (by exact gu_name 2) (fun _ _ _ _ _ => by exact ts_nil) (fun _ _ _ _ _ => by exact sf_fn h_is_number (hr.mono (by decide)) tk0 (sa_cons (se_var 2) sa_nil)))) sa_nil)))))))
def m_is_key : MF := purM 3 fb_is_key
theorem fn_is_key {P : Program} {w : World} {K : PySem.W.Frag} {mg : Str → Option Value} {base : Heap} (C : SaysU chk fnL pnL K) (N : Nm K mg) {fd : FuncData} (F : FunD K "is_key" "is_key" (defArgs s_is_key) (defBody s_is_key) (defScope s_is_key) [] [] (fAd K (d_is_key).at_) fd) : FnU P w K mg base 2 (fAd K (d_is_key).at_) fd ps_is_key m_is_key :=
  fn_pur F sc_is_key fb_is_key fun cdv A outer s H E hr tk hp => okb_is_key (tp_of N C.chk) (def_is_number C N) hr tk hp
theorem def_is_key {P : Program} {w : World} {K : PySem.W.Frag} {mg : Str → Option Value} {base : Heap} (C : SaysU chk fnL pnL K) (N : Nm K mg) : Def1 P w K mg base "is_key" 2 ps_is_key m_is_key [] := by
  obtain ⟨fd, F⟩ := C.def_ 1
  exact def1_of (fn_is_key C N F) F (glo_at N (gl_of C.chk) 1) (fun _ _ _ _ _ _ us h => by match us, h with | [_], _ => rfl)
def fb_is_numeral : SF := (sSeq (sIf (tOrB (tNotB (tChainB (notB (swapB ltB)) (notB (swapB ltB)) (eC (.int 1)) (eCallB oLen (aCons (eVar 0) aNil)) (eVar 1))) (tNotB (tVal (eCallB oAll (aCons (eComp (iSeq (eVar 0)) (bName 2) [2] tYesB (eCmp inB (eVar 2) (eC (.str "0123456789")))) aNil))))) (sRet (eC (.bl false))) sNext)
    (sRet (eOr (eCmp eqB (eVar 0) (eC (.str "0"))) (eCmp (notB eqB) (eIx (eVar 0) (eC (.int 0))) (eC (.str "0"))))))
theorem okb_is_numeral {P : Program} {w : World} {K : PySem.W.Frag} {mg : Str → Option Value} {base : Heap} {f : Addr} {cdv : Value} {A : Around} {outer : List PySem.Env} {s : Shared} {H : Hp} {E : XK} (T : Tp K mg)
    (hr : Room 0 (A.deeper (envOfC "is_numeral" (defScope s_is_numeral) s.heap.objs.size f cdv))) (tk : Tk (bodyCx P w K mg base N_is_numeral "is_numeral" (defScope s_is_numeral) f cdv A outer s H E) (wOf E)) (hp : PassesOwn (model P w) (A.deeper (envOfC "is_numeral" (defScope s_is_numeral) s.heap.objs.size f cdv)) (envOfC "is_numeral" (defScope s_is_numeral) s.heap.objs.size f cdv) (bodyCx P w K mg base N_is_numeral "is_numeral" (defScope s_is_numeral) f cdv A outer s H E).xe) :
    SSs (bodyCx P w K mg base N_is_numeral "is_numeral" (defScope s_is_numeral) f cdv A outer s H E) (wOf E) (defBody s_is_numeral) (fb_is_numeral) :=
  (sss_cons (ss_if (st_w (st_or (st_not (st_chain c_le c_le (se_int) (se_callB cu_len T.f_len (sa_cons (se_var 0) sa_nil)) (se_var 1))) (st_or1 (st_not (st_val (se_callB (cu_all rfl) T.f_all (sa_cons (by exact se_comp (own := [("sign", 2)]) rfl sc_is_numeral.nd (by exact it_seq (se_var 0)) (blkOk_by (N := N_is_numeral) (sc := defScope s_is_numeral) (by decide +kernel)) (by exact blk_mk (t := gName 2) (fun _ _ _ _ _ => by exact pg_name (i := 2) sc_is_numeral.nd rfl (by first | exact Or.inl rfl | exact Or.inr rfl)) (by exact gu_name 2) (fun _ _ _ _ _ => by exact ts_nil) (fun _ _ _ _ _ => by exact se_cmp c_in (se_var 2) (se_gc T.c_DIGITS)))) sa_nil))))))) (sss_one (ss_ret (se_bl))) sss_nil)
    (sss_one (ss_ret (se_or (se_cmp (c_eq hr.units) (se_var 0) (se_str)) (se_one (se_cmp (c_ne hr.units) (se_ix (se_var 0) (se_int)) (se_str)))))))
def m_is_numeral : MF := purM 3 fb_is_numeral
theorem fn_is_numeral {P : Program} {w : World} {K : PySem.W.Frag} {mg : Str → Option Value} {base : Heap} (C : SaysU chk fnL pnL K) (N : Nm K mg) {fd : FuncData} (F : FunD K "is_numeral" "is_numeral" (defArgs s_is_numeral) (defBody s_is_numeral) (defScope s_is_numeral) [V.int 31] [] (fAd K (d_is_numeral).at_) fd) : FnU P w K mg base 1 (fAd K (d_is_numeral).at_) fd ps_is_numeral m_is_numeral :=
  fn_pur F sc_is_numeral fb_is_numeral fun cdv A outer s H E hr tk hp => okb_is_numeral (tp_of N C.chk)  hr tk hp
theorem defd_is_numeral_2 {P : Program} {w : World} {K : PySem.W.Frag} {mg : Str → Option Value} {base : Heap} (C : SaysU chk fnL pnL K) (N : Nm K mg) : Def1 P w K mg base "is_numeral" 1 ps_is_numeral m_is_numeral [] := by
  obtain ⟨fd, F⟩ := C.def_ 2
  exact def1_ofD (j := 1) (fn_is_numeral C N F) F (glo_at N (gl_of C.chk) 2) (FunD.binds1 (dvs := [V.int 31]) F 2 1 (by simp) (by rfl) (fun T kV doc pm an cdv ct us its h1 h2 => by match us, its, h1, h2 with | [_, _], [_], _, _ => exact ⟨_, rfl, rfl⟩)) (fun g => .nil)
def fb_is_signed : SF := (sSeq (sIf (tCmp eqB (eSl (eVar 0) oNone (oSome (eC (.int 1)))) (eC (.str "-"))) (sRet (eAnd (eCmp (notB eqB) (eVar 0) (eC (.str "-0"))) (eCallF 2 m_is_numeral [] (aCons (eSl (eVar 0) (oSome (eC (.int 1))) oNone) (aCons (eC (.int 40)) aNil))))) sNext)
    (sRet (eCallF 2 m_is_numeral [] (aCons (eVar 0) (aCons (eC (.int 40)) aNil)))))
theorem okb_is_signed {P : Program} {w : World} {K : PySem.W.Frag} {mg : Str → Option Value} {base : Heap} {f : Addr} {cdv : Value} {A : Around} {outer : List PySem.Env} {s : Shared} {H : Hp} {E : XK} (T : Tp K mg) (hd_is_numeral_2 : Def1 P w K mg base "is_numeral" 1 ps_is_numeral m_is_numeral [])
    (hr : Room 1 (A.deeper (envOfC "is_signed" (defScope s_is_signed) s.heap.objs.size f cdv))) (tk : Tk (bodyCx P w K mg base N_is_signed "is_signed" (defScope s_is_signed) f cdv A outer s H E) (wOf E)) (hp : PassesOwn (model P w) (A.deeper (envOfC "is_signed" (defScope s_is_signed) s.heap.objs.size f cdv)) (envOfC "is_signed" (defScope s_is_signed) s.heap.objs.size f cdv) (bodyCx P w K mg base N_is_signed "is_signed" (defScope s_is_signed) f cdv A outer s H E).xe) :
    SSs (bodyCx P w K mg base N_is_signed "is_signed" (defScope s_is_signed) f cdv A outer s H E) (wOf E) (defBody s_is_signed) (fb_is_signed) :=
  (sss_cons (ss_if (st_cmp (c_eq hr.units) (se_sl (se_var 0) so_none (so_some (se_int))) (se_str)) (sss_one (ss_ret (se_and (se_cmp (c_ne hr.units) (se_var 0) (se_str)) (se_one (sf_fn hd_is_numeral_2 (hr.mono (by decide)) tk (sa_cons (se_sl (se_var 0) (so_some (se_int)) so_none) (sa_cons (se_gc T.c_MOST_KEY_DIGITS) sa_nil))))))) sss_nil)
    (sss_one (ss_ret (sf_fn hd_is_numeral_2 (hr.mono (by decide)) tk (sa_cons (se_var 0) (sa_cons (se_gc T.c_MOST_KEY_DIGITS) sa_nil))))))
def m_is_signed : MF := purM 1 fb_is_signed
theorem fn_is_signed {P : Program} {w : World} {K : PySem.W.Frag} {mg : Str → Option Value} {base : Heap} (C : SaysU chk fnL pnL K) (N : Nm K mg) {fd : FuncData} (F : FunD K "is_signed" "is_signed" (defArgs s_is_signed) (defBody s_is_signed) (defScope s_is_signed) [] [] (fAd K (d_is_signed).at_) fd) : FnU P w K mg base 2 (fAd K (d_is_signed).at_) fd ps_is_signed m_is_signed :=
  fn_pur F sc_is_signed fb_is_signed fun cdv A outer s H E hr tk hp => okb_is_signed (tp_of N C.chk) (defd_is_numeral_2 C N) hr tk hp
theorem def_is_signed {P : Program} {w : World} {K : PySem.W.Frag} {mg : Str → Option Value} {base : Heap} (C : SaysU chk fnL pnL K) (N : Nm K mg) : Def1 P w K mg base "is_signed" 2 ps_is_signed m_is_signed [] := by
  obtain ⟨fd, F⟩ := C.def_ 3
  exact def1_of (fn_is_signed C N F) F (glo_at N (gl_of C.chk) 3) (fun _ _ _ _ _ _ us h => by match us, h with | [_], _ => rfl)
def fb_key_text : SF := (sSeq (sIf (tCmp isB (eVar 0) (eC .non)) (sRet (eC (.str "-"))) sNext)
    (sSeq (sIf (tNotB (tVal (eCallF 1 m_is_key [] (aCons (eVar 0) aNil)))) (sRaise1 "InvalidKey" "given" "InvalidKey" (aCons (eVar 0) aNil)) sNext)
    (sRet (eMeth isStr mJoin (eC (.str ".")) (aCons (eComp (iSeq (eVar 0)) (bName 1) [1] tYesB (eCallB oStrOf (aCons (eVar 1) aNil))) aNil)))))
theorem okb_key_text {P : Program} {w : World} {K : PySem.W.Frag} {mg : Str → Option Value} {base : Heap} {f : Addr} {cdv : Value} {A : Around} {outer : List PySem.Env} {s : Shared} {H : Hp} {E : XK} (T : Tp K mg) (h_is_key : Def1 P w K mg base "is_key" 2 ps_is_key m_is_key []) (hx_InvalidKey : DefX1 P w K mg base "InvalidKey" "given" "InvalidKey")
    (hr : Room 2 (A.deeper (envOfC "key_text" (defScope s_key_text) s.heap.objs.size f cdv))) (tk : Tk (bodyCx P w K mg base N_key_text "key_text" (defScope s_key_text) f cdv A outer s H E) (wOf E)) (hp : PassesOwn (model P w) (A.deeper (envOfC "key_text" (defScope s_key_text) s.heap.objs.size f cdv)) (envOfC "key_text" (defScope s_key_text) s.heap.objs.size f cdv) (bodyCx P w K mg base N_key_text "key_text" (defScope s_key_text) f cdv A outer s H E).xe) :
    SSs (bodyCx P w K mg base N_key_text "key_text" (defScope s_key_text) f cdv A outer s H E) (wOf E) (defBody s_key_text) (fb_key_text) :=
  (sss_cons (ss_if (st_cmp c_is (se_var 0) (se_non)) (sss_one (ss_ret (se_str))) sss_nil)
    (sss_cons (ss_if (st_not (st_val (sf_fn h_is_key (hr.mono (by decide)) tk (sa_cons (se_var 0) sa_nil)))) (sss_one (ss_raise1 rfl hx_InvalidKey (hr.mono (by decide)) tk (sa_cons (se_var 0) sa_nil))) sss_nil)
    (sss_one (ss_ret (se_meth mu_join (se_str) (sa_cons (by exact se_comp (own := [("part", 1)]) rfl sc_key_text.nd (by exact it_seq (se_var 0)) (blkOk_by (N := N_key_text) (sc := defScope s_key_text) (by decide +kernel)) (by exact blk_mk (t := gName 1) (fun _ _ _ _ _ => by exact pg_name (i := 1) sc_key_text.nd rfl (by first | exact Or.inl rfl | exact Or.inr rfl)) (by exact gu_name 1) (fun _ _ _ _ _ => by exact ts_nil) (fun _ _ _ _ _ => by exact se_callTy cu_strI T.f_str (sa_cons (se_var 1) sa_nil)))) sa_nil))))))
def m_key_text : MF := purM 2 fb_key_text
theorem fn_key_text {P : Program} {w : World} {K : PySem.W.Frag} {mg : Str → Option Value} {base : Heap} (C : SaysU chk fnL pnL K) (N : Nm K mg) {fd : FuncData} (F : FunD K "key_text" "key_text" (defArgs s_key_text) (defBody s_key_text) (defScope s_key_text) [] [] (fAd K (d_key_text).at_) fd) : FnU P w K mg base 3 (fAd K (d_key_text).at_) fd ps_key_text m_key_text :=
  fn_pur F sc_key_text fb_key_text fun cdv A outer s H E hr tk hp => okb_key_text (tp_of N C.chk) (def_is_key C N) (defx_InvalidKey C N) hr tk hp
theorem def_key_text {P : Program} {w : World} {K : PySem.W.Frag} {mg : Str → Option Value} {base : Heap} (C : SaysU chk fnL pnL K) (N : Nm K mg) : Def1 P w K mg base "key_text" 3 ps_key_text m_key_text [] := by
  obtain ⟨fd, F⟩ := C.def_ 4
  exact def1_of (fn_key_text C N F) F (glo_at N (gl_of C.chk) 4) (fun _ _ _ _ _ _ us h => by match us, h with | [_], _ => rfl)
theorem defk_key_text_0_key {P : Program} {w : World} {K : PySem.W.Frag} {mg : Str → Option Value} {base : Heap} (C : SaysU chk fnL pnL K) (N : Nm K mg) : DefK P w K mg base "key_text" 3 ps_key_text m_key_text 0 ["key"] kd_key_text_0_key := by
  obtain ⟨fd, F⟩ := C.def_ 4
  exact defK_of 0 ["key"] kd_key_text_0_key (fn_key_text C N F) F (glo_at N (gl_of C.chk) 4) (kd_rel _) (fun _ _ _ _ _ _ us ws h1 h2 => by match us, ws, h1, h2 with | [], [_], _, _ => rfl)
def fb_read_key : SF := (sSeq (sIf (tNotB (tVal (eCallB oIsi0 (aCons (eVar 0) (aCons (eC (.ty "str")) aNil))))) (sRaise0 "InvalidText" "InvalidText") sNext)
    (sSeq (sIf (tCmp eqB (eVar 0) (eC (.str "-"))) (sRet (eC .non)) sNext)
    (sSeq (sAsg (eMeth isStr mSplit (eVar 0) (aCons (eC (.str ".")) aNil)) (bName 1))
    (sSeq (sIf (tOrB (tCmp (swapB ltB) (eCallB oLen (aCons (eVar 1) aNil)) (eC (.int 40))) (tNotB (tVal (eCallB oAll (aCons (eComp (iSeq (eVar 1)) (bName 2) [2] tYesB (eCallF 1 m_is_signed [] (aCons (eVar 2) aNil))) aNil))))) (sRaise0 "InvalidText" "InvalidText") sNext)
    (sRet (eCallB oTupOf (aCons (eComp (iSeq (eVar 1)) (bName 2) [2] tYesB (eCallB oIntStr (aCons (eVar 2) aNil))) aNil)))))))
theorem okb_read_key {P : Program} {w : World} {K : PySem.W.Frag} {mg : Str → Option Value} {base : Heap} {f : Addr} {cdv : Value} {A : Around} {outer : List PySem.Env} {s : Shared} {H : Hp} {E : XK} (T : Tp K mg) (hx_InvalidText : DefX0 P w K mg base "InvalidText" "InvalidText") (h_is_signed : Def1 P w K mg base "is_signed" 2 ps_is_signed m_is_signed [])
    (hr : Room 2 (A.deeper (envOfC "read_key" (defScope s_read_key) s.heap.objs.size f cdv))) (tk : Tk (bodyCx P w K mg base N_read_key "read_key" (defScope s_read_key) f cdv A outer s H E) (wOf E)) (hp : PassesOwn (model P w) (A.deeper (envOfC "read_key" (defScope s_read_key) s.heap.objs.size f cdv)) (envOfC "read_key" (defScope s_read_key) s.heap.objs.size f cdv) (bodyCx P w K mg base N_read_key "read_key" (defScope s_read_key) f cdv A outer s H E).xe) :
    SSs (bodyCx P w K mg base N_read_key "read_key" (defScope s_read_key) f cdv A outer s H E) (wOf E) (defBody s_read_key) (fb_read_key) :=
  (sss_cons (ss_if (st_not (st_val (se_callB cu_isi0 T.f_isinstance (sa_cons (se_var 0) (sa_cons (se_ty T.f_str) sa_nil))))) (sss_one (ss_raise0 rfl hx_InvalidText (hr.mono (by decide)) tk)) sss_nil)
    (sss_cons (ss_if (st_cmp (c_eq hr.units) (se_var 0) (se_str)) (sss_one (ss_ret (se_non))) sss_nil)
    (sss_cons (ss_set 1 (se_meth mu_split (se_var 0) (sa_cons (se_str) sa_nil)) sc_read_key.nd)
    (sss_cons (ss_if (st_w (st_or (st_cmp c_gt (se_callB cu_len T.f_len (sa_cons (se_var 1) sa_nil)) (se_gc T.c_MOST_NUMBERS)) (st_or1 (st_not (st_val (se_callB (cu_all rfl) T.f_all (sa_cons (by exact se_comp (own := [("part", 2)]) rfl sc_read_key.nd (by exact it_seq (se_var 1)) (blkOk_by (N := N_read_key) (sc := defScope s_read_key) (by decide +kernel)) (by exact blk_mk (t := gName 2) (fun _ _ _ _ _ => by exact pg_name (i := 2) sc_read_key.nd rfl (by first | exact Or.inl rfl | exact Or.inr rfl)) (by exact gu_name 2) (fun _ _ _ _ _ => by exact ts_nil) (fun _ _ _ _ _ => by exact sf_fn h_is_signed (hr.mono (by decide)) tk0 (sa_cons (se_var 2) sa_nil)))) sa_nil))))))) (sss_one (ss_raise0 rfl hx_InvalidText (hr.mono (by decide)) tk)) sss_nil)
    (sss_one (ss_ret (se_callTy cu_tup T.f_tuple (sa_cons (by exact se_comp (own := [("part", 2)]) rfl sc_read_key.nd (by exact it_seq (se_var 1)) (blkOk_by (N := N_read_key) (sc := defScope s_read_key) (by decide +kernel)) (by exact blk_mk (t := gName 2) (fun _ _ _ _ _ => by exact pg_name (i := 2) sc_read_key.nd rfl (by first | exact Or.inl rfl | exact Or.inr rfl)) (by exact gu_name 2) (fun _ _ _ _ _ => by exact ts_nil) (fun _ _ _ _ _ => by exact se_callTy cu_intS T.f_int (sa_cons (se_var 2) sa_nil)))) sa_nil))))))))
def m_read_key : MF := purM 3 fb_read_key
theorem fn_read_key {P : Program} {w : World} {K : PySem.W.Frag} {mg : Str → Option Value} {base : Heap} (C : SaysU chk fnL pnL K) (N : Nm K mg) {fd : FuncData} (F : FunD K "read_key" "read_key" (defArgs s_read_key) (defBody s_read_key) (defScope s_read_key) [] [] (fAd K (d_read_key).at_) fd) : FnU P w K mg base 3 (fAd K (d_read_key).at_) fd ps_read_key m_read_key :=
  fn_pur F sc_read_key fb_read_key fun cdv A outer s H E hr tk hp => okb_read_key (tp_of N C.chk) (defx_InvalidText C N) (def_is_signed C N) hr tk hp
theorem def_read_key {P : Program} {w : World} {K : PySem.W.Frag} {mg : Str → Option Value} {base : Heap} (C : SaysU chk fnL pnL K) (N : Nm K mg) : Def1 P w K mg base "read_key" 3 ps_read_key m_read_key [] := by
  obtain ⟨fd, F⟩ := C.def_ 5
  exact def1_of (fn_read_key C N F) F (glo_at N (gl_of C.chk) 5) (fun _ _ _ _ _ _ us h => by match us, h with | [_], _ => rfl)
theorem defk_read_key_0_text {P : Program} {w : World} {K : PySem.W.Frag} {mg : Str → Option Value} {base : Heap} (C : SaysU chk fnL pnL K) (N : Nm K mg) : DefK P w K mg base "read_key" 3 ps_read_key m_read_key 0 ["text"] kd_read_key_0_text := by
  obtain ⟨fd, F⟩ := C.def_ 5
  exact defK_of 0 ["text"] kd_read_key_0_text (fn_read_key C N F) F (glo_at N (gl_of C.chk) 5) (kd_rel _) (fun _ _ _ _ _ _ us ws h1 h2 => by match us, ws, h1, h2 with | [], [_], _, _ => rfl)
abbrev fb_law_bag : SF := fbBag 5784
theorem okb_law_bag {P : Program} {w : World} {K : PySem.W.Frag} {mg : Str → Option Value} {base : Heap} {f : Addr} {cdv : Value} {A : Around} {outer : List PySem.Env} {s : Shared} {H : Hp} {E : XK} (T : Tp K mg)
    (hr : Room 0 (A.deeper (envOfC "_law_bag" (defScope s_law_bag) s.heap.objs.size f cdv))) (tk : Tk (bodyCx P w K mg base N_law_bag "_law_bag" (defScope s_law_bag) f cdv A outer s H E) (wOf E)) (hp : PassesOwn (model P w) (A.deeper (envOfC "_law_bag" (defScope s_law_bag) s.heap.objs.size f cdv)) (envOfC "_law_bag" (defScope s_law_bag) s.heap.objs.size f cdv) (bodyCx P w K mg base N_law_bag "_law_bag" (defScope s_law_bag) f cdv A outer s H E).xe) :
    SSs (bodyCx P w K mg base N_law_bag "_law_bag" (defScope s_law_bag) f cdv A outer s H E) (wOf E) (defBody s_law_bag) (fb_law_bag) :=
  (sss_cons (ss_set 1 (se_callTy cu_list T.f_list (sa_cons (se_sl (se_var 0) so_none (so_some (se_int))) sa_nil)) sc_law_bag.nd)
    (sss_one (ss_ret (se_lstS (sa_cons (se_var 1) (sa_cons (se_int) (sa_cons (se_int) (sa_cons (se_bin b_add (se_int) (se_callB cu_len T.f_len (sa_cons (se_var 1) sa_nil))) sa_nil))))))))
def m_law_bag : MF := rawM 2 fb_law_bag
theorem fn_law_bag {P : Program} {w : World} {K : PySem.W.Frag} {mg : Str → Option Value} {base : Heap} (C : SaysU chk fnL pnL K) (N : Nm K mg) {fd : FuncData} (F : FunD K "_law_bag" "_law_bag" (defArgs s_law_bag) (defBody s_law_bag) (defScope s_law_bag) [] [] (fAd K (d_law_bag).at_) fd) : FnU P w K mg base 1 (fAd K (d_law_bag).at_) fd ps_law_bag m_law_bag :=
  fn_raw F sc_law_bag fb_law_bag fun cdv A outer s H E hr tk hp => okb_law_bag (tp_of N C.chk)  hr tk hp
theorem def_law_bag {P : Program} {w : World} {K : PySem.W.Frag} {mg : Str → Option Value} {base : Heap} (C : SaysU chk fnL pnL K) (N : Nm K mg) : Def1 P w K mg base "_law_bag" 1 ps_law_bag m_law_bag [] := by
  obtain ⟨fd, F⟩ := C.def_ 6
  exact def1_of (fn_law_bag C N F) F (glo_at N (gl_of C.chk) 6) (fun _ _ _ _ _ _ us h => by match us, h with | [_], _ => rfl)
abbrev fb_law_draw : SF := fbDraw
theorem okb_law_draw {P : Program} {w : World} {K : PySem.W.Frag} {mg : Str → Option Value} {base : Heap} {f : Addr} {cdv : Value} {A : Around} {outer : List PySem.Env} {s : Shared} {H : Hp} {E : XK} (T : Tp K mg)
    (hr : Room 0 (A.deeper (envOfC "_law_draw" (defScope s_law_draw) s.heap.objs.size f cdv))) (tk : Tk (bodyCx P w K mg base N_law_draw "_law_draw" (defScope s_law_draw) f cdv A outer s H E) (wOf E)) (hp : PassesOwn (model P w) (A.deeper (envOfC "_law_draw" (defScope s_law_draw) s.heap.objs.size f cdv)) (envOfC "_law_draw" (defScope s_law_draw) s.heap.objs.size f cdv) (bodyCx P w K mg base N_law_draw "_law_draw" (defScope s_law_draw) f cdv A outer s H E).xe) :
    SSs (bodyCx P w K mg base N_law_draw "_law_draw" (defScope s_law_draw) f cdv A outer s H E) (wOf E) (defBody s_law_draw) (fb_law_draw) :=
  (sss_cons (ss_if (st_w (st_and (st_cmp (c_eq hr.units) (se_ix (se_var 0) (se_int)) (se_int)) (st_and1 (st_cmp c_lt (se_ix (se_var 0) (se_int)) (se_callB cu_len T.f_len (sa_cons (se_ix (se_var 0) (se_int)) sa_nil)))))) (sss_cons (ss_set 2 (se_ix (se_ix (se_var 0) (se_int)) (se_ix (se_var 0) (se_int))) sc_law_draw.nd)
    (sss_cons (ss_sub (se_bin b_add (se_ix (se_var 0) (se_int)) (se_int)) (se_var 0) (se_int))
    (sss_one (ss_if (st_cmp c_ge (se_callB cu_abs T.f_abs (sa_cons (se_var 2) sa_nil)) (se_bin b_pow (se_int) (se_int))) (sss_one (ss_sub (se_callB cu_abs T.f_abs (sa_cons (se_var 2) sa_nil)) (se_var 0) (se_int))) (sss_one (ss_sub (se_bin b_mod (se_callTy cu_int T.f_int (sa_cons (se_bin b_add (se_bin b_add (se_bin b_mul (se_ix (se_var 0) (se_int)) (se_int)) (se_bin b_mul (se_bin b_mod (se_callTy cu_int T.f_int (sa_cons (se_var 2) sa_nil)) (se_int)) (se_int))) (se_int)) sa_nil)) (se_int)) (se_var 0) (se_int))))))) sss_nil)
    (sss_cons (ss_if (st_cmp c_gt (se_ix (se_var 0) (se_int)) (se_int)) (sss_cons (ss_set 3 (se_bin b_mod (se_callTy cu_int T.f_int (sa_cons (se_ix (se_var 0) (se_int)) sa_nil)) (se_var 1)) sc_law_draw.nd)
    (sss_cons (ss_sub (se_bin b_div (se_ix (se_var 0) (se_int)) (se_var 1)) (se_var 0) (se_int))
    (sss_one (ss_ret (se_var 3))))) sss_nil)
    (sss_cons (ss_sub (se_bin b_mod (se_callTy cu_int T.f_int (sa_cons (se_bin b_add (se_bin b_add (se_bin b_mul (se_ix (se_var 0) (se_int)) (se_ix (se_var 0) (se_int))) (se_bin b_mul (se_ix (se_var 0) (se_int)) (se_int))) (se_int)) sa_nil)) (se_int)) (se_var 0) (se_int))
    (sss_one (ss_ret (se_bin b_mod (se_callTy cu_int T.f_int (sa_cons (se_bin b_div (se_ix (se_var 0) (se_int)) (se_int)) sa_nil)) (se_var 1)))))))
def m_law_draw : MF := rawM 4 fb_law_draw
theorem fn_law_draw {P : Program} {w : World} {K : PySem.W.Frag} {mg : Str → Option Value} {base : Heap} (C : SaysU chk fnL pnL K) (N : Nm K mg) {fd : FuncData} (F : FunD K "_law_draw" "_law_draw" (defArgs s_law_draw) (defBody s_law_draw) (defScope s_law_draw) [] [] (fAd K (d_law_draw).at_) fd) : FnU P w K mg base 1 (fAd K (d_law_draw).at_) fd ps_law_draw m_law_draw :=
  fn_raw F sc_law_draw fb_law_draw fun cdv A outer s H E hr tk hp => okb_law_draw (tp_of N C.chk)  hr tk hp
theorem def_law_draw {P : Program} {w : World} {K : PySem.W.Frag} {mg : Str → Option Value} {base : Heap} (C : SaysU chk fnL pnL K) (N : Nm K mg) : Def1 P w K mg base "_law_draw" 1 ps_law_draw m_law_draw [] := by
  obtain ⟨fd, F⟩ := C.def_ 7
  exact def1_of (fn_law_draw C N F) F (glo_at N (gl_of C.chk) 7) (fun _ _ _ _ _ _ us h => by match us, h with | [_, _], _ => rfl)
abbrev fb_law_pick : SF := fbPick m_law_draw
theorem okb_law_pick {P : Program} {w : World} {K : PySem.W.Frag} {mg : Str → Option Value} {base : Heap} {f : Addr} {cdv : Value} {A : Around} {outer : List PySem.Env} {s : Shared} {H : Hp} {E : XK} (T : Tp K mg) (h_law_draw : Def1 P w K mg base "_law_draw" 1 ps_law_draw m_law_draw [])
    (hr : Room 1 (A.deeper (envOfC "_law_pick" (defScope s_law_pick) s.heap.objs.size f cdv))) (tk : Tk (bodyCx P w K mg base N_law_pick "_law_pick" (defScope s_law_pick) f cdv A outer s H E) (wOf E)) (hp : PassesOwn (model P w) (A.deeper (envOfC "_law_pick" (defScope s_law_pick) s.heap.objs.size f cdv)) (envOfC "_law_pick" (defScope s_law_pick) s.heap.objs.size f cdv) (bodyCx P w K mg base N_law_pick "_law_pick" (defScope s_law_pick) f cdv A outer s H E).xe) :
    SSs (bodyCx P w K mg base N_law_pick "_law_pick" (defScope s_law_pick) f cdv A outer s H E) (wOf E) (defBody s_law_pick) (fb_law_pick) :=
  (sss_one (ss_ret (se_ix (se_var 1) (sf_fn h_law_draw (hr.mono (by decide)) tk (sa_cons (se_var 0) (sa_cons (se_callB cu_len T.f_len (sa_cons (se_var 1) sa_nil)) sa_nil))))))
def m_law_pick : MF := rawM 2 fb_law_pick
theorem fn_law_pick {P : Program} {w : World} {K : PySem.W.Frag} {mg : Str → Option Value} {base : Heap} (C : SaysU chk fnL pnL K) (N : Nm K mg) {fd : FuncData} (F : FunD K "_law_pick" "_law_pick" (defArgs s_law_pick) (defBody s_law_pick) (defScope s_law_pick) [] [] (fAd K (d_law_pick).at_) fd) : FnU P w K mg base 2 (fAd K (d_law_pick).at_) fd ps_law_pick m_law_pick :=
  fn_raw F sc_law_pick fb_law_pick fun cdv A outer s H E hr tk hp => okb_law_pick (tp_of N C.chk) (def_law_draw C N) hr tk hp
theorem def_law_pick {P : Program} {w : World} {K : PySem.W.Frag} {mg : Str → Option Value} {base : Heap} (C : SaysU chk fnL pnL K) (N : Nm K mg) : Def1 P w K mg base "_law_pick" 2 ps_law_pick m_law_pick [] := by
  obtain ⟨fd, F⟩ := C.def_ 8
  exact def1_of (fn_law_pick C N F) F (glo_at N (gl_of C.chk) 8) (fun _ _ _ _ _ _ us h => by match us, h with | [_, _], _ => rfl)
abbrev fb_law_same (mself : MF) : SF := fbSame mself
theorem okb_law_same {P : Program} {w : World} {K : PySem.W.Frag} {mg : Str → Option Value} {base : Heap} {f : Addr} {cdv : Value} {A : Around} {outer : List PySem.Env} {s : Shared} {H : Hp} {E : XK} {k : Nat} (T : Tp K mg) (mself : MF) (h_law_same : Def1 P w K mg base "_law_same" (k + 1) ps_law_same mself [])
    (hr : Room (k + 1) (A.deeper (envOfC "_law_same" (defScope s_law_same) s.heap.objs.size f cdv))) (tk : Tk (bodyCx P w K mg base N_law_same "_law_same" (defScope s_law_same) f cdv A outer s H E) (wOf E)) (hp : PassesOwn (model P w) (A.deeper (envOfC "_law_same" (defScope s_law_same) s.heap.objs.size f cdv)) (envOfC "_law_same" (defScope s_law_same) s.heap.objs.size f cdv) (bodyCx P w K mg base N_law_same "_law_same" (defScope s_law_same) f cdv A outer s H E).xe) :
    SSs (bodyCx P w K mg base N_law_same "_law_same" (defScope s_law_same) f cdv A outer s H E) (wOf E) (defBody s_law_same) (fb_law_same mself) :=
  (sss_cons (ss_if (st_w (st_and (st_val (se_callB cu_isi0 T.f_isinstance (sa_cons (se_var 1) (sa_cons (se_tup (sa_cons (se_ty T.f_list) (sa_cons (se_ty T.f_tuple) sa_nil))) sa_nil)))) (st_and1 (st_val (se_callB cu_isi0 T.f_isinstance (sa_cons (se_var 0) (sa_cons (se_tup (sa_cons (se_ty T.f_list) (sa_cons (se_ty T.f_tuple) sa_nil))) sa_nil))))))) (sss_cons (ss_set 2 (se_and (se_cmp (c_eq hr.units) (se_callB cu_isi0 T.f_isinstance (sa_cons (se_var 1) (sa_cons (se_ty T.f_list) sa_nil))) (se_callB cu_isi0 T.f_isinstance (sa_cons (se_var 0) (sa_cons (se_ty T.f_list) sa_nil)))) (se_one (se_cmp (c_eq hr.units) (se_callB cu_len T.f_len (sa_cons (se_var 0) sa_nil)) (se_callB cu_len T.f_len (sa_cons (se_var 1) sa_nil))))) sc_law_same.nd)
    (sss_one (ss_ret (se_and (se_var 2) (se_one (se_callB (cu_all rfl) T.f_all (sa_cons (by exact se_comp (own := [("_law_at", 3)]) rfl sc_law_same.nd (by exact it_range1 T.f_range (sa_cons (se_callB cu_len T.f_len (sa_cons (se_var 1) sa_nil)) sa_nil)) (blkOk_by (N := N_law_same) (sc := defScope s_law_same) (by decide +kernel)) (by exact blk_mk (t := gName 3) (fun _ _ _ _ _ => by exact pg_name (i := 3) sc_law_same.nd rfl (by first | exact Or.inl rfl | exact Or.inr rfl)) (by exact gu_name 3) (fun _ _ _ _ _ => by exact ts_nil) (fun _ _ _ _ _ => by exact sf_fn h_law_same hr tk0 (sa_cons (se_ix (se_var 0) (se_var 3)) (sa_cons (se_ix (se_var 1) (se_var 3)) sa_nil))))) sa_nil))))))) sss_nil)
    (sss_cons (ss_if (st_w (st_or (st_val (se_callB cu_isi0 T.f_isinstance (sa_cons (se_var 1) (sa_cons (se_tup (sa_cons (se_ty T.f_list) (sa_cons (se_ty T.f_tuple) sa_nil))) sa_nil)))) (st_or (st_val (se_callB cu_isi0 T.f_isinstance (sa_cons (se_var 0) (sa_cons (se_tup (sa_cons (se_ty T.f_list) (sa_cons (se_ty T.f_tuple) sa_nil))) sa_nil)))) (st_or1 (st_cmp (c_ne hr.units) (se_cmp c_is (se_var 1) (se_non)) (se_cmp c_is (se_var 0) (se_non))))))) (sss_one (ss_ret (se_bl))) sss_nil)
    (sss_cons (ss_set 2 (se_and (se_cmp (c_eq hr.units) (se_callB cu_isi0 T.f_isinstance (sa_cons (se_var 1) (sa_cons (se_ty T.f_bool) sa_nil))) (se_callB cu_isi0 T.f_isinstance (sa_cons (se_var 0) (sa_cons (se_ty T.f_bool) sa_nil)))) (se_one (se_cmp (c_eq hr.units) (se_callB cu_isi0 T.f_isinstance (sa_cons (se_var 1) (sa_cons (se_ty T.f_int) sa_nil))) (se_callB cu_isi0 T.f_isinstance (sa_cons (se_var 0) (sa_cons (se_ty T.f_int) sa_nil)))))) sc_law_same.nd)
    (sss_one (ss_ret (se_and (se_var 2) (se_and (se_cmp (c_eq hr.units) (se_callB cu_isi0 T.f_isinstance (sa_cons (se_var 1) (sa_cons (se_ty T.f_str) sa_nil))) (se_callB cu_isi0 T.f_isinstance (sa_cons (se_var 0) (sa_cons (se_ty T.f_str) sa_nil)))) (se_one (se_cmp (c_eq hr.units) (se_var 0) (se_var 1))))))))))
abbrev m_law_same : Nat → MF := sameM
theorem fn_law_same {P : Program} {w : World} {K : PySem.W.Frag} {mg : Str → Option Value} {base : Heap} (C : SaysU chk fnL pnL K) (N : Nm K mg) {fd : FuncData} (F : FunD K "_law_same" "_law_same" (defArgs s_law_same) (defBody s_law_same) (defScope s_law_same) [] [] (fAd K (d_law_same).at_) fd) : ∀ k : Nat, FnU P w K mg base (k + 1) (fAd K (d_law_same).at_) fd ps_law_same (m_law_same k)
  | 0 => fn_no F sc_law_same
  | k + 1 => by
    have ih : Def1 P w K mg base "_law_same" (k + 1) ps_law_same (m_law_same k) [] := def1_of (fn_law_same C N F k) F (glo_at N (gl_of C.chk) 9) (fun _ _ _ _ _ _ us h => by match us, h with | [_, _], _ => rfl)
    exact fn_pur F sc_law_same (fb_law_same (m_law_same k)) fun cdv A outer s H E hr tk hp => okb_law_same (tp_of N C.chk) (m_law_same k) ih hr tk hp
theorem def_law_same {P : Program} {w : World} {K : PySem.W.Frag} {mg : Str → Option Value} {base : Heap} (C : SaysU chk fnL pnL K) (N : Nm K mg) (k : Nat) : Def1 P w K mg base "_law_same" (k + 1) ps_law_same (m_law_same k) [] := by
  obtain ⟨fd, F⟩ := C.def_ 9
  exact def1_of (fn_law_same C N F k) F (glo_at N (gl_of C.chk) 9) (fun _ _ _ _ _ _ us h => by match us, h with | [_, _], _ => rfl)
def fb_law_field : SF := (sSeq (sIf (tCmp inB (eXf xcs "code" (eVar 0)) (eTup (aCons (eC (.str "InvalidState")) (aCons (eC (.str "InvalidKey")) (aCons (eC (.str "TakenKey")) (aCons (eC (.str "InvalidAct")) (aCons (eC (.str "InvalidNumber")) (aCons (eC (.str "InvalidWish")) aNil)))))))) (sRet (eXf xcs "given" (eVar 0))) sNext)
    (sSeq (sIf (tCmp inB (eXf xcs "code" (eVar 0)) (eTup (aCons (eC (.str "InvalidEdit")) (aCons (eC (.str "InvalidStanding")) (aCons (eC (.str "InvalidLimit")) aNil))))) (sRet (eXf xcs "given" (eVar 0))) sNext)
    (sSeq (sIf (tCmp inB (eXf xcs "code" (eVar 0)) (eTup (aCons (eC (.str "InvalidRules")) (aCons (eC (.str "InvalidStory")) (aCons (eC (.str "InvalidEvent")) aNil))))) (sRet (eNo)) sNext)
    (sSeq (sIf (tCmp inB (eXf xcs "code" (eVar 0)) (eTup (aCons (eC (.str "WrongState")) (aCons (eC (.str "NoRow")) aNil)))) (sRet (eNo)) sNext)
    (sSeq (sIf (tCmp inB (eXf xcs "code" (eVar 0)) (eTup (aCons (eC (.str "TooMany")) (aCons (eC (.str "Full")) aNil)))) (sRet (eNo)) sNext)
    (sSeq (sIf (tCmp eqB (eXf xcs "code" (eVar 0)) (eC (.str "Misfit"))) (sRet (eNo)) sNext)
    (sRet (eIf (tCmp eqB (eXf xcs "code" (eVar 0)) (eC (.str "InvalidPage"))) (eNo) (eC .non)))))))))
theorem okb_law_field {P : Program} {w : World} {K : PySem.W.Frag} {mg : Str → Option Value} {base : Heap} {f : Addr} {cdv : Value} {A : Around} {outer : List PySem.Env} {s : Shared} {H : Hp}  (T : Tp K mg)
    (hr : L2H.RoomH 0 (A.deeper (envOfC "_law_field" (defScope s_law_field) s.heap.objs.size f cdv))) :
    SSs (bodyCxH P w K mg base N_law_field "_law_field" (defScope s_law_field) f cdv A outer s H) W0 (defBody s_law_field) fb_law_field :=
  (sss_cons (ss_if (st_cmp c_in (se_xf T.xf_code (se_var 0)) (se_tup (sa_cons (se_str) (sa_cons (se_str) (sa_cons (se_str) (sa_cons (se_str) (sa_cons (se_str) (sa_cons (se_str) sa_nil)))))))) (sss_one (ss_ret (se_xf T.xf_given (se_var 0)))) sss_nil)
    (sss_cons (ss_if (st_cmp c_in (se_xf T.xf_code (se_var 0)) (se_tup (sa_cons (se_str) (sa_cons (se_str) (sa_cons (se_str) sa_nil))))) (sss_one (ss_ret (se_xf T.xf_given (se_var 0)))) sss_nil)
    (sss_cons (ss_if (st_cmp c_in (se_xf T.xf_code (se_var 0)) (se_tup (sa_cons (se_str) (sa_cons (se_str) (sa_cons (se_str) sa_nil))))) (sss_one (ss_ret (se_no))) sss_nil)
    (sss_cons (ss_if (st_cmp c_in (se_xf T.xf_code (se_var 0)) (se_tup (sa_cons (se_str) (sa_cons (se_str) sa_nil)))) (sss_one (ss_ret (se_no))) sss_nil)
    (sss_cons (ss_if (st_cmp c_in (se_xf T.xf_code (se_var 0)) (se_tup (sa_cons (se_str) (sa_cons (se_str) sa_nil)))) (sss_one (ss_ret (se_no))) sss_nil)
    (sss_cons (ss_if (st_cmp (c_eq hr.units) (se_xf T.xf_code (se_var 0)) (se_str)) (sss_one (ss_ret (se_no))) sss_nil)
    (sss_one (ss_ret (se_if (st_cmp (c_eq hr.units) (se_xf T.xf_code (se_var 0)) (se_str)) (se_no) (se_non))))))))))
def m_law_field : MF := rawM 1 fb_law_field
theorem defh_law_field {P : Program} {w : World} {K : PySem.W.Frag} {mg : Str → Option Value} {base : Heap} (C : SaysU chk fnL pnL K) (N : Nm K mg) : Def1C P w K mg base "_law_field" 1 ps_law_field m_law_field := by
  obtain ⟨fd, F⟩ := C.def_ 10
  exact def1C_of F sc_law_field fb_law_field (glo_at N (gl_of C.chk) 10) (fun cdv A outer s H hr => okb_law_field (tp_of N C.chk)  hr) (fun _ _ _ _ _ _ us h => by match us, h with | [_], _ => rfl)
def fb_lam0 : EF := eCallF 1 m_read_key [] (aCons (eVar 0) aNil)
def fb_lam1 : EF := eCallF 1 m_key_text [] (aCons (eVar 0) aNil)
def fb_lam2 : EF := eCallF 1 m_read_key [] (aCons (eCallF 2 m_law_pick [] (aCons (eVar 0) (aCons (eLst (aCons (eC .non) (aCons (eC (.int 3)) (aCons (eTup (aCons (eC (.str "1")) aNil)) (aCons (eLst (aCons (eC (.str "-")) aNil)) aNil))))) aNil))) aNil)
def lamT : Nat → Option EF
  | 0 => some fb_lam0
  | 1 => some fb_lam1
  | 2 => some fb_lam2
  | _ => none
theorem okl_0 {P : Program} {w : World} {K : PySem.W.Frag} {mg : Str → Option Value} {base : Heap} (T : Tp K mg) (h_read_key : Def1 P w K mg base "read_key" 3 ps_read_key m_read_key []) : LamBody P w K mg base lam0 3 fb_lam0 := fun b f c A outer s H E hr tk => by exact sf_fn h_read_key (hr.mono (by decide)) tk (sa_cons (se_var 0) sa_nil)
theorem lamo_0 : LamOk lam0 := lamOk_by (by decide +kernel)
theorem lamb_0 : BindK lam0 none := bindK_no rfl (fun _ _ _ _ _ => rfl)
theorem okl_1 {P : Program} {w : World} {K : PySem.W.Frag} {mg : Str → Option Value} {base : Heap} (T : Tp K mg) (h_key_text : Def1 P w K mg base "key_text" 3 ps_key_text m_key_text []) : LamBody P w K mg base lam1 3 fb_lam1 := fun b f c A outer s H E hr tk => by exact sf_fn h_key_text (hr.mono (by decide)) tk (sa_cons (se_var 0) sa_nil)
theorem lamo_1 : LamOk lam1 := lamOk_by (by decide +kernel)
theorem lamb_1 : BindK lam1 none := bindK_no rfl (fun _ _ _ _ _ => rfl)
theorem okl_2 {P : Program} {w : World} {K : PySem.W.Frag} {mg : Str → Option Value} {base : Heap} (T : Tp K mg) (h_law_pick : Def1 P w K mg base "_law_pick" 2 ps_law_pick m_law_pick []) (h_read_key : Def1 P w K mg base "read_key" 3 ps_read_key m_read_key []) : LamBody P w K mg base lam2 3 fb_lam2 := fun b f c A outer s H E hr tk => by exact sf_fn h_read_key (hr.mono (by decide)) tk (sa_cons (sf_fn h_law_pick (hr.mono (by decide)) tk (sa_cons (se_var 0) (sa_cons (se_lst (sa_cons (se_non) (sa_cons (se_int) (sa_cons (se_tup (sa_cons (se_str) sa_nil)) (sa_cons (se_lst (sa_cons (se_str) sa_nil)) sa_nil))))) sa_nil))) sa_nil)
theorem lamo_2 : LamOk lam2 := lamOk_by (by decide +kernel)
theorem lamb_2 : BindK lam2 (some "_law_a") := bindK_one (by intro h; cases h) (by kernel_rfl) (fun cl pm doc cv ctv td v => ⟨_, rfl, rfl⟩)
theorem lamT_ok {P : Program} {w : World} {K : PySem.W.Frag} {mg : Str → Option Value} {base : Heap} (C : SaysU chk fnL pnL K) (N : Nm K mg) : LamT P w K mg base 3 lamT := ⟨fun n fb h => by
  match n, h with
  | 0, h => (cases h; exact ⟨lam0, none, rfl, lamo_0, lamb_0, okl_0 (tp_of N C.chk) (def_read_key C N)⟩)
  | 1, h => (cases h; exact ⟨lam1, none, rfl, lamo_1, lamb_1, okl_1 (tp_of N C.chk) (def_key_text C N)⟩)
  | 2, h => (cases h; exact ⟨lam2, (some "_law_a"), rfl, lamo_2, lamb_2, okl_2 (tp_of N C.chk) (def_law_pick C N) (def_read_key C N)⟩)
  | _ + 3, h => (have h' : (none : Option EF) = some fb := h; cases h')⟩
def fb_law_got : SF := (sSeq (sAsg (eTup (aCons (eC (.str "")) (aCons (eC .non) aNil))) (bName 1))
    (sSeq (sTry xcs 2 (sAsg (eTup (aCons (eC (.str "")) (aCons (eLamS lamT 0) aNil))) (bName 1)) (sAsg (eTup (aCons (eXf xcs "code" (eVar 2)) (aCons (eCallF 1 m_law_field [] (aCons (eVar 2) aNil)) aNil))) (bName 1)))
    (sRet (eVar 1))))
theorem okb_law_got {P : Program} {w : World} {K : PySem.W.Frag} {mg : Str → Option Value} {base : Heap} {f : Addr} {cdv : Value} {A : Around} {outer : List PySem.Env} {s : Shared} {H : Hp} {E : XK} (T : Tp K mg) (hLT : LamT P w K mg base 3 lamT) (hh_law_field : Def1C P w K mg base "_law_field" 1 ps_law_field m_law_field)
    (hr : Room 4 (A.deeper (envOfC "_law_got" (defScope s_law_got) s.heap.objs.size f cdv))) (tk : Tk (bodyCx P w K mg base N_law_got "_law_got" (defScope s_law_got) f cdv A outer s H E) (wOf E)) (hp : PassesOwn (model P w) (A.deeper (envOfC "_law_got" (defScope s_law_got) s.heap.objs.size f cdv)) (envOfC "_law_got" (defScope s_law_got) s.heap.objs.size f cdv) (bodyCx P w K mg base N_law_got "_law_got" (defScope s_law_got) f cdv A outer s H E).xe) :
    SSs (bodyCx P w K mg base N_law_got "_law_got" (defScope s_law_got) f cdv A outer s H E) (wOf E) (defBody s_law_got) (fb_law_got) :=
  (sss_cons (ss_set 1 (se_tup (sa_cons (se_str) (sa_cons (se_non) sa_nil))) sc_law_got.nd)
    (sss_cons (ss_try3 sc_law_got.nd tk T.tr_RunError_Missing_NothingLeft T.g_RunError T.g_Missing T.g_NothingLeft (fun _ _ _ tk hp => by exact (sss_one (ss_set 1 (se_tup (sa_cons (se_str) (sa_cons (se_lamS hLT (hr.mono (by decide)) tk) sa_nil))) sc_law_got.nd))) (fun _ _ => by exact (sss_one (ss_set 1 (se_tup (sa_cons (se_xf T.xf_code (se_var 2)) (sa_cons (sf_fnC hh_law_field (roomH_suite hr (by decide)) (sa_cons (se_var 2) sa_nil)) sa_nil))) sc_law_got.nd))))
    (sss_one (ss_ret (se_var 1)))))
def m_law_got : MF := rawM 3 fb_law_got
theorem fn_law_got {P : Program} {w : World} {K : PySem.W.Frag} {mg : Str → Option Value} {base : Heap} (C : SaysU chk fnL pnL K) (N : Nm K mg) {fd : FuncData} (F : FunD K "_law_got" "_law_got" (defArgs s_law_got) (defBody s_law_got) (defScope s_law_got) [] [] (fAd K (d_law_got).at_) fd) : FnU P w K mg base 5 (fAd K (d_law_got).at_) fd ps_law_got m_law_got :=
  fn_raw F sc_law_got fb_law_got fun cdv A outer s H E hr tk hp => okb_law_got (tp_of N C.chk) (lamT_ok C N) (defh_law_field C N) hr tk hp
theorem def_law_got {P : Program} {w : World} {K : PySem.W.Frag} {mg : Str → Option Value} {base : Heap} (C : SaysU chk fnL pnL K) (N : Nm K mg) : Def1 P w K mg base "_law_got" 5 ps_law_got m_law_got [] := by
  obtain ⟨fd, F⟩ := C.def_ 11
  exact def1_of (fn_law_got C N F) F (glo_at N (gl_of C.chk) 11) (fun _ _ _ _ _ _ us h => by match us, h with | [_], _ => rfl)
def fb_law_all_got : SF := (sRet (eComp (iSeq (eVar 0)) (bName 1) [1] tYesB (eCallF 1 m_law_got [] (aCons (eVar 1) aNil))))
theorem okb_law_all_got {P : Program} {w : World} {K : PySem.W.Frag} {mg : Str → Option Value} {base : Heap} {f : Addr} {cdv : Value} {A : Around} {outer : List PySem.Env} {s : Shared} {H : Hp} {E : XK} (T : Tp K mg) (h_law_got : Def1 P w K mg base "_law_got" 5 ps_law_got m_law_got [])
    (hr : Room 5 (A.deeper (envOfC "_law_all_got" (defScope s_law_all_got) s.heap.objs.size f cdv))) (tk : Tk (bodyCx P w K mg base N_law_all_got "_law_all_got" (defScope s_law_all_got) f cdv A outer s H E) (wOf E)) (hp : PassesOwn (model P w) (A.deeper (envOfC "_law_all_got" (defScope s_law_all_got) s.heap.objs.size f cdv)) (envOfC "_law_all_got" (defScope s_law_all_got) s.heap.objs.size f cdv) (bodyCx P w K mg base N_law_all_got "_law_all_got" (defScope s_law_all_got) f cdv A outer s H E).xe) :
    SSs (bodyCx P w K mg base N_law_all_got "_law_all_got" (defScope s_law_all_got) f cdv A outer s H E) (wOf E) (defBody s_law_all_got) (fb_law_all_got) :=
  (sss_one (ss_ret (by exact se_comp (own := [("_law_ask", 1)]) rfl sc_law_all_got.nd (by exact it_seq (se_var 0)) (blkOk_by (N := N_law_all_got) (sc := defScope s_law_all_got) (by decide +kernel)) (by exact blk_mk (t := gName 1) (fun _ _ _ _ _ => by exact pg_name (i := 1) sc_law_all_got.nd rfl (by first | exact Or.inl rfl | exact Or.inr rfl)) (by exact gu_name 1) (fun _ _ _ _ _ => by exact ts_nil) (fun _ _ _ _ _ => by exact sf_fn h_law_got (hr.mono (by decide)) tk0 (sa_cons (se_var 1) sa_nil))))))
def m_law_all_got : MF := rawM 2 fb_law_all_got
theorem fn_law_all_got {P : Program} {w : World} {K : PySem.W.Frag} {mg : Str → Option Value} {base : Heap} (C : SaysU chk fnL pnL K) (N : Nm K mg) {fd : FuncData} (F : FunD K "_law_all_got" "_law_all_got" (defArgs s_law_all_got) (defBody s_law_all_got) (defScope s_law_all_got) [] [] (fAd K (d_law_all_got).at_) fd) : FnU P w K mg base 6 (fAd K (d_law_all_got).at_) fd ps_law_all_got m_law_all_got :=
  fn_raw F sc_law_all_got fb_law_all_got fun cdv A outer s H E hr tk hp => okb_law_all_got (tp_of N C.chk) (def_law_got C N) hr tk hp
theorem def_law_all_got {P : Program} {w : World} {K : PySem.W.Frag} {mg : Str → Option Value} {base : Heap} (C : SaysU chk fnL pnL K) (N : Nm K mg) : Def1 P w K mg base "_law_all_got" 6 ps_law_all_got m_law_all_got [] := by
  obtain ⟨fd, F⟩ := C.def_ 12
  exact def1_of (fn_law_all_got C N F) F (glo_at N (gl_of C.chk) 12) (fun _ _ _ _ _ _ us h => by match us, h with | [_], _ => rfl)
def fb_law_read : SF := (sSeq (sIf (tCmp eqB (eVar 0) (eC (.str "-"))) (sRet (eC .non)) sNext)
    (sSeq (sAsg (eMeth isStr mSplit (eVar 0) (aCons (eC (.str ".")) aNil)) (bName 1))
    (sSeq (sFor (iSeq (eVar 1)) (bName 2) (sSeq (sAsg (eIf (tCmp eqB (eSl (eVar 2) oNone (oSome (eC (.int 1)))) (eC (.str "-"))) (eSl (eVar 2) (oSome (eC (.int 1))) oNone) (eVar 2)) (bName 3))
    (sSeq (sAsg (eAnd (eChain (notB (swapB ltB)) (notB (swapB ltB)) (eC (.int 1)) (eCallB oLen (aCons (eVar 3) aNil)) (eC (.int 40))) (eCallB oAll (aCons (eComp (iSeq (eVar 3)) (bName 5) [5] tYesB (eCmp inB (eVar 5) (eC (.str "0123456789")))) aNil))) (bName 4))
    (sIf (tOrB (tNotB (tVal (eVar 4))) (tCmp (notB eqB) (eCallB oStrOf (aCons (eCallB oIntStr (aCons (eVar 2) aNil)) aNil)) (eVar 2))) (sRet (eC (.bl false))) sNext))))
    (sRet (eIf (tCmp (notB (swapB ltB)) (eCallB oLen (aCons (eVar 1) aNil)) (eC (.int 40))) (eCallB oTupOf (aCons (eComp (iSeq (eVar 1)) (bName 2) [2] tYesB (eCallB oIntStr (aCons (eVar 2) aNil))) aNil)) (eC (.bl false)))))))
theorem okb_law_read {P : Program} {w : World} {K : PySem.W.Frag} {mg : Str → Option Value} {base : Heap} {f : Addr} {cdv : Value} {A : Around} {outer : List PySem.Env} {s : Shared} {H : Hp} {E : XK} (T : Tp K mg)
    (hr : Room 0 (A.deeper (envOfC "_law_read" (defScope s_law_read) s.heap.objs.size f cdv))) (tk : Tk (bodyCx P w K mg base N_law_read "_law_read" (defScope s_law_read) f cdv A outer s H E) (wOf E)) (hp : PassesOwn (model P w) (A.deeper (envOfC "_law_read" (defScope s_law_read) s.heap.objs.size f cdv)) (envOfC "_law_read" (defScope s_law_read) s.heap.objs.size f cdv) (bodyCx P w K mg base N_law_read "_law_read" (defScope s_law_read) f cdv A outer s H E).xe) :
    SSs (bodyCx P w K mg base N_law_read "_law_read" (defScope s_law_read) f cdv A outer s H E) (wOf E) (defBody s_law_read) (fb_law_read) :=
  (sss_cons (ss_if (st_cmp (c_eq hr.units) (se_var 0) (se_str)) (sss_one (ss_ret (se_non))) sss_nil)
    (sss_cons (ss_set 1 (se_meth mu_split (se_var 0) (sa_cons (se_str) sa_nil)) sc_law_read.nd)
    (sss_cons (ss_for hp rfl (it_seq (se_var 1)) (bu_name 2 sc_law_read.nd) (sss_cons (ss_set 3 (se_if (st_cmp (c_eq hr.units) (se_sl (se_var 2) so_none (so_some (se_int))) (se_str)) (se_sl (se_var 2) (so_some (se_int)) so_none) (se_var 2)) sc_law_read.nd)
    (sss_cons (ss_set 4 (se_and (se_chain c_le c_le (se_int) (se_callB cu_len T.f_len (sa_cons (se_var 3) sa_nil)) (se_int)) (se_one (se_callB (cu_all rfl) T.f_all (sa_cons (by exact se_comp (own := [("_law_sign", 5)]) rfl sc_law_read.nd (by exact it_seq (se_var 3)) (blkOk_by (N := N_law_read) (sc := defScope s_law_read) (by decide +kernel)) (by exact blk_mk (t := gName 5) (fun _ _ _ _ _ => by exact pg_name (i := 5) sc_law_read.nd rfl (by first | exact Or.inl rfl | exact Or.inr rfl)) (by exact gu_name 5) (fun _ _ _ _ _ => by exact ts_nil) (fun _ _ _ _ _ => by exact se_cmp c_in (se_var 5) (se_str)))) sa_nil)))) sc_law_read.nd)
    (sss_one (ss_if (st_w (st_or (st_not (st_val (se_var 4))) (st_or1 (st_cmp (c_ne hr.units) (se_callTy cu_strI T.f_str (sa_cons (se_callTy cu_intS T.f_int (sa_cons (se_var 2) sa_nil)) sa_nil)) (se_var 2))))) (sss_one (ss_ret (se_bl))) sss_nil)))))
    (sss_one (ss_ret (se_if (st_cmp c_le (se_callB cu_len T.f_len (sa_cons (se_var 1) sa_nil)) (se_int)) (se_callTy cu_tup T.f_tuple (sa_cons (by exact se_comp (own := [("_law_part", 2)]) rfl sc_law_read.nd (by exact it_seq (se_var 1)) (blkOk_by (N := N_law_read) (sc := defScope s_law_read) (by decide +kernel)) (by exact blk_mk (t := gName 2) (fun _ _ _ _ _ => by exact pg_name (i := 2) sc_law_read.nd rfl (by first | exact Or.inl rfl | exact Or.inr rfl)) (by exact gu_name 2) (fun _ _ _ _ _ => by exact ts_nil) (fun _ _ _ _ _ => by exact se_callTy cu_intS T.f_int (sa_cons (se_var 2) sa_nil)))) sa_nil)) (se_bl)))))))
def m_law_read : MF := purM 6 fb_law_read
theorem fn_law_read {P : Program} {w : World} {K : PySem.W.Frag} {mg : Str → Option Value} {base : Heap} (C : SaysU chk fnL pnL K) (N : Nm K mg) {fd : FuncData} (F : FunD K "_law_read" "_law_read" (defArgs s_law_read) (defBody s_law_read) (defScope s_law_read) [] [] (fAd K (d_law_read).at_) fd) : FnU P w K mg base 1 (fAd K (d_law_read).at_) fd ps_law_read m_law_read :=
  fn_pur F sc_law_read fb_law_read fun cdv A outer s H E hr tk hp => okb_law_read (tp_of N C.chk)  hr tk hp
theorem def_law_read {P : Program} {w : World} {K : PySem.W.Frag} {mg : Str → Option Value} {base : Heap} (C : SaysU chk fnL pnL K) (N : Nm K mg) : Def1 P w K mg base "_law_read" 1 ps_law_read m_law_read [] := by
  obtain ⟨fd, F⟩ := C.def_ 13
  exact def1_of (fn_law_read C N F) F (glo_at N (gl_of C.chk) 13) (fun _ _ _ _ _ _ us h => by match us, h with | [_], _ => rfl)
def fb_law (b Pt : Nat) : SF := (sSeq (sAsg (eCallF 1 m_law_bag [] (aCons (eVar 0) aNil)) (bName 1))
    (sSeq (sFor (iRange1 (aCons (eC (.int 6)) aNil)) (bName 2) (sSeq (sAsg (eCallB oTupOf (aCons (eComp (iRange1 (aCons (eBin oAdd (eC (.int 1)) (eCallF 2 m_law_draw [] (aCons (eVar 1) (aCons (eC (.int 4)) aNil)))) aNil)) (bName 11) [11] tYesB (eCallF 2 m_law_pick [] (aCons (eVar 1) (aCons (eLst (aCons (eC (.int 0)) (aCons (eC (.int 7)) (aCons (eUn oNeg (eC (.int 12))) (aCons (eCallF 2 m_law_draw [] (aCons (eVar 1) (aCons (eBin oPow (eC (.int 10)) (eC (.int 31))) aNil))) aNil))))) aNil)))) aNil)) (bName 3))
    (sSeq (sAsg (eMeth isStr mJoin (eC (.str ".")) (aCons (eComp (iSeq (eVar 3)) (bName 12) [12] tYesB (eCallB oStrOf (aCons (eVar 12) aNil))) aNil)) (bName 4))
    (sSeq (sIf (tNotB (tVal (eCallF 2 (m_law_same 7) [] (aCons (eLst (aCons (eCallF 1 m_key_text [] (aCons (eVar 3) aNil)) (aCons (eCallK 1 0 1 m_key_text kd_key_text_0_key aNil (aCons (eVar 3) aNil)) (aCons (eCallF 1 m_read_key [] (aCons (eVar 4) aNil)) (aCons (eCallK 1 0 1 m_read_key kd_read_key_0_text aNil (aCons (eVar 4) aNil)) aNil))))) (aCons (eLst (aCons (eVar 4) (aCons (eVar 4) (aCons (eVar 3) (aCons (eVar 3) aNil))))) aNil))))) (sRet (eC (.bl false))) sNext)
    (sSeq (sPar 9 10 (aCons (eCallF 2 m_law_draw [] (aCons (eVar 1) (aCons (eBin oAdd (eCallB oLen (aCons (eVar 4) aNil)) (eC (.int 1))) aNil))) (aCons (eCallF 2 m_law_pick [] (aCons (eVar 1) (aCons (eLst (aCons (eC (.str "0")) (aCons (eC (.str ".")) (aCons (eC (.str "-")) (aCons (eC (.str " ")) (aCons (eC (.str "x")) (aCons (eC (.str "\n")) (aCons (eBin oMulS (eC (.str "9")) (eC (.int 40))) aNil)))))))) aNil))) aNil)))
    (sSeq (sAsg (eCallF 2 m_law_pick [] (aCons (eVar 1) (aCons (eLst (aCons (eBin oAdd (eBin oAdd (eSl (eVar 4) oNone (oSome (eVar 9))) (eVar 10)) (eSl (eVar 4) (oSome (eVar 9)) oNone)) (aCons (eBin oAdd (eSl (eVar 4) oNone (oSome (eVar 9))) (eSl (eVar 4) (oSome (eBin oAdd (eVar 9) (eC (.int 1)))) oNone)) aNil))) aNil))) (bName 5))
    (sSeq (sAsg (eCallF 1 m_law_read [] (aCons (eVar 5) aNil)) (bName 6))
    (sSeq (sIf (tNotB (tVal (eCallF 2 (m_law_same 7) [] (aCons (eCallLS 1 m_law_got slots b (aCons (eLam 0 b Pt 13 "law.<locals>.<lambda>") aNil)) (aCons (eIf (tCmp isB (eVar 6) (eC (.bl false))) (eTup (aCons (eC (.str "InvalidText")) (aCons (eC .non) aNil))) (eTup (aCons (eC (.str "")) (aCons (eVar 6) aNil)))) aNil))))) (sRet (eC (.bl false))) sNext)
    (sSeq (sAsg (eCallF 2 m_law_pick [] (aCons (eVar 1) (aCons (eLst (aCons (eTup aNil) (aCons (eLst (aCons (eC (.int 1)) aNil)) (aCons (eC (.str "1")) (aCons (eC (.int 3)) (aCons (eC (.bl true)) (aCons (eTup (aCons (eC .non) aNil)) aNil))))))) aNil))) (bName 7))
    (sSeq (sAsg (eLst (aCons (eLam 1 b Pt 13 "law.<locals>.<lambda>") (aCons (eLam 2 b Pt 13 "law.<locals>.<lambda>") aNil))) (bName 8))
    (sIf (tNotB (tVal (eCallF 2 (m_law_same 7) [] (aCons (eCallLS 1 m_law_all_got slots b (aCons (eVar 8) aNil)) (aCons (eLst (aCons (eTup (aCons (eC (.str "InvalidKey")) (aCons (eVar 7) aNil))) (aCons (eTup (aCons (eC (.str "InvalidText")) (aCons (eC .non) aNil))) aNil))) aNil))))) (sRet (eC (.bl false))) sNext)))))))))))
    (sRet (eAnd (eCmp eqB (eCallF 1 m_key_text [] (aCons (eC .non) aNil)) (eC (.str "-"))) (eAnd (eCmp isB (eCallF 1 m_read_key [] (aCons (eC (.str "-")) aNil)) (eC .non)) (eCmp eqB (eCallF 1 m_read_key [] (aCons (eC (.str "-5")) aNil)) (eTup (aCons (eUn oNeg (eC (.int 5))) aNil))))))))
theorem okb_law {P : Program} {w : World} {K : PySem.W.Frag} {mg : Str → Option Value} {base : Heap} {f c Pt : Addr} {A : Around} {outer : List PySem.Env} {s : Shared} {H : Hp} {E : XK} (T : Tp K mg) (h_law_bag : Def1 P w K mg base "_law_bag" 1 ps_law_bag m_law_bag []) (h_law_draw : Def1 P w K mg base "_law_draw" 1 ps_law_draw m_law_draw []) (h_law_pick : Def1 P w K mg base "_law_pick" 2 ps_law_pick m_law_pick []) (h_key_text : Def1 P w K mg base "key_text" 3 ps_key_text m_key_text []) (hk_key_text_0_key : DefK P w K mg base "key_text" 3 ps_key_text m_key_text 0 ["key"] kd_key_text_0_key) (h_read_key : Def1 P w K mg base "read_key" 3 ps_read_key m_read_key []) (hk_read_key_0_text : DefK P w K mg base "read_key" 3 ps_read_key m_read_key 0 ["text"] kd_read_key_0_text) (h_law_same : Def1 P w K mg base "_law_same" 8 ps_law_same (m_law_same 7) []) (h_law_read : Def1 P w K mg base "_law_read" 1 ps_law_read m_law_read []) (h_law_got : Def1 P w K mg base "_law_got" 5 ps_law_got m_law_got []) (h_law_all_got : Def1 P w K mg base "_law_all_got" 6 ps_law_all_got m_law_all_got []) (TB : LamX.TabB base mg c Pt) (M : MkrOk (bodyCx P w K mg base N_law "law" (defScope s_law) f (.ref c) A outer s H E) slots s.heap.objs.size)
    (hr : Room 8 (A.deeper (envOfC "law" (defScope s_law) s.heap.objs.size f (.ref c)))) (tk : Tk (bodyCx P w K mg base N_law "law" (defScope s_law) f (.ref c) A outer s H E) (wOf E)) (hp : PassesOwn (model P w) (A.deeper (envOfC "law" (defScope s_law) s.heap.objs.size f (.ref c))) (envOfC "law" (defScope s_law) s.heap.objs.size f (.ref c)) (bodyCx P w K mg base N_law "law" (defScope s_law) f (.ref c) A outer s H E).xe) :
    SSs (bodyCx P w K mg base N_law "law" (defScope s_law) f (.ref c) A outer s H E) (wOf E) (defBody s_law) (fb_law s.heap.objs.size Pt) :=
  (sss_cons (ss_set 1 (sf_fn h_law_bag (hr.mono (by decide)) tk (sa_cons (se_var 0) sa_nil)) sc_law.nd)
    (sss_cons (ss_for hp rfl (it_range1 T.f_range (sa_cons (se_int) sa_nil)) (bu_name 2 sc_law.nd) (sss_cons (ss_set 3 (se_callTy cu_tup T.f_tuple (sa_cons (by exact se_comp (own := [("_law_k", 11)]) rfl sc_law.nd (by exact it_range1 T.f_range (sa_cons (se_bin b_add (se_int) (sf_fn h_law_draw (hr.mono (by decide)) tk (sa_cons (se_var 1) (sa_cons (se_int) sa_nil)))) sa_nil)) (blkOk_by (N := N_law) (sc := defScope s_law) (by decide +kernel)) (by exact blk_mk (t := gName 11) (fun _ _ _ _ _ => by exact pg_name (i := 11) sc_law.nd rfl (by first | exact Or.inl rfl | exact Or.inr rfl)) (by exact gu_name 11) (fun _ _ _ _ _ => by exact ts_nil) (fun _ _ _ _ _ => by exact sf_fn h_law_pick (hr.mono (by decide)) tk0 (sa_cons (se_var 1) (sa_cons (se_lst (sa_cons (se_int) (sa_cons (se_int) (sa_cons (se_un un_negU (se_int)) (sa_cons (sf_fn h_law_draw (hr.mono (by decide)) tk0 (sa_cons (se_var 1) (sa_cons (se_bin b_pow (se_int) (se_int)) sa_nil))) sa_nil))))) sa_nil))))) sa_nil)) sc_law.nd)
    (sss_cons (ss_set 4 (se_meth mu_join (se_str) (sa_cons (by exact se_comp (own := [("_law_part", 12)]) rfl sc_law.nd (by exact it_seq (se_var 3)) (blkOk_by (N := N_law) (sc := defScope s_law) (by decide +kernel)) (by exact blk_mk (t := gName 12) (fun _ _ _ _ _ => by exact pg_name (i := 12) sc_law.nd rfl (by first | exact Or.inl rfl | exact Or.inr rfl)) (by exact gu_name 12) (fun _ _ _ _ _ => by exact ts_nil) (fun _ _ _ _ _ => by exact se_callTy cu_strI T.f_str (sa_cons (se_var 12) sa_nil)))) sa_nil)) sc_law.nd)
    (sss_cons (ss_if (st_not (st_val (sf_fn h_law_same (hr.mono (by decide)) tk (sa_cons (se_lst (sa_cons (sf_fn h_key_text (hr.mono (by decide)) tk (sa_cons (se_var 3) sa_nil)) (sa_cons (sf_fnK0 hk_key_text_0_key (hr.mono (by decide)) tk (sk_cons (se_var 3) sk_nil)) (sa_cons (sf_fn h_read_key (hr.mono (by decide)) tk (sa_cons (se_var 4) sa_nil)) (sa_cons (sf_fnK0 hk_read_key_0_text (hr.mono (by decide)) tk (sk_cons (se_var 4) sk_nil)) sa_nil))))) (sa_cons (se_lst (sa_cons (se_var 4) (sa_cons (se_var 4) (sa_cons (se_var 3) (sa_cons (se_var 3) sa_nil))))) sa_nil))))) (sss_one (ss_ret (se_bl))) sss_nil)
    (sss_cons (ss_par 9 10 rfl sc_law.nd (sa_cons (sf_fn h_law_draw (hr.mono (by decide)) tk (sa_cons (se_var 1) (sa_cons (se_bin b_add (se_callB cu_len T.f_len (sa_cons (se_var 4) sa_nil)) (se_int)) sa_nil))) (sa_cons (sf_fn h_law_pick (hr.mono (by decide)) tk (sa_cons (se_var 1) (sa_cons (se_lst (sa_cons (se_str) (sa_cons (se_str) (sa_cons (se_str) (sa_cons (se_str) (sa_cons (se_str) (sa_cons (se_str) (sa_cons (se_bin b_mulS (se_str) (se_int)) sa_nil)))))))) sa_nil))) sa_nil)))
    (sss_cons (ss_set 5 (sf_fn h_law_pick (hr.mono (by decide)) tk (sa_cons (se_var 1) (sa_cons (se_lst (sa_cons (se_bin b_add (se_bin b_add (se_sl (se_var 4) so_none (so_some (se_var 9))) (se_var 10)) (se_sl (se_var 4) (so_some (se_var 9)) so_none)) (sa_cons (se_bin b_add (se_sl (se_var 4) so_none (so_some (se_var 9))) (se_sl (se_var 4) (so_some (se_bin b_add (se_var 9) (se_int))) so_none)) sa_nil))) sa_nil))) sc_law.nd)
    (sss_cons (ss_set 6 (sf_fn h_law_read (hr.mono (by decide)) tk (sa_cons (se_var 5) sa_nil)) sc_law.nd)
    (sss_cons (ss_if (st_not (st_val (sf_fn h_law_same (hr.mono (by decide)) tk (sa_cons (sf_callLS h_law_got ⟨M.cells, M.slot, M.kind, M.fn, M.nd⟩ (hr.mono (by decide)) (sa_cons (se_lam (i := 0) (lk := lam0) TB rfl rfl (by kernel_rfl) rfl rfl rfl rfl lamk_0 (.no rfl rfl)) sa_nil)) (sa_cons (se_if (st_cmp c_is (se_var 6) (se_bl)) (se_tup (sa_cons (se_str) (sa_cons (se_non) sa_nil))) (se_tup (sa_cons (se_str) (sa_cons (se_var 6) sa_nil)))) sa_nil))))) (sss_one (ss_ret (se_bl))) sss_nil)
    (sss_cons (ss_set 7 (sf_fn h_law_pick (hr.mono (by decide)) tk (sa_cons (se_var 1) (sa_cons (se_lst (sa_cons (se_tup sa_nil) (sa_cons (se_lst (sa_cons (se_int) sa_nil)) (sa_cons (se_str) (sa_cons (se_int) (sa_cons (se_bl) (sa_cons (se_tup (sa_cons (se_non) sa_nil)) sa_nil))))))) sa_nil))) sc_law.nd)
    (sss_cons (ss_set 8 (se_lst (sa_cons (se_lam (i := 1) (lk := lam1) TB rfl rfl (by kernel_rfl) rfl rfl rfl rfl lamk_1 (.no rfl rfl)) (sa_cons (se_lam (i := 2) (lk := lam2) TB rfl rfl (by kernel_rfl) rfl rfl rfl rfl lamk_2 (.one rfl rfl)) sa_nil))) sc_law.nd)
    (sss_one (ss_if (st_not (st_val (sf_fn h_law_same (hr.mono (by decide)) tk (sa_cons (sf_callLS h_law_all_got ⟨M.cells, M.slot, M.kind, M.fn, M.nd⟩ (hr.mono (by decide)) (sa_cons (se_var 8) sa_nil)) (sa_cons (se_lst (sa_cons (se_tup (sa_cons (se_str) (sa_cons (se_var 7) sa_nil))) (sa_cons (se_tup (sa_cons (se_str) (sa_cons (se_non) sa_nil))) sa_nil))) sa_nil))))) (sss_one (ss_ret (se_bl))) sss_nil))))))))))))
    (sss_one (ss_ret (se_and (se_cmp (c_eq hr.units) (sf_fn h_key_text (hr.mono (by decide)) tk (sa_cons (se_non) sa_nil)) (se_str)) (se_and (se_cmp c_is (sf_fn h_read_key (hr.mono (by decide)) tk (sa_cons (se_str) sa_nil)) (se_non)) (se_one (se_cmp (c_eq hr.units) (sf_fn h_read_key (hr.mono (by decide)) tk (sa_cons (se_str) sa_nil)) (se_tup (sa_cons (se_un un_negU (se_int)) sa_nil))))))))))
abbrev lawS (b Pt : Nat) (ns : List Int) : R Fl := fb_law b Pt ((startE N_law.length [.fz (ns.map .int)]).set 13 (some (tabD "law.<locals>.<lambda>" Pt))) []
theorem allT_map {α : Type} {xs : List α} {S : Sto} : oAll S [.lst (xs.map fun _ => D.bl true)] = some (.bl true) := by
  rw [List.map_const']; exact oAll_true
theorem lt_big {n : Nat} (h : n ≤ 1000000) : n < sizeLine := Nat.lt_of_lt_of_le (m := 4000000) (by omega) sz_big
theorem sum_le {m : Nat} : ∀ {xs : List (List Nat)}, (∀ x ∈ xs, x.length ≤ m) → (xs.map (·.length)).sum ≤ xs.length * m
  | [], _ => by simp
  | x :: xs, h => by
    have h1 := h x (List.mem_cons_self ..)
    have h2 := sum_le (xs := xs) fun z hz => h z (List.mem_cons_of_mem _ hz)
    simp only [List.map_cons, List.sum_cons, List.length_cons, Nat.add_mul]
    omega
theorem join_small {S : Sto} {s : List Nat} {xs : List (List Nat)} {d : D} (hd : seqOf S d = some (xs.map fun x => .str (txt x))) (h : ∀ x ∈ xs, x.length ≤ 1000) (hx : xs.length ≤ 1000) (hs : s.length ≤ 10) : mJoin S (.str (txt s)) [d] = some (.str (txt (joinL s xs)), S) := by
  refine mJoin_txt hd ?_
  have h1 := sum_le h
  have h2 : xs.length * s.length ≤ xs.length * 10 := Nat.mul_le_mul_left _ hs
  omega
def numS (n : Nat) : Str := toString (n : Int)
def numL (n : Nat) : List Nat := (numS n).cps.toList
theorem join_len {s : List Nat} {m : Nat} : ∀ {xs : List (List Nat)}, (∀ x ∈ xs, x.length ≤ m) → (joinL s xs).length ≤ xs.length * (m + s.length)
  | [], _ => by simp [joinL]
  | [x], h => by
    have := h x (List.mem_cons_self ..)
    simp [joinL]; omega
  | x :: y :: r, h => by
    have h1 := h x (List.mem_cons_self ..)
    have h2 := join_len (s := s) (m := m) (xs := y :: r) fun z hz => h z (List.mem_cons_of_mem _ hz)
    show (x ++ s ++ joinL s (y :: r)).length ≤ ((y :: r).length + 1) * (m + s.length)
    rw [Nat.add_mul]
    simp only [List.length_append]
    omega
def intS (i : Int) : Str := toString i
def intL (i : Int) : List Nat := (intS i).cps.toList
theorem intS_eq {i : Int} : intS i = txt (intL i) := txt_eta _
theorem intL_nat (n : Nat) : intL (n : Int) = TL.numL n := TL.tl_num n
theorem intL_neg {n : Nat} (h : 1 ≤ n) : intL (-(n : Int)) = 45 :: TL.numL n := by
  obtain ⟨m, rfl⟩ : ∃ m, n = m + 1 := ⟨n - 1, by omega⟩
  have e : (-((m + 1 : Nat) : Int)) = Int.negSucc m := rfl
  rw [e]
  show (Str.ofString ("-" ++ Nat.repr (m + 1))).cps.toList = _
  rw [PyProof.Rows.signs_ofString, String.toList_append, List.map_append, Nat.toList_repr]
  rfl
def isDg (c : Nat) : Bool := decide (48 ≤ c ∧ c < 58)
theorem dg_all {l : List Nat} (h : l.all isDg = true) : NumText.AllDigits l := fun c hc => by
  have := List.all_eq_true.mp h c hc
  simp only [isDg, decide_eq_true_eq] at this
  omega
theorem all_dg {l : List Nat} (h : NumText.AllDigits l) : l.all isDg = true := List.all_eq_true.mpr fun c hc => by
  have := h c hc
  simp only [isDg, decide_eq_true_eq]
  omega
def cnB (l : List Nat) : Bool := decide (l = [48]) || !decide (l.head? = some 48)
theorem numL_hd (n : Nat) : 1 ≤ n → (TL.numL n).head? ≠ some 48 := by
  induction n using Nat.strongRecOn with
  | _ n ih =>
    intro h1
    by_cases h : n < 10
    · rw [TL.numL_lt h]; simp; omega
    · rw [TL.numL_step (by omega), List.head?_append]
      have := ih (n / 10) (by omega) (by omega)
      cases q : (TL.numL (n / 10)).head? with
      | none => exact absurd (List.head?_eq_none_iff.mp q) (TL.numL_ne _)
      | some x => rw [q] at this; exact this
theorem numL_cn (n : Nat) : cnB (TL.numL n) = true := by
  unfold cnB
  by_cases h : 1 ≤ n
  · rw [decide_eq_false (numL_hd n h)]; simp
  · have : n = 0 := by omega
    subst this
    rw [TL.numL_lt (by decide)]; decide
theorem fold_up : ∀ (t : List Nat) (a : Nat), a ≤ t.foldl (fun acc c => acc * 10 + (c - 48)) a
  | [], a => Nat.le_refl _
  | c :: t, a => Nat.le_trans (by omega) (fold_up t (a * 10 + (c - 48)))
theorem val_pos {l : List Nat} (hd : NumText.AllDigits l) (h1 : l ≠ []) (h : l.head? ≠ some 48) : 1 ≤ NumText.digitsVal l := by
  cases l with
  | nil => exact absurd rfl h1
  | cons c t =>
    have hc := hd c List.mem_cons_self
    have hn : c ≠ 48 := fun e => h (by rw [e]; rfl)
    have := fold_up t (0 * 10 + (c - 48))
    show 1 ≤ (c :: t).foldl _ 0
    rw [List.foldl_cons]
    omega
theorem val_snoc {g : List Nat} {d : Nat} : NumText.digitsVal (g ++ [d]) = NumText.digitsVal g * 10 + (d - 48) := by
  unfold NumText.digitsVal
  rw [List.foldl_append]
  rfl
theorem cn_num : ∀ (n : Nat) {l : List Nat}, l.length = n → NumText.AllDigits l → l ≠ [] → cnB l = true → TL.numL (NumText.digitsVal l) = l := by
  intro n
  induction n using Nat.strongRecOn with
  | _ n ih =>
    intro l hl hd h1 hc
    rcases List.eq_nil_or_concat l with e | ⟨g, d, e⟩
    · exact absurd e h1
    · rw [List.concat_eq_append] at e
      subst e
      have hdd := hd d (by simp)
      by_cases hg : g = []
      · subst hg
        have e0 : NumText.digitsVal ([] : List Nat) * 10 + (d - 48) = d - 48 := by show 0 * 10 + (d - 48) = d - 48; omega
        rw [val_snoc, e0, TL.numL_lt (by omega), show 48 + (d - 48) = d by omega]
        rfl
      · have hh : (g ++ [d]).head? = g.head? := by
          cases g with
          | nil => exact absurd rfl hg
          | cons x g => rfl
        have hn : g.head? ≠ some 48 := fun z => by
          unfold cnB at hc
          rw [hh, decide_eq_true z] at hc
          have : g ++ [d] ≠ [48] := fun y => by
            have h5 := congrArg List.length y
            have h6 := List.length_pos_iff.mpr hg
            rw [List.length_append] at h5
            have h7 : [d].length = 1 := rfl
            have h8 : ([48] : List Nat).length = 1 := rfl
            omega
          rw [decide_eq_false this] at hc
          cases hc
        have dg : NumText.AllDigits g := fun c hc => hd c (List.mem_append_left _ hc)
        have vp := val_pos dg hg hn
        have i1 := ih g.length (by rw [← hl]; simp) rfl dg hg (by unfold cnB; rw [decide_eq_false hn]; simp)
        rw [val_snoc, TL.numL_step (by omega)]
        rw [show (NumText.digitsVal g * 10 + (d - 48)) / 10 = NumText.digitsVal g by omega, show (NumText.digitsVal g * 10 + (d - 48)) % 10 = d - 48 by omega, i1]
        rw [show 48 + (d - 48) = d by omega]
theorem val_lt : ∀ (n : Nat) {l : List Nat}, l.length = n → NumText.AllDigits l → NumText.digitsVal l < 10 ^ n := by
  intro n
  induction n with
  | zero => intro l hl _; rw [List.length_eq_zero_iff.mp hl]; decide
  | succ n ih =>
    intro l hl hd
    rcases List.eq_nil_or_concat l with e | ⟨g, d, e⟩
    · rw [e] at hl; cases hl
    · rw [List.concat_eq_append] at e
      subst e
      have hdd := hd d (by simp)
      have := ih (l := g) (by simpa using hl) fun c hc => hd c (List.mem_append_left _ hc)
      rw [val_snoc, Nat.pow_succ]
      omega
def numX (l : List Nat) : Bool := decide (1 ≤ l.length ∧ l.length ≤ 40) && (l.all isDg && cnB l)
def figs (w : List Nat) : List Nat := if w.take 1 = [45] then w.drop 1 else w
def sgX (w : List Nat) : Bool := if w.take 1 = [45] then !decide (w = [45, 48]) && numX (w.drop 1) else numX w
def valI (w : List Nat) : Int := if w.take 1 = [45] then -(NumText.digitsVal (w.drop 1) : Nat) else (NumText.digitsVal w : Nat)
def gdX (w : List Nat) : Bool := decide (1 ≤ (figs w).length ∧ (figs w).length ≤ 40) && (figs w).all isDg
theorem tk1 {w : List Nat} (h : w.take 1 = [45]) : w = 45 :: w.drop 1 := by
  conv => lhs; rw [← List.take_append_drop 1 w, h]
  rfl
theorem sg_gd {w : List Nat} (h : gdX w = false) : sgX w = false := by
  unfold gdX figs at h
  unfold sgX numX
  by_cases c : w.take 1 = [45]
  · simp only [if_pos c] at h ⊢
    rw [Bool.and_eq_false_iff] at h
    rcases h with h | h <;> rw [h] <;> simp
  · simp only [if_neg c] at h ⊢
    rw [Bool.and_eq_false_iff] at h
    rcases h with h | h <;> rw [h] <;> simp
theorem gd_fig {w : List Nat} (h : gdX w = true) : NumText.AllDigits (figs w) ∧ figs w ≠ [] ∧ (figs w).length ≤ 40 := by
  unfold gdX at h
  rw [Bool.and_eq_true, decide_eq_true_eq] at h
  exact ⟨dg_all h.2, fun e => by rw [e] at h; simp at h, h.1.2⟩
theorem sg_val {w : List Nat} (h : gdX w = true) : decide (intL (valI w) = w) = sgX w := by
  obtain ⟨hd, h1, h40⟩ := gd_fig h
  unfold gdX at h
  rw [Bool.and_eq_true] at h
  unfold figs at hd h1 h40 h
  unfold sgX valI
  by_cases c : w.take 1 = [45]
  · simp only [if_pos c] at hd h1 h40 h ⊢
    have ew := tk1 c
    generalize w.drop 1 = f at ew hd h1 h40 h ⊢
    subst ew
    unfold numX
    rw [h.1, h.2, Bool.true_and, Bool.true_and, Bool.eq_iff_iff, decide_eq_true_eq, Bool.and_eq_true]
    by_cases v0 : NumText.digitsVal f = 0
    · have e0 : intL (-((NumText.digitsVal f : Nat) : Int)) = [48] := by rw [v0]; exact (intL_nat 0).trans (TL.numL_lt (by decide))
      rw [e0]
      constructor
      · intro z; cases z
      · rintro ⟨z1, z2⟩
        exfalso
        have : f ≠ [48] := fun e => by rw [e] at z1; simp at z1
        unfold cnB at z2
        rw [decide_eq_false this, Bool.false_or, Bool.not_eq_true', decide_eq_false_iff_not] at z2
        have := val_pos hd h1 z2
        omega
    · rw [intL_neg (by omega)]
      constructor
      · intro z
        injection z with _ z
        have cn := numL_cn (NumText.digitsVal f)
        rw [z] at cn
        refine ⟨?_, cn⟩
        have : ¬ (45 :: f = [45, 48]) := fun e => by
          injection e with _ e
          rw [e] at v0
          exact v0 (by decide)
        rw [decide_eq_false this]; rfl
      · rintro ⟨_, z2⟩
        rw [cn_num _ rfl hd h1 z2]
  · simp only [if_neg c] at hd h1 h40 h ⊢
    unfold numX
    rw [h.1, h.2, Bool.true_and, Bool.true_and, Bool.eq_iff_iff, decide_eq_true_eq, intL_nat]
    constructor
    · intro z
      have cn := numL_cn (NumText.digitsVal w)
      rwa [z] at cn
    · intro z
      exact cn_num _ rfl hd h1 z
theorem val_abs {w : List Nat} (h : gdX w = true) : (valI w).natAbs < 10 ^ 40 := by
  obtain ⟨hd, h1, h40⟩ := gd_fig h
  have := val_lt _ rfl hd
  have p : 10 ^ (figs w).length ≤ 10 ^ 40 := Nat.pow_le_pow_right (by decide) h40
  unfold valI
  unfold figs at this p
  by_cases c : w.take 1 = [45]
  · simp only [if_pos c] at this p ⊢
    omega
  · simp only [if_neg c] at this p ⊢
    omega
theorem log_lt {i : Int} (h : i.natAbs < 10 ^ 40) : i.natAbs.log2 < 1920 := by
  by_cases e : i.natAbs = 0
  · rw [e]; decide
  · refine (Nat.log2_lt e).mpr (Nat.lt_of_lt_of_le h ?_)
    decide +kernel
theorem str_int {i : Int} {S : Sto} (h : i.natAbs < 10 ^ 40) : oStrOf S [.int i] = some (.str (txt (intL i))) := by
  show (if i.natAbs.log2 < 1920 then some (D.str (toString i)) else none) = _
  rw [if_pos (log_lt h), ← intS_eq]
  rfl
theorem int_w {w : List Nat} {S : Sto} (h : gdX w = true) : oIntStr S [.str (txt w)] = some (.int (valI w)) := by
  obtain ⟨hd, h1, h40⟩ := gd_fig h
  show (if (txt w).length ≤ 640 then (PySem.intText? (txt w)).map D.int else none) = _
  unfold figs at hd h1 h40
  unfold valI
  by_cases c : w.take 1 = [45]
  · simp only [if_pos c] at hd h1 h40 ⊢
    have ew := tk1 c
    generalize w.drop 1 = f at ew hd h1 h40 ⊢
    subst ew
    rw [if_pos (by rw [txt_len]; simp; omega), intText_neg (cs := f) (by rw [txt_cps]) hd h1 (by rw [txt_len]; simp; omega)]
    rfl
  · simp only [if_neg c] at hd h1 h40 ⊢
    rw [if_pos (by rw [txt_len]; omega), intText_digits (by rw [txt_cps]; exact hd) (by rw [txt_cps]; exact h1) (by rw [txt_len]; omega)]
    rw [txt_cps]; rfl
theorem int_sg {i : Int} (h : i.natAbs < 10 ^ 40) : sgX (intL i) = true ∧ valI (intL i) = i ∧ 46 ∉ intL i ∧ (intL i).length ≤ 41 ∧ gdX (intL i) = true := by
  have key : ∀ n : Nat, n < 10 ^ 40 → NumText.AllDigits (TL.numL n) ∧ (TL.numL n).length ≤ 40 ∧ (TL.numL n).take 1 ≠ [45] ∧ decide (1 ≤ (TL.numL n).length ∧ (TL.numL n).length ≤ 40) = true := fun n hn => by
    have h1 := TL.numL_digits n
    have h2 : (TL.numL n).length ≤ 40 := TL.numL_len (by decide) hn
    have h3 := List.length_pos_iff.mpr (TL.numL_ne n)
    refine ⟨h1, h2, fun e => ?_, decide_eq_true ⟨h3, h2⟩⟩
    have : (45 : Nat) ∈ TL.numL n := by
      have : (45 : Nat) ∈ (TL.numL n).take 1 := by rw [e]; simp
      exact List.mem_of_mem_take this
    have := h1 45 this
    omega
  by_cases hi : 0 ≤ i
  · obtain ⟨n, rfl⟩ := Int.eq_ofNat_of_zero_le hi
    obtain ⟨k1, k2, k3, k4⟩ := key n (by omega)
    rw [intL_nat]
    refine ⟨?_, ?_, TL.numL_free (.inl (by decide)), by omega, ?_⟩
    · unfold sgX numX
      rw [if_neg k3, k4, all_dg k1, numL_cn]; rfl
    · unfold valI
      rw [if_neg k3, TL.numL_val]
    · unfold gdX figs
      rw [if_neg k3, k4, all_dg k1]; rfl
  · obtain ⟨n, rfl⟩ : ∃ n : Nat, i = -(n : Int) := ⟨i.natAbs, by omega⟩
    have hn : 1 ≤ n := by omega
    obtain ⟨k1, k2, k3, k4⟩ := key n (by omega)
    rw [intL_neg hn]
    have t1 : (45 :: TL.numL n).take 1 = [45] := rfl
    have d1 : (45 :: TL.numL n).drop 1 = TL.numL n := rfl
    refine ⟨?_, ?_, ?_, by simp; omega, ?_⟩
    · unfold sgX numX
      rw [if_pos t1, d1, k4, all_dg k1, numL_cn]
      have : ¬ (45 :: TL.numL n = [45, 48]) := fun e => by
        injection e with _ e
        have := numL_hd n hn
        rw [e] at this
        exact this rfl
      rw [decide_eq_false this]; rfl
    · unfold valI
      rw [if_pos t1, d1, TL.numL_val]
    · intro hm
      rcases List.mem_cons.mp hm with e | hm
      · cases e
      · exact TL.numL_free (.inl (by decide)) hm
    · unfold gdX figs
      rw [if_pos t1, d1, k4, all_dg k1]; rfl
def TextD : D := .ins "InvalidText" ["code"] [.str "InvalidText"]
theorem allB_map {α : Type} {xs : List α} {S : Sto} {f : α → Bool} : oAll S [.lst (xs.map fun a => D.bl (f a))] = some (.bl (xs.all f)) := by
  have : blsD (xs.map fun a => D.bl (f a)) = some (xs.map f) := by
    induction xs with
    | nil => rfl
    | cons x xs ih => simp only [List.map_cons, blsD, ih, Option.map_some]
  show ((some (xs.map fun a => D.bl (f a))).bind blsD).map (fun bs => D.bl (bs.all id)) = _
  simp only [Option.bind_some, this, Option.map_some, List.all_map]
  rfl
theorem sl_tk {S : Sto} {l : List Nat} {k : Nat} (h : l.length ≤ 4000000) : sliceD S (.str (txt l)) none (some (k : Int)) = some (.str (txt (l.take k))) := by
  show (if (txt l).length ≤ sizeLine then some _ else none) = _
  rw [if_pos (by rw [txt_len]; exact sz_le (by omega))]
  congr 2
  show txt ((l.drop 0).take (HT.sIx l.length l.length (some (k : Int)) - 0)) = _
  rw [HT.sIx_nat, List.drop_zero, Nat.sub_zero]
  congr 1
  rcases Nat.le_total k l.length with q | q
  · rw [Nat.min_eq_left q]
  · rw [Nat.min_eq_right q, List.take_of_length_le (Nat.le_refl _), List.take_of_length_le q]
theorem sl_dr {S : Sto} {l : List Nat} {k : Nat} (h : l.length ≤ 4000000) : sliceD S (.str (txt l)) (some (k : Int)) none = some (.str (txt (l.drop k))) := by
  show (if (txt l).length ≤ sizeLine then some _ else none) = _
  rw [if_pos (by rw [txt_len]; exact sz_le (by omega))]
  congr 2
  show txt ((l.drop (HT.sIx l.length 0 (some (k : Int)))).take (l.length - HT.sIx l.length 0 (some (k : Int)))) = _
  rw [HT.sIx_nat]
  congr 1
  rcases Nat.le_total k l.length with q | q
  · rw [Nat.min_eq_left q, List.take_of_length_le (by simp)]
  · rw [Nat.min_eq_right q]
    simp only [Nat.sub_self, List.take_zero]
    exact (List.drop_of_length_le q).symm
theorem numeral_gen {l : List Nat} {S : Sto} (hl : l.length ≤ 1000) : m_is_numeral [.str (txt l), .int 40] S = .ok (.bl (numX l)) S := by
  refine pur_flat rfl rfl ?_
  have e0 : startE 3 [.str (txt l), .int 40] = [some (.str (txt l)), some (.int 40), none] := rfl
  rw [e0]
  unfold fb_is_numeral
  have ln : ∀ S, oLen S [.str (txt l)] = some (.int l.length) := fun S => oLen_txt (by omega)
  have lb : l.length < sizeLine := lt_big (by omega)
  have ld : ("0123456789" : Str) = txt (List.range' 48 10) := by kernel_rfl
  have dg : ∀ c : Nat, decide (c ∈ List.range' 48 10) = isDg c := fun c => decide_eq_decide.mpr (by
    rw [List.mem_range']
    exact ⟨fun ⟨i, h, e⟩ => by omega, fun h => ⟨c - 48, by omega, by omega⟩⟩)
  have cm := comp_maps (i := 2) (fe := eCmp inB (eVar 2) (eC (.str "0123456789"))) (r := [some (.str (txt l)), some (.int 40), none]) (vs := [2]) (S := []) (fun c => D.str (txt [c])) (fun c => .bl (isDg c)) (xs := l) (by
    intro c hc
    simp only [Wb, Wc, Wd, We, Wf, Wg, Wh, Wi, Wj, Wm, Wn, Wo, Wp, Wq, Wr, Ws, Wt, Wu, Wv, Ww, Wx, Wy, Wz, WA, WB, WC, WD, WF, WG, WH, WI, WJ, WK, WL, WM, WN, WO, WP, WQ, WR, WS, WT, WU, WV, WW, WY, WZ, W4, W5, W6, W7, W8, W9, Za, Zb, Ze, Zf, Zg, Zh, Zi, Zk, Zl, Zm, Zo, Zq, Zr, Zs, Zt, Zu, Zv, wf_ok, rd_cons0, rd_cons, got_some, orGot_some, orGot_none, asB_bl, asI_int, asS_str, asOne_one, asTwo_two, ZJ, asThree_three, ZL, ZM, ZN, ZO, ZP, ZQ, ZR, ZS, ZT, ZU, ZV, ZW, ZX, ZY, ZZ, Z0, bName, List.set_cons_succ, List.set_cons_zero, List.append_nil, List.length_cons, List.length_nil, Nat.zero_add, Nat.reduceAdd, true_and, and_true, if_true, if_false, Bool.false_eq_true, Bool.not_true, Bool.not_false, List.take_zero, List.drop_zero, nil_appD, wipeE, ld, in_sgt, dg])
  have it := items_txt (l := l)
  have b0 : (!false) = true := rfl
  have b1 : (!true) = false := rfl
  by_cases h1 : 1 ≤ l.length
  · have c1 : ((1 : Int) ≤ (l.length : Int)) := by omega
    by_cases h2 : l.length ≤ 40
    · have c2 : ((l.length : Int) ≤ 40) := by omega
      cases hd : l.all isDg with
      | false =>
        have : numX l = false := by simp [numX, hd]
        simp only [Yj, Wb, Wc, Wd, We, Wf, Wg, Wh, Wi, Wj, Wm, Wn, Wo, Wp, Wq, Wr, Ws, Wt, Wu, Wv, Ww, Wx, Wy, Wz, WA, WB, WC, WD, WF, WG, WH, WI, WJ, WK, WL, WM, WN, WO, WP, WQ, WR, WS, WT, WU, WV, WW, WY, WZ, W4, W5, W6, W7, W8, W9, Za, Zb, Ze, Zf, Zg, Zh, Zi, Zk, Zl, Zm, Zo, Zq, Zr, Zs, Zt, Zu, Zv, wf_ok, rd_cons0, rd_cons, got_some, orGot_some, orGot_none, asB_bl, asI_int, asS_str, asOne_one, asTwo_two, ZJ, asThree_three, ZL, ZM, ZN, ZO, ZP, ZQ, ZR, ZS, ZT, ZU, ZV, ZW, ZX, ZY, ZZ, Z0, bName, List.set_cons_succ, List.set_cons_zero, List.append_nil, List.length_cons, List.length_nil, Nat.zero_add, Nat.reduceAdd, true_and, and_true, if_true, if_false, Bool.false_eq_true, Bool.not_true, Bool.not_false, List.take_zero, List.drop_zero, nil_appD, ln, leB_int, c1, c2, decide_true, it, cm, wp_ok, List.length_map, lb, allB_map, hd, b0, b1, this]
      | true =>
        obtain ⟨x, r, hx⟩ : ∃ x r, l = x :: r := by
          cases l with
          | nil => simp at h1
          | cons x r => exact ⟨x, r, rfl⟩
        have e00 : ("0" : Str) = txt [48] := by kernel_rfl
        have ix : ∀ S, oIx S (.str (txt l)) (.int 0) = some (.str (txt [x])) := fun S => by
          have := oIx_txt (S := S) (l := l) (n := 0) (by omega) (by omega)
          rw [show ((0 : Nat) : Int) = 0 from rfl] at this
          rw [this]
          simp [hx]
        have nm : numX l = (decide (l = [48]) || !decide ([x] = [48])) := by
          have h12 : decide (1 ≤ l.length ∧ l.length ≤ 40) = true := decide_eq_true ⟨h1, h2⟩
          have hh : decide (l.head? = some 48) = decide ([x] = [48]) := decide_eq_decide.mpr (by rw [hx]; simp)
          simp only [numX, cnB, h12, hd, hh, Bool.true_and]
        by_cases q : l = [48]
        · simp only [Yj, Wb, Wc, Wd, We, Wf, Wg, Wh, Wi, Wj, Wm, Wn, Wo, Wp, Wq, Wr, Ws, Wt, Wu, Wv, Ww, Wx, Wy, Wz, WA, WB, WC, WD, WF, WG, WH, WI, WJ, WK, WL, WM, WN, WO, WP, WQ, WR, WS, WT, WU, WV, WW, WY, WZ, W4, W5, W6, W7, W8, W9, Za, Zb, Ze, Zf, Zg, Zh, Zi, Zk, Zl, Zm, Zo, Zq, Zr, Zs, Zt, Zu, Zv, wf_ok, rd_cons0, rd_cons, got_some, orGot_some, orGot_none, asB_bl, asI_int, asS_str, asOne_one, asTwo_two, ZJ, asThree_three, ZL, ZM, ZN, ZO, ZP, ZQ, ZR, ZS, ZT, ZU, ZV, ZW, ZX, ZY, ZZ, Z0, bName, List.set_cons_succ, List.set_cons_zero, List.append_nil, List.length_cons, List.length_nil, Nat.zero_add, Nat.reduceAdd, true_and, and_true, if_true, if_false, Bool.false_eq_true, Bool.not_true, Bool.not_false, List.take_zero, List.drop_zero, nil_appD, ln, leB_int, c1, c2, decide_true, it, cm, wp_ok, List.length_map, lb, allB_map, hd, b0, b1, e00, eqB_txt, ix, neB_txt, nm, decide_eq_true q, Bool.true_or]
        · simp only [Yj, Wb, Wc, Wd, We, Wf, Wg, Wh, Wi, Wj, Wm, Wn, Wo, Wp, Wq, Wr, Ws, Wt, Wu, Wv, Ww, Wx, Wy, Wz, WA, WB, WC, WD, WF, WG, WH, WI, WJ, WK, WL, WM, WN, WO, WP, WQ, WR, WS, WT, WU, WV, WW, WY, WZ, W4, W5, W6, W7, W8, W9, Za, Zb, Ze, Zf, Zg, Zh, Zi, Zk, Zl, Zm, Zo, Zq, Zr, Zs, Zt, Zu, Zv, wf_ok, rd_cons0, rd_cons, got_some, orGot_some, orGot_none, asB_bl, asI_int, asS_str, asOne_one, asTwo_two, ZJ, asThree_three, ZL, ZM, ZN, ZO, ZP, ZQ, ZR, ZS, ZT, ZU, ZV, ZW, ZX, ZY, ZZ, Z0, bName, List.set_cons_succ, List.set_cons_zero, List.append_nil, List.length_cons, List.length_nil, Nat.zero_add, Nat.reduceAdd, true_and, and_true, if_true, if_false, Bool.false_eq_true, Bool.not_true, Bool.not_false, List.take_zero, List.drop_zero, nil_appD, ln, leB_int, c1, c2, decide_true, it, cm, wp_ok, List.length_map, lb, allB_map, hd, b0, b1, e00, eqB_txt, ix, neB_txt, nm, decide_eq_false q, Bool.false_or]
    · have c2 : ¬ ((l.length : Int) ≤ 40) := by omega
      have : numX l = false := by simp [numX, h2]
      simp only [Yj, Wb, Wc, Wd, We, Wf, Wg, Wh, Wi, Wj, Wm, Wn, Wo, Wp, Wq, Wr, Ws, Wt, Wu, Wv, Ww, Wx, Wy, Wz, WA, WB, WC, WD, WF, WG, WH, WI, WJ, WK, WL, WM, WN, WO, WP, WQ, WR, WS, WT, WU, WV, WW, WY, WZ, W4, W5, W6, W7, W8, W9, Za, Zb, Ze, Zf, Zg, Zh, Zi, Zk, Zl, Zm, Zo, Zq, Zr, Zs, Zt, Zu, Zv, wf_ok, rd_cons0, rd_cons, got_some, orGot_some, orGot_none, asB_bl, asI_int, asS_str, asOne_one, asTwo_two, ZJ, asThree_three, ZL, ZM, ZN, ZO, ZP, ZQ, ZR, ZS, ZT, ZU, ZV, ZW, ZX, ZY, ZZ, Z0, bName, List.set_cons_succ, List.set_cons_zero, List.append_nil, List.length_cons, List.length_nil, Nat.zero_add, Nat.reduceAdd, true_and, and_true, if_true, if_false, Bool.false_eq_true, Bool.not_true, Bool.not_false, List.take_zero, List.drop_zero, nil_appD, ln, leB_int, c1, decide_true, decide_eq_false c2, b0, b1, this]
  · have c1 : ¬ ((1 : Int) ≤ (l.length : Int)) := by omega
    have : numX l = false := by simp [numX, h1]
    simp only [Yj, Wb, Wc, Wd, We, Wf, Wg, Wh, Wi, Wj, Wm, Wn, Wo, Wp, Wq, Wr, Ws, Wt, Wu, Wv, Ww, Wx, Wy, Wz, WA, WB, WC, WD, WF, WG, WH, WI, WJ, WK, WL, WM, WN, WO, WP, WQ, WR, WS, WT, WU, WV, WW, WY, WZ, W4, W5, W6, W7, W8, W9, Za, Zb, Ze, Zf, Zg, Zh, Zi, Zk, Zl, Zm, Zo, Zq, Zr, Zs, Zt, Zu, Zv, wf_ok, rd_cons0, rd_cons, got_some, orGot_some, orGot_none, asB_bl, asI_int, asS_str, asOne_one, asTwo_two, ZJ, asThree_three, ZL, ZM, ZN, ZO, ZP, ZQ, ZR, ZS, ZT, ZU, ZV, ZW, ZX, ZY, ZZ, Z0, bName, List.set_cons_succ, List.set_cons_zero, List.append_nil, List.length_cons, List.length_nil, Nat.zero_add, Nat.reduceAdd, true_and, and_true, if_true, if_false, Bool.false_eq_true, Bool.not_true, Bool.not_false, List.take_zero, List.drop_zero, nil_appD, ln, leB_int, decide_eq_false c1, b0, b1, this]
theorem litK_dash : ("-" : Str) = txt [45] := by kernel_rfl
theorem litK_m0 : ("-0" : Str) = txt [45, 48] := by kernel_rfl
theorem litK_dot : ("." : Str) = txt [46] := by kernel_rfl
theorem signed_gen {w : List Nat} {S : Sto} (hl : w.length ≤ 900) : m_is_signed [.str (txt w)] S = .ok (.bl (sgX w)) S := by
  refine pur_flat rfl rfl ?_
  have e0 : startE 1 [D.str (txt w)] = [some (.str (txt w))] := rfl
  rw [e0]
  unfold fb_is_signed sgX
  have t1 : ∀ S, sliceD S (.str (txt w)) none (some 1) = some (.str (txt (w.take 1))) := fun S => sl_tk (k := 1) (by omega)
  have d1 : ∀ S, sliceD S (.str (txt w)) (some 1) none = some (.str (txt (w.drop 1))) := fun S => sl_dr (k := 1) (by omega)
  have n1 : ∀ S, m_is_numeral [.str (txt (w.drop 1)), .int 40] S = .ok (.bl (numX (w.drop 1))) S := fun S => numeral_gen (by rw [List.length_drop]; omega)
  have n2 : ∀ S, m_is_numeral [.str (txt w), .int 40] S = .ok (.bl (numX w)) S := fun S => numeral_gen (by omega)
  by_cases c : w.take 1 = [45]
  · rw [if_pos c]
    cases q : decide (w = [45, 48]) with
    | true =>
      have b1 : (!true) = false := rfl
      simp only [Yj, Wb, Wc, Wd, We, Wf, Wg, Wh, Wi, Wj, Wm, Wn, Wo, Wp, Wq, Wr, Ws, Wt, Wu, Wv, Ww, Wx, Wy, Wz, WA, WB, WC, WD, WF, WG, WH, WI, WJ, WK, WL, WM, WN, WO, WP, WQ, WR, WS, WT, WU, WV, WW, WY, WZ, W4, W5, W6, W7, W8, W9, Za, Zb, Ze, Zf, Zg, Zh, Zi, Zk, Zl, Zm, Zo, Zq, Zr, Zs, Zt, Zu, Zv, wf_ok, rd_cons0, rd_cons, got_some, orGot_some, orGot_none, asB_bl, asI_int, asS_str, asOne_one, asTwo_two, ZJ, asThree_three, ZL, ZM, ZN, ZO, ZP, ZQ, ZR, ZS, ZT, ZU, ZV, ZW, ZX, ZY, ZZ, Z0, bName, List.set_cons_succ, List.set_cons_zero, List.append_nil, List.length_cons, List.length_nil, Nat.zero_add, Nat.reduceAdd, true_and, and_true, if_true, if_false, Bool.false_eq_true, Bool.not_true, Bool.not_false, List.take_zero, List.drop_zero, nil_appD, asI, t1, litK_dash, litK_m0, eqB_txt, decide_eq_true c, neB_txt, q, b1, Bool.false_and]
    | false =>
      have b0 : (!false) = true := rfl
      simp only [Yj, Wb, Wc, Wd, We, Wf, Wg, Wh, Wi, Wj, Wm, Wn, Wo, Wp, Wq, Wr, Ws, Wt, Wu, Wv, Ww, Wx, Wy, Wz, WA, WB, WC, WD, WF, WG, WH, WI, WJ, WK, WL, WM, WN, WO, WP, WQ, WR, WS, WT, WU, WV, WW, WY, WZ, W4, W5, W6, W7, W8, W9, Za, Zb, Ze, Zf, Zg, Zh, Zi, Zk, Zl, Zm, Zo, Zq, Zr, Zs, Zt, Zu, Zv, wf_ok, rd_cons0, rd_cons, got_some, orGot_some, orGot_none, asB_bl, asI_int, asS_str, asOne_one, asTwo_two, ZJ, asThree_three, ZL, ZM, ZN, ZO, ZP, ZQ, ZR, ZS, ZT, ZU, ZV, ZW, ZX, ZY, ZZ, Z0, bName, List.set_cons_succ, List.set_cons_zero, List.append_nil, List.length_cons, List.length_nil, Nat.zero_add, Nat.reduceAdd, true_and, and_true, if_true, if_false, Bool.false_eq_true, Bool.not_true, Bool.not_false, List.take_zero, List.drop_zero, nil_appD, asI, t1, d1, litK_dash, litK_m0, eqB_txt, decide_eq_true c, neB_txt, q, b0, n1, Bool.true_and]
  · rw [if_neg c]
    simp only [Yj, Wb, Wc, Wd, We, Wf, Wg, Wh, Wi, Wj, Wm, Wn, Wo, Wp, Wq, Wr, Ws, Wt, Wu, Wv, Ww, Wx, Wy, Wz, WA, WB, WC, WD, WF, WG, WH, WI, WJ, WK, WL, WM, WN, WO, WP, WQ, WR, WS, WT, WU, WV, WW, WY, WZ, W4, W5, W6, W7, W8, W9, Za, Zb, Ze, Zf, Zg, Zh, Zi, Zk, Zl, Zm, Zo, Zq, Zr, Zs, Zt, Zu, Zv, wf_ok, rd_cons0, rd_cons, got_some, orGot_some, orGot_none, asB_bl, asI_int, asS_str, asOne_one, asTwo_two, ZJ, asThree_three, ZL, ZM, ZN, ZO, ZP, ZQ, ZR, ZS, ZT, ZU, ZV, ZW, ZX, ZY, ZZ, Z0, bName, List.set_cons_succ, List.set_cons_zero, List.append_nil, List.length_cons, List.length_nil, Nat.zero_add, Nat.reduceAdd, true_and, and_true, if_true, if_false, Bool.false_eq_true, Bool.not_true, Bool.not_false, List.take_zero, List.drop_zero, nil_appD, asI, t1, litK_dash, eqB_txt, decide_eq_false c, n2]
def goodK (t : List Nat) : Bool := decide ((cutL 46 t).length ≤ 40) && (cutL 46 t).all sgX
def keyD' (t : List Nat) : D := .tup ((cutL 46 t).map fun w => .int (valI w))
theorem keyD_bnd {t : List Nat} {n : Nat} : bnd n (keyD' t) = true := by
  simp only [keyD', bnd]
  exact bndL_of fun x hx => by
    obtain ⟨w, _, rfl⟩ := List.mem_map.mp hx; rfl
theorem sg_good {w : List Nat} (h : sgX w = true) : gdX w = true := by
  cases q : gdX w with
  | true => rfl
  | false => rw [sg_gd q] at h; cases h
theorem cut_lens {c : Nat} : ∀ l : List Nat, (cutL c l).length ≤ l.length + 1 ∧ ∀ x ∈ cutL c l, x.length ≤ l.length
  | [] => by simp [cutL]
  | y :: r => by
    obtain ⟨h1, h2⟩ := cut_lens (c := c) r
    unfold cutL
    split
    · refine ⟨by simp; omega, fun x hx => ?_⟩
      rcases List.mem_cons.mp hx with rfl | hx
      · simp
      · have := h2 x hx; simp; omega
    · split
      · exact ⟨by simp, fun x hx => by rw [List.mem_singleton.mp hx]; simp⟩
      · rename_i p q e
        rw [e] at h1 h2
        refine ⟨by simp at h1 ⊢; omega, fun x hx => ?_⟩
        rcases List.mem_cons.mp hx with rfl | hx
        · have := h2 p List.mem_cons_self; simp; omega
        · have := h2 x (List.mem_cons_of_mem _ hx); simp; omega
theorem read_key_gen {t : List Nat} {S : Sto} (hl : t.length ≤ 900) : m_read_key [.str (txt t)] S = (if t = [45] then .ok .non S else if goodK t = true then .ok (keyD' t) S else .er TextD S) := by
  have e0 : startE 3 [D.str (txt t)] = [some (.str (txt t)), none, none] := rfl
  have i1 : ∀ S, oIsi0 S [.str (txt t), .ty "str"] = some (.bl true) := fun _ => rfl
  have b0 : (!false) = true := rfl
  have b1 : (!true) = false := rfl
  by_cases c : t = [45]
  · rw [if_pos c]
    refine pur_flat rfl rfl ?_
    rw [e0]
    unfold fb_read_key
    simp only [Yj, Wb, Wc, Wd, We, Wf, Wg, Wh, Wi, Wj, Wm, Wn, Wo, Wp, Wq, Wr, Ws, Wt, Wu, Wv, Ww, Wx, Wy, Wz, WA, WB, WC, WD, WF, WG, WH, WI, WJ, WK, WL, WM, WN, WO, WP, WQ, WR, WS, WT, WU, WV, WW, WY, WZ, W4, W5, W6, W7, W8, W9, Za, Zb, Ze, Zf, Zg, Zh, Zi, Zk, Zl, Zm, Zo, Zq, Zr, Zs, Zt, Zu, Zv, wf_ok, rd_cons0, rd_cons, got_some, orGot_some, orGot_none, asB_bl, asI_int, asS_str, asOne_one, asTwo_two, ZJ, asThree_three, ZL, ZM, ZN, ZO, ZP, ZQ, ZR, ZS, ZT, ZU, ZV, ZW, ZX, ZY, ZZ, Z0, bName, List.set_cons_succ, List.set_cons_zero, List.append_nil, List.length_cons, List.length_nil, Nat.zero_add, Nat.reduceAdd, true_and, and_true, if_true, if_false, Bool.false_eq_true, Bool.not_true, Bool.not_false, List.take_zero, List.drop_zero, nil_appD, i1, b1, litK_dash, eqB_txt, decide_eq_true c]
  · rw [if_neg c]
    have cl := cut_lens (c := 46) t
    have sp : ∀ S, mSplit S (.str (txt t)) [.str (txt [46])] = some (.lst ((cutL 46 t).map fun x => .str (txt x)), S) := fun S => mSplit_txt (by omega)
    have it : itemsOf (.lst ((cutL 46 t).map fun x => D.str (txt x))) = some ((cutL 46 t).map fun x => D.str (txt x)) := rfl
    have ln : ∀ S, oLen S [.lst ((cutL 46 t).map fun x => D.str (txt x))] = some (.int (cutL 46 t).length) := fun S => by
      show some (D.int ((cutL 46 t).map fun x => D.str (txt x)).length) = _
      rw [List.length_map]
    have gt : ∀ S (a b : Int), swapB ltB S (.int a) (.int b) = some (decide (b < a)) := fun _ _ _ => rfl
    have lb : (cutL 46 t).length < sizeLine := lt_big (by omega)
    have cm := comp_maps (i := 2) (fe := eCallF 1 m_is_signed [] (aCons (eVar 2) aNil)) (r := [some (.str (txt t)), some (.lst ((cutL 46 t).map fun x => .str (txt x))), none]) (vs := [2]) (S := []) (fun x => .str (txt x)) (fun w => .bl (sgX w)) (xs := cutL 46 t) (by
      intro w hw
      have := cl.2 w hw
      simp only [Wb, Wc, Wd, We, Wf, Wg, Wh, Wi, Wj, Wm, Wn, Wo, Wp, Wq, Wr, Ws, Wt, Wu, Wv, Ww, Wx, Wy, Wz, WA, WB, WC, WD, WF, WG, WH, WI, WJ, WK, WL, WM, WN, WO, WP, WQ, WR, WS, WT, WU, WV, WW, WY, WZ, W4, W5, W6, W7, W8, W9, Za, Zb, Ze, Zf, Zg, Zh, Zi, Zk, Zl, Zm, Zo, Zq, Zr, Zs, Zt, Zu, Zv, wf_ok, rd_cons0, rd_cons, got_some, orGot_some, orGot_none, asB_bl, asI_int, asS_str, asOne_one, asTwo_two, ZJ, asThree_three, ZL, ZM, ZN, ZO, ZP, ZQ, ZR, ZS, ZT, ZU, ZV, ZW, ZX, ZY, ZZ, Z0, bName, List.set_cons_succ, List.set_cons_zero, List.append_nil, List.length_cons, List.length_nil, Nat.zero_add, Nat.reduceAdd, true_and, and_true, if_true, if_false, Bool.false_eq_true, Bool.not_true, Bool.not_false, List.take_zero, List.drop_zero, nil_appD, wipeE, signed_gen (show w.length ≤ 900 by omega)])
    by_cases h40 : (cutL 46 t).length ≤ 40
    · have c40 : decide ((40 : Int) < ((cutL 46 t).length : Int)) = false := decide_eq_false (by omega)
      cases ha : (cutL 46 t).all sgX with
      | true =>
        have hg : goodK t = true := by unfold goodK; rw [decide_eq_true h40, ha]; rfl
        rw [if_pos hg]
        have cm2 := comp_maps (i := 2) (fe := eCallB oIntStr (aCons (eVar 2) aNil)) (r := [some (.str (txt t)), some (.lst ((cutL 46 t).map fun x => .str (txt x))), none]) (vs := [2]) (S := []) (fun x => .str (txt x)) (fun w => .int (valI w)) (xs := cutL 46 t) (by
          intro w hw
          simp only [Wb, Wc, Wd, We, Wf, Wg, Wh, Wi, Wj, Wm, Wn, Wo, Wp, Wq, Wr, Ws, Wt, Wu, Wv, Ww, Wx, Wy, Wz, WA, WB, WC, WD, WF, WG, WH, WI, WJ, WK, WL, WM, WN, WO, WP, WQ, WR, WS, WT, WU, WV, WW, WY, WZ, W4, W5, W6, W7, W8, W9, Za, Zb, Ze, Zf, Zg, Zh, Zi, Zk, Zl, Zm, Zo, Zq, Zr, Zs, Zt, Zu, Zv, wf_ok, rd_cons0, rd_cons, got_some, orGot_some, orGot_none, asB_bl, asI_int, asS_str, asOne_one, asTwo_two, ZJ, asThree_three, ZL, ZM, ZN, ZO, ZP, ZQ, ZR, ZS, ZT, ZU, ZV, ZW, ZX, ZY, ZZ, Z0, bName, List.set_cons_succ, List.set_cons_zero, List.append_nil, List.length_cons, List.length_nil, Nat.zero_add, Nat.reduceAdd, true_and, and_true, if_true, if_false, Bool.false_eq_true, Bool.not_true, Bool.not_false, List.take_zero, List.drop_zero, nil_appD, wipeE, int_w (sg_good (List.all_eq_true.mp ha w hw))])
        have tu : ∀ S, oTupOf S [.lst ((cutL 46 t).map fun w => D.int (valI w))] = some (keyD' t) := fun _ => rfl
        refine pur_flat keyD_bnd rfl ?_
        rw [e0]
        unfold fb_read_key
        simp only [Yj, Wb, Wc, Wd, We, Wf, Wg, Wh, Wi, Wj, Wm, Wn, Wo, Wp, Wq, Wr, Ws, Wt, Wu, Wv, Ww, Wx, Wy, Wz, WA, WB, WC, WD, WF, WG, WH, WI, WJ, WK, WL, WM, WN, WO, WP, WQ, WR, WS, WT, WU, WV, WW, WY, WZ, W4, W5, W6, W7, W8, W9, Za, Zb, Ze, Zf, Zg, Zh, Zi, Zk, Zl, Zm, Zo, Zq, Zr, Zs, Zt, Zu, Zv, wf_ok, rd_cons0, rd_cons, got_some, orGot_some, orGot_none, asB_bl, asI_int, asS_str, asOne_one, asTwo_two, ZJ, asThree_three, ZL, ZM, ZN, ZO, ZP, ZQ, ZR, ZS, ZT, ZU, ZV, ZW, ZX, ZY, ZZ, Z0, bName, List.set_cons_succ, List.set_cons_zero, List.append_nil, List.length_cons, List.length_nil, Nat.zero_add, Nat.reduceAdd, true_and, and_true, if_true, if_false, Bool.false_eq_true, Bool.not_true, Bool.not_false, List.take_zero, List.drop_zero, nil_appD, i1, b1, litK_dash, litK_dot, eqB_txt, decide_eq_false c, isStr, sp, ln, gt, c40, it, cm, cm2, wp_ok, List.length_map, lb, allB_map, ha, tu]
      | false =>
        have hg : ¬ goodK t = true := by unfold goodK; rw [ha]; simp
        rw [if_neg hg]
        refine pur_er rfl rfl ?_
        rw [e0]
        unfold fb_read_key
        rw [Yj]
        simp only [Wb, Wc, Wd, We, Wf, Wg, Wh, Wi, Wj, Wm, Wn, Wo, Wp, Wq, Wr, Ws, Wt, Wu, Wv, Ww, Wx, Wy, Wz, WA, WB, WC, WD, WF, WG, WH, WI, WJ, WK, WL, WM, WN, WO, WP, WQ, WR, WS, WT, WU, WV, WW, WY, WZ, W4, W5, W6, W7, W8, W9, Za, Zb, Ze, Zf, Zg, Zh, Zi, Zk, Zl, Zm, Zo, Zq, Zr, Zs, Zt, Zu, Zv, wf_ok, rd_cons0, rd_cons, got_some, orGot_some, orGot_none, asB_bl, asI_int, asS_str, asOne_one, asTwo_two, ZJ, asThree_three, ZL, ZM, ZN, ZO, ZP, ZQ, ZR, ZS, ZT, ZU, ZV, ZW, ZX, ZY, ZZ, Z0, bName, List.set_cons_succ, List.set_cons_zero, List.append_nil, List.length_cons, List.length_nil, Nat.zero_add, Nat.reduceAdd, true_and, and_true, if_true, if_false, Bool.false_eq_true, Bool.not_true, Bool.not_false, List.take_zero, List.drop_zero, nil_appD, i1, b1]
        rw [Yj]
        simp only [Wb, Wc, Wd, We, Wf, Wg, Wh, Wi, Wj, Wm, Wn, Wo, Wp, Wq, Wr, Ws, Wt, Wu, Wv, Ww, Wx, Wy, Wz, WA, WB, WC, WD, WF, WG, WH, WI, WJ, WK, WL, WM, WN, WO, WP, WQ, WR, WS, WT, WU, WV, WW, WY, WZ, W4, W5, W6, W7, W8, W9, Za, Zb, Ze, Zf, Zg, Zh, Zi, Zk, Zl, Zm, Zo, Zq, Zr, Zs, Zt, Zu, Zv, wf_ok, rd_cons0, rd_cons, got_some, orGot_some, orGot_none, asB_bl, asI_int, asS_str, asOne_one, asTwo_two, ZJ, asThree_three, ZL, ZM, ZN, ZO, ZP, ZQ, ZR, ZS, ZT, ZU, ZV, ZW, ZX, ZY, ZZ, Z0, bName, List.set_cons_succ, List.set_cons_zero, List.append_nil, List.length_cons, List.length_nil, Nat.zero_add, Nat.reduceAdd, true_and, and_true, if_true, if_false, Bool.false_eq_true, Bool.not_true, Bool.not_false, List.take_zero, List.drop_zero, nil_appD, litK_dash, eqB_txt, decide_eq_false c]
        rw [Yj]
        simp only [Wb, Wc, Wd, We, Wf, Wg, Wh, Wi, Wj, Wm, Wn, Wo, Wp, Wq, Wr, Ws, Wt, Wu, Wv, Ww, Wx, Wy, Wz, WA, WB, WC, WD, WF, WG, WH, WI, WJ, WK, WL, WM, WN, WO, WP, WQ, WR, WS, WT, WU, WV, WW, WY, WZ, W4, W5, W6, W7, W8, W9, Za, Zb, Ze, Zf, Zg, Zh, Zi, Zk, Zl, Zm, Zo, Zq, Zr, Zs, Zt, Zu, Zv, wf_ok, rd_cons0, rd_cons, got_some, orGot_some, orGot_none, asB_bl, asI_int, asS_str, asOne_one, asTwo_two, ZJ, asThree_three, ZL, ZM, ZN, ZO, ZP, ZQ, ZR, ZS, ZT, ZU, ZV, ZW, ZX, ZY, ZZ, Z0, bName, List.set_cons_succ, List.set_cons_zero, List.append_nil, List.length_cons, List.length_nil, Nat.zero_add, Nat.reduceAdd, true_and, and_true, if_true, if_false, Bool.false_eq_true, Bool.not_true, Bool.not_false, List.take_zero, List.drop_zero, nil_appD, litK_dot, isStr, sp]
        rw [Yj]
        simp only [Wb, Wc, Wd, We, Wf, Wg, Wh, Wi, Wj, Wm, Wn, Wo, Wp, Wq, Wr, Ws, Wt, Wu, Wv, Ww, Wx, Wy, Wz, WA, WB, WC, WD, WF, WG, WH, WI, WJ, WK, WL, WM, WN, WO, WP, WQ, WR, WS, WT, WU, WV, WW, WY, WZ, W4, W5, W6, W7, W8, W9, Za, Zb, Ze, Zf, Zg, Zh, Zi, Zk, Zl, Zm, Zo, Zq, Zr, Zs, Zt, Zu, Zv, wf_ok, rd_cons0, rd_cons, got_some, orGot_some, orGot_none, asB_bl, asI_int, asS_str, asOne_one, asTwo_two, ZJ, asThree_three, ZL, ZM, ZN, ZO, ZP, ZQ, ZR, ZS, ZT, ZU, ZV, ZW, ZX, ZY, ZZ, Z0, bName, List.set_cons_succ, List.set_cons_zero, List.append_nil, List.length_cons, List.length_nil, Nat.zero_add, Nat.reduceAdd, true_and, and_true, if_true, if_false, Bool.false_eq_true, Bool.not_true, Bool.not_false, List.take_zero, List.drop_zero, nil_appD, ln, gt, c40, it, cm, wp_ok, List.length_map, lb, allB_map, ha, b0, wp_Raise0, asOne_one]
        first | rfl | exact ⟨rfl, rfl⟩ | skip
    · have c40 : decide ((40 : Int) < ((cutL 46 t).length : Int)) = true := decide_eq_true (by omega)
      have hg : ¬ goodK t = true := by unfold goodK; rw [decide_eq_false h40]; simp
      rw [if_neg hg]
      refine pur_er rfl rfl ?_
      rw [e0]
      unfold fb_read_key
      rw [Yj]
      simp only [Wb, Wc, Wd, We, Wf, Wg, Wh, Wi, Wj, Wm, Wn, Wo, Wp, Wq, Wr, Ws, Wt, Wu, Wv, Ww, Wx, Wy, Wz, WA, WB, WC, WD, WF, WG, WH, WI, WJ, WK, WL, WM, WN, WO, WP, WQ, WR, WS, WT, WU, WV, WW, WY, WZ, W4, W5, W6, W7, W8, W9, Za, Zb, Ze, Zf, Zg, Zh, Zi, Zk, Zl, Zm, Zo, Zq, Zr, Zs, Zt, Zu, Zv, wf_ok, rd_cons0, rd_cons, got_some, orGot_some, orGot_none, asB_bl, asI_int, asS_str, asOne_one, asTwo_two, ZJ, asThree_three, ZL, ZM, ZN, ZO, ZP, ZQ, ZR, ZS, ZT, ZU, ZV, ZW, ZX, ZY, ZZ, Z0, bName, List.set_cons_succ, List.set_cons_zero, List.append_nil, List.length_cons, List.length_nil, Nat.zero_add, Nat.reduceAdd, true_and, and_true, if_true, if_false, Bool.false_eq_true, Bool.not_true, Bool.not_false, List.take_zero, List.drop_zero, nil_appD, i1, b1]
      rw [Yj]
      simp only [Wb, Wc, Wd, We, Wf, Wg, Wh, Wi, Wj, Wm, Wn, Wo, Wp, Wq, Wr, Ws, Wt, Wu, Wv, Ww, Wx, Wy, Wz, WA, WB, WC, WD, WF, WG, WH, WI, WJ, WK, WL, WM, WN, WO, WP, WQ, WR, WS, WT, WU, WV, WW, WY, WZ, W4, W5, W6, W7, W8, W9, Za, Zb, Ze, Zf, Zg, Zh, Zi, Zk, Zl, Zm, Zo, Zq, Zr, Zs, Zt, Zu, Zv, wf_ok, rd_cons0, rd_cons, got_some, orGot_some, orGot_none, asB_bl, asI_int, asS_str, asOne_one, asTwo_two, ZJ, asThree_three, ZL, ZM, ZN, ZO, ZP, ZQ, ZR, ZS, ZT, ZU, ZV, ZW, ZX, ZY, ZZ, Z0, bName, List.set_cons_succ, List.set_cons_zero, List.append_nil, List.length_cons, List.length_nil, Nat.zero_add, Nat.reduceAdd, true_and, and_true, if_true, if_false, Bool.false_eq_true, Bool.not_true, Bool.not_false, List.take_zero, List.drop_zero, nil_appD, litK_dash, eqB_txt, decide_eq_false c]
      rw [Yj]
      simp only [Wb, Wc, Wd, We, Wf, Wg, Wh, Wi, Wj, Wm, Wn, Wo, Wp, Wq, Wr, Ws, Wt, Wu, Wv, Ww, Wx, Wy, Wz, WA, WB, WC, WD, WF, WG, WH, WI, WJ, WK, WL, WM, WN, WO, WP, WQ, WR, WS, WT, WU, WV, WW, WY, WZ, W4, W5, W6, W7, W8, W9, Za, Zb, Ze, Zf, Zg, Zh, Zi, Zk, Zl, Zm, Zo, Zq, Zr, Zs, Zt, Zu, Zv, wf_ok, rd_cons0, rd_cons, got_some, orGot_some, orGot_none, asB_bl, asI_int, asS_str, asOne_one, asTwo_two, ZJ, asThree_three, ZL, ZM, ZN, ZO, ZP, ZQ, ZR, ZS, ZT, ZU, ZV, ZW, ZX, ZY, ZZ, Z0, bName, List.set_cons_succ, List.set_cons_zero, List.append_nil, List.length_cons, List.length_nil, Nat.zero_add, Nat.reduceAdd, true_and, and_true, if_true, if_false, Bool.false_eq_true, Bool.not_true, Bool.not_false, List.take_zero, List.drop_zero, nil_appD, litK_dot, isStr, sp]
      rw [Yj]
      simp only [Wb, Wc, Wd, We, Wf, Wg, Wh, Wi, Wj, Wm, Wn, Wo, Wp, Wq, Wr, Ws, Wt, Wu, Wv, Ww, Wx, Wy, Wz, WA, WB, WC, WD, WF, WG, WH, WI, WJ, WK, WL, WM, WN, WO, WP, WQ, WR, WS, WT, WU, WV, WW, WY, WZ, W4, W5, W6, W7, W8, W9, Za, Zb, Ze, Zf, Zg, Zh, Zi, Zk, Zl, Zm, Zo, Zq, Zr, Zs, Zt, Zu, Zv, wf_ok, rd_cons0, rd_cons, got_some, orGot_some, orGot_none, asB_bl, asI_int, asS_str, asOne_one, asTwo_two, ZJ, asThree_three, ZL, ZM, ZN, ZO, ZP, ZQ, ZR, ZS, ZT, ZU, ZV, ZW, ZX, ZY, ZZ, Z0, bName, List.set_cons_succ, List.set_cons_zero, List.append_nil, List.length_cons, List.length_nil, Nat.zero_add, Nat.reduceAdd, true_and, and_true, if_true, if_false, Bool.false_eq_true, Bool.not_true, Bool.not_false, List.take_zero, List.drop_zero, nil_appD, ln, gt, c40, wp_Raise0, asOne_one]
      first | rfl | exact ⟨rfl, rfl⟩ | skip
def lawRd (t : List Nat) : D := if t = [45] then .non else if goodK t = true then keyD' t else .bl false
theorem lawRd_bnd {t : List Nat} {n : Nat} : bnd n (lawRd t) = true := by
  unfold lawRd
  split
  · rfl
  · split
    · exact keyD_bnd
    · rfl
theorem law_read_gen {t : List Nat} {S : Sto} (hl : t.length ≤ 900) : m_law_read [.str (txt t)] S = .ok (lawRd t) S := by
  refine pur_flat lawRd_bnd rfl ?_
  have e0 : startE 6 [D.str (txt t)] = [some (.str (txt t)), none, none, none, none, none] := rfl
  rw [e0]
  unfold fb_law_read
  have b0 : (!false) = true := rfl
  have b1 : (!true) = false := rfl
  by_cases c : t = [45]
  · have e : lawRd t = .non := by unfold lawRd; rw [if_pos c]
    rw [e]
    simp only [Yj, Wb, Wc, Wd, We, Wf, Wg, Wh, Wi, Wj, Wm, Wn, Wo, Wp, Wq, Wr, Ws, Wt, Wu, Wv, Ww, Wx, Wy, Wz, WA, WB, WC, WD, WF, WG, WH, WI, WJ, WK, WL, WM, WN, WO, WP, WQ, WR, WS, WT, WU, WV, WW, WY, WZ, W4, W5, W6, W7, W8, W9, Za, Zb, Ze, Zf, Zg, Zh, Zi, Zk, Zl, Zm, Zo, Zq, Zr, Zs, Zt, Zu, Zv, wf_ok, rd_cons0, rd_cons, got_some, orGot_some, orGot_none, asB_bl, asI_int, asS_str, asOne_one, asTwo_two, ZJ, asThree_three, ZL, ZM, ZN, ZO, ZP, ZQ, ZR, ZS, ZT, ZU, ZV, ZW, ZX, ZY, ZZ, Z0, bName, List.set_cons_succ, List.set_cons_zero, List.append_nil, List.length_cons, List.length_nil, Nat.zero_add, Nat.reduceAdd, true_and, and_true, if_true, if_false, Bool.false_eq_true, Bool.not_true, Bool.not_false, List.take_zero, List.drop_zero, nil_appD, litK_dash, eqB_txt, decide_eq_true c]
  · have cl := cut_lens (c := 46) t
    have sp : ∀ S, mSplit S (.str (txt t)) [.str (txt [46])] = some (.lst ((cutL 46 t).map fun x => .str (txt x)), S) := fun S => mSplit_txt (by omega)
    have it : itemsOf (.lst ((cutL 46 t).map fun x => D.str (txt x))) = some ((cutL 46 t).map fun x => D.str (txt x)) := rfl
    have ln : ∀ S, oLen S [.lst ((cutL 46 t).map fun x => D.str (txt x))] = some (.int (cutL 46 t).length) := fun S => by
      show some (D.int ((cutL 46 t).map fun x => D.str (txt x)).length) = _
      rw [List.length_map]
    have lb : (cutL 46 t).length < sizeLine := lt_big (by omega)
    rw [Yj]
    simp only [Wb, Wc, Wd, We, Wf, Wg, Wh, Wi, Wj, Wm, Wn, Wo, Wp, Wq, Wr, Ws, Wt, Wu, Wv, Ww, Wx, Wy, Wz, WA, WB, WC, WD, WF, WG, WH, WI, WJ, WK, WL, WM, WN, WO, WP, WQ, WR, WS, WT, WU, WV, WW, WY, WZ, W4, W5, W6, W7, W8, W9, Za, Zb, Ze, Zf, Zg, Zh, Zi, Zk, Zl, Zm, Zo, Zq, Zr, Zs, Zt, Zu, Zv, wf_ok, rd_cons0, rd_cons, got_some, orGot_some, orGot_none, asB_bl, asI_int, asS_str, asOne_one, asTwo_two, ZJ, asThree_three, ZL, ZM, ZN, ZO, ZP, ZQ, ZR, ZS, ZT, ZU, ZV, ZW, ZX, ZY, ZZ, Z0, bName, List.set_cons_succ, List.set_cons_zero, List.append_nil, List.length_cons, List.length_nil, Nat.zero_add, Nat.reduceAdd, true_and, and_true, if_true, if_false, Bool.false_eq_true, Bool.not_true, Bool.not_false, List.take_zero, List.drop_zero, nil_appD, litK_dash, eqB_txt, decide_eq_false c]
    rw [Yj]
    simp only [Wb, Wc, Wd, We, Wf, Wg, Wh, Wi, Wj, Wm, Wn, Wo, Wp, Wq, Wr, Ws, Wt, Wu, Wv, Ww, Wx, Wy, Wz, WA, WB, WC, WD, WF, WG, WH, WI, WJ, WK, WL, WM, WN, WO, WP, WQ, WR, WS, WT, WU, WV, WW, WY, WZ, W4, W5, W6, W7, W8, W9, Za, Zb, Ze, Zf, Zg, Zh, Zi, Zk, Zl, Zm, Zo, Zq, Zr, Zs, Zt, Zu, Zv, wf_ok, rd_cons0, rd_cons, got_some, orGot_some, orGot_none, asB_bl, asI_int, asS_str, asOne_one, asTwo_two, ZJ, asThree_three, ZL, ZM, ZN, ZO, ZP, ZQ, ZR, ZS, ZT, ZU, ZV, ZW, ZX, ZY, ZZ, Z0, bName, List.set_cons_succ, List.set_cons_zero, List.append_nil, List.length_cons, List.length_nil, Nat.zero_add, Nat.reduceAdd, true_and, and_true, if_true, if_false, Bool.false_eq_true, Bool.not_true, Bool.not_false, List.take_zero, List.drop_zero, nil_appD, litK_dot, isStr, sp]
    rw [Yj]
    simp only [Wb, Wc, Wd, We, Wf, Wg, Wh, Wi, Wj, Wm, Wn, Wo, Wp, Wq, Wr, Ws, Wt, Wu, Wv, Ww, Wx, Wy, Wz, WA, WB, WC, WD, WF, WG, WH, WI, WJ, WK, WL, WM, WN, WO, WP, WQ, WR, WS, WT, WU, WV, WW, WY, WZ, W4, W5, W6, W7, W8, W9, Za, Zb, Ze, Zf, Zg, Zh, Zi, Zk, Zl, Zm, Zo, Zq, Zr, Zs, Zt, Zu, Zv, wf_ok, rd_cons0, rd_cons, got_some, orGot_some, orGot_none, asB_bl, asI_int, asS_str, asOne_one, asTwo_two, ZJ, asThree_three, ZL, ZM, ZN, ZO, ZP, ZQ, ZR, ZS, ZT, ZU, ZV, ZW, ZX, ZY, ZZ, Z0, bName, List.set_cons_succ, List.set_cons_zero, List.append_nil, List.length_cons, List.length_nil, Nat.zero_add, Nat.reduceAdd, true_and, and_true, if_true, if_false, Bool.false_eq_true, Bool.not_true, Bool.not_false, List.take_zero, List.drop_zero, nil_appD, it]
    refine wp_loop (fun xs r T => ∃ (dn rs : List (List Nat)) (x2 x3 x4 x5 : Option D), cutL 46 t = dn ++ rs ∧ dn.all sgX = true ∧ xs = rs.map (fun x => D.str (txt x)) ∧ r = [some (.str (txt t)), some (.lst ((cutL 46 t).map fun x => .str (txt x))), x2, x3, x4, x5] ∧ T = []) _ _ _ ⟨[], cutL 46 t, none, none, none, none, rfl, rfl, rfl, rfl, rfl⟩ ?_ ?_
    · rintro r T ⟨dn, rs, x2, x3, x4, x5, hd, ha, hx, rfl, rfl⟩
      have : rs = [] := by simpa using hx.symm
      subst this
      rw [List.append_nil] at hd
      rw [← hd] at ha
      by_cases h40 : (cutL 46 t).length ≤ 40
      · have c40 : ((cutL 46 t).length : Int) ≤ 40 := by omega
        have hg : goodK t = true := by unfold goodK; rw [decide_eq_true h40, ha]; rfl
        have e : lawRd t = keyD' t := by unfold lawRd; rw [if_neg c, if_pos hg]
        have cm2 := comp_maps (i := 2) (fe := eCallB oIntStr (aCons (eVar 2) aNil)) (r := [some (.str (txt t)), some (.lst ((cutL 46 t).map fun x => .str (txt x))), x2, x3, x4, x5]) (vs := [2]) (S := []) (fun x => .str (txt x)) (fun w => .int (valI w)) (xs := cutL 46 t) (by
          intro w hw
          simp only [Wb, Wc, Wd, We, Wf, Wg, Wh, Wi, Wj, Wm, Wn, Wo, Wp, Wq, Wr, Ws, Wt, Wu, Wv, Ww, Wx, Wy, Wz, WA, WB, WC, WD, WF, WG, WH, WI, WJ, WK, WL, WM, WN, WO, WP, WQ, WR, WS, WT, WU, WV, WW, WY, WZ, W4, W5, W6, W7, W8, W9, Za, Zb, Ze, Zf, Zg, Zh, Zi, Zk, Zl, Zm, Zo, Zq, Zr, Zs, Zt, Zu, Zv, wf_ok, rd_cons0, rd_cons, got_some, orGot_some, orGot_none, asB_bl, asI_int, asS_str, asOne_one, asTwo_two, ZJ, asThree_three, ZL, ZM, ZN, ZO, ZP, ZQ, ZR, ZS, ZT, ZU, ZV, ZW, ZX, ZY, ZZ, Z0, bName, List.set_cons_succ, List.set_cons_zero, List.append_nil, List.length_cons, List.length_nil, Nat.zero_add, Nat.reduceAdd, true_and, and_true, if_true, if_false, Bool.false_eq_true, Bool.not_true, Bool.not_false, List.take_zero, List.drop_zero, nil_appD, wipeE, int_w (sg_good (List.all_eq_true.mp ha w hw))])
        have tu : ∀ S, oTupOf S [.lst ((cutL 46 t).map fun w => D.int (valI w))] = some (keyD' t) := fun _ => rfl
        simp only [Wb, Wc, Wd, We, Wf, Wg, Wh, Wi, Wj, Wm, Wn, Wo, Wp, Wq, Wr, Ws, Wt, Wu, Wv, Ww, Wx, Wy, Wz, WA, WB, WC, WD, WF, WG, WH, WI, WJ, WK, WL, WM, WN, WO, WP, WQ, WR, WS, WT, WU, WV, WW, WY, WZ, W4, W5, W6, W7, W8, W9, Za, Zb, Ze, Zf, Zg, Zh, Zi, Zk, Zl, Zm, Zo, Zq, Zr, Zs, Zt, Zu, Zv, wf_ok, rd_cons0, rd_cons, got_some, orGot_some, orGot_none, asB_bl, asI_int, asS_str, asOne_one, asTwo_two, ZJ, asThree_three, ZL, ZM, ZN, ZO, ZP, ZQ, ZR, ZS, ZT, ZU, ZV, ZW, ZX, ZY, ZZ, Z0, bName, List.set_cons_succ, List.set_cons_zero, List.append_nil, List.length_cons, List.length_nil, Nat.zero_add, Nat.reduceAdd, true_and, and_true, if_true, if_false, Bool.false_eq_true, Bool.not_true, Bool.not_false, List.take_zero, List.drop_zero, nil_appD, ln, leB_int, decide_eq_true c40, it, cm2, wp_ok, List.length_map, lb, tu, e]
      · have c40 : ¬ ((cutL 46 t).length : Int) ≤ 40 := by omega
        have hg : ¬ goodK t = true := by unfold goodK; rw [decide_eq_false h40]; simp
        have e : lawRd t = .bl false := by unfold lawRd; rw [if_neg c, if_neg hg]
        simp only [Wb, Wc, Wd, We, Wf, Wg, Wh, Wi, Wj, Wm, Wn, Wo, Wp, Wq, Wr, Ws, Wt, Wu, Wv, Ww, Wx, Wy, Wz, WA, WB, WC, WD, WF, WG, WH, WI, WJ, WK, WL, WM, WN, WO, WP, WQ, WR, WS, WT, WU, WV, WW, WY, WZ, W4, W5, W6, W7, W8, W9, Za, Zb, Ze, Zf, Zg, Zh, Zi, Zk, Zl, Zm, Zo, Zq, Zr, Zs, Zt, Zu, Zv, wf_ok, rd_cons0, rd_cons, got_some, orGot_some, orGot_none, asB_bl, asI_int, asS_str, asOne_one, asTwo_two, ZJ, asThree_three, ZL, ZM, ZN, ZO, ZP, ZQ, ZR, ZS, ZT, ZU, ZV, ZW, ZX, ZY, ZZ, Z0, bName, List.set_cons_succ, List.set_cons_zero, List.append_nil, List.length_cons, List.length_nil, Nat.zero_add, Nat.reduceAdd, true_and, and_true, if_true, if_false, Bool.false_eq_true, Bool.not_true, Bool.not_false, List.take_zero, List.drop_zero, nil_appD, ln, leB_int, decide_eq_false c40, e]
    · rintro x xs r T ⟨dn, rs, x2, x3, x4, x5, hd, ha, hx, rfl, rfl⟩
      cases rs with
      | nil => simp at hx
      | cons w rs =>
        simp only [List.map_cons, List.cons.injEq] at hx
        obtain ⟨rfl, rfl⟩ := hx
        refine ⟨_, rfl, ?_⟩
        have wl := cl.2 w (by rw [hd]; simp)
        have bad : sgX w = false → lawRd t = .bl false := fun h => by
          have hg : ¬ goodK t = true := by
            unfold goodK
            rw [hd, List.all_append, List.all_cons, h]
            simp
          unfold lawRd
          rw [if_neg c, if_neg hg]
        have t1 : ∀ S, sliceD S (.str (txt w)) none (some 1) = some (.str (txt (w.take 1))) := fun S => sl_tk (k := 1) (by omega)
        have d1 : ∀ S, sliceD S (.str (txt w)) (some 1) none = some (.str (txt (w.drop 1))) := fun S => sl_dr (k := 1) (by omega)
        have fl : (figs w).length ≤ 900 := by
          unfold figs
          split
          · rw [List.length_drop]; omega
          · omega
        rw [Yj]
        refine wp_imp (Q := fun fl r T => fl = .nx ∧ r = [some (.str (txt t)), some (.lst ((cutL 46 t).map fun x => .str (txt x))), some (.str (txt w)), some (.str (txt (figs w))), x4, x5] ∧ T = []) (Z := fun _ _ _ => False) ?_ ?_ (fun _ _ _ z => z.elim)
        · by_cases q : w.take 1 = [45]
          · have e : figs w = w.drop 1 := by unfold figs; rw [if_pos q]
            simp only [Wb, Wc, Wd, We, Wf, Wg, Wh, Wi, Wj, Wm, Wn, Wo, Wp, Wq, Wr, Ws, Wt, Wu, Wv, Ww, Wx, Wy, Wz, WA, WB, WC, WD, WF, WG, WH, WI, WJ, WK, WL, WM, WN, WO, WP, WQ, WR, WS, WT, WU, WV, WW, WY, WZ, W4, W5, W6, W7, W8, W9, Za, Zb, Ze, Zf, Zg, Zh, Zi, Zk, Zl, Zm, Zo, Zq, Zr, Zs, Zt, Zu, Zv, wf_ok, rd_cons0, rd_cons, got_some, orGot_some, orGot_none, asB_bl, asI_int, asS_str, asOne_one, asTwo_two, ZJ, asThree_three, ZL, ZM, ZN, ZO, ZP, ZQ, ZR, ZS, ZT, ZU, ZV, ZW, ZX, ZY, ZZ, Z0, bName, List.set_cons_succ, List.set_cons_zero, List.append_nil, List.length_cons, List.length_nil, Nat.zero_add, Nat.reduceAdd, true_and, and_true, if_true, if_false, Bool.false_eq_true, Bool.not_true, Bool.not_false, List.take_zero, List.drop_zero, nil_appD, asI, t1, d1, litK_dash, eqB_txt, decide_eq_true q, e]
            first | rfl | exact ⟨rfl, rfl⟩ | exact ⟨rfl, rfl, rfl⟩ | skip
          · have e : figs w = w := by unfold figs; rw [if_neg q]
            simp only [Wb, Wc, Wd, We, Wf, Wg, Wh, Wi, Wj, Wm, Wn, Wo, Wp, Wq, Wr, Ws, Wt, Wu, Wv, Ww, Wx, Wy, Wz, WA, WB, WC, WD, WF, WG, WH, WI, WJ, WK, WL, WM, WN, WO, WP, WQ, WR, WS, WT, WU, WV, WW, WY, WZ, W4, W5, W6, W7, W8, W9, Za, Zb, Ze, Zf, Zg, Zh, Zi, Zk, Zl, Zm, Zo, Zq, Zr, Zs, Zt, Zu, Zv, wf_ok, rd_cons0, rd_cons, got_some, orGot_some, orGot_none, asB_bl, asI_int, asS_str, asOne_one, asTwo_two, ZJ, asThree_three, ZL, ZM, ZN, ZO, ZP, ZQ, ZR, ZS, ZT, ZU, ZV, ZW, ZX, ZY, ZZ, Z0, bName, List.set_cons_succ, List.set_cons_zero, List.append_nil, List.length_cons, List.length_nil, Nat.zero_add, Nat.reduceAdd, true_and, and_true, if_true, if_false, Bool.false_eq_true, Bool.not_true, Bool.not_false, List.take_zero, List.drop_zero, nil_appD, asI, t1, litK_dash, eqB_txt, decide_eq_false q, e]
            first | rfl | exact ⟨rfl, rfl⟩ | exact ⟨rfl, rfl, rfl⟩ | skip
        rintro _ r T ⟨rfl, rfl, rfl⟩
        simp only
        have lf : ∀ S, oLen S [.str (txt (figs w))] = some (.int (figs w).length) := fun S => oLen_txt (by omega)
        have lbf : (figs w).length < sizeLine := lt_big (by omega)
        have ld : ("0123456789" : Str) = txt (List.range' 48 10) := by kernel_rfl
        have dg : ∀ c : Nat, decide (c ∈ List.range' 48 10) = isDg c := fun c => decide_eq_decide.mpr (by
          rw [List.mem_range']
          exact ⟨fun ⟨i, h, e⟩ => by omega, fun h => ⟨c - 48, by omega, by omega⟩⟩)
        have cm := comp_maps (i := 5) (fe := eCmp inB (eVar 5) (eC (.str "0123456789"))) (r := [some (.str (txt t)), some (.lst ((cutL 46 t).map fun x => .str (txt x))), some (.str (txt w)), some (.str (txt (figs w))), x4, x5]) (vs := [5]) (S := []) (fun c => D.str (txt [c])) (fun c => .bl (isDg c)) (xs := figs w) (by
          intro c hc
          simp only [Wb, Wc, Wd, We, Wf, Wg, Wh, Wi, Wj, Wm, Wn, Wo, Wp, Wq, Wr, Ws, Wt, Wu, Wv, Ww, Wx, Wy, Wz, WA, WB, WC, WD, WF, WG, WH, WI, WJ, WK, WL, WM, WN, WO, WP, WQ, WR, WS, WT, WU, WV, WW, WY, WZ, W4, W5, W6, W7, W8, W9, Za, Zb, Ze, Zf, Zg, Zh, Zi, Zk, Zl, Zm, Zo, Zq, Zr, Zs, Zt, Zu, Zv, wf_ok, rd_cons0, rd_cons, got_some, orGot_some, orGot_none, asB_bl, asI_int, asS_str, asOne_one, asTwo_two, ZJ, asThree_three, ZL, ZM, ZN, ZO, ZP, ZQ, ZR, ZS, ZT, ZU, ZV, ZW, ZX, ZY, ZZ, Z0, bName, List.set_cons_succ, List.set_cons_zero, List.append_nil, List.length_cons, List.length_nil, Nat.zero_add, Nat.reduceAdd, true_and, and_true, if_true, if_false, Bool.false_eq_true, Bool.not_true, Bool.not_false, List.take_zero, List.drop_zero, nil_appD, wipeE, ld, in_sgt, dg])
        have itf := items_txt (l := figs w)
        rw [Yj]
        refine wp_imp (Q := fun fl r T => fl = .nx ∧ r = [some (.str (txt t)), some (.lst ((cutL 46 t).map fun x => .str (txt x))), some (.str (txt w)), some (.str (txt (figs w))), some (.bl (gdX w)), x5] ∧ T = []) (Z := fun _ _ _ => False) ?_ ?_ (fun _ _ _ z => z.elim)
        · unfold gdX
          by_cases h1 : 1 ≤ (figs w).length
          · have c1 : ((1 : Int) ≤ ((figs w).length : Int)) := by omega
            by_cases h2 : (figs w).length ≤ 40
            · have c2 : (((figs w).length : Int) ≤ 40) := by omega
              simp only [Wb, Wc, Wd, We, Wf, Wg, Wh, Wi, Wj, Wm, Wn, Wo, Wp, Wq, Wr, Ws, Wt, Wu, Wv, Ww, Wx, Wy, Wz, WA, WB, WC, WD, WF, WG, WH, WI, WJ, WK, WL, WM, WN, WO, WP, WQ, WR, WS, WT, WU, WV, WW, WY, WZ, W4, W5, W6, W7, W8, W9, Za, Zb, Ze, Zf, Zg, Zh, Zi, Zk, Zl, Zm, Zo, Zq, Zr, Zs, Zt, Zu, Zv, wf_ok, rd_cons0, rd_cons, got_some, orGot_some, orGot_none, asB_bl, asI_int, asS_str, asOne_one, asTwo_two, ZJ, asThree_three, ZL, ZM, ZN, ZO, ZP, ZQ, ZR, ZS, ZT, ZU, ZV, ZW, ZX, ZY, ZZ, Z0, bName, List.set_cons_succ, List.set_cons_zero, List.append_nil, List.length_cons, List.length_nil, Nat.zero_add, Nat.reduceAdd, true_and, and_true, if_true, if_false, Bool.false_eq_true, Bool.not_true, Bool.not_false, List.take_zero, List.drop_zero, nil_appD, lf, leB_int, decide_eq_true c1, decide_eq_true c2, itf, cm, wp_ok, List.length_map, lbf, allB_map, decide_eq_true (And.intro h1 h2), Bool.true_and]
              first | done | rfl | exact ⟨rfl, rfl⟩ | exact ⟨rfl, rfl, rfl⟩
            · have c2 : ¬ (((figs w).length : Int) ≤ 40) := by omega
              have h12 : ¬ (1 ≤ (figs w).length ∧ (figs w).length ≤ 40) := fun z => h2 z.2
              simp only [Wb, Wc, Wd, We, Wf, Wg, Wh, Wi, Wj, Wm, Wn, Wo, Wp, Wq, Wr, Ws, Wt, Wu, Wv, Ww, Wx, Wy, Wz, WA, WB, WC, WD, WF, WG, WH, WI, WJ, WK, WL, WM, WN, WO, WP, WQ, WR, WS, WT, WU, WV, WW, WY, WZ, W4, W5, W6, W7, W8, W9, Za, Zb, Ze, Zf, Zg, Zh, Zi, Zk, Zl, Zm, Zo, Zq, Zr, Zs, Zt, Zu, Zv, wf_ok, rd_cons0, rd_cons, got_some, orGot_some, orGot_none, asB_bl, asI_int, asS_str, asOne_one, asTwo_two, ZJ, asThree_three, ZL, ZM, ZN, ZO, ZP, ZQ, ZR, ZS, ZT, ZU, ZV, ZW, ZX, ZY, ZZ, Z0, bName, List.set_cons_succ, List.set_cons_zero, List.append_nil, List.length_cons, List.length_nil, Nat.zero_add, Nat.reduceAdd, true_and, and_true, if_true, if_false, Bool.false_eq_true, Bool.not_true, Bool.not_false, List.take_zero, List.drop_zero, nil_appD, lf, leB_int, decide_eq_true c1, decide_eq_false c2, decide_eq_false h12, Bool.false_and]
              first | done | rfl | exact ⟨rfl, rfl⟩ | exact ⟨rfl, rfl, rfl⟩
          · have c1 : ¬ ((1 : Int) ≤ ((figs w).length : Int)) := by omega
            have h12 : ¬ (1 ≤ (figs w).length ∧ (figs w).length ≤ 40) := fun z => h1 z.1
            simp only [Wb, Wc, Wd, We, Wf, Wg, Wh, Wi, Wj, Wm, Wn, Wo, Wp, Wq, Wr, Ws, Wt, Wu, Wv, Ww, Wx, Wy, Wz, WA, WB, WC, WD, WF, WG, WH, WI, WJ, WK, WL, WM, WN, WO, WP, WQ, WR, WS, WT, WU, WV, WW, WY, WZ, W4, W5, W6, W7, W8, W9, Za, Zb, Ze, Zf, Zg, Zh, Zi, Zk, Zl, Zm, Zo, Zq, Zr, Zs, Zt, Zu, Zv, wf_ok, rd_cons0, rd_cons, got_some, orGot_some, orGot_none, asB_bl, asI_int, asS_str, asOne_one, asTwo_two, ZJ, asThree_three, ZL, ZM, ZN, ZO, ZP, ZQ, ZR, ZS, ZT, ZU, ZV, ZW, ZX, ZY, ZZ, Z0, bName, List.set_cons_succ, List.set_cons_zero, List.append_nil, List.length_cons, List.length_nil, Nat.zero_add, Nat.reduceAdd, true_and, and_true, if_true, if_false, Bool.false_eq_true, Bool.not_true, Bool.not_false, List.take_zero, List.drop_zero, nil_appD, lf, leB_int, decide_eq_false c1, decide_eq_false h12, Bool.false_and]
            first | done | rfl | exact ⟨rfl, rfl⟩ | exact ⟨rfl, rfl, rfl⟩
        rintro _ r T ⟨rfl, rfl, rfl⟩
        simp only
        cases hg : gdX w with
        | false =>
          simp only [Wb, Wc, Wd, We, Wf, Wg, Wh, Wi, Wj, Wm, Wn, Wo, Wp, Wq, Wr, Ws, Wt, Wu, Wv, Ww, Wx, Wy, Wz, WA, WB, WC, WD, WF, WG, WH, WI, WJ, WK, WL, WM, WN, WO, WP, WQ, WR, WS, WT, WU, WV, WW, WY, WZ, W4, W5, W6, W7, W8, W9, Za, Zb, Ze, Zf, Zg, Zh, Zi, Zk, Zl, Zm, Zo, Zq, Zr, Zs, Zt, Zu, Zv, wf_ok, rd_cons0, rd_cons, got_some, orGot_some, orGot_none, asB_bl, asI_int, asS_str, asOne_one, asTwo_two, ZJ, asThree_three, ZL, ZM, ZN, ZO, ZP, ZQ, ZR, ZS, ZT, ZU, ZV, ZW, ZX, ZY, ZZ, Z0, bName, List.set_cons_succ, List.set_cons_zero, List.append_nil, List.length_cons, List.length_nil, Nat.zero_add, Nat.reduceAdd, true_and, and_true, if_true, if_false, Bool.false_eq_true, Bool.not_true, Bool.not_false, List.take_zero, List.drop_zero, nil_appD, b0]
          exact congrArg Fl.rt (bad (sg_gd hg)).symm
        | true =>
          have sv := sg_val hg
          cases hs : sgX w with
          | false =>
            rw [hs] at sv
            simp only [Wb, Wc, Wd, We, Wf, Wg, Wh, Wi, Wj, Wm, Wn, Wo, Wp, Wq, Wr, Ws, Wt, Wu, Wv, Ww, Wx, Wy, Wz, WA, WB, WC, WD, WF, WG, WH, WI, WJ, WK, WL, WM, WN, WO, WP, WQ, WR, WS, WT, WU, WV, WW, WY, WZ, W4, W5, W6, W7, W8, W9, Za, Zb, Ze, Zf, Zg, Zh, Zi, Zk, Zl, Zm, Zo, Zq, Zr, Zs, Zt, Zu, Zv, wf_ok, rd_cons0, rd_cons, got_some, orGot_some, orGot_none, asB_bl, asI_int, asS_str, asOne_one, asTwo_two, ZJ, asThree_three, ZL, ZM, ZN, ZO, ZP, ZQ, ZR, ZS, ZT, ZU, ZV, ZW, ZX, ZY, ZZ, Z0, bName, List.set_cons_succ, List.set_cons_zero, List.append_nil, List.length_cons, List.length_nil, Nat.zero_add, Nat.reduceAdd, true_and, and_true, if_true, if_false, Bool.false_eq_true, Bool.not_true, Bool.not_false, List.take_zero, List.drop_zero, nil_appD, b1, int_w hg, str_int (val_abs hg), neB_txt, sv, b0]
            exact congrArg Fl.rt (bad hs).symm
          | true =>
            rw [hs] at sv
            simp only [Wb, Wc, Wd, We, Wf, Wg, Wh, Wi, Wj, Wm, Wn, Wo, Wp, Wq, Wr, Ws, Wt, Wu, Wv, Ww, Wx, Wy, Wz, WA, WB, WC, WD, WF, WG, WH, WI, WJ, WK, WL, WM, WN, WO, WP, WQ, WR, WS, WT, WU, WV, WW, WY, WZ, W4, W5, W6, W7, W8, W9, Za, Zb, Ze, Zf, Zg, Zh, Zi, Zk, Zl, Zm, Zo, Zq, Zr, Zs, Zt, Zu, Zv, wf_ok, rd_cons0, rd_cons, got_some, orGot_some, orGot_none, asB_bl, asI_int, asS_str, asOne_one, asTwo_two, ZJ, asThree_three, ZL, ZM, ZN, ZO, ZP, ZQ, ZR, ZS, ZT, ZU, ZV, ZW, ZX, ZY, ZZ, Z0, bName, List.set_cons_succ, List.set_cons_zero, List.append_nil, List.length_cons, List.length_nil, Nat.zero_add, Nat.reduceAdd, true_and, and_true, if_true, if_false, Bool.false_eq_true, Bool.not_true, Bool.not_false, List.take_zero, List.drop_zero, nil_appD, b1, int_w hg, str_int (val_abs hg), neB_txt, sv]
            exact ⟨dn ++ [w], rs, _, _, _, _, by rw [hd]; simp, by rw [List.all_append, ha]; simp [hs], rfl, rfl⟩
def keyT (ks : List Int) : List Nat := joinL [46] (ks.map intL)
def keysD (ks : List Int) : D := .tup (ks.map D.int)
theorem keysD_bnd {ks : List Int} {n : Nat} : bnd n (keysD ks) = true := by
  simp only [keysD, bnd]
  exact bndL_of fun x hx => by
    obtain ⟨w, _, rfl⟩ := List.mem_map.mp hx; rfl
theorem is_number_ok {i : Int} {S : Sto} : m_is_number [.int i] S = .ok (.bl true) S := by
  refine pur_flat rfl rfl ?_
  have e0 : startE 1 [D.int i] = [some (.int i)] := rfl
  rw [e0]
  unfold fb_is_number
  have i1 : ∀ S, oIsi0 S [.int i, .ty "int"] = some (.bl true) := fun _ => rfl
  have i2 : ∀ S, oIsi0 S [.int i, .ty "bool"] = some (.bl false) := fun _ => rfl
  have b0 : (!false) = true := rfl
  simp only [Yj, Wb, Wc, Wd, We, Wf, Wg, Wh, Wi, Wj, Wm, Wn, Wo, Wp, Wq, Wr, Ws, Wt, Wu, Wv, Ww, Wx, Wy, Wz, WA, WB, WC, WD, WF, WG, WH, WI, WJ, WK, WL, WM, WN, WO, WP, WQ, WR, WS, WT, WU, WV, WW, WY, WZ, W4, W5, W6, W7, W8, W9, Za, Zb, Ze, Zf, Zg, Zh, Zi, Zk, Zl, Zm, Zo, Zq, Zr, Zs, Zt, Zu, Zv, wf_ok, rd_cons0, rd_cons, got_some, orGot_some, orGot_none, asB_bl, asI_int, asS_str, asOne_one, asTwo_two, ZJ, asThree_three, ZL, ZM, ZN, ZO, ZP, ZQ, ZR, ZS, ZT, ZU, ZV, ZW, ZX, ZY, ZZ, Z0, bName, List.set_cons_succ, List.set_cons_zero, List.append_nil, List.length_cons, List.length_nil, Nat.zero_add, Nat.reduceAdd, true_and, and_true, if_true, if_false, Bool.false_eq_true, Bool.not_true, Bool.not_false, List.take_zero, List.drop_zero, nil_appD, i1, i2, b0]
theorem is_key_ok {ks : List Int} {S : Sto} (h1 : 1 ≤ ks.length) (h2 : ks.length ≤ 40) : m_is_key [keysD ks] S = .ok (.bl true) S := by
  refine pur_flat rfl (by simp [bndL, keysD_bnd]) ?_
  have e0 : startE 3 [keysD ks] = [some (keysD ks), none, none] := rfl
  rw [e0]
  unfold fb_is_key
  have i1 : ∀ S, oIsi0 S [keysD ks, .ty "tuple"] = some (.bl true) := fun _ => rfl
  have ln : ∀ S, oLen S [keysD ks] = some (.int ks.length) := fun S => by
    show some (D.int (ks.map D.int).length) = _
    rw [List.length_map]
  have c1 : ((1 : Int) ≤ (ks.length : Int)) := by omega
  have c2 : ((ks.length : Int) ≤ 40) := by omega
  have it : itemsOf (keysD ks) = some (ks.map D.int) := rfl
  have lb : ks.length < sizeLine := lt_big (by omega)
  have cm := comp_maps (i := 2) (fe := eCallF 1 m_is_number [] (aCons (eVar 2) aNil)) (r := [some (keysD ks), some (.bl true), none]) (vs := [2]) (S := []) D.int (fun _ => .bl true) (xs := ks) (by
    intro k _
    simp only [Wb, Wc, Wd, We, Wf, Wg, Wh, Wi, Wj, Wm, Wn, Wo, Wp, Wq, Wr, Ws, Wt, Wu, Wv, Ww, Wx, Wy, Wz, WA, WB, WC, WD, WF, WG, WH, WI, WJ, WK, WL, WM, WN, WO, WP, WQ, WR, WS, WT, WU, WV, WW, WY, WZ, W4, W5, W6, W7, W8, W9, Za, Zb, Ze, Zf, Zg, Zh, Zi, Zk, Zl, Zm, Zo, Zq, Zr, Zs, Zt, Zu, Zv, wf_ok, rd_cons0, rd_cons, got_some, orGot_some, orGot_none, asB_bl, asI_int, asS_str, asOne_one, asTwo_two, ZJ, asThree_three, ZL, ZM, ZN, ZO, ZP, ZQ, ZR, ZS, ZT, ZU, ZV, ZW, ZX, ZY, ZZ, Z0, bName, List.set_cons_succ, List.set_cons_zero, List.append_nil, List.length_cons, List.length_nil, Nat.zero_add, Nat.reduceAdd, true_and, and_true, if_true, if_false, Bool.false_eq_true, Bool.not_true, Bool.not_false, List.take_zero, List.drop_zero, nil_appD, wipeE, is_number_ok])
  simp only [Yj, Wb, Wc, Wd, We, Wf, Wg, Wh, Wi, Wj, Wm, Wn, Wo, Wp, Wq, Wr, Ws, Wt, Wu, Wv, Ww, Wx, Wy, Wz, WA, WB, WC, WD, WF, WG, WH, WI, WJ, WK, WL, WM, WN, WO, WP, WQ, WR, WS, WT, WU, WV, WW, WY, WZ, W4, W5, W6, W7, W8, W9, Za, Zb, Ze, Zf, Zg, Zh, Zi, Zk, Zl, Zm, Zo, Zq, Zr, Zs, Zt, Zu, Zv, wf_ok, rd_cons0, rd_cons, got_some, orGot_some, orGot_none, asB_bl, asI_int, asS_str, asOne_one, asTwo_two, ZJ, asThree_three, ZL, ZM, ZN, ZO, ZP, ZQ, ZR, ZS, ZT, ZU, ZV, ZW, ZX, ZY, ZZ, Z0, bName, List.set_cons_succ, List.set_cons_zero, List.append_nil, List.length_cons, List.length_nil, Nat.zero_add, Nat.reduceAdd, true_and, and_true, if_true, if_false, Bool.false_eq_true, Bool.not_true, Bool.not_false, List.take_zero, List.drop_zero, nil_appD, i1, ln, leB_int, decide_eq_true c1, decide_eq_true c2, it, cm, wp_ok, List.length_map, lb, allT_map]
theorem key_text_ok {ks : List Int} {S : Sto} (h1 : 1 ≤ ks.length) (h2 : ks.length ≤ 40) (hk : ∀ k ∈ ks, k.natAbs < 10 ^ 40) : m_key_text [keysD ks] S = .ok (.str (txt (keyT ks))) S := by
  refine pur_flat rfl (by simp [bndL, keysD_bnd]) ?_
  have e0 : startE 2 [keysD ks] = [some (keysD ks), none] := rfl
  rw [e0]
  unfold fb_key_text
  have isn : ∀ S, isB S (keysD ks) .non = some false := fun _ => rfl
  have b1 : (!true) = false := rfl
  have it : itemsOf (keysD ks) = some (ks.map D.int) := rfl
  have lb : ks.length < sizeLine := lt_big (by omega)
  have cm := comp_maps (i := 1) (fe := eCallB oStrOf (aCons (eVar 1) aNil)) (r := [some (keysD ks), none]) (vs := [1]) (S := []) D.int (fun k => .str (txt (intL k))) (xs := ks) (by
    intro k hk'
    simp only [Wb, Wc, Wd, We, Wf, Wg, Wh, Wi, Wj, Wm, Wn, Wo, Wp, Wq, Wr, Ws, Wt, Wu, Wv, Ww, Wx, Wy, Wz, WA, WB, WC, WD, WF, WG, WH, WI, WJ, WK, WL, WM, WN, WO, WP, WQ, WR, WS, WT, WU, WV, WW, WY, WZ, W4, W5, W6, W7, W8, W9, Za, Zb, Ze, Zf, Zg, Zh, Zi, Zk, Zl, Zm, Zo, Zq, Zr, Zs, Zt, Zu, Zv, wf_ok, rd_cons0, rd_cons, got_some, orGot_some, orGot_none, asB_bl, asI_int, asS_str, asOne_one, asTwo_two, ZJ, asThree_three, ZL, ZM, ZN, ZO, ZP, ZQ, ZR, ZS, ZT, ZU, ZV, ZW, ZX, ZY, ZZ, Z0, bName, List.set_cons_succ, List.set_cons_zero, List.append_nil, List.length_cons, List.length_nil, Nat.zero_add, Nat.reduceAdd, true_and, and_true, if_true, if_false, Bool.false_eq_true, Bool.not_true, Bool.not_false, List.take_zero, List.drop_zero, nil_appD, wipeE, str_int (hk k hk')])
  have jn : ∀ S, mJoin S (.str (txt [46])) [.lst (ks.map fun k => D.str (txt (intL k)))] = some (.str (txt (keyT ks)), S) := fun S => join_small (by simp [seqOf, lstOf, Function.comp_def]) (fun x hx => by
    obtain ⟨k, hk', rfl⟩ := List.mem_map.mp hx
    have := (int_sg (hk k hk')).2.2.2.1
    omega) (by simp; omega) (by simp)
  simp only [Yj, Wb, Wc, Wd, We, Wf, Wg, Wh, Wi, Wj, Wm, Wn, Wo, Wp, Wq, Wr, Ws, Wt, Wu, Wv, Ww, Wx, Wy, Wz, WA, WB, WC, WD, WF, WG, WH, WI, WJ, WK, WL, WM, WN, WO, WP, WQ, WR, WS, WT, WU, WV, WW, WY, WZ, W4, W5, W6, W7, W8, W9, Za, Zb, Ze, Zf, Zg, Zh, Zi, Zk, Zl, Zm, Zo, Zq, Zr, Zs, Zt, Zu, Zv, wf_ok, rd_cons0, rd_cons, got_some, orGot_some, orGot_none, asB_bl, asI_int, asS_str, asOne_one, asTwo_two, ZJ, asThree_three, ZL, ZM, ZN, ZO, ZP, ZQ, ZR, ZS, ZT, ZU, ZV, ZW, ZX, ZY, ZZ, Z0, bName, List.set_cons_succ, List.set_cons_zero, List.append_nil, List.length_cons, List.length_nil, Nat.zero_add, Nat.reduceAdd, true_and, and_true, if_true, if_false, Bool.false_eq_true, Bool.not_true, Bool.not_false, List.take_zero, List.drop_zero, nil_appD, isn, is_key_ok h1 h2, b1, litK_dot, isStr, it, cm, wp_ok, List.length_map, lb, jn]
theorem keyT_cut {ks : List Int} (h1 : 1 ≤ ks.length) (hk : ∀ k ∈ ks, k.natAbs < 10 ^ 40) : cutL 46 (keyT ks) = ks.map intL :=
  cut_join (fun e => by
    have h := congrArg List.length e
    rw [List.length_map] at h
    have h : ks.length = 0 := h
    omega) fun x hx => by
    obtain ⟨k, hk', rfl⟩ := List.mem_map.mp hx
    exact (int_sg (hk k hk')).2.2.1
theorem keyT_len {ks : List Int} (h4 : ks.length ≤ 4) (hk : ∀ k ∈ ks, k.natAbs < 10 ^ 40) : (keyT ks).length ≤ 200 := by
  have := join_len (s := [46]) (m := 41) (xs := ks.map intL) (fun x hx => by
    obtain ⟨k, hk', rfl⟩ := List.mem_map.mp hx
    exact (int_sg (hk k hk')).2.2.2.1)
  have e : (keyT ks).length = (joinL [46] (ks.map intL)).length := rfl
  simp at this
  omega
theorem keyT_read {ks : List Int} {S : Sto} (h1 : 1 ≤ ks.length) (h4 : ks.length ≤ 4) (hk : ∀ k ∈ ks, k.natAbs < 10 ^ 40) : m_read_key [.str (txt (keyT ks))] S = .ok (keysD ks) S := by
  have hl := keyT_len h4 hk
  have hc := keyT_cut h1 hk
  have n45 : keyT ks ≠ [45] := fun e => by
    rw [e] at hc
    have e2 : cutL 46 [45] = [[45]] := by decide
    rw [e2] at hc
    cases ks with
    | nil => cases hc
    | cons k ks =>
      injection hc with hc _
      have := (int_sg (hk k List.mem_cons_self)).1
      rw [← hc] at this
      exact absurd this (by decide)
  have hg : goodK (keyT ks) = true := by
    unfold goodK
    rw [hc, List.length_map, decide_eq_true (show ks.length ≤ 40 by omega), Bool.true_and, List.all_map, List.all_eq_true]
    intro k hk'
    exact (int_sg (hk k hk')).1
  have hd : keyD' (keyT ks) = keysD ks := by
    unfold keyD' keysD
    rw [hc, List.map_map]
    congr 1
    exact List.map_congr_left fun k hk' => by
      show D.int (valI (intL k)) = _
      rw [(int_sg (hk k hk')).2.1]
  rw [read_key_gen (by omega), if_neg n45, if_pos hg, hd]
theorem law_field_key {d : D} {S : Sto} : m_law_field [exD "InvalidKey" ["code", "given"] [.str "InvalidKey", d]] S = .ok d S := by
  refine wf_eq ?_
  show wf (endOf (fb_law_field (startE 1 [exD "InvalidKey" ["code", "given"] [.str "InvalidKey", d]]) S)) _ _
  refine wf_end ?_
  have e0 : startE 1 [exD "InvalidKey" ["code", "given"] [.str "InvalidKey", d]] = [some (exD "InvalidKey" ["code", "given"] [.str "InvalidKey", d])] := rfl
  rw [e0]
  unfold fb_law_field
  have hC : xcs.contains ("InvalidKey" : Str) = true := by kernel_rfl
  have l1 : ((["code", "given"] : List Str).zip [D.str "InvalidKey", d]).lookup ("code" : Str) = some (.str "InvalidKey") := by kernel_rfl
  have l2 : ((["code", "given"] : List Str).zip [D.str "InvalidKey", d]).lookup ("given" : Str) = some d := by kernel_rfl
  have i1 : ∀ S, inB S (.str "InvalidKey") (.tup [.str "InvalidState", .str "InvalidKey", .str "TakenKey", .str "InvalidAct", .str "InvalidNumber", .str "InvalidWish"]) = some true := fun _ => by kernel_rfl
  have z6 : 6 ≤ sizeLine := sz_le (by decide)
  rw [Yj]
  simp only [Wb, Wc, Wd, We, Wf, Wg, Wh, Wi, Wj, Wm, Wn, Wo, Wp, Wq, Wr, Ws, Wt, Wu, Wv, Ww, Wx, Wy, Wz, WA, WB, WC, WD, WF, WG, WH, WI, WJ, WK, WL, WM, WN, WO, WP, WQ, WR, WS, WT, WU, WV, WW, WY, WZ, W4, W5, W6, W7, W8, W9, Za, Zb, Ze, Zf, Zg, Zh, Zi, Zk, Zl, Zm, Zo, Zq, Zr, Zs, Zt, Zu, Zv, wf_ok, rd_cons0, rd_cons, got_some, orGot_some, orGot_none, asB_bl, asI_int, asS_str, asOne_one, asTwo_two, ZJ, asThree_three, ZL, ZM, ZN, ZO, ZP, ZQ, ZR, ZS, ZT, ZU, ZV, ZW, ZX, ZY, ZZ, Z0, bName, List.set_cons_succ, List.set_cons_zero, List.append_nil, List.length_cons, List.length_nil, Nat.zero_add, Nat.reduceAdd, true_and, and_true, if_true, if_false, Bool.false_eq_true, Bool.not_true, Bool.not_false, List.take_zero, List.drop_zero, nil_appD, wp_Xf, asE_ex, hC, l1, l2, i1, z6]
theorem law_field_text {S : Sto} : m_law_field [exD "InvalidText" ["code"] [.str "InvalidText"]] S = .ok .non S := by
  refine wf_eq ?_
  show wf (endOf (fb_law_field (startE 1 [exD "InvalidText" ["code"] [.str "InvalidText"]]) S)) _ _
  refine wf_end ?_
  have e0 : startE 1 [exD "InvalidText" ["code"] [.str "InvalidText"]] = [some (exD "InvalidText" ["code"] [.str "InvalidText"])] := rfl
  rw [e0]
  unfold fb_law_field
  have hC : xcs.contains ("InvalidText" : Str) = true := by kernel_rfl
  have l1 : ((["code"] : List Str).zip [D.str "InvalidText"]).lookup ("code" : Str) = some (.str "InvalidText") := by kernel_rfl
  have i1 : ∀ S, inB S (.str "InvalidText") (.tup [.str "InvalidState", .str "InvalidKey", .str "TakenKey", .str "InvalidAct", .str "InvalidNumber", .str "InvalidWish"]) = some false := fun _ => by kernel_rfl
  have i2 : ∀ S, inB S (.str "InvalidText") (.tup [.str "InvalidEdit", .str "InvalidStanding", .str "InvalidLimit"]) = some false := fun _ => by kernel_rfl
  have i3 : ∀ S, inB S (.str "InvalidText") (.tup [.str "InvalidRules", .str "InvalidStory", .str "InvalidEvent"]) = some false := fun _ => by kernel_rfl
  have i4 : ∀ S, inB S (.str "InvalidText") (.tup [.str "WrongState", .str "NoRow"]) = some false := fun _ => by kernel_rfl
  have i5 : ∀ S, inB S (.str "InvalidText") (.tup [.str "TooMany", .str "Full"]) = some false := fun _ => by kernel_rfl
  have i6 : ∀ S, eqB S (.str "InvalidText") (.str "Misfit") = some false := fun _ => by kernel_rfl
  have i7 : ∀ S, eqB S (.str "InvalidText") (.str "InvalidPage") = some false := fun _ => by kernel_rfl
  have z6 : 6 ≤ sizeLine := sz_le (by decide)
  have z3 : 3 ≤ sizeLine := sz_le (by decide)
  have z2 : 2 ≤ sizeLine := sz_le (by decide)
  simp only [Yj, Wb, Wc, Wd, We, Wf, Wg, Wh, Wi, Wj, Wm, Wn, Wo, Wp, Wq, Wr, Ws, Wt, Wu, Wv, Ww, Wx, Wy, Wz, WA, WB, WC, WD, WF, WG, WH, WI, WJ, WK, WL, WM, WN, WO, WP, WQ, WR, WS, WT, WU, WV, WW, WY, WZ, W4, W5, W6, W7, W8, W9, Za, Zb, Ze, Zf, Zg, Zh, Zi, Zk, Zl, Zm, Zo, Zq, Zr, Zs, Zt, Zu, Zv, wf_ok, rd_cons0, rd_cons, got_some, orGot_some, orGot_none, asB_bl, asI_int, asS_str, asOne_one, asTwo_two, ZJ, asThree_three, ZL, ZM, ZN, ZO, ZP, ZQ, ZR, ZS, ZT, ZU, ZV, ZW, ZX, ZY, ZZ, Z0, bName, List.set_cons_succ, List.set_cons_zero, List.append_nil, List.length_cons, List.length_nil, Nat.zero_add, Nat.reduceAdd, true_and, and_true, if_true, if_false, Bool.false_eq_true, Bool.not_true, Bool.not_false, List.take_zero, List.drop_zero, nil_appD, wp_Xf, asE_ex, hC, l1, i1, i2, i3, i4, i5, i6, i7, z6, z3, z2]
theorem gotS_ok {i b : Int} {ds : List D} {d : D} {S S1 : Sto} {fb : EF} (hT : lamT i.toNat = some fb) (h : lamS fb ds S = .ok d S1) : m_law_got [clsD i b ds] S = .ok (.tup [.str "", d]) S1 := by
  refine wf_eq (wf_end ?_)
  have e0 : startE 3 [clsD i b ds] = [some (clsD i b ds), none, none] := rfl
  rw [e0]
  unfold fb_law_got
  have z2 : 2 ≤ sizeLine := sz_le (by decide)
  rw [Yj]
  simp only [Wb, Wc, Wd, We, Wf, Wg, Wh, Wi, Wj, Wm, Wn, Wo, Wp, Wq, Wr, Ws, Wt, Wu, Wv, Ww, Wx, Wy, Wz, WA, WB, WC, WD, WF, WG, WH, WI, WJ, WK, WL, WM, WN, WO, WP, WQ, WR, WS, WT, WU, WV, WW, WY, WZ, W4, W5, W6, W7, W8, W9, Za, Zb, Ze, Zf, Zg, Zh, Zi, Zk, Zl, Zm, Zo, Zq, Zr, Zs, Zt, Zu, Zv, wf_ok, rd_cons0, rd_cons, got_some, orGot_some, orGot_none, asB_bl, asI_int, asS_str, asOne_one, asTwo_two, ZJ, asThree_three, ZL, ZM, ZN, ZO, ZP, ZQ, ZR, ZS, ZT, ZU, ZV, ZW, ZX, ZY, ZZ, Z0, bName, List.set_cons_succ, List.set_cons_zero, List.append_nil, List.length_cons, List.length_nil, Nat.zero_add, Nat.reduceAdd, true_and, and_true, if_true, if_false, Bool.false_eq_true, Bool.not_true, Bool.not_false, List.take_zero, List.drop_zero, nil_appD, z2]
  rw [Yj]
  simp only [Wb, Wc, Wd, We, Wf, Wg, Wh, Wi, Wj, Wm, Wn, Wo, Wp, Wq, Wr, Ws, Wt, Wu, Wv, Ww, Wx, Wy, Wz, WA, WB, WC, WD, WF, WG, WH, WI, WJ, WK, WL, WM, WN, WO, WP, WQ, WR, WS, WT, WU, WV, WW, WY, WZ, W4, W5, W6, W7, W8, W9, Za, Zb, Ze, Zf, Zg, Zh, Zi, Zk, Zl, Zm, Zo, Zq, Zr, Zs, Zt, Zu, Zv, wf_ok, rd_cons0, rd_cons, got_some, orGot_some, orGot_none, asB_bl, asI_int, asS_str, asOne_one, asTwo_two, ZJ, asThree_three, ZL, ZM, ZN, ZO, ZP, ZQ, ZR, ZS, ZT, ZU, ZV, ZW, ZX, ZY, ZZ, Z0, bName, List.set_cons_succ, List.set_cons_zero, List.append_nil, List.length_cons, List.length_nil, Nat.zero_add, Nat.reduceAdd, true_and, and_true, if_true, if_false, Bool.false_eq_true, Bool.not_true, Bool.not_false, List.take_zero, List.drop_zero, nil_appD, wp_Try, wp_LamS, asL_cls, hT, h, wf_ok, z2]
  first | done | exact ⟨rfl, rfl⟩ | exact ⟨trivial, trivial⟩ | skip
theorem gotS_key {i b : Int} {ds : List D} {d : D} {S S1 : Sto} {fb : EF} (hT : lamT i.toNat = some fb) (hb : bnd 0 d = true) (h : lamS fb ds S = .er (.ins "InvalidKey" ["code", "given"] [.str "InvalidKey", d]) S1) : m_law_got [clsD i b ds] S = .ok (.tup [.str "InvalidKey", d]) S1 := by
  refine wf_eq (wf_end ?_)
  have e0 : startE 3 [clsD i b ds] = [some (clsD i b ds), none, none] := rfl
  rw [e0]
  unfold fb_law_got
  have z2 : 2 ≤ sizeLine := sz_le (by decide)
  have hC : xcs.contains ("InvalidKey" : Str) = true := by kernel_rfl
  have b2 : bndL 0 [D.str "InvalidKey", d] = true := by simp [bndL, bnd, hb]
  have l1 : ((["code", "given"] : List Str).zip [D.str "InvalidKey", d]).lookup ("code" : Str) = some (.str "InvalidKey") := by kernel_rfl
  rw [Yj]
  simp only [Wb, Wc, Wd, We, Wf, Wg, Wh, Wi, Wj, Wm, Wn, Wo, Wp, Wq, Wr, Ws, Wt, Wu, Wv, Ww, Wx, Wy, Wz, WA, WB, WC, WD, WF, WG, WH, WI, WJ, WK, WL, WM, WN, WO, WP, WQ, WR, WS, WT, WU, WV, WW, WY, WZ, W4, W5, W6, W7, W8, W9, Za, Zb, Ze, Zf, Zg, Zh, Zi, Zk, Zl, Zm, Zo, Zq, Zr, Zs, Zt, Zu, Zv, wf_ok, rd_cons0, rd_cons, got_some, orGot_some, orGot_none, asB_bl, asI_int, asS_str, asOne_one, asTwo_two, ZJ, asThree_three, ZL, ZM, ZN, ZO, ZP, ZQ, ZR, ZS, ZT, ZU, ZV, ZW, ZX, ZY, ZZ, Z0, bName, List.set_cons_succ, List.set_cons_zero, List.append_nil, List.length_cons, List.length_nil, Nat.zero_add, Nat.reduceAdd, true_and, and_true, if_true, if_false, Bool.false_eq_true, Bool.not_true, Bool.not_false, List.take_zero, List.drop_zero, nil_appD, z2]
  rw [Yj]
  simp only [Wb, Wc, Wd, We, Wf, Wg, Wh, Wi, Wj, Wm, Wn, Wo, Wp, Wq, Wr, Ws, Wt, Wu, Wv, Ww, Wx, Wy, Wz, WA, WB, WC, WD, WF, WG, WH, WI, WJ, WK, WL, WM, WN, WO, WP, WQ, WR, WS, WT, WU, WV, WW, WY, WZ, W4, W5, W6, W7, W8, W9, Za, Zb, Ze, Zf, Zg, Zh, Zi, Zk, Zl, Zm, Zo, Zq, Zr, Zs, Zt, Zu, Zv, wf_ok, rd_cons0, rd_cons, got_some, orGot_some, orGot_none, asB_bl, asI_int, asS_str, asOne_one, asTwo_two, ZJ, asThree_three, ZL, ZM, ZN, ZO, ZP, ZQ, ZR, ZS, ZT, ZU, ZV, ZW, ZX, ZY, ZZ, Z0, bName, List.set_cons_succ, List.set_cons_zero, List.append_nil, List.length_cons, List.length_nil, Nat.zero_add, Nat.reduceAdd, true_and, and_true, if_true, if_false, Bool.false_eq_true, Bool.not_true, Bool.not_false, List.take_zero, List.drop_zero, nil_appD, wp_Try, wp_LamS, asL_cls, hT, h, wf_er, asX_ins, hC, b2, Bool.and_self, wp_Xf, asE_ex, l1, law_field_key, z2, wf_ok]
  first | done | exact ⟨rfl, rfl⟩ | exact ⟨trivial, trivial⟩ | skip
theorem gotS_text {i b : Int} {ds : List D} {S S1 : Sto} {fb : EF} (hT : lamT i.toNat = some fb) (h : lamS fb ds S = .er TextD S1) : m_law_got [clsD i b ds] S = .ok (.tup [.str "InvalidText", .non]) S1 := by
  refine wf_eq (wf_end ?_)
  have e0 : startE 3 [clsD i b ds] = [some (clsD i b ds), none, none] := rfl
  rw [e0]
  unfold fb_law_got
  have z2 : 2 ≤ sizeLine := sz_le (by decide)
  have hC : xcs.contains ("InvalidText" : Str) = true := by kernel_rfl
  have b2 : bndL 0 [D.str "InvalidText"] = true := rfl
  have l1 : ((["code"] : List Str).zip [D.str "InvalidText"]).lookup ("code" : Str) = some (.str "InvalidText") := by kernel_rfl
  unfold TextD at h
  rw [Yj]
  simp only [Wb, Wc, Wd, We, Wf, Wg, Wh, Wi, Wj, Wm, Wn, Wo, Wp, Wq, Wr, Ws, Wt, Wu, Wv, Ww, Wx, Wy, Wz, WA, WB, WC, WD, WF, WG, WH, WI, WJ, WK, WL, WM, WN, WO, WP, WQ, WR, WS, WT, WU, WV, WW, WY, WZ, W4, W5, W6, W7, W8, W9, Za, Zb, Ze, Zf, Zg, Zh, Zi, Zk, Zl, Zm, Zo, Zq, Zr, Zs, Zt, Zu, Zv, wf_ok, rd_cons0, rd_cons, got_some, orGot_some, orGot_none, asB_bl, asI_int, asS_str, asOne_one, asTwo_two, ZJ, asThree_three, ZL, ZM, ZN, ZO, ZP, ZQ, ZR, ZS, ZT, ZU, ZV, ZW, ZX, ZY, ZZ, Z0, bName, List.set_cons_succ, List.set_cons_zero, List.append_nil, List.length_cons, List.length_nil, Nat.zero_add, Nat.reduceAdd, true_and, and_true, if_true, if_false, Bool.false_eq_true, Bool.not_true, Bool.not_false, List.take_zero, List.drop_zero, nil_appD, z2]
  rw [Yj]
  simp only [Wb, Wc, Wd, We, Wf, Wg, Wh, Wi, Wj, Wm, Wn, Wo, Wp, Wq, Wr, Ws, Wt, Wu, Wv, Ww, Wx, Wy, Wz, WA, WB, WC, WD, WF, WG, WH, WI, WJ, WK, WL, WM, WN, WO, WP, WQ, WR, WS, WT, WU, WV, WW, WY, WZ, W4, W5, W6, W7, W8, W9, Za, Zb, Ze, Zf, Zg, Zh, Zi, Zk, Zl, Zm, Zo, Zq, Zr, Zs, Zt, Zu, Zv, wf_ok, rd_cons0, rd_cons, got_some, orGot_some, orGot_none, asB_bl, asI_int, asS_str, asOne_one, asTwo_two, ZJ, asThree_three, ZL, ZM, ZN, ZO, ZP, ZQ, ZR, ZS, ZT, ZU, ZV, ZW, ZX, ZY, ZZ, Z0, bName, List.set_cons_succ, List.set_cons_zero, List.append_nil, List.length_cons, List.length_nil, Nat.zero_add, Nat.reduceAdd, true_and, and_true, if_true, if_false, Bool.false_eq_true, Bool.not_true, Bool.not_false, List.take_zero, List.drop_zero, nil_appD, wp_Try, wp_LamS, asL_cls, hT, h, wf_er, asX_ins, hC, b2, Bool.and_self, wp_Xf, asE_ex, l1, law_field_text, z2, wf_ok]
  first | done | exact ⟨rfl, rfl⟩ | exact ⟨trivial, trivial⟩ | skip
theorem lamS_ok {fb : EF} {ds : List D} {d : D} {r : Env} {S S1 : Sto} (h : fb (ds.map some) S = .ok d r S1) (h1 : okL ds = true) (h2 : okS S = true) (h3 : okD d = true) (h4 : okS S1 = true) : lamS fb ds S = .ok d S1 := by
  unfold lamS
  rw [if_pos (by rw [h1, h2]; rfl), h]
  show (if (okD d && okS S1) = true then RF.ok d S1 else .no) = _
  rw [if_pos (by rw [h3, h4]; rfl)]
theorem lamS_er {fb : EF} {ds es : List D} {C : Str} {ns : List Str} {r : Env} {S S1 : Sto} (h : fb (ds.map some) S = .er (.ins C ns es) r S1) (h1 : okL ds = true) (h2 : okS S = true) (h3 : okL es = true) (h4 : okS S1 = true) : lamS fb ds S = .er (.ins C ns es) S1 := by
  unfold lamS
  rw [if_pos (by rw [h1, h2]; rfl), h]
  show (if (okL es && okS S1) = true then RF.er (.ins C ns es) S1 else .no) = _
  rw [if_pos (by rw [h3, h4]; rfl)]
theorem bag_ok1 {o : AO} (hB : BagO o) : okS [o] = true := by
  obtain ⟨cs, p, a, m, rfl, _⟩ := hB
  have : okL (cs.map D.int) = true := okL_all.mpr fun x hx => by
    obtain ⟨i, _, rfl⟩ := List.mem_map.mp hx; rfl
  simp [okS, okO, okL, okD, this]
theorem pick_get {o : AO} {T : Sto} {xs : List D} (hB : BagO o) (h0 : 0 < xs.length) (hl : xs.length < 4000000) : ∃ y o', y ∈ xs ∧ BagO o' ∧ m_law_pick [.ref 0, .lst xs] (o :: T) = .ok y (o' :: T) := by
  have h : wf (m_law_pick [.ref 0, .lst xs] (o :: T)) (fun y S' => y ∈ xs ∧ ∃ o', BagO o' ∧ S' = o' :: T) (fun _ _ => False) := pick_c (x := .lst xs) hB (fun _ => rfl) (fun _ h => by cases h) h0 hl
  cases q : m_law_pick [.ref 0, .lst xs] (o :: T) with
  | ok y S1 => rw [q] at h; obtain ⟨h1, o', h2, rfl⟩ := h; exact ⟨y, o', h1, h2, rfl⟩
  | er y S1 => rw [q] at h; exact h.elim
  | no => rw [q] at h; exact h.elim
theorem tup_plain {k : Nat} {l : List D} (hn : l.length ≤ 1000) (h : ∀ x ∈ l, plainD k x = true) : plainD (k + 1) (.tup l) = true := by
  show (decide (l.length < 4000000) && l.all (plainD k)) = true
  rw [Bool.and_eq_true, decide_eq_true_eq]
  exact ⟨by omega, List.all_eq_true.mpr h⟩
theorem lst_plain {k : Nat} {l : List D} (hn : l.length ≤ 1000) (h : ∀ x ∈ l, plainD k x = true) : plainD (k + 1) (.lst l) = true := by
  show (decide (l.length < 4000000) && l.all (plainD k)) = true
  rw [Bool.and_eq_true, decide_eq_true_eq]
  exact ⟨by omega, List.all_eq_true.mpr h⟩
abbrev kinds2 : List D := [.non, .int 3, .tup [.str "1"], .lst [.str "-"]]
abbrev odds3 : List D := [.tup [], .lst [.int 1], .str "1", .int 3, .bl true, .tup [.non]]
theorem pur_erK {n : Nat} {fb : SF} {ds : List D} {d : D} {S : Sto} (h : outF (cleanF 0 (endOf (fb (startE n ds) []))) = .er d) (hb : bndL 0 ds = true) : purM n fb ds S = .er d S := by
  show pureM _ _ _ = _
  unfold pureM purF
  rw [if_pos hb, h]
theorem kinds_er : ∀ y ∈ kinds2, okD y = true ∧ ∀ S, m_read_key [y] S = .er TextD S := fun y hy => by
  simp only [kinds2, List.mem_cons, List.not_mem_nil, or_false] at hy
  rcases hy with e | e | e | e <;> subst e
  all_goals exact ⟨rfl, fun S => pur_erK (by kernel_rfl) rfl⟩
structure OddK (d : D) : Prop where
  b : bnd 0 d = true
  k : okD d = true
  p : plainD 5 d = true
  r : ∀ S, m_key_text [d] S = .er (.ins "InvalidKey" ["code", "given"] [.str "InvalidKey", d]) S
theorem odds_er : ∀ y ∈ odds3, OddK y := fun y hy => by
  simp only [odds3, List.mem_cons, List.not_mem_nil, or_false] at hy
  rcases hy with e | e | e | e | e | e <;> subst e
  all_goals exact ⟨rfl, rfl, by kernel_rfl, fun S => pur_erK (by kernel_rfl) rfl⟩
theorem lam1_er {d : D} {S : Sto} (h : OddK d) (hS : okS S = true) : lamS fb_lam1 [d] S = .er (.ins "InvalidKey" ["code", "given"] [.str "InvalidKey", d]) S := by
  have e : fb_lam1 ([d].map some) S = (m_key_text [d] S).run [some d] := rfl
  rw [h.r] at e
  exact lamS_er e (by simp [okL, h.k]) hS (by simp [okL, okD, h.k]) hS
theorem lam0_ok {x d : D} {S : Sto} (h : m_read_key [x] S = .ok d S) (hx : okD x = true) (hd : okD d = true) (hS : okS S = true) : lamS fb_lam0 [x] S = .ok d S := by
  have e : fb_lam0 ([x].map some) S = (m_read_key [x] S).run [some x] := rfl
  rw [h] at e
  exact lamS_ok e (by simp [okL, hx]) hS hd hS
theorem lam0_er {x : D} {S : Sto} (h : m_read_key [x] S = .er TextD S) (hx : okD x = true) (hS : okS S = true) : lamS fb_lam0 [x] S = .er TextD S := by
  have e : fb_lam0 ([x].map some) S = (m_read_key [x] S).run [some x] := rfl
  rw [h] at e
  exact lamS_er e (by simp [okL, hx]) hS rfl hS
theorem lam2_er {o : AO} (hB : BagO o) : ∃ o', BagO o' ∧ lamS fb_lam2 [.ref 0] [o] = .er TextD [o'] := by
  obtain ⟨y, o', hy, hB', hp⟩ := pick_get (T := []) (xs := kinds2) hB (by decide) (by decide)
  obtain ⟨_, hr⟩ := kinds_er y hy
  refine ⟨o', hB', ?_⟩
  have h : wp (fb_lam2 ([D.ref 0].map some) [o]) (fun _ _ _ => False) (fun x r S1 => x = TextD ∧ S1 = [o']) := by
    unfold fb_lam2
    have e0 : ([D.ref 0].map some) = [some (D.ref 0)] := rfl
    rw [e0]
    have z1 : 1 ≤ sizeLine := sz_le (by decide)
    have z4 : 4 ≤ sizeLine := sz_le (by decide)
    simp only [Wb, Wc, Wd, We, Wf, Wg, Wh, Wi, Wj, Wm, Wn, Wo, Wp, Wq, Wr, Ws, Wt, Wu, Wv, Ww, Wx, Wy, Wz, WA, WB, WC, WD, WF, WG, WH, WI, WJ, WK, WL, WM, WN, WO, WP, WQ, WR, WS, WT, WU, WV, WW, WY, WZ, W4, W5, W6, W7, W8, W9, Za, Zb, Ze, Zf, Zg, Zh, Zi, Zk, Zl, Zm, Zo, Zq, Zr, Zs, Zt, Zu, Zv, wf_ok, rd_cons0, rd_cons, got_some, orGot_some, orGot_none, asB_bl, asI_int, asS_str, asOne_one, asTwo_two, ZJ, asThree_three, ZL, ZM, ZN, ZO, ZP, ZQ, ZR, ZS, ZT, ZU, ZV, ZW, ZX, ZY, ZZ, Z0, bName, List.set_cons_succ, List.set_cons_zero, List.append_nil, List.length_cons, List.length_nil, Nat.zero_add, Nat.reduceAdd, true_and, and_true, if_true, if_false, Bool.false_eq_true, Bool.not_true, Bool.not_false, List.take_zero, List.drop_zero, nil_appD, z1, z4, hp, hr, wf_er]
    try exact ⟨rfl, rfl⟩
  cases q : fb_lam2 ([D.ref 0].map some) [o] with
  | ok d r S1 => rw [q] at h; exact h.elim
  | no => rw [q] at h; exact h.elim
  | er d r S1 =>
    rw [q] at h
    obtain ⟨rfl, rfl⟩ := h
    exact lamS_er q rfl (bag_ok1 hB) rfl (bag_ok1 hB')
theorem all_got2 {c1 c2 T1 T2 : D} {S S1 S2 : Sto} (h1 : m_law_got [c1] S = .ok T1 S1) (h2 : m_law_got [c2] S1 = .ok T2 S2) : m_law_all_got [.fz [c1, c2]] S = .ok (.lst [T1, T2]) S2 := by
  refine wf_eq (wf_end ?_)
  have e0 : startE 2 [D.fz [c1, c2]] = [some (.fz [c1, c2]), none] := rfl
  rw [e0]
  unfold fb_law_all_got
  have its : itemsOf (.fz [c1, c2]) = some [c1, c2] := rfl
  have z : 2 < sizeLine := lt_big (by decide)
  have cm : compF (bName 1) tYesB (eCallF 1 m_law_got [] (aCons (eVar 1) aNil)) [some (.fz [c1, c2]), none] [1] [c1, c2] S = .ok [T1, T2] [some (.fz [c1, c2]), none] S2 := by
    have e1 : eCallF 1 m_law_got [] (aCons (eVar 1) aNil) [some (.fz [c1, c2]), some c1] S = (m_law_got [c1] S).run [some (.fz [c1, c2]), some c1] := rfl
    have e2 : eCallF 1 m_law_got [] (aCons (eVar 1) aNil) [some (.fz [c1, c2]), some c2] S1 = (m_law_got [c2] S1).run [some (.fz [c1, c2]), some c2] := rfl
    rw [h1] at e1
    rw [h2] at e2
    have s1 : compF (bName 1) tYesB (eCallF 1 m_law_got [] (aCons (eVar 1) aNil)) [some (.fz [c1, c2]), none] [1] [c1, c2] S = ((eCallF 1 m_law_got [] (aCons (eVar 1) aNil) [some (.fz [c1, c2]), some c1] S).calm.bind fun y _ S3 => (compF (bName 1) tYesB (eCallF 1 m_law_got [] (aCons (eVar 1) aNil)) [some (.fz [c1, c2]), none] [1] [c2] S3).bind fun ys r S => .ok (y :: ys) r S) := rfl
    have s2 : ∀ S, compF (bName 1) tYesB (eCallF 1 m_law_got [] (aCons (eVar 1) aNil)) [some (.fz [c1, c2]), none] [1] [c2] S = ((eCallF 1 m_law_got [] (aCons (eVar 1) aNil) [some (.fz [c1, c2]), some c2] S).calm.bind fun y _ S3 => R.ok [y] [some (.fz [c1, c2]), none] S3) := fun _ => rfl
    rw [s1, e1]
    show ((compF (bName 1) tYesB (eCallF 1 m_law_got [] (aCons (eVar 1) aNil)) [some (.fz [c1, c2]), none] [1] [c2] S1).bind fun ys r S => R.ok (T1 :: ys) r S) = _
    rw [s2, e2]
    rfl
  simp only [Wb, Wc, Wd, We, Wf, Wg, Wh, Wi, Wj, Wm, Wn, Wo, Wp, Wq, Wr, Ws, Wt, Wu, Wv, Ww, Wx, Wy, Wz, WA, WB, WC, WD, WF, WG, WH, WI, WJ, WK, WL, WM, WN, WO, WP, WQ, WR, WS, WT, WU, WV, WW, WY, WZ, W4, W5, W6, W7, W8, W9, Za, Zb, Ze, Zf, Zg, Zh, Zi, Zk, Zl, Zm, Zo, Zq, Zr, Zs, Zt, Zu, Zv, wf_ok, rd_cons0, rd_cons, got_some, orGot_some, orGot_none, asB_bl, asI_int, asS_str, asOne_one, asTwo_two, ZJ, asThree_three, ZL, ZM, ZN, ZO, ZP, ZQ, ZR, ZS, ZT, ZU, ZV, ZW, ZX, ZY, ZZ, Z0, bName, List.set_cons_succ, List.set_cons_zero, List.append_nil, List.length_cons, List.length_nil, Nat.zero_add, Nat.reduceAdd, true_and, and_true, if_true, if_false, Bool.false_eq_true, Bool.not_true, Bool.not_false, List.take_zero, List.drop_zero, nil_appD, its, z, cm, wp_ok]
  try exact ⟨rfl, rfl⟩
theorem law_run (b Pt : Nat) (ns : List Int) (hl : ns.length ≤ 63) : ∃ r S, lawS b Pt ns = .ok (.rt (.bl true)) r S := by
  have key : wp (lawS b Pt ns) (fun a _ _ => a = .rt (.bl true)) fun _ _ _ => False := by
    have hbag := bag_ok (c := 5784) (ns := ns) (S := []) (Z := fun _ _ => False) (by decide) (by decide) hl
    unfold lawS
    revert hbag
    generalize D.fz (ns.map .int) = s
    intro hbag
    have e1 : (startE N_law.length [s]).set 13 (some (tabD "law.<locals>.<lambda>" Pt)) = [some s, none, none, none, none, none, none, none, none, none, none, none, none, some (tabD "law.<locals>.<lambda>" Pt)] := rfl
    rw [e1]
    generalize hT : tabD "law.<locals>.<lambda>" Pt = tb
    unfold fb_law
    rw [Yj]
    simp only [Wb, Wc, Wd, We, Wf, Wg, Wh, Wi, Wj, Wm, Wn, Wo, Wp, Wq, Wr, Ws, Wt, Wu, Wv, Ww, Wx, Wy, Wz, WA, WB, WC, WD, WF, WG, WH, WI, WJ, WK, WL, WM, WN, WO, WP, WQ, WR, WS, WT, WU, WV, WW, WY, WZ, W4, W5, W6, W7, W8, W9, Za, Zb, Ze, Zf, Zg, Zh, Zi, Zk, Zl, Zm, Zo, Zq, Zr, Zs, Zt, Zu, Zv, wf_ok, rd_cons0, rd_cons, got_some, orGot_some, orGot_none, asB_bl, asI_int, asS_str, asOne_one, asTwo_two, ZJ, asThree_three, ZL, ZM, ZN, ZO, ZP, ZQ, ZR, ZS, ZT, ZU, ZV, ZW, ZX, ZY, ZZ, Z0, bName, List.set_cons_succ, List.set_cons_zero, List.append_nil, List.length_cons, List.length_nil, Nat.zero_add, Nat.reduceAdd, true_and, and_true, if_true, if_false, Bool.false_eq_true, Bool.not_true, Bool.not_false, List.take_zero, List.drop_zero, nil_appD]
    refine wf_imp hbag ?_ (fun _ _ z => z)
    rintro d S ⟨rfl, o, hB, rfl⟩
    rw [List.nil_append]
    have z0 : 0 ≤ sizeLine := sz_le (by decide)
    have z1 : 1 ≤ sizeLine := sz_le (by decide)
    have z2 : 2 ≤ sizeLine := sz_le (by decide)
    have z4 : 4 ≤ sizeLine := sz_le (by decide)
    have z6 : 6 ≤ sizeLine := sz_le (by decide)
    have z7 : 7 ≤ sizeLine := sz_le (by decide)
    have b1 : (!true) = false := rfl
    have r6 : rng1 [.int 6] = some (rangeD 0 6) := rng1_int (by decide) (by decide)
    have sm : ∀ {S : Sto} (x : D), plainD 7 x = true → m_law_same 7 [x, x] S = .ok (.bl true) S := fun x hx => same_ok 7 x x _ hx hx rfl
    rw [Yj]
    simp only [Wb, Wc, Wd, We, Wf, Wg, Wh, Wi, Wj, Wm, Wn, Wo, Wp, Wq, Wr, Ws, Wt, Wu, Wv, Ww, Wx, Wy, Wz, WA, WB, WC, WD, WF, WG, WH, WI, WJ, WK, WL, WM, WN, WO, WP, WQ, WR, WS, WT, WU, WV, WW, WY, WZ, W4, W5, W6, W7, W8, W9, Za, Zb, Ze, Zf, Zg, Zh, Zi, Zk, Zl, Zm, Zo, Zq, Zr, Zs, Zt, Zu, Zv, wf_ok, rd_cons0, rd_cons, got_some, orGot_some, orGot_none, asB_bl, asI_int, asS_str, asOne_one, asTwo_two, ZJ, asThree_three, ZL, ZM, ZN, ZO, ZP, ZQ, ZR, ZS, ZT, ZU, ZV, ZW, ZX, ZY, ZZ, Z0, bName, List.set_cons_succ, List.set_cons_zero, List.append_nil, List.length_cons, List.length_nil, Nat.zero_add, Nat.reduceAdd, true_and, and_true, if_true, if_false, Bool.false_eq_true, Bool.not_true, Bool.not_false, List.take_zero, List.drop_zero, nil_appD, r6]
    refine wp_loop (fun _ r S => ∃ x2 x3 x4 x5 x6 x7 x8 x9 x10 x11 x12 o, r = [some s, some (.ref 0), x2, x3, x4, x5, x6, x7, x8, x9, x10, x11, x12, some tb] ∧ S = [o] ∧ BagO o) _ _ _ ⟨none, none, none, none, none, none, none, none, none, none, none, o, rfl, rfl, hB⟩ ?_ ?_
    · rintro r S ⟨x2, x3, x4, x5, x6, x7, x8, x9, x10, x11, x12, o, rfl, rfl, hB⟩
      have f1 : ∀ S, m_key_text [.non] S = .ok (.str "-") S := fun S => pur_eq rfl (by kernel_rfl)
      have f2 : ∀ S, m_read_key [.str "-"] S = .ok .non S := fun S => pur_eq rfl (by kernel_rfl)
      have f3 : ∀ S, m_read_key [.str "-5"] S = .ok (.tup [.int (-5)]) S := fun S => pur_eq rfl (by kernel_rfl)
      have g1 : ∀ S, eqB S (.str "-") (.str "-") = some true := fun _ => by kernel_rfl
      have g2 : ∀ S, isB S .non .non = some true := fun _ => rfl
      have g3 : ∀ S, eqB S (.tup [.int (-5)]) (.tup [.int (-5)]) = some true := fun _ => by kernel_rfl
      have ng : ∀ S, oNeg S (.int 5) = some (.int (-5)) := fun _ => by kernel_rfl
      simp only [Wb, Wc, Wd, We, Wf, Wg, Wh, Wi, Wj, Wm, Wn, Wo, Wp, Wq, Wr, Ws, Wt, Wu, Wv, Ww, Wx, Wy, Wz, WA, WB, WC, WD, WF, WG, WH, WI, WJ, WK, WL, WM, WN, WO, WP, WQ, WR, WS, WT, WU, WV, WW, WY, WZ, W4, W5, W6, W7, W8, W9, Za, Zb, Ze, Zf, Zg, Zh, Zi, Zk, Zl, Zm, Zo, Zq, Zr, Zs, Zt, Zu, Zv, wf_ok, rd_cons0, rd_cons, got_some, orGot_some, orGot_none, asB_bl, asI_int, asS_str, asOne_one, asTwo_two, ZJ, asThree_three, ZL, ZM, ZN, ZO, ZP, ZQ, ZR, ZS, ZT, ZU, ZV, ZW, ZX, ZY, ZZ, Z0, bName, List.set_cons_succ, List.set_cons_zero, List.append_nil, List.length_cons, List.length_nil, Nat.zero_add, Nat.reduceAdd, true_and, and_true, if_true, if_false, Bool.false_eq_true, Bool.not_true, Bool.not_false, List.take_zero, List.drop_zero, nil_appD, f1, f2, f3, g1, g2, g3, ng, z1]
      try first | done | trivial | rfl
    clear hB hbag hl o ns
    rintro x xs r S ⟨x2, x3, x4, x5, x6, x7, x8, x9, x10, x11, x12, o, rfl, rfl, hB⟩
    refine ⟨_, rfl, ?_⟩
    have pw : ∀ S, oPow S (.int 10) (.int 31) = some (.int (10 ^ 31)) := fun _ => by kernel_rfl
    have ng : ∀ S, oNeg S (.int 12) = some (.int (-12)) := fun _ => by kernel_rfl
    rw [Yj]
    simp only [Wb, Wc, Wd, We, Wf, Wg, Wh, Wi, Wj, Wm, Wn, Wo, Wp, Wq, Wr, Ws, Wt, Wu, Wv, Ww, Wx, Wy, Wz, WA, WB, WC, WD, WF, WG, WH, WI, WJ, WK, WL, WM, WN, WO, WP, WQ, WR, WS, WT, WU, WV, WW, WY, WZ, W4, W5, W6, W7, W8, W9, Za, Zb, Ze, Zf, Zg, Zh, Zi, Zk, Zl, Zm, Zo, Zq, Zr, Zs, Zt, Zu, Zv, wf_ok, rd_cons0, rd_cons, got_some, orGot_some, orGot_none, asB_bl, asI_int, asS_str, asOne_one, asTwo_two, ZJ, asThree_three, ZL, ZM, ZN, ZO, ZP, ZQ, ZR, ZS, ZT, ZU, ZV, ZW, ZX, ZY, ZZ, Z0, bName, List.set_cons_succ, List.set_cons_zero, List.append_nil, List.length_cons, List.length_nil, Nat.zero_add, Nat.reduceAdd, true_and, and_true, if_true, if_false, Bool.false_eq_true, Bool.not_true, Bool.not_false, List.take_zero, List.drop_zero, nil_appD]
    refine draw_to hB (by decide) (by decide) fun v o hv0 hv1 hB => ?_
    obtain ⟨n, hn⟩ : ∃ n : Nat, (n : Int) = v := ⟨v.toNat, by omega⟩
    subst hn
    simp only [Wb, Wc, Wd, We, Wf, Wg, Wh, Wi, Wj, Wm, Wn, Wo, Wp, Wq, Wr, Ws, Wt, Wu, Wv, Ww, Wx, Wy, Wz, WA, WB, WC, WD, WF, WG, WH, WI, WJ, WK, WL, WM, WN, WO, WP, WQ, WR, WS, WT, WU, WV, WW, WY, WZ, W4, W5, W6, W7, W8, W9, Za, Zb, Ze, Zf, Zg, Zh, Zi, Zk, Zl, Zm, Zo, Zq, Zr, Zs, Zt, Zu, Zv, wf_ok, rd_cons0, rd_cons, got_some, orGot_some, orGot_none, asB_bl, asI_int, asS_str, asOne_one, asTwo_two, ZJ, asThree_three, ZL, ZM, ZN, ZO, ZP, ZQ, ZR, ZS, ZT, ZU, ZV, ZW, ZX, ZY, ZZ, Z0, bName, List.set_cons_succ, List.set_cons_zero, List.append_nil, List.length_cons, List.length_nil, Nat.zero_add, Nat.reduceAdd, true_and, and_true, if_true, if_false, Bool.false_eq_true, Bool.not_true, Bool.not_false, List.take_zero, List.drop_zero, nil_appD, oAdd_int]
    have rn : rng1 [.int (1 + (n : Int))] = some ((List.range (1 + n)).map fun i : Nat => .int (i : Int)) := by
      rw [rng1_int (by omega) (by omega), ← rangeD_map]
      congr 2
    simp only [rn, got_some]
    refine ⟨by rw [List.length_map, List.length_range]; exact Nat.lt_of_lt_of_le (m := 4000000) (by omega) sz_big, comp_to (fun i : Nat => .int (i : Int)) D.int (fun _ (k : Int) => k.natAbs < 10 ^ 40) (List.range (1 + n)) hB ?_ fun ks o hks hB => ?_⟩
    · intro i o hi hB
      simp only [Wb, Wc, Wd, We, Wf, Wg, Wh, Wi, Wj, Wm, Wn, Wo, Wp, Wq, Wr, Ws, Wt, Wu, Wv, Ww, Wx, Wy, Wz, WA, WB, WC, WD, WF, WG, WH, WI, WJ, WK, WL, WM, WN, WO, WP, WQ, WR, WS, WT, WU, WV, WW, WY, WZ, W4, W5, W6, W7, W8, W9, Za, Zb, Ze, Zf, Zg, Zh, Zi, Zk, Zl, Zm, Zo, Zq, Zr, Zs, Zt, Zu, Zv, wf_ok, rd_cons0, rd_cons, got_some, orGot_some, orGot_none, asB_bl, asI_int, asS_str, asOne_one, asTwo_two, ZJ, asThree_three, ZL, ZM, ZN, ZO, ZP, ZQ, ZR, ZS, ZT, ZU, ZV, ZW, ZX, ZY, ZZ, Z0, bName, List.set_cons_succ, List.set_cons_zero, List.append_nil, List.length_cons, List.length_nil, Nat.zero_add, Nat.reduceAdd, true_and, and_true, if_true, if_false, Bool.false_eq_true, Bool.not_true, Bool.not_false, List.take_zero, List.drop_zero, nil_appD, wipeE, ng, pw]
      refine wf_imp (draw_c (Z := fun _ _ => False) hB (by decide) (by
        have := log2_lt (i := (10 ^ 31 : Int)) (k := 110) (by decide) (by decide)
        omega)) ?_ (fun _ _ z => z.elim)
      rintro d S ⟨v, o, rfl, hv0, hv1, hB, rfl⟩
      simp only [Wb, Wc, Wd, We, Wf, Wg, Wh, Wi, Wj, Wm, Wn, Wo, Wp, Wq, Wr, Ws, Wt, Wu, Wv, Ww, Wx, Wy, Wz, WA, WB, WC, WD, WF, WG, WH, WI, WJ, WK, WL, WM, WN, WO, WP, WQ, WR, WS, WT, WU, WV, WW, WY, WZ, W4, W5, W6, W7, W8, W9, Za, Zb, Ze, Zf, Zg, Zh, Zi, Zk, Zl, Zm, Zo, Zq, Zr, Zs, Zt, Zu, Zv, wf_ok, rd_cons0, rd_cons, got_some, orGot_some, orGot_none, asB_bl, asI_int, asS_str, asOne_one, asTwo_two, ZJ, asThree_three, ZL, ZM, ZN, ZO, ZP, ZQ, ZR, ZS, ZT, ZU, ZV, ZW, ZX, ZY, ZZ, Z0, bName, List.set_cons_succ, List.set_cons_zero, List.append_nil, List.length_cons, List.length_nil, Nat.zero_add, Nat.reduceAdd, true_and, and_true, if_true, if_false, Bool.false_eq_true, Bool.not_true, Bool.not_false, List.take_zero, List.drop_zero, nil_appD, z4]
      refine pick_to (x := .lst [.int 0, .int 7, .int (-12), .int v]) [.int 0, .int 7, .int (-12), .int v] hB (fun _ => rfl) (fun _ h => by cases h) (by simp) (by simp) fun y o hy hB => ?_
      simp only [List.mem_cons, List.not_mem_nil, or_false] at hy
      have p40 : (10 : Nat) ^ 31 < 10 ^ 40 := by decide
      have p31 : (10 : Int) ^ 31 = ((10 ^ 31 : Nat) : Int) := by decide
      rcases hy with rfl | rfl | rfl | rfl
      · exact ⟨0, o, rfl, by decide, hB, rfl⟩
      · exact ⟨7, o, rfl, by decide, hB, rfl⟩
      · exact ⟨-12, o, rfl, by decide, hB, rfl⟩
      · exact ⟨v, o, rfl, by omega, hB, rfl⟩
    have kl : ks.length = 1 + n := by
      have := hks.length
      rw [List.length_range] at this
      exact this.symm
    have hk : ∀ k ∈ ks, k.natAbs < 10 ^ 40 := fun k hk => by
      obtain ⟨_, _, h⟩ := pair_mem hks k hk
      exact h
    clear hks hv0
    have k1 : 1 ≤ ks.length := by omega
    have k4 : ks.length ≤ 4 := by omega
    clear rn hv1 kl n
    have tu : ∀ S, oTupOf S [.lst (ks.map D.int)] = some (keysD ks) := fun _ => rfl
    simp only [Wb, Wc, Wd, We, Wf, Wg, Wh, Wi, Wj, Wm, Wn, Wo, Wp, Wq, Wr, Ws, Wt, Wu, Wv, Ww, Wx, Wy, Wz, WA, WB, WC, WD, WF, WG, WH, WI, WJ, WK, WL, WM, WN, WO, WP, WQ, WR, WS, WT, WU, WV, WW, WY, WZ, W4, W5, W6, W7, W8, W9, Za, Zb, Ze, Zf, Zg, Zh, Zi, Zk, Zl, Zm, Zo, Zq, Zr, Zs, Zt, Zu, Zv, wf_ok, rd_cons0, rd_cons, got_some, orGot_some, orGot_none, asB_bl, asI_int, asS_str, asOne_one, asTwo_two, ZJ, asThree_three, ZL, ZM, ZN, ZO, ZP, ZQ, ZR, ZS, ZT, ZU, ZV, ZW, ZX, ZY, ZZ, Z0, bName, List.set_cons_succ, List.set_cons_zero, List.append_nil, List.length_cons, List.length_nil, Nat.zero_add, Nat.reduceAdd, true_and, and_true, if_true, if_false, Bool.false_eq_true, Bool.not_true, Bool.not_false, List.take_zero, List.drop_zero, nil_appD, tu]
    have lb : ks.length < sizeLine := lt_big (by omega)
    have it : itemsOf (keysD ks) = some (ks.map D.int) := rfl
    have cm := comp_maps (i := 12) (fe := eCallB oStrOf (aCons (eVar 12) aNil)) (r := [some s, some (.ref 0), some x, some (keysD ks), x4, x5, x6, x7, x8, x9, x10, x11, x12, some tb]) (vs := [12]) (S := [o]) D.int (fun k => .str (txt (intL k))) (xs := ks) (by
      intro k hk'
      simp only [Wb, Wc, Wd, We, Wf, Wg, Wh, Wi, Wj, Wm, Wn, Wo, Wp, Wq, Wr, Ws, Wt, Wu, Wv, Ww, Wx, Wy, Wz, WA, WB, WC, WD, WF, WG, WH, WI, WJ, WK, WL, WM, WN, WO, WP, WQ, WR, WS, WT, WU, WV, WW, WY, WZ, W4, W5, W6, W7, W8, W9, Za, Zb, Ze, Zf, Zg, Zh, Zi, Zk, Zl, Zm, Zo, Zq, Zr, Zs, Zt, Zu, Zv, wf_ok, rd_cons0, rd_cons, got_some, orGot_some, orGot_none, asB_bl, asI_int, asS_str, asOne_one, asTwo_two, ZJ, asThree_three, ZL, ZM, ZN, ZO, ZP, ZQ, ZR, ZS, ZT, ZU, ZV, ZW, ZX, ZY, ZZ, Z0, bName, List.set_cons_succ, List.set_cons_zero, List.append_nil, List.length_cons, List.length_nil, Nat.zero_add, Nat.reduceAdd, true_and, and_true, if_true, if_false, Bool.false_eq_true, Bool.not_true, Bool.not_false, List.take_zero, List.drop_zero, nil_appD, wipeE, str_int (hk k hk')])
    have jn : ∀ S, mJoin S (.str (txt [46])) [.lst (ks.map fun k => D.str (txt (intL k)))] = some (.str (txt (keyT ks)), S) := fun S => join_small (by simp [seqOf, lstOf, Function.comp_def]) (fun x hx => by
      obtain ⟨k, hk', rfl⟩ := List.mem_map.mp hx
      have := (int_sg (hk k hk')).2.2.2.1
      omega) (by simp; omega) (by simp)
    rw [Yj]
    simp only [Wb, Wc, Wd, We, Wf, Wg, Wh, Wi, Wj, Wm, Wn, Wo, Wp, Wq, Wr, Ws, Wt, Wu, Wv, Ww, Wx, Wy, Wz, WA, WB, WC, WD, WF, WG, WH, WI, WJ, WK, WL, WM, WN, WO, WP, WQ, WR, WS, WT, WU, WV, WW, WY, WZ, W4, W5, W6, W7, W8, W9, Za, Zb, Ze, Zf, Zg, Zh, Zi, Zk, Zl, Zm, Zo, Zq, Zr, Zs, Zt, Zu, Zv, wf_ok, rd_cons0, rd_cons, got_some, orGot_some, orGot_none, asB_bl, asI_int, asS_str, asOne_one, asTwo_two, ZJ, asThree_three, ZL, ZM, ZN, ZO, ZP, ZQ, ZR, ZS, ZT, ZU, ZV, ZW, ZX, ZY, ZZ, Z0, bName, List.set_cons_succ, List.set_cons_zero, List.append_nil, List.length_cons, List.length_nil, Nat.zero_add, Nat.reduceAdd, true_and, and_true, if_true, if_false, Bool.false_eq_true, Bool.not_true, Bool.not_false, List.take_zero, List.drop_zero, nil_appD, litK_dot, isStr, it, cm, wp_ok, List.length_map, lb, jn]
    have kt : ∀ S, m_key_text [keysD ks] S = .ok (.str (txt (keyT ks))) S := fun S => key_text_ok k1 (by omega) hk
    have kr : ∀ S, m_read_key [.str (txt (keyT ks))] S = .ok (keysD ks) S := fun S => keyT_read k1 k4 hk
    have tl := keyT_len k4 hk
    clear cm it jn tu lb
    obtain ⟨t, ht⟩ : ∃ t, t = keyT ks := ⟨_, rfl⟩
    rw [← ht] at kt kr tl ⊢
    have kd1 : ∀ d : D, kd_key_text_0_key [] [d] = [d] := fun _ => rfl
    have kd2 : ∀ d : D, kd_read_key_0_text [] [d] = [d] := fun _ => rfl
    have plK : plainD 6 (keysD ks) = true := tup_plain (by rw [List.length_map]; omega) fun x hx => by
      obtain ⟨_, _, rfl⟩ := List.mem_map.mp hx; rfl
    have pl : plainD 7 (.lst [.str (txt t), .str (txt t), keysD ks, keysD ks]) = true := lst_plain (by simp) fun x hx => by
      simp only [List.mem_cons, List.not_mem_nil, or_false] at hx
      rcases hx with rfl | rfl | rfl | rfl <;> first | rfl | exact plK
    rw [Yj]
    simp only [Wb, Wc, Wd, We, Wf, Wg, Wh, Wi, Wj, Wm, Wn, Wo, Wp, Wq, Wr, Ws, Wt, Wu, Wv, Ww, Wx, Wy, Wz, WA, WB, WC, WD, WF, WG, WH, WI, WJ, WK, WL, WM, WN, WO, WP, WQ, WR, WS, WT, WU, WV, WW, WY, WZ, W4, W5, W6, W7, W8, W9, Za, Zb, Ze, Zf, Zg, Zh, Zi, Zk, Zl, Zm, Zo, Zq, Zr, Zs, Zt, Zu, Zv, wf_ok, rd_cons0, rd_cons, got_some, orGot_some, orGot_none, asB_bl, asI_int, asS_str, asOne_one, asTwo_two, ZJ, asThree_three, ZL, ZM, ZN, ZO, ZP, ZQ, ZR, ZS, ZT, ZU, ZV, ZW, ZX, ZY, ZZ, Z0, bName, List.set_cons_succ, List.set_cons_zero, List.append_nil, List.length_cons, List.length_nil, Nat.zero_add, Nat.reduceAdd, true_and, and_true, if_true, if_false, Bool.false_eq_true, Bool.not_true, Bool.not_false, List.take_zero, List.drop_zero, nil_appD, kt, kr, kd1, kd2, z4, sm _ pl, b1, List.length_cons, List.length_nil]
    clear kt kr kd1 kd2 pl plK hk k1 k4 ht
    have q0 : ("0" : Str) = txt [48] := by kernel_rfl
    have q1 : ("-" : Str) = txt [45] := by kernel_rfl
    have q2 : (" " : Str) = txt [32] := by kernel_rfl
    have q3 : ("x" : Str) = txt [120] := by kernel_rfl
    have q4 : ("\n" : Str) = txt [10] := by kernel_rfl
    have q5 : ∀ S, oMulS S (.str "9") (.int 40) = some (.str (txt (List.replicate 40 57))) := fun _ => by kernel_rfl
    rw [Yj]
    simp only [Wb, Wc, Wd, We, Wf, Wg, Wh, Wi, Wj, Wm, Wn, Wo, Wp, Wq, Wr, Ws, Wt, Wu, Wv, Ww, Wx, Wy, Wz, WA, WB, WC, WD, WF, WG, WH, WI, WJ, WK, WL, WM, WN, WO, WP, WQ, WR, WS, WT, WU, WV, WW, WY, WZ, W4, W5, W6, W7, W8, W9, Za, Zb, Ze, Zf, Zg, Zh, Zi, Zk, Zl, Zm, Zo, Zq, Zr, Zs, Zt, Zu, Zv, wf_ok, rd_cons0, rd_cons, got_some, orGot_some, orGot_none, asB_bl, asI_int, asS_str, asOne_one, asTwo_two, ZJ, asThree_three, ZL, ZM, ZN, ZO, ZP, ZQ, ZR, ZS, ZT, ZU, ZV, ZW, ZX, ZY, ZZ, Z0, bName, List.set_cons_succ, List.set_cons_zero, List.append_nil, List.length_cons, List.length_nil, Nat.zero_add, Nat.reduceAdd, true_and, and_true, if_true, if_false, Bool.false_eq_true, Bool.not_true, Bool.not_false, List.take_zero, List.drop_zero, nil_appD, oLen_txt (show t.length ≤ 4000000 by omega), oAdd_int]
    refine draw_to hB (by omega) (by omega) fun v o hv0 hv1 hB => ?_
    obtain ⟨i, hi⟩ : ∃ i : Nat, (i : Int) = v := ⟨v.toNat, by omega⟩
    subst hi
    simp only [Wb, Wc, Wd, We, Wf, Wg, Wh, Wi, Wj, Wm, Wn, Wo, Wp, Wq, Wr, Ws, Wt, Wu, Wv, Ww, Wx, Wy, Wz, WA, WB, WC, WD, WF, WG, WH, WI, WJ, WK, WL, WM, WN, WO, WP, WQ, WR, WS, WT, WU, WV, WW, WY, WZ, W4, W5, W6, W7, W8, W9, Za, Zb, Ze, Zf, Zg, Zh, Zi, Zk, Zl, Zm, Zo, Zq, Zr, Zs, Zt, Zu, Zv, wf_ok, rd_cons0, rd_cons, got_some, orGot_some, orGot_none, asB_bl, asI_int, asS_str, asOne_one, asTwo_two, ZJ, asThree_three, ZL, ZM, ZN, ZO, ZP, ZQ, ZR, ZS, ZT, ZU, ZV, ZW, ZX, ZY, ZZ, Z0, bName, List.set_cons_succ, List.set_cons_zero, List.append_nil, List.length_cons, List.length_nil, Nat.zero_add, Nat.reduceAdd, true_and, and_true, if_true, if_false, Bool.false_eq_true, Bool.not_true, Bool.not_false, List.take_zero, List.drop_zero, nil_appD, q0, q1, q2, q3, q4, q5, litK_dot, z7]
    refine pick_to ([[48], [46], [45], [32], [120], [10], List.replicate 40 57].map fun l : List Nat => D.str (txt l)) hB (fun _ => rfl) (fun _ h => by cases h) (by simp) (by simp) fun y o hy hB => ?_
    obtain ⟨sg, hsg, rfl⟩ := List.mem_map.mp hy
    have sl : sg.length ≤ 40 := by
      simp only [List.mem_cons, List.not_mem_nil, or_false] at hsg
      rcases hsg with e | e | e | e | e | e | e <;> subst e <;> decide
    clear hy hsg
    have i1 : ((i : Int) + 1) = ((i + 1 : Nat) : Int) := by omega
    have sT : ∀ S, sliceD S (.str (txt t)) none (some (i : Int)) = some (.str (txt (t.take i))) := fun S => sl_tk (by omega)
    have sF : ∀ S, sliceD S (.str (txt t)) (some (i : Int)) none = some (.str (txt (t.drop i))) := fun S => sl_dr (by omega)
    have sG : ∀ S, sliceD S (.str (txt t)) (some ((i + 1 : Nat) : Int)) none = some (.str (txt (t.drop (i + 1)))) := fun S => sl_dr (by omega)
    have tl1 : (t.take i).length ≤ 200 := by rw [List.length_take]; omega
    have dl1 : (t.drop i).length ≤ 200 := by rw [List.length_drop]; omega
    have dl2 : (t.drop (i + 1)).length ≤ 200 := by rw [List.length_drop]; omega
    rw [Yj]
    simp only [Wb, Wc, Wd, We, Wf, Wg, Wh, Wi, Wj, Wm, Wn, Wo, Wp, Wq, Wr, Ws, Wt, Wu, Wv, Ww, Wx, Wy, Wz, WA, WB, WC, WD, WF, WG, WH, WI, WJ, WK, WL, WM, WN, WO, WP, WQ, WR, WS, WT, WU, WV, WW, WY, WZ, W4, W5, W6, W7, W8, W9, Za, Zb, Ze, Zf, Zg, Zh, Zi, Zk, Zl, Zm, Zo, Zq, Zr, Zs, Zt, Zu, Zv, wf_ok, rd_cons0, rd_cons, got_some, orGot_some, orGot_none, asB_bl, asI_int, asS_str, asOne_one, asTwo_two, ZJ, asThree_three, ZL, ZM, ZN, ZO, ZP, ZQ, ZR, ZS, ZT, ZU, ZV, ZW, ZX, ZY, ZZ, Z0, bName, List.set_cons_succ, List.set_cons_zero, List.append_nil, List.length_cons, List.length_nil, Nat.zero_add, Nat.reduceAdd, true_and, and_true, if_true, if_false, Bool.false_eq_true, Bool.not_true, Bool.not_false, List.take_zero, List.drop_zero, nil_appD, asI, sT, sF, sG, oAdd_int, i1, oAdd_txt (show (t.take i).length + sg.length ≤ 4000000 by omega), oAdd_txt (show (t.take i ++ sg).length + (t.drop i).length ≤ 4000000 by rw [List.length_append]; omega), oAdd_txt (show (t.take i).length + (t.drop (i + 1)).length ≤ 4000000 by omega), z2]
    refine pick_to ([t.take i ++ sg ++ t.drop i, t.take i ++ t.drop (i + 1)].map fun l : List Nat => D.str (txt l)) hB (fun _ => rfl) (fun _ h => by cases h) (by simp) (by simp) fun y o hy hB => ?_
    obtain ⟨B, hBm, rfl⟩ := List.mem_map.mp hy
    have Bl : B.length ≤ 900 := by
      simp only [List.mem_cons, List.not_mem_nil, or_false] at hBm
      rcases hBm with e | e <;> rw [e] <;> simp only [List.length_append] <;> omega
    clear hy hBm sT sF sG tl1 dl1 dl2 i1 hv0 hv1
    have lr : ∀ S, m_law_read [.str (txt B)] S = .ok (lawRd B) S := fun S => law_read_gen Bl
    rw [Yj]
    simp only [Wb, Wc, Wd, We, Wf, Wg, Wh, Wi, Wj, Wm, Wn, Wo, Wp, Wq, Wr, Ws, Wt, Wu, Wv, Ww, Wx, Wy, Wz, WA, WB, WC, WD, WF, WG, WH, WI, WJ, WK, WL, WM, WN, WO, WP, WQ, WR, WS, WT, WU, WV, WW, WY, WZ, W4, W5, W6, W7, W8, W9, Za, Zb, Ze, Zf, Zg, Zh, Zi, Zk, Zl, Zm, Zo, Zq, Zr, Zs, Zt, Zu, Zv, wf_ok, rd_cons0, rd_cons, got_some, orGot_some, orGot_none, asB_bl, asI_int, asS_str, asOne_one, asTwo_two, ZJ, asThree_three, ZL, ZM, ZN, ZO, ZP, ZQ, ZR, ZS, ZT, ZU, ZV, ZW, ZX, ZY, ZZ, Z0, bName, List.set_cons_succ, List.set_cons_zero, List.append_nil, List.length_cons, List.length_nil, Nat.zero_add, Nat.reduceAdd, true_and, and_true, if_true, if_false, Bool.false_eq_true, Bool.not_true, Bool.not_false, List.take_zero, List.drop_zero, nil_appD, lr]
    have hS : okS [o] = true := bag_ok1 hB
    have rk : ∀ S, m_read_key [.str (txt B)] S = (if B = [45] then .ok .non S else if goodK B = true then .ok (keyD' B) S else .er TextD S) := fun S => read_key_gen Bl
    -- what the lambda gives and what is due
    obtain ⟨T, hg, hT1, hpl, hdue⟩ : ∃ T : D, m_law_got [clsD 0 b [.str (txt B)]] [o] = .ok T [o] ∧ okD T = true ∧ plainD 7 T = true ∧
        ((isB [o] (lawRd B) (.bl false) = some true ∧ T = .tup [.str "InvalidText", .non]) ∨ (isB [o] (lawRd B) (.bl false) = some false ∧ T = .tup [.str "", lawRd B])) := by
      by_cases c : B = [45]
      · have e : lawRd B = .non := by unfold lawRd; rw [if_pos c]
        have r1 : m_read_key [.str (txt B)] [o] = .ok .non [o] := by rw [rk, if_pos c]
        rw [e]
        exact ⟨_, gotS_ok (fb := fb_lam0) rfl (lam0_ok r1 rfl rfl hS), rfl, rfl, .inr ⟨rfl, rfl⟩⟩
      · by_cases g : goodK B = true
        · have e : lawRd B = keyD' B := by unfold lawRd; rw [if_neg c, if_pos g]
          have r1 : m_read_key [.str (txt B)] [o] = .ok (keyD' B) [o] := by rw [rk, if_neg c, if_pos g]
          have ok' : okD (keyD' B) = true := okL_all.mpr fun x hx => by
            obtain ⟨_, _, rfl⟩ := List.mem_map.mp hx; rfl
          have h40 : (cutL 46 B).length ≤ 40 := by
            unfold goodK at g
            rw [Bool.and_eq_true, decide_eq_true_eq] at g
            exact g.1
          have plB : plainD 6 (keyD' B) = true := tup_plain (by rw [List.length_map]; omega) fun x hx => by
            obtain ⟨_, _, rfl⟩ := List.mem_map.mp hx; rfl
          rw [e]
          refine ⟨_, gotS_ok (fb := fb_lam0) rfl (lam0_ok r1 rfl ok' hS), ?_, ?_, .inr ⟨rfl, rfl⟩⟩
          · simp [okD, okL, ok']
          · exact tup_plain (k := 6) (by simp) fun x hx => by
              simp only [List.mem_cons, List.not_mem_nil, or_false] at hx
              rcases hx with rfl | rfl
              · rfl
              · exact plB
        · have e : lawRd B = .bl false := by unfold lawRd; rw [if_neg c, if_neg g]
          have r1 : m_read_key [.str (txt B)] [o] = .er TextD [o] := by rw [rk, if_neg c, if_neg g]
          rw [e]
          exact ⟨_, gotS_text (fb := fb_lam0) rfl (lam0_er r1 rfl hS), rfl, rfl, .inl ⟨rfl, rfl⟩⟩
    have lrb := lawRd_bnd (t := B) (n := 0)
    have c0 : ∀ {y1 y2 y3 y4 y6 y7 y8 y9 y10 y11 y12 y13 : Option D}, capD slots [y1, y2, y3, y4, y6, some (.str (txt B)), y7, y8, y9, y10, y11, y12, y13, some tb] 0 = [.str (txt B)] := rfl
    have cB0 : ∀ {y1 y2 y3 y4 y6 y7 y8 y9 y10 y11 y12 y13 : Option D}, [(0 : Int)].all (capBS slots [y1, y2, y3, y4, y6, some (.str (txt B)), y7, y8, y9, y10, y11, y12, y13, some tb]) = true := capS_ok c0 rfl rfl
    rw [Yj]
    refine wp_imp (Q := fun fl r S' => fl = .nx ∧ S' = [o] ∧ r = [some s, some (.ref 0), some x, some (keysD ks), some (.str (txt t)), some (.str (txt B)), some (lawRd B), x7, x8, some (.int (i : Int)), some (.str (txt sg)), x11, x12, some tb]) (Z := fun _ _ _ => False) ?_ ?_ (fun _ _ _ z => z)
    · rcases hdue with ⟨h1, rfl⟩ | ⟨h1, rfl⟩
      · simp only [Wb, Wc, Wd, We, Wf, Wg, Wh, Wi, Wj, Wm, Wn, Wo, Wp, Wq, Wr, Ws, Wt, Wu, Wv, Ww, Wx, Wy, Wz, WA, WB, WC, WD, WF, WG, WH, WI, WJ, WK, WL, WM, WN, WO, WP, WQ, WR, WS, WT, WU, WV, WW, WY, WZ, W4, W5, W6, W7, W8, W9, Za, Zb, Ze, Zf, Zg, Zh, Zi, Zk, Zl, Zm, Zo, Zq, Zr, Zs, Zt, Zu, Zv, wf_ok, rd_cons0, rd_cons, got_some, orGot_some, orGot_none, asB_bl, asI_int, asS_str, asOne_one, asTwo_two, ZJ, asThree_three, ZL, ZM, ZN, ZO, ZP, ZQ, ZR, ZS, ZT, ZU, ZV, ZW, ZX, ZY, ZZ, Z0, bName, List.set_cons_succ, List.set_cons_zero, List.append_nil, List.length_cons, List.length_nil, Nat.zero_add, Nat.reduceAdd, true_and, and_true, if_true, if_false, Bool.false_eq_true, Bool.not_true, Bool.not_false, List.take_zero, List.drop_zero, nil_appD, wp_CallLS, wp_Lam, hT, asOne_one, capS_one, c0, cB0, hS, hg, hT1, Bool.and_self, Int.cast_ofNat_Int, h1, z2, sm _ hpl, b1]
        first | done | rfl | exact ⟨rfl, rfl⟩ | exact ⟨rfl, rfl, rfl⟩ | skip
      · simp only [Wb, Wc, Wd, We, Wf, Wg, Wh, Wi, Wj, Wm, Wn, Wo, Wp, Wq, Wr, Ws, Wt, Wu, Wv, Ww, Wx, Wy, Wz, WA, WB, WC, WD, WF, WG, WH, WI, WJ, WK, WL, WM, WN, WO, WP, WQ, WR, WS, WT, WU, WV, WW, WY, WZ, W4, W5, W6, W7, W8, W9, Za, Zb, Ze, Zf, Zg, Zh, Zi, Zk, Zl, Zm, Zo, Zq, Zr, Zs, Zt, Zu, Zv, wf_ok, rd_cons0, rd_cons, got_some, orGot_some, orGot_none, asB_bl, asI_int, asS_str, asOne_one, asTwo_two, ZJ, asThree_three, ZL, ZM, ZN, ZO, ZP, ZQ, ZR, ZS, ZT, ZU, ZV, ZW, ZX, ZY, ZZ, Z0, bName, List.set_cons_succ, List.set_cons_zero, List.append_nil, List.length_cons, List.length_nil, Nat.zero_add, Nat.reduceAdd, true_and, and_true, if_true, if_false, Bool.false_eq_true, Bool.not_true, Bool.not_false, List.take_zero, List.drop_zero, nil_appD, wp_CallLS, wp_Lam, hT, asOne_one, capS_one, c0, cB0, hS, hg, hT1, Bool.and_self, Int.cast_ofNat_Int, h1, z2, sm _ hpl, b1]
        first | done | rfl | exact ⟨rfl, rfl⟩ | exact ⟨rfl, rfl, rfl⟩ | skip
    intro fl r S' hh
    obtain ⟨rfl, rfl, rfl⟩ := hh
    simp only
    clear hdue hpl hT1 hg c0 cB0 rk lr
    rw [Yj]
    simp only [Wb, Wc, Wd, We, Wf, Wg, Wh, Wi, Wj, Wm, Wn, Wo, Wp, Wq, Wr, Ws, Wt, Wu, Wv, Ww, Wx, Wy, Wz, WA, WB, WC, WD, WF, WG, WH, WI, WJ, WK, WL, WM, WN, WO, WP, WQ, WR, WS, WT, WU, WV, WW, WY, WZ, W4, W5, W6, W7, W8, W9, Za, Zb, Ze, Zf, Zg, Zh, Zi, Zk, Zl, Zm, Zo, Zq, Zr, Zs, Zt, Zu, Zv, wf_ok, rd_cons0, rd_cons, got_some, orGot_some, orGot_none, asB_bl, asI_int, asS_str, asOne_one, asTwo_two, ZJ, asThree_three, ZL, ZM, ZN, ZO, ZP, ZQ, ZR, ZS, ZT, ZU, ZV, ZW, ZX, ZY, ZZ, Z0, bName, List.set_cons_succ, List.set_cons_zero, List.append_nil, List.length_cons, List.length_nil, Nat.zero_add, Nat.reduceAdd, true_and, and_true, if_true, if_false, Bool.false_eq_true, Bool.not_true, Bool.not_false, List.take_zero, List.drop_zero, nil_appD, z0, z1, z6]
    refine pick_to (x := .lst odds3) odds3 hB (fun _ => rfl) (fun _ h => by cases h) (by simp) (by simp) fun y o hy hB => ?_
    have ho := odds_er y hy
    clear hy
    have hS := bag_ok1 hB
    obtain ⟨o2, hB2, l2⟩ := lam2_er hB
    have ag : m_law_all_got [.fz [clsD 1 b [y], clsD 2 b [.ref 0]]] [o] = .ok (.lst [.tup [.str "InvalidKey", y], .tup [.str "InvalidText", .non]]) [o2] :=
      all_got2 (gotS_key (fb := fb_lam1) rfl ho.b (lam1_er ho hS)) (gotS_text (fb := fb_lam2) rfl l2)
    have pl : plainD 7 (.lst [.tup [.str "InvalidKey", y], .tup [.str "InvalidText", .non]]) = true := lst_plain (k := 6) (by simp) fun x hx => by
      simp only [List.mem_cons, List.not_mem_nil, or_false] at hx
      rcases hx with rfl | rfl
      · exact tup_plain (k := 5) (by simp) fun x hx => by
          simp only [List.mem_cons, List.not_mem_nil, or_false] at hx
          rcases hx with rfl | rfl
          · rfl
          · exact ho.p
      · rfl
    rw [Yj]
    simp only [Wb, Wc, Wd, We, Wf, Wg, Wh, Wi, Wj, Wm, Wn, Wo, Wp, Wq, Wr, Ws, Wt, Wu, Wv, Ww, Wx, Wy, Wz, WA, WB, WC, WD, WF, WG, WH, WI, WJ, WK, WL, WM, WN, WO, WP, WQ, WR, WS, WT, WU, WV, WW, WY, WZ, W4, W5, W6, W7, W8, W9, Za, Zb, Ze, Zf, Zg, Zh, Zi, Zk, Zl, Zm, Zo, Zq, Zr, Zs, Zt, Zu, Zv, wf_ok, rd_cons0, rd_cons, got_some, orGot_some, orGot_none, asB_bl, asI_int, asS_str, asOne_one, asTwo_two, ZJ, asThree_three, ZL, ZM, ZN, ZO, ZP, ZQ, ZR, ZS, ZT, ZU, ZV, ZW, ZX, ZY, ZZ, Z0, bName, List.set_cons_succ, List.set_cons_zero, List.append_nil, List.length_cons, List.length_nil, Nat.zero_add, Nat.reduceAdd, true_and, and_true, if_true, if_false, Bool.false_eq_true, Bool.not_true, Bool.not_false, List.take_zero, List.drop_zero, nil_appD, wp_Lam, hT, z2, Int.cast_ofNat_Int]
    have ca : ∀ {y1 y2 y3 y4 y6 y7 y9 y10 y11 y12 y13 : Option D}, capArgS slots [y1, some (.ref 0), y2, y3, y4, y6, y7, some y, y9, y10, y11, y12, y13, some tb] b (.lst [lamD 1 b, lamD 2 b]) = some ([1, 2], .fz [clsD 1 b [y], clsD 2 b [.ref 0]]) := by
      intro y1 y2 y3 y4 y6 y7 y9 y10 y11 y12 y13
      unfold capArgS
      have e1 : lamIx b (.lst [lamD 1 b, lamD 2 b]) = none := rfl
      have e3 : lamIxs b [lamD 1 b, lamD 2 b] = some [1, 2] := by
        simp only [lamIxs, lamIx, lamD, if_true]
      rw [e1]
      simp only [e3]
      rfl
    have cB : ∀ {y1 y2 y3 y4 y6 y7 y9 y10 y11 y12 y13 : Option D}, ([1, 2] : List Int).all (capBS slots [y1, some (.ref 0), y2, y3, y4, y6, y7, some y, y9, y10, y11, y12, y13, some tb]) = true := by
      intro y1 y2 y3 y4 y6 y7 y9 y10 y11 y12 y13
      generalize hr : ([y1, some (.ref 0), y2, y3, y4, y6, y7, some y, y9, y10, y11, y12, y13, some tb] : Env) = r
      have a1 := capS_ok (slots := slots) (r := r) (i := 1) (ds := [y]) (by rw [← hr]; rfl) (by rw [← hr]; rfl) (by simp [okL, ho.k])
      have a2 := capS_ok (slots := slots) (r := r) (i := 2) (ds := [.ref 0]) (by rw [← hr]; rfl) (by rw [← hr]; rfl) rfl
      simp only [List.all_cons, List.all_nil, Bool.and_true] at a1 a2 ⊢
      rw [a1, a2]
      rfl
    have bk : (okD (.lst [.tup [.str "InvalidKey", y], .tup [.str "InvalidText", .non]]) && okS [o2]) = true := by
      rw [bag_ok1 hB2]; simp [okD, okL, ho.k]
    simp only [Wb, Wc, Wd, We, Wf, Wg, Wh, Wi, Wj, Wm, Wn, Wo, Wp, Wq, Wr, Ws, Wt, Wu, Wv, Ww, Wx, Wy, Wz, WA, WB, WC, WD, WF, WG, WH, WI, WJ, WK, WL, WM, WN, WO, WP, WQ, WR, WS, WT, WU, WV, WW, WY, WZ, W4, W5, W6, W7, W8, W9, Za, Zb, Ze, Zf, Zg, Zh, Zi, Zk, Zl, Zm, Zo, Zq, Zr, Zs, Zt, Zu, Zv, wf_ok, rd_cons0, rd_cons, got_some, orGot_some, orGot_none, asB_bl, asI_int, asS_str, asOne_one, asTwo_two, ZJ, asThree_three, ZL, ZM, ZN, ZO, ZP, ZQ, ZR, ZS, ZT, ZU, ZV, ZW, ZX, ZY, ZZ, Z0, bName, List.set_cons_succ, List.set_cons_zero, List.append_nil, List.length_cons, List.length_nil, Nat.zero_add, Nat.reduceAdd, true_and, and_true, if_true, if_false, Bool.false_eq_true, Bool.not_true, Bool.not_false, List.take_zero, List.drop_zero, nil_appD, wp_CallLS, asOne_one, ca, cB, hS, ag, bk, z2, sm _ pl, b1]
    first | exact ⟨_, _, _, _, _, _, _, _, _, _, _, o2, rfl, rfl, hB2⟩ | exact ⟨trivial, _, _, _, _, _, _, _, _, _, _, _, o2, rfl, rfl, hB2⟩ | skip
  cases q : lawS b Pt ns with
  | ok a r S => rw [q] at key; exact ⟨r, S, by rw [show a = .rt (.bl true) from key]⟩
  | er d r S => rw [q] at key; exact key.elim
  | no => rw [q] at key; exact key.elim
theorem nvis_law : ∀ y, N_law[13]? = some y → ¬ Vis (defScope s_law) y := fun y h => by
  cases h
  unfold Vis
  decide +kernel
theorem fnl_law {P : Program} {w : World} {K : PySem.W.Frag} {mg : Str → Option Value} {base : Heap} (C : SaysU chk fnL pnL K) (N : Nm K mg) {fd : FuncData} {c Pt : Addr} (F : FunD K "law" "law" (defArgs s_law) (defBody s_law) (defScope s_law) [] [] (fAd K (d_law).at_) fd) (KX : K.In base) (G : base.Ns mainGlobals mg) (ht : PySem.W.tabIn K "law" = some (c, Pt)) (TB : LamX.TabB base mg c Pt) :
    FnOk P w K mg base (CXU K P w) 9 (fAd K (d_law).at_) fd ["_law_script"] (spL K Pt 63) :=
  fn_lawL (t := 13) (q := "law.<locals>.<lambda>") F sc_law KX G ht (glo_at N (gl_of C.chk) 14) (fun b => fb_law b Pt) nvis_law (fun A outer s H E hr tk hp => okb_law (tp_of N C.chk) (def_law_bag C N) (def_law_draw C N) (def_law_pick C N) (def_key_text C N) (defk_key_text_0_key C N) (def_read_key C N) (defk_read_key_0_text C N) (def_law_same C N 7) (def_law_read C N) (def_law_got C N) (def_law_all_got C N) TB mkr_law hr tk hp) (fun b ns hl => law_run b Pt ns hl)
end L2.U.K03
open PySem PySem.W PySem.Calls PyProof.Rows in
theorem PySem.Challenge.cw_untilnone_k03_texts_of_keys_holds : PySem.Challenge.rw_untilnone_k03_texts_of_keys.Holds := by
  w_on; o_law
  refine HandSHeadRun.head_any (r := OpenLaw.row PySem.Challenge.rw_untilnone_k03_texts_of_keys) (q := view (OpenLaw.row PySem.Challenge.rw_untilnone_k03_texts_of_keys).prog [26]) (H := L2.U.K03.hk) (ob := L2.U.K03.ob) (M := 12000) (loose := L2.U.K03.loose) (d := HandSHeadRun.topDef (OpenLaw.row PySem.Challenge.rw_untilnone_k03_texts_of_keys).prog 26) (kwd := []) L2.U.K03.ob_eq
    (by kernel_rfl) (fun s => by kernel_rfl) L2.U.K03.run (by kernel_rfl) (by kernel_rfl) (by kernel_rfl) (by rfl) (by first | assumption | decide +kernel) (by decide +kernel) ⟨rfl, rfl, rfl, rfl, rfl, by decide +kernel⟩ ?hw ?hc
  case hw => w_witness2
  case hc =>
    refine L2.U.walk_UL (l := PySem.Challenge.rw_untilnone_k03_texts_of_keys) (n := 63) (k := 9) (x := "_law_script") rfl (by decide) (by kernel_rfl) ⟨rfl, by decide, by decide⟩ (by kernel_rfl) ?F
    intro w mg fa h Y G hmg0
    obtain ⟨K, KX, c⟩ := Y
    have e : (HandSHeadRun.topDef (OpenLaw.row PySem.Challenge.rw_untilnone_k03_texts_of_keys).prog 26).name = ("law" : PySem.Str) := by kernel_rfl
    have hmg : mg ("law" : PySem.Str) = some (.ref fa) := by
      rw [← e]
      exact hmg0
    have N := L2.U.Nm.of KX G
    obtain ⟨fd, F⟩ := c.def_ 14
    have e2 := hmg.symm.trans (L2.U.glo_at N (L2.U.K03.gl_of c.chk) 14)
    cases e2
    obtain ⟨cc, Pt, ht, hn⟩ := L2.U.tabB_ok (L2.U.K03.tp_of N c.chk).tab
    exact ⟨K, fd, cc, Pt, KX, by rw [e]; exact ht, hn, fun s v => L2.FunD.bindsA (ps := ["_law_script"]) F (fun _ _ _ _ _ _ us h => by match us, h with | [_], _ => rfl) s [v] rfl, fun base KX' G' TB => L2.U.K03.fnl_law c N F KX' G' ht TB⟩
