import PyProof.Rows.All
import Wide.All
import OpenK.AllK
import Wide.FinOn
import HandS.ForMost
import HandS.Exc
import HandS.WordsExc
import HandS.Defaults
import HandS.HeadHook1
import HandS.TupAny
import HandS.TupMul
import HandS.Wide
import HandS.IsInst
import HandS.Walk
import HandS.Flow
import HandS.Style
import HandS.Deep
import HandS.CallSlots
import HandS.Head0
import HandS.Head1
import HandS.Head2
import HandS.HeadEnd
import HandS.HeadHook2
import HandS.Text
import HandS.Strs
import HandS.FStr
import HandS.Sort
import HandS.MakeKwOnly
import HandS.ClsMeth
import PyProof.StrLawsTight
import PyProof.StrLawsIn
import PyProof.StrLawsChain
import PyProof.Rows.StrFacts2
import KE.GoesMore
import KE.GoesEnum
import HandS.Iter
import HandS.Star
import KE.KStar
import PyProof.ListStr
import HandS.Conv
import KE.DataEq
import PyProof.Rows.CallKw2
import HandS.Dict
import HandS.DictComp
import HandS.Property
import HandS.OwnEq
import HandS.Set
import HandS.SetFor
import PyProof.Rows.SortShellAny
import PySem.Challenge.RW_untilnone_k12_whole_chains_of_rules
set_option Elab.async false
set_option linter.all false
set_option maxRecDepth 100000
set_option maxHeartbeats 4000000
namespace L2.U
open PySem PySem.Spec PyProof.Rows

/-- a value as data: tuples, lists, dicts, instances that never change by what they hold; fz: a list that is known to be so (the script, a module's list); ref: an object of the store -/
inductive D where
  | non | bl (b : Bool) | int (i : Int) | str (x : Str) | ty (n : String) | con (c : Str)
  | tup (xs : List D) | lst (xs : List D) | dic (ks vs : List D) | ins (C : Str) (ns : List Str) (vs : List D)
  | fz (xs : List D)
  | ref (n : Nat)
  deriving Inhabited

/-- an object of the store; gone: no longer ours -/
inductive AO where
  | lst (xs : List D) | dic (ks vs : List D) | ins (C : Str) (ns : List Str) (vs : List D) | gone
  deriving Inhabited
abbrev Sto := List AO
abbrev Env := List (Option D)

mutual
/-- its references lie below n -/
def bnd (n : Nat) : D → Bool
  | .ref k => decide (k < n)
  | .tup xs => bndL n xs
  | .lst xs => bndL n xs
  | .fz xs => bndL n xs
  | .dic ks vs => bndL n ks && bndL n vs
  | .ins _ _ vs => bndL n vs
  | _ => true
def bndL (n : Nat) : List D → Bool
  | [] => true
  | x :: r => bnd n x && bndL n r
end

/-- what is known beside the heap: the data at addresses that never change; where the store's objects stand; F: what others keep there and nobody here may touch -/
structure Gh where
  G : Addr → Option D
  m : Nat → Addr
  sz : Nat
  F : Addr → Option HO

structure Ext (g g' : Gh) : Prop where
  G : ∀ a d, g.G a = some d → g'.G a = some d
  sz : g.sz ≤ g'.sz
  m : ∀ n, n < g.sz → g'.m n = g.m n
  F : g'.F = g.F
theorem Ext.refl (g : Gh) : Ext g g := ⟨fun _ _ h => h, Nat.le_refl _, fun _ _ => rfl, rfl⟩
theorem Ext.trans {g1 g2 g3 : Gh} (a : Ext g1 g2) (b : Ext g2 g3) : Ext g1 g3 :=
  ⟨fun x d h => b.G x d (a.G x d h), Nat.le_trans a.sz b.sz, fun n h => (b.m n (Nat.lt_of_lt_of_le h a.sz)).trans (a.m n h), b.F.trans a.F⟩

mutual
theorem bnd_mono {n k : Nat} (h : n ≤ k) : ∀ d : D, bnd n d = true → bnd k d = true
  | .ref j, e => by
    have e1 : j < n := by simpa [bnd] using e
    simp [bnd]; omega
  | .tup xs, e => by simp only [bnd] at e ⊢; exact bndL_mono h xs e
  | .lst xs, e => by simp only [bnd] at e ⊢; exact bndL_mono h xs e
  | .fz xs, e => by simp only [bnd] at e ⊢; exact bndL_mono h xs e
  | .dic ks vs, e => by
    simp only [bnd, Bool.and_eq_true] at e ⊢
    exact ⟨bndL_mono h ks e.1, bndL_mono h vs e.2⟩
  | .ins _ _ vs, e => by simp only [bnd] at e ⊢; exact bndL_mono h vs e
  | .non, _ => rfl
  | .bl _, _ => rfl
  | .int _, _ => rfl
  | .str _, _ => rfl
  | .ty _, _ => rfl
  | .con _, _ => rfl
theorem bndL_mono {n k : Nat} (h : n ≤ k) : ∀ l : List D, bndL n l = true → bndL k l = true
  | [], _ => rfl
  | x :: r, e => by
    simp only [bndL, Bool.and_eq_true] at e ⊢
    exact ⟨bnd_mono h x e.1, bndL_mono h r e.2⟩
end

/-! ### constants of the module -/
mutual
def kRep (K : PySem.W.Frag) : Nat → D → Value → Bool
  | 0, _, _ => false
  | _ + 1, .non, .none => true
  | _ + 1, .bl b, .bool c => b == c
  | _ + 1, .int i, .int j _ => decide (i = j)
  | _ + 1, .str x, .str y _ => decide (x = y)
  | _ + 1, .ty n, .type k => decide (n = k)
  | _ + 1, .con c, .ref b => decide (He.ga K c = b)
  | f + 1, .tup ds, .ref a => (match K.lookup a with
    | some ⟨.type c, _, .seq its _, _⟩ => decide (c = "tuple") && (decide (its.size ≤ sizeLine) && kReps K f ds its.toList)
    | _ => false)
  | f + 1, .fz ds, .ref a => (match K.lookup a with
    | some ⟨.type c, none, .seq its _, _⟩ => decide (c = "list") && (decide (its.size ≤ sizeLine) && kReps K f ds its.toList)
    | _ => false)
  | _ + 1, _, _ => false
def kReps (K : PySem.W.Frag) : Nat → List D → List Value → Bool
  | 0, _, _ => false
  | _ + 1, [], [] => true
  | f + 1, d :: ds, u :: us => kRep K f d u && kReps K f ds us
  | _ + 1, _, _ => false
end

/-! ### the relation of data and values -/
/-- what stands by value at an address -/
def comp : D → Bool
  | .tup _ => true | .lst _ => true | .fz _ => true | .dic _ _ => true | .ins _ _ _ => true
  | _ => false
def RelD (K : PySem.W.Frag) (g : Gh) : D → V → Prop
  | .non, v => v = .non
  | .bl b, v => v = .bl b
  | .int i, v => v = .int i
  | .str x, v => v = .str x
  | .ty n, v => v = .ty n
  | .con c, v => v = .ref (He.ga K c)
  | .ref n, v => n < g.sz ∧ v = .ref (g.m n)
  | .tup xs, v => bndL g.sz xs = true ∧ ∃ a, v = .ref a ∧ (g.G a = some (.tup xs) ∨ ∃ f, kRep K f (.tup xs) (.ref a) = true)
  | .lst xs, v => bndL g.sz xs = true ∧ ∃ a, v = .ref a ∧ g.G a = some (.lst xs)
  | .fz xs, v => bndL g.sz xs = true ∧ ∃ a, v = .ref a ∧ (g.G a = some (.fz xs) ∨ ∃ f, kRep K f (.fz xs) (.ref a) = true)
  | .dic ks vs, v => (bndL g.sz ks && bndL g.sz vs) = true ∧ ∃ a, v = .ref a ∧ g.G a = some (.dic ks vs)
  | .ins C ns vs, v => bndL g.sz vs = true ∧ ∃ a, v = .ref a ∧ g.G a = some (.ins C ns vs)
abbrev RelDs (K : PySem.W.Frag) (g : Gh) : List D → List V → Prop := Paired (RelD K g)

section
variable {K : PySem.W.Frag} {g g' : Gh} {H H' : Hp}
theorem RelD.bnd : ∀ {d : D} {v : V}, RelD K g d v → U.bnd g.sz d = true
  | .non, _, _ => rfl
  | .bl _, _, _ => rfl
  | .int _, _, _ => rfl
  | .str _, _, _ => rfl
  | .ty _, _, _ => rfl
  | .con _, _, _ => rfl
  | .ref n, _, h => by simp only [U.bnd, decide_eq_true_eq]; exact h.1
  | .tup xs, _, h => by simp only [U.bnd]; exact h.1
  | .lst xs, _, h => by simp only [U.bnd]; exact h.1
  | .fz xs, _, h => by simp only [U.bnd]; exact h.1
  | .dic ks vs, _, h => by simp only [U.bnd]; exact h.1
  | .ins _ _ vs, _, h => by simp only [U.bnd]; exact h.1
theorem RelDs.bnd : ∀ {ds : List D} {vs : List V}, RelDs K g ds vs → bndL g.sz ds = true
  | _, _, .nil => rfl
  | _, _, .cons r t => by simp only [bndL, Bool.and_eq_true]; exact ⟨r.bnd, RelDs.bnd t⟩
theorem RelD.mono (e : Ext g g') : ∀ {d : D} {v : V}, RelD K g d v → RelD K g' d v
  | .non, _, h => h
  | .bl _, _, h => h
  | .int _, _, h => h
  | .str _, _, h => h
  | .ty _, _, h => h
  | .con _, _, h => h
  | .ref n, _, h => ⟨Nat.lt_of_lt_of_le h.1 e.sz, by rw [e.m n h.1]; exact h.2⟩
  | .tup xs, _, ⟨b, a, r, q⟩ => ⟨bndL_mono e.sz _ b, a, r, q.imp (e.G _ _) id⟩
  | .lst xs, _, ⟨b, a, r, q⟩ => ⟨bndL_mono e.sz _ b, a, r, e.G _ _ q⟩
  | .fz xs, _, ⟨b, a, r, q⟩ => ⟨bndL_mono e.sz _ b, a, r, q.imp (e.G _ _) id⟩
  | .dic ks vs, _, ⟨b, a, r, q⟩ => ⟨by
      simp only [Bool.and_eq_true] at b ⊢
      exact ⟨bndL_mono e.sz _ b.1, bndL_mono e.sz _ b.2⟩, a, r, e.G _ _ q⟩
  | .ins _ _ vs, _, ⟨b, a, r, q⟩ => ⟨bndL_mono e.sz _ b, a, r, e.G _ _ q⟩
theorem RelDs.mono (e : Ext g g') : ∀ {ds : List D} {vs : List V}, RelDs K g ds vs → RelDs K g' ds vs
  | _, _, .nil => .nil
  | _, _, .cons r t => .cons (r.mono e) (RelDs.mono e t)
theorem RelDs.length {ds : List D} {vs : List V} (h : RelDs K g ds vs) : ds.length = vs.length := Paired.length h
end

/-! ### what stands in the heap -/
def zipF : List Str → List V → List (Str × V) := List.zip
/-- by value: for ever so -/
def IRep (K : PySem.W.Frag) (g : Gh) (H : Hp) (a : Addr) : D → Prop
  | .tup ds => ∃ vs, H a = some (.tup vs) ∧ RelDs K g ds vs
  | .lst ds => ∃ vs, H a = some (.lst vs) ∧ RelDs K g ds vs
  | .fz ds => ∃ vs, Rd H a (.lst vs) ∧ RelDs K g ds vs
  | .ins C ns ds => ∃ dx vs, H a = some (.ins (He.ga K C) dx (ns.zip vs)) ∧ ns.length = ds.length ∧ RelDs K g ds vs
  | .dic _ _ => False
  | _ => False
/-- a dict's key as data -/
def keyD : Key → D
  | .inl i => .int i
  | .inr x => .str x
/-- of the store -/
def MRep (K : PySem.W.Frag) (g : Gh) (H : Hp) (a : Addr) : AO → Prop
  | .lst ds => ∃ vs, H a = some (.lst vs) ∧ RelDs K g ds vs
  | .ins C ns ds => ∃ dx vs, H a = some (.ins (He.ga K C) dx (ns.zip vs)) ∧ ns.length = ds.length ∧ RelDs K g ds vs
  | .dic ks ds => ∃ (kk : List Key) (vs : List V), ks = kk.map keyD ∧ H a = some (.dK (kk.zip vs)) ∧ kk.length = vs.length ∧ RelDs K g ds vs
  | .gone => True
structure Rl (K : PySem.W.Frag) (g : Gh) (S : Sto) (H : Hp) : Prop where
  imm : ∀ a d, g.G a = some d → IRep K g H a d
  sto : ∀ (n : Nat) (o : AO), S[n]? = some o → o ≠ .gone → g.G (g.m n) = none ∧ MRep K g H (g.m n) o
  inj : ∀ (i j : Nat) (oi oj : AO), S[i]? = some oi → oi ≠ .gone → S[j]? = some oj → oj ≠ .gone → g.m i = g.m j → i = j
  sz : g.sz = S.length
  fr : ∀ a o, g.F a = some o → H a = some o ∧ g.G a = none ∧ ∀ (n : Nat) (ob : AO), S[n]? = some ob → ob ≠ .gone → g.m n ≠ a
def REnv (K : PySem.W.Frag) (g : Gh) (r : Env) (σ : St) : Prop := r.length = σ.length ∧ ∀ (i : Nat) (d : D), r[i]? = some (some d) → ∃ v, σ[i]? = some (some v) ∧ RelD K g d v

section
variable {K : PySem.W.Frag} {g g' : Gh} {H H' : Hp} {S : Sto}
theorem IRep.some {a : Addr} {d : D} (h : IRep K g H a d) : ∃ o, H a = .some o := by
  cases d with
  | tup ds => obtain ⟨vs, e, _⟩ := h; exact ⟨_, e⟩
  | lst ds => obtain ⟨vs, e, _⟩ := h; exact ⟨_, e⟩
  | fz ds =>
    obtain ⟨vs, e | ⟨o, e⟩, _⟩ := h
    · exact ⟨_, e⟩
    · exact ⟨_, e⟩
  | ins C ns ds => obtain ⟨dx, vs, e, _⟩ := h; exact ⟨_, e⟩
  | _ => exact h.elim
theorem MRep.some {a : Addr} {o : AO} (h : MRep K g H a o) (n : o ≠ .gone) : ∃ u, H a = .some u := by
  cases o with
  | lst ds => obtain ⟨vs, e, _⟩ := h; exact ⟨_, e⟩
  | ins C ns ds => obtain ⟨dx, vs, e, _⟩ := h; exact ⟨_, e⟩
  | dic ks ds => obtain ⟨kk, vs, _, e, _⟩ := h; exact ⟨_, e⟩
  | gone => exact absurd rfl n
theorem IRep.stay (e : Ext g g') {a : Addr} {d : D} (hH : ∀ o, H a = .some o → H' a = .some o) (h : IRep K g H a d) : IRep K g' H' a d := by
  cases d with
  | tup ds => obtain ⟨vs, e1, r⟩ := h; exact ⟨vs, hH _ e1, r.mono e⟩
  | lst ds => obtain ⟨vs, e1, r⟩ := h; exact ⟨vs, hH _ e1, r.mono e⟩
  | fz ds =>
    obtain ⟨vs, e1, r⟩ := h
    refine ⟨vs, ?_, r.mono e⟩
    rcases e1 with e1 | ⟨o, e1⟩
    · exact .inl (hH _ e1)
    · exact .inr ⟨o, hH _ e1⟩
  | ins C ns ds => obtain ⟨dx, vs, e1, l, r⟩ := h; exact ⟨dx, vs, hH _ e1, l, r.mono e⟩
  | _ => exact h.elim
theorem MRep.stay (e : Ext g g') {a : Addr} {o : AO} (hH : ∀ o, H a = .some o → H' a = .some o) (h : MRep K g H a o) : MRep K g' H' a o := by
  cases o with
  | lst ds => obtain ⟨vs, e1, r⟩ := h; exact ⟨vs, hH _ e1, r.mono e⟩
  | ins C ns ds => obtain ⟨dx, vs, e1, l, r⟩ := h; exact ⟨dx, vs, hH _ e1, l, r.mono e⟩
  | dic ks ds => obtain ⟨kk, vs, e0, e1, l, r⟩ := h; exact ⟨kk, vs, e0, hH _ e1, l, r.mono e⟩
  | gone => trivial
theorem REnv.mono (e : Ext g g') {r : Env} {σ : St} (h : REnv K g r σ) : REnv K g' r σ :=
  ⟨h.1, fun i d q => let ⟨v, a, b⟩ := h.2 i d q; ⟨v, a, b.mono e⟩⟩
theorem REnv.set {r : Env} {σ : St} {d : D} {v : V} (h : REnv K g r σ) (i : Nat) (q : RelD K g d v) : REnv K g (r.set i (some d)) (σ.set i (some v)) := by
  refine ⟨by simpa using h.1, fun j d' e => ?_⟩
  by_cases hj : i = j
  · subst hj
    by_cases hl : i < r.length
    · rw [List.getElem?_set_self hl] at e
      cases e
      exact ⟨v, by rw [List.getElem?_set_self (by rw [← h.1]; exact hl)], q⟩
    · rw [List.getElem?_eq_none (by simpa using hl)] at e
      cases e
  · rw [List.getElem?_set_ne hj] at e
    obtain ⟨w, a, b⟩ := h.2 j d' e
    exact ⟨w, by rw [List.getElem?_set_ne hj]; exact a, b⟩
/-- nothing of ours changed -/
theorem Rl.keep (h : Rl K g S H) (k : ∀ a o, H a = some o → H' a = some o) : Rl K g S H' :=
  ⟨fun a d e => (h.imm a d e).stay (.refl g) (k a), fun n o e q => ⟨(h.sto n o e q).1, (h.sto n o e q).2.stay (.refl g) (k _)⟩, h.inj, h.sz, fun a o e => let ⟨x, y⟩ := h.fr a o e; ⟨k a o x, y⟩⟩
/-- a new object that never changes -/
def Gh.put (g : Gh) (p : Addr) (d : D) : Gh := { g with G := fun a => if a = p then some d else g.G a }
theorem Gh.put_ext {p : Addr} {d : D} (h : g.G p = none) : Ext g (g.put p d) := ⟨fun a e q => by
  show (if a = p then some d else g.G a) = some e
  rw [if_neg (fun z => by subst z; rw [h] at q; cases q)]; exact q, Nat.le_refl _, fun _ _ => rfl, rfl⟩
theorem Gh.put_at {p : Addr} {d : D} : (g.put p d).G p = some d := if_pos rfl
theorem Rl.free (h : Rl K g S H) {p : Addr} (hp : H p = none) : g.G p = none := by
  cases e : g.G p with
  | none => rfl
  | some d =>
    obtain ⟨o, q⟩ := (h.imm p d e).some
    rw [hp] at q; cases q
theorem Rl.put (h : Rl K g S H) {p : Addr} {d : D} {o : HO} (hp : H p = none) (hr : IRep K g (upd H p o) p d) : Rl K (g.put p d) S (upd H p o) := by
  have x := Gh.put_ext (d := d) (h.free hp)
  refine ⟨fun a e q => ?_, fun n ob e q => ?_, h.inj, h.sz, fun a u q => ?_⟩
  · by_cases ha : a = p
    · subst ha
      rw [Gh.put_at] at q
      cases q
      exact hr.stay x (fun _ z => z)
    · have q' : g.G a = some e := by
        have : (if a = p then some d else g.G a) = some e := q
        rw [if_neg ha] at this; exact this
      exact (h.imm a e q').stay x (fun ob z => by rw [upd_ne ha]; exact z)
  · obtain ⟨m1, m2⟩ := h.sto n ob e q
    have ne : g.m n ≠ p := fun z => by
      obtain ⟨u, hu⟩ := m2.some q
      rw [z, hp] at hu; cases hu
    refine ⟨?_, m2.stay x (fun ob' z => ?_)⟩
    · show (if g.m n = p then some d else g.G (g.m n)) = none
      rw [if_neg ne]; exact m1
    · show upd H p o (g.m n) = some ob'
      rw [upd_ne ne]; exact z
  · obtain ⟨x1, x2, x3⟩ := h.fr a u q
    have ne : a ≠ p := fun z => by rw [z, hp] at x1; cases x1
    refine ⟨by rw [upd_ne ne]; exact x1, ?_, x3⟩
    show (if a = p then some d else g.G a) = none
    rw [if_neg ne]; exact x2
/-- a new object of the store -/
def Gh.add (g : Gh) (p : Addr) : Gh := { g with m := fun n => if n = g.sz then p else g.m n, sz := g.sz + 1 }
theorem Gh.add_ext {p : Addr} : Ext g (g.add p) := ⟨fun _ _ q => q, Nat.le_succ _, fun n h => if_neg (Nat.ne_of_lt h), rfl⟩
theorem Gh.add_m {p : Addr} : (g.add p).m g.sz = p := if_pos rfl
theorem Rl.add (h : Rl K g S H) {p : Addr} {o : HO} {ob : AO} (hp : H p = none) (hr : MRep K g (upd H p o) p ob) : Rl K (g.add p) (S ++ [ob]) (upd H p o) := by
  have x := Gh.add_ext (g := g) (p := p)
  have hG := h.free hp
  have nep : ∀ n ob', S[n]? = some ob' → ob' ≠ .gone → g.m n ≠ p := fun n ob' e q z => by
    obtain ⟨u, hu⟩ := (h.sto n ob' e q).2.some q
    rw [z, hp] at hu; cases hu
  have hm : ∀ n, n < S.length → (g.add p).m n = g.m n := fun n hn => if_neg (by rw [h.sz]; omega)
  have hm0 : (g.add p).m S.length = p := if_pos h.sz.symm
  have cases_ : ∀ n ob', (S ++ [ob])[n]? = some ob' → (n < S.length ∧ S[n]? = some ob') ∨ (n = S.length ∧ ob' = ob) := fun n ob' e => by
    by_cases hn : n < S.length
    · rw [List.getElem?_append_left hn] at e; exact .inl ⟨hn, e⟩
    · rw [List.getElem?_append_right (by omega)] at e
      have : n - S.length = 0 := by
        by_cases z : n - S.length = 0
        · exact z
        · rw [List.getElem?_eq_none (by simp; omega)] at e; cases e
      rw [this] at e
      exact .inr ⟨by omega, by simpa using e.symm⟩
  refine ⟨fun a e q => (h.imm a e q).stay x (fun ob' z => ?_), fun n ob' e q => ?_, fun i j oi oj e1 q1 e2 q2 z => ?_, ?_, fun a u q => ?_⟩
  · rw [upd_ne (fun z' => by rw [z', hp] at z; cases z)]; exact z
  · rcases cases_ n ob' e with ⟨hn, e⟩ | ⟨hn, rfl⟩
    · obtain ⟨m1, m2⟩ := h.sto n ob' e q
      rw [hm n hn]
      exact ⟨m1, m2.stay x (fun u z => by rw [upd_ne (nep n ob' e q)]; exact z)⟩
    · subst hn
      rw [hm0]
      exact ⟨hG, hr.stay x (fun _ z => z)⟩
  · rcases cases_ i oi e1 with ⟨hi, f1⟩ | ⟨hi, _⟩
    · rcases cases_ j oj e2 with ⟨hj, f2⟩ | ⟨hj, _⟩
      · rw [hm i hi, hm j hj] at z
        exact h.inj i j oi oj f1 q1 f2 q2 z
      · subst hj
        rw [hm i hi, hm0] at z
        exact absurd z (nep i oi f1 q1)
    · subst hi
      rcases cases_ j oj e2 with ⟨hj, f2⟩ | ⟨hj, _⟩
      · rw [hm j hj, hm0] at z
        exact absurd z.symm (nep j oj f2 q2)
      · exact hj.symm
  · show g.sz + 1 = _
    rw [List.length_append, h.sz]; rfl
  · obtain ⟨x1, x2, x3⟩ := h.fr a u q
    have ne : a ≠ p := fun z => by rw [z, hp] at x1; cases x1
    refine ⟨by rw [upd_ne ne]; exact x1, x2, fun n ob' e q' => ?_⟩
    rcases cases_ n ob' e with ⟨hn, f1⟩ | ⟨hn, _⟩
    · rw [hm n hn]; exact x3 n ob' f1 q'
    · subst hn
      rw [hm0]; exact ne.symm
/-- an object of the store is written -/
theorem Rl.write (h : Rl K g S H) {n : Nat} {ob ob' : AO} {o : HO} (e : S[n]? = some ob) (q : ob ≠ .gone) (hr : MRep K g (upd H (g.m n) o) (g.m n) ob') : Rl K g (S.set n ob') (upd H (g.m n) o) := by
  obtain ⟨m1, m2⟩ := h.sto n ob e q
  have hn : n < S.length := (List.getElem?_eq_some_iff.mp e).1
  have old : ∀ i oi, i ≠ n → (S.set n ob')[i]? = some oi → S[i]? = some oi := fun i oi ne z => by rwa [List.getElem?_set_ne (Ne.symm ne)] at z
  refine ⟨fun a d z => (h.imm a d z).stay (.refl g) (fun u z' => ?_), fun i oi z qi => ?_, fun i j oi oj e1 q1 e2 q2 z => ?_, by rw [List.length_set]; exact h.sz, fun a u z => ?_⟩
  · rw [upd_ne (fun w => by rw [w, m1] at z; cases z)]; exact z'
  · by_cases hi : i = n
    · subst hi
      rw [List.getElem?_set_self hn] at z
      cases z
      exact ⟨m1, hr⟩
    · have z' := old i oi hi z
      obtain ⟨k1, k2⟩ := h.sto i oi z' qi
      exact ⟨k1, k2.stay (.refl g) (fun u w => by rw [upd_ne (fun w' => hi (h.inj i n oi ob z' qi e q w'))]; exact w)⟩
  · by_cases hi : i = n
    · by_cases hj : j = n
      · rw [hi, hj]
      · subst hi
        exact h.inj i j ob oj e q (old j oj hj e2) q2 z
    · by_cases hj : j = n
      · subst hj
        exact h.inj i j oi ob (old i oi hi e1) q1 e q z
      · exact h.inj i j oi oj (old i oi hi e1) q1 (old j oj hj e2) q2 z
  · obtain ⟨x1, x2, x3⟩ := h.fr a u z
    refine ⟨by rw [upd_ne (x3 n ob e q).symm]; exact x1, x2, fun i oi w qi => ?_⟩
    by_cases hi : i = n
    · subst hi; exact x3 i ob e q
    · exact x3 i oi (old i oi hi w) qi
/-- an address is set aside, kept as it is -/
def Gh.res (g : Gh) (p : Addr) (o : HO) : Gh := { g with F := fun a => if a = p then some o else g.F a }
theorem RelD.eqG {d : D} {v : V} (h : RelD K g d v) (hG : g'.G = g.G) (hm : g'.m = g.m) (hs : g'.sz = g.sz) : RelD K g' d v := by
  cases d <;> simp only [RelD, hG, hm, hs] at h ⊢ <;> exact h
theorem RelDs.eqG {ds : List D} {vs : List V} (h : RelDs K g ds vs) (hG : g'.G = g.G) (hm : g'.m = g.m) (hs : g'.sz = g.sz) : RelDs K g' ds vs := by
  induction h with
  | nil => exact .nil
  | cons r _ ih => exact .cons (r.eqG hG hm hs) ih
theorem IRep.eqG {a : Addr} {d : D} (h : IRep K g H a d) (hG : g'.G = g.G) (hm : g'.m = g.m) (hs : g'.sz = g.sz) : IRep K g' H a d := by
  cases d with
  | tup ds => obtain ⟨vs, e1, r⟩ := h; exact ⟨vs, e1, r.eqG hG hm hs⟩
  | lst ds => obtain ⟨vs, e1, r⟩ := h; exact ⟨vs, e1, r.eqG hG hm hs⟩
  | fz ds => obtain ⟨vs, e1, r⟩ := h; exact ⟨vs, e1, r.eqG hG hm hs⟩
  | ins C ns ds => obtain ⟨dx, vs, e1, l, r⟩ := h; exact ⟨dx, vs, e1, l, r.eqG hG hm hs⟩
  | _ => exact h.elim
theorem MRep.eqG {a : Addr} {o : AO} (h : MRep K g H a o) (hG : g'.G = g.G) (hm : g'.m = g.m) (hs : g'.sz = g.sz) : MRep K g' H a o := by
  cases o with
  | lst ds => obtain ⟨vs, e1, r⟩ := h; exact ⟨vs, e1, r.eqG hG hm hs⟩
  | ins C ns ds => obtain ⟨dx, vs, e1, l, r⟩ := h; exact ⟨dx, vs, e1, l, r.eqG hG hm hs⟩
  | dic ks ds => obtain ⟨kk, vs, e0, e1, l, r⟩ := h; exact ⟨kk, vs, e0, e1, l, r.eqG hG hm hs⟩
  | gone => trivial
theorem REnv.eqG {r : Env} {σ : St} (h : REnv K g r σ) (hG : g'.G = g.G) (hm : g'.m = g.m) (hs : g'.sz = g.sz) : REnv K g' r σ :=
  ⟨h.1, fun i d q => let ⟨v, a, b⟩ := h.2 i d q; ⟨v, a, b.eqG hG hm hs⟩⟩
/-- a new object, set aside -/
theorem Rl.res (h : Rl K g S H) {p : Addr} {o : HO} (hp : H p = none) : Rl K (g.res p o) S (upd H p o) := by
  refine ⟨fun a d e => ?_, fun n ob e q => ?_, h.inj, h.sz, fun a u q => ?_⟩
  · have ne : a ≠ p := fun z => by
      obtain ⟨u, hu⟩ := (h.imm a d e).some
      rw [z, hp] at hu; cases hu
    exact ((h.imm a d e).stay (H' := upd H p o) (.refl g) (fun u z => by rw [upd_ne ne]; exact z)).eqG rfl rfl rfl
  · obtain ⟨m1, m2⟩ := h.sto n ob e q
    have ne : g.m n ≠ p := fun z => by
      obtain ⟨u, hu⟩ := m2.some q
      rw [z, hp] at hu; cases hu
    exact ⟨m1, (m2.stay (H' := upd H p o) (.refl g) (fun u z => by rw [upd_ne ne]; exact z)).eqG rfl rfl rfl⟩
  · have q' : (if a = p then some o else g.F a) = some u := q
    by_cases ha : a = p
    · subst ha
      rw [if_pos rfl] at q'
      cases q'
      refine ⟨upd_same, h.free hp, fun n ob e qn z => ?_⟩
      obtain ⟨u, hu⟩ := (h.sto n ob e qn).2.some qn
      have hu' : H (g.m n) = some u := hu
      rw [show g.m n = a from z, hp] at hu'; cases hu'
    · rw [if_neg ha] at q'
      obtain ⟨x1, x2, x3⟩ := h.fr a u q'
      exact ⟨by rw [upd_ne ha]; exact x1, x2, x3⟩
/-- what is set aside is changed by who set it aside -/
theorem Rl.rewrite (h : Rl K g S H) {p : Addr} {o u : HO} (hp : g.F p = some o) : Rl K (g.res p u) S (upd H p u) := by
  obtain ⟨y1, y2, y3⟩ := h.fr p o hp
  refine ⟨fun a d e => ?_, fun n ob e q => ?_, h.inj, h.sz, fun a w q => ?_⟩
  · have ne : a ≠ p := fun z => by
      have e' : g.G a = some d := e
      rw [z, y2] at e'; cases e'
    exact ((h.imm a d e).stay (H' := upd H p u) (.refl g) (fun w z => by rw [upd_ne ne]; exact z)).eqG rfl rfl rfl
  · obtain ⟨m1, m2⟩ := h.sto n ob e q
    exact ⟨m1, (m2.stay (H' := upd H p u) (.refl g) (fun w z => by rw [upd_ne (y3 n ob e q)]; exact z)).eqG rfl rfl rfl⟩
  · have q' : (if a = p then some u else g.F a) = some w := q
    by_cases ha : a = p
    · subst ha
      rw [if_pos rfl] at q'
      cases q'
      exact ⟨upd_same, y2, y3⟩
    · rw [if_neg ha] at q'
      obtain ⟨x1, x2, x3⟩ := h.fr a w q'
      exact ⟨by rw [upd_ne ha]; exact x1, x2, x3⟩
/-- what was set aside is given back, by value -/
def Gh.back (g : Gh) (F : Addr → Option HO) (p : Addr) (d : D) : Gh := { (g.put p d) with F := F }
theorem Rl.back (h : Rl K g S H) {F : Addr → Option HO} {p : Addr} {o : HO} {d : D} (hp : g.F p = some o) (hF : F p = none) (hF' : ∀ a, a ≠ p → F a = g.F a) (hr : IRep K g H p d) : Rl K (g.back F p d) S H := by
  obtain ⟨y1, y2, y3⟩ := h.fr p o hp
  have x := Gh.put_ext (d := d) y2
  refine ⟨fun a e q => ?_, fun n ob e q => ?_, h.inj, h.sz, fun a u q => ?_⟩
  · have q0 : (g.put p d).G a = some e := q
    by_cases ha : a = p
    · subst ha
      rw [Gh.put_at] at q0
      cases q0
      exact (hr.stay x (fun _ z => z)).eqG rfl rfl rfl
    · have q' : g.G a = some e := by
        have : (if a = p then some d else g.G a) = some e := q
        rw [if_neg ha] at this; exact this
      exact ((h.imm a e q').stay x (fun _ z => z)).eqG rfl rfl rfl
  · obtain ⟨m1, m2⟩ := h.sto n ob e q
    refine ⟨?_, (m2.stay x (fun _ z => z)).eqG rfl rfl rfl⟩
    show (if g.m n = p then some d else g.G (g.m n)) = none
    rw [if_neg (y3 n ob e q)]; exact m1
  · have q' : F a = some u := q
    have ha : a ≠ p := fun z => by rw [z, hF] at q'; cases q'
    rw [hF' a ha] at q'
    obtain ⟨x1, x2, x3⟩ := h.fr a u q'
    refine ⟨x1, ?_, x3⟩
    show (if a = p then some d else g.G a) = none
    rw [if_neg ha]; exact x2
end

/-! ### results -/
inductive R (α : Type) where
  | ok (a : α) (r : Env) (S : Sto)
  | er (x : D) (r : Env) (S : Sto)
  | no
def R.bind {α β : Type} (x : R α) (k : α → Env → Sto → R β) : R β := match x with
  | .ok a r S => k a r S
  | .er x r S => .er x r S
  | .no => .no
/-- an exception: its class, its own dict -/
def RelX (K : PySem.W.Frag) (g : Gh) (H : Hp) (x : D) (cls : Value) (od : Option Addr) : Prop :=
  ∃ C ns ds dx vs, x = .ins C ns ds ∧ cls = .ref (He.ga K C) ∧ od = some dx ∧ H dx = some (.xd (ns.zip vs)) ∧ ns.length = ds.length ∧ RelDs K g ds vs
/-- what is wanted of a result -/
def PostG {α β : Type} (K : PySem.W.Frag) (W : WX) (rel : Gh → α → β → Prop) (g : Gh) (σ : St) (x : R α) (Q : β → Hp → Prop) : Prop := match x with
  | .ok a r S => ∀ g' H' b, Ext g g' → Rl K g' S H' → REnv K g' r σ → rel g' a b → Q b H'
  | .er x r S => ∀ g' H' cls od, Ext g g' → Rl K g' S H' → REnv K g' r σ → RelX K g' H' x cls od → W cls od σ H'
  | .no => False
section
variable {K : PySem.W.Frag} {W : WX} {g g' : Gh} {σ : St}
theorem PostG.ext {α β : Type} {rel : Gh → α → β → Prop} {x : R α} {Q : β → Hp → Prop} (e : Ext g g') (h : PostG K W rel g σ x Q) : PostG K W rel g' σ x Q := by
  cases x with
  | ok a r S => exact fun g2 H' b e2 => h g2 H' b (e.trans e2)
  | er x r S => exact fun g2 H' c od e2 => h g2 H' c od (e.trans e2)
  | no => exact h
theorem PostG.imp {α β : Type} {rel : Gh → α → β → Prop} {x : R α} {Q Q' : β → Hp → Prop} (h : PostG K W rel g σ x Q) (i : ∀ b H, Q b H → Q' b H) : PostG K W rel g σ x Q' := by
  cases x with
  | ok a r S => exact fun g2 H' b e2 l r q => i _ _ (h g2 H' b e2 l r q)
  | er x r S => exact h
  | no => exact h
/-- a reading by a function -/
def TD {α β : Type} (K : PySem.W.Frag) (W : WX) (rel : Gh → α → β → Prop) (f : Env → Sto → R α) : St → Hp → (β → Hp → Prop) → Prop := fun σ H Q =>
  ∃ g r S, Rl K g S H ∧ REnv K g r σ ∧ PostG K W rel g σ (f r S) Q
/-- .. of a state that is known -/
theorem TD.mk {α β : Type} {rel : Gh → α → β → Prop} {f : Env → Sto → R α} {H : Hp} {Q : β → Hp → Prop} {r : Env} {S : Sto} (l : Rl K g S H) (e : REnv K g r σ) (h : PostG K W rel g σ (f r S) Q) : TD K W rel f σ H Q := ⟨g, r, S, l, e, h⟩
/-- what comes first -/
theorem PostG.split {α β γ δ : Type} {rel : Gh → α → β → Prop} {rel2 : Gh → γ → δ → Prop} {x : R α} {k : α → Env → Sto → R γ} {Q : δ → Hp → Prop} (h : PostG K W rel2 g σ (x.bind k) Q) :
    PostG K W rel g σ x (fun b H' => ∃ g' a r S, Ext g g' ∧ Rl K g' S H' ∧ REnv K g' r σ ∧ rel g' a b ∧ PostG K W rel2 g' σ (k a r S) Q) := by
  cases x with
  | ok a r S => exact fun g2 H' b e l re q => ⟨g2, a, r, S, e, l, re, q, PostG.ext e (show PostG K W rel2 g σ (k a r S) Q from h)⟩
  | er x r S => exact h
  | no => exact h
theorem TD.split {α β γ δ : Type} {rel : Gh → α → β → Prop} {rel2 : Gh → γ → δ → Prop} {f : Env → Sto → R α} {k : α → Env → Sto → R γ} {H : Hp} {Q : δ → Hp → Prop} (h : TD K W rel2 (fun r S => (f r S).bind k) σ H Q) :
    TD K W rel f σ H (fun b H' => ∃ g a r S, Rl K g S H' ∧ REnv K g r σ ∧ rel g a b ∧ PostG K W rel2 g σ (k a r S) Q) := by
  obtain ⟨g, r, S, l, e, p⟩ := h
  exact ⟨g, r, S, l, e, p.split.imp fun b H' ⟨g', a, r', S', _, l', e', q, p'⟩ => ⟨g', a, r', S', l', e', q, p'⟩⟩
end
end L2.U
namespace L2.U
open PySem PySem.Spec PyProof.Rows

section
variable {K : PySem.W.Frag} {g g' : Gh} {H H' : Hp} {S : Sto}
/-! ### constants -/
theorem kReps_ok : ∀ {f : Nat} {ds : List D} {us : List Value}, kReps K f ds us = true → bndL g.sz ds = true → ∃ vs, Vals vs us ∧ RelDs K g ds vs
  | 0, _, _, h, _ => by cases (show false = true from h)
  | _ + 1, [], [], _, _ => ⟨[], .nil, .nil⟩
  | _ + 1, [], _ :: _, h, _ => by cases (show false = true from h)
  | _ + 1, _ :: _, [], h, _ => by cases (show false = true from h)
  | f + 1, d :: ds, u :: us, h, b => by
    simp only [kReps, Bool.and_eq_true] at h
    simp only [bndL, Bool.and_eq_true] at b
    obtain ⟨vs, r1, r2⟩ := kReps_ok (f := f) h.2 b.2
    have one : ∃ v, RelV v u ∧ RelD K g d v := by
      cases f with
      | zero => have z := h.1; simp [kRep] at z
      | succ f =>
        have h1 := h.1
        cases d with
        | non => cases u <;> first | exact ⟨.non, rfl, rfl⟩ | (simp [kRep] at h1)
        | bl x => cases u <;> first | (simp [kRep] at h1; subst h1; exact ⟨.bl _, rfl, rfl⟩) | (simp [kRep] at h1)
        | int x => cases u <;> first | (simp [kRep] at h1; subst h1; exact ⟨.int _, ⟨_, rfl⟩, rfl⟩) | (simp [kRep] at h1)
        | str x => cases u <;> first | (simp [kRep] at h1; subst h1; exact ⟨.str _, ⟨_, rfl⟩, rfl⟩) | (simp [kRep] at h1)
        | ty x => cases u <;> first | (simp [kRep] at h1; subst h1; exact ⟨.ty _, rfl, rfl⟩) | (simp [kRep] at h1)
        | con x => cases u <;> first | (simp [kRep] at h1; subst h1; exact ⟨.ref _, rfl, rfl⟩) | (simp [kRep] at h1)
        | tup x => cases u <;> first | exact ⟨.ref _, rfl, ⟨by simpa [bnd] using b.1, _, rfl, .inr ⟨_, h1⟩⟩⟩ | (simp [kRep] at h1)
        | fz x => cases u <;> first | exact ⟨.ref _, rfl, ⟨by simpa [bnd] using b.1, _, rfl, .inr ⟨_, h1⟩⟩⟩ | (simp [kRep] at h1)
        | lst x => cases u <;> simp [kRep] at h1
        | dic x y => cases u <;> simp [kRep] at h1
        | ins x y z => cases u <;> simp [kRep] at h1
        | ref x => cases u <;> simp [kRep] at h1
    obtain ⟨v, q1, q2⟩ := one
    exact ⟨v :: vs, .cons q1 r1, .cons q2 r2⟩
theorem kTup_ok {f : Nat} {ds : List D} {a : Addr} (h : kRep K f (.tup ds) (.ref a) = true) (b : bndL g.sz ds = true) : ∃ vs, SqT K H a vs ∧ RelDs K g ds vs := by
  cases f with
  | zero => simp [kRep] at h
  | succ f =>
    unfold kRep at h
    split at h
    · rename_i c dd its n sl e
      simp only [Bool.and_eq_true, decide_eq_true_eq] at h
      obtain ⟨vs, r1, r2⟩ := kReps_ok h.2.2 b
      exact ⟨vs, .inr ⟨_, its, n, e, by rw [h.1], rfl, h.2.1, r1⟩, r2⟩
    · cases h
theorem kLst_ok {f : Nat} {ds : List D} {a : Addr} (h : kRep K f (.fz ds) (.ref a) = true) (b : bndL g.sz ds = true) : ∃ vs, SqL K H a vs ∧ RelDs K g ds vs := by
  cases f with
  | zero => simp [kRep] at h
  | succ f =>
    unfold kRep at h
    split at h
    · rename_i c its n sl e
      simp only [Bool.and_eq_true, decide_eq_true_eq] at h
      obtain ⟨vs, r1, r2⟩ := kReps_ok h.2.2 b
      exact ⟨vs, .inr ⟨_, its, n, e, by rw [h.1], rfl, rfl, h.2.1, r1⟩, r2⟩
    · cases h

/-! ### sequences -/
theorem RelDs.append : ∀ {xs ys : List D} {us ws : List V}, RelDs K g xs us → RelDs K g ys ws → RelDs K g (xs ++ ys) (us ++ ws)
  | _, _, _, _, .nil, s => s
  | _, _, _, _, .cons r t, s => .cons r (RelDs.append t s)
theorem RelDs.take : ∀ {xs : List D} {us : List V} (n : Nat), RelDs K g xs us → RelDs K g (xs.take n) (us.take n)
  | _, _, 0, _ => .nil
  | _, _, _ + 1, .nil => .nil
  | _, _, n + 1, .cons r t => .cons r (RelDs.take n t)
theorem RelDs.drop : ∀ {xs : List D} {us : List V} (n : Nat), RelDs K g xs us → RelDs K g (xs.drop n) (us.drop n)
  | _, _, 0, r => r
  | _, _, _ + 1, .nil => .nil
  | _, _, n + 1, .cons _ t => RelDs.drop n t
theorem RelDs.get : ∀ {xs : List D} {us : List V} {i : Nat} {x : D}, RelDs K g xs us → xs[i]? = some x → ∃ u, us[i]? = some u ∧ RelD K g x u
  | _, _, _, _, .nil, e => by simp at e
  | _, _, 0, x, .cons r _, e => by simp at e; subst e; exact ⟨_, rfl, r⟩
  | _, _, i + 1, x, .cons _ t, e => by
    obtain ⟨u, h1, h2⟩ := RelDs.get (i := i) (x := x) t (by simpa using e)
    exact ⟨u, by simpa using h1, h2⟩
theorem RelDs.set {x : D} {u : V} (r : RelD K g x u) : ∀ {xs : List D} {us : List V} (i : Nat), RelDs K g xs us → RelDs K g (xs.set i x) (us.set i u)
  | _, _, _, .nil => .nil
  | _, _, 0, .cons _ t => .cons r t
  | _, _, i + 1, .cons q t => .cons q (RelDs.set r i t)
theorem RelDs.rep : ∀ (n : Nat) {xs : List D} {us : List V}, RelDs K g xs us → RelDs K g (List.replicate n xs).flatten (List.replicate n us).flatten
  | 0, _, _, _ => .nil
  | n + 1, _, _, r => by
    rw [List.replicate_succ, List.replicate_succ, List.flatten_cons, List.flatten_cons]
    exact r.append (RelDs.rep n r)
def lstOf (S : Sto) : D → Option (List D)
  | .lst xs => some xs
  | .fz xs => some xs
  | .ref n => (match S[n]? with | some (.lst xs) => some xs | _ => none)
  | _ => none
/-- .. of a list that the call has made -/
def lstMOf (S : Sto) : D → Option (List D)
  | .lst xs => some xs
  | .ref n => (match S[n]? with | some (.lst xs) => some xs | _ => none)
  | _ => none
def tupOf : D → Option (List D)
  | .tup xs => some xs
  | _ => none
theorem tup_view {xs : List D} {v : V} (l : Rl K g S H) (r : RelD K g (.tup xs) v) : ∃ a vs, v = .ref a ∧ SqT K H a vs ∧ RelDs K g xs vs := by
  obtain ⟨b, a, rfl, q | ⟨f, q⟩⟩ := r
  · obtain ⟨vs, e, rs⟩ := l.imm a _ q
    exact ⟨a, vs, rfl, .inl (.inl e), rs⟩
  · obtain ⟨vs, e, rs⟩ := kTup_ok (H := H) q b
    exact ⟨a, vs, rfl, e, rs⟩
theorem lst_view {d : D} {xs : List D} {v : V} (l : Rl K g S H) (r : RelD K g d v) (e : lstOf S d = some xs) : ∃ a vs, v = .ref a ∧ SqL K H a vs ∧ RelDs K g xs vs := by
  cases d with
  | lst ys =>
    cases (Option.some.inj e : ys = xs)
    obtain ⟨b, a, rfl, q⟩ := r
    obtain ⟨vs, e, rs⟩ := l.imm a _ q
    exact ⟨a, vs, rfl, .inl (.inl e), rs⟩
  | fz ys =>
    cases (Option.some.inj e : ys = xs)
    obtain ⟨b, a, rfl, q | ⟨f, q⟩⟩ := r
    · obtain ⟨vs, e, rs⟩ := l.imm a _ q
      exact ⟨a, vs, rfl, .inl e, rs⟩
    · obtain ⟨vs, e, rs⟩ := kLst_ok (H := H) q b
      exact ⟨a, vs, rfl, e, rs⟩
  | ref n =>
    unfold lstOf at e
    dsimp only at e
    split at e
    · rename_i ys e2
      cases e
      obtain ⟨m1, vs, e3, rs⟩ := l.sto n _ e2 (by intro z; cases z)
      exact ⟨g.m n, vs, r.2, .inl (.inl e3), rs⟩
    · cases e
  | _ => cases e
theorem lstM_view {d : D} {xs : List D} {v : V} (l : Rl K g S H) (r : RelD K g d v) (e : lstMOf S d = some xs) : ∃ a vs, v = .ref a ∧ H a = some (.lst vs) ∧ RelDs K g xs vs := by
  cases d with
  | lst ys =>
    cases (Option.some.inj e : ys = xs)
    obtain ⟨b, a, rfl, q⟩ := r
    obtain ⟨vs, e, rs⟩ := l.imm a _ q
    exact ⟨a, vs, rfl, e, rs⟩
  | ref n =>
    unfold lstMOf at e
    dsimp only at e
    split at e
    · rename_i ys e2
      cases e
      obtain ⟨m1, vs, e3, rs⟩ := l.sto n _ e2 (by intro z; cases z)
      exact ⟨g.m n, vs, r.2, e3, rs⟩
    · cases e
  | _ => cases e
/-- a new tuple by value -/
theorem Rl.newTup {ds : List D} {vs : List V} {p : Addr} (l : Rl K g S H) (hp : H p = none) (r : RelDs K g ds vs) :
    ∃ g', Ext g g' ∧ Rl K g' S (upd H p (.tup vs)) ∧ RelD K g' (.tup ds) (.ref p) :=
  ⟨g.put p (.tup ds), Gh.put_ext (l.free hp), l.put hp ⟨vs, upd_same, r⟩, r.bnd, p, rfl, .inl Gh.put_at⟩
/-- a new list by value -/
theorem Rl.newLst {ds : List D} {vs : List V} {p : Addr} (l : Rl K g S H) (hp : H p = none) (r : RelDs K g ds vs) :
    ∃ g', Ext g g' ∧ Rl K g' S (upd H p (.lst vs)) ∧ RelD K g' (.lst ds) (.ref p) :=
  ⟨g.put p (.lst ds), Gh.put_ext (l.free hp), l.put hp ⟨vs, upd_same, r⟩, r.bnd, p, rfl, Gh.put_at⟩
/-- a new list of the store -/
theorem Rl.newSto {ds : List D} {vs : List V} {p : Addr} (l : Rl K g S H) (hp : H p = none) (r : RelDs K g ds vs) :
    ∃ g', Ext g g' ∧ Rl K g' (S ++ [.lst ds]) (upd H p (.lst vs)) ∧ RelD K g' (.ref S.length) (.ref p) :=
  ⟨g.add p, Gh.add_ext, l.add hp ⟨vs, upd_same, r⟩, by show S.length < g.sz + 1; rw [l.sz]; exact Nat.lt_succ_self _, by rw [← l.sz, Gh.add_m]⟩
end

/-! ### operations -/
/-- an operation by values is this one of data -/
def UOp (K : PySem.W.Frag) (r : R2) (o : Sto → D → D → Option D) : Prop :=
  ∀ g S H x y d xv yv (Q : VK), Rl K g S H → RelD K g x xv → RelD K g y yv → o S x y = some d → (∀ g' H' v, Ext g g' → Rl K g' S H' → RelD K g' d v → Q v H') → r xv yv H Q
def orO (o o' : Sto → D → D → Option D) : Sto → D → D → Option D := fun S x y => match o S x y with
  | some d => some d
  | none => o' S x y
theorem UOp.or {K : PySem.W.Frag} {r r' : R2} {o o' : Sto → D → D → Option D} (h : UOp K r o) (h' : UOp K r' o') : UOp K (fun x y H Q => r x y H Q ∨ r' x y H Q) (orO o o') := by
  intro g S H x y d xv yv Q l rx ry e k
  unfold orO at e
  cases q : o S x y with
  | some z =>
    rw [q] at e
    exact .inl (h g S H x y d xv yv Q l rx ry (by rw [q]; exact e) k)
  | none =>
    rw [q] at e
    exact .inr (h' g S H x y d xv yv Q l rx ry e k)
section
variable {K : PySem.W.Frag}
def oInt (C : Int → Int → Bool) (f : Int → Int → Int) : Sto → D → D → Option D := fun _ x y => match x, y with
  | .int i, .int j => if C i j then some (.int (f i j)) else none
  | _, _ => none
theorem u_int {C : Int → Int → Prop} {C' : Int → Int → Bool} {f : Int → Int → Int} (hC : ∀ i j, C' i j = true → C i j) : UOp K (rI C fun i j => .int (f i j)) (oInt C' f) := by
  intro g S H x y d xv yv Q l rx ry e k
  cases x <;> cases y <;> try (simp [oInt] at e; done)
  rename_i i j
  cases rx
  cases ry
  simp only [oInt] at e
  split at e
  · rename_i h
    cases e
    exact ⟨i, j, rfl, rfl, hC i j h, k g H _ (.refl g) l rfl⟩
  · cases e
def oInt0 (f : Int → Int → Int) : Sto → D → D → Option D := fun _ x y => match x, y with
  | .int i, .int j => some (.int (f i j))
  | _, _ => none
theorem u_int0 {f : Int → Int → Int} : UOp K (rI0 fun i j => .int (f i j)) (oInt0 f) := by
  intro g S H x y d xv yv Q l rx ry e k
  cases x <;> cases y <;> try (simp [oInt0] at e; done)
  cases rx
  cases ry
  cases e
  exact ⟨_, _, rfl, rfl, k g H _ (.refl g) l rfl⟩
def oIntB (f : Int → Int → Bool) : Sto → D → D → Option D := fun _ x y => match x, y with
  | .int i, .int j => some (.bl (f i j))
  | _, _ => none
theorem u_intB {f : Int → Int → Bool} : UOp K (rI0 fun i j => .bl (f i j)) (oIntB f) := by
  intro g S H x y d xv yv Q l rx ry e k
  cases x <;> cases y <;> try (simp [oIntB] at e; done)
  cases rx
  cases ry
  cases e
  exact ⟨_, _, rfl, rfl, k g H _ (.refl g) l rfl⟩
/-- texts joined -/
def oCatS : Sto → D → D → Option D := fun _ x y => match x, y with
  | .str a, .str b => if a.length + b.length ≤ sizeLine then some (.str (a ++ b)) else none
  | _, _ => none
theorem u_catS : UOp K (fun x y H Q => ∃ i j, x = .str i ∧ y = .str j ∧ i.length + j.length ≤ sizeLine ∧ Q (.str (i ++ j)) H) oCatS := by
  intro g S H x y d xv yv Q l rx ry e k
  cases x <;> cases y <;> try (simp [oCatS] at e; done)
  cases rx
  cases ry
  simp only [oCatS] at e
  split at e
  · rename_i h
    cases e
    exact ⟨_, _, rfl, rfl, h, k g H _ (.refl g) l rfl⟩
  · cases e
def oCatT : Sto → D → D → Option D := fun _ x y => match x, y with
  | .tup a, .tup b => if a.length + b.length ≤ sizeLine then some (.tup (a ++ b)) else none
  | _, _ => none
theorem u_catT : UOp K (rCatA K) oCatT := by
  intro g S H x y d xv yv Q l rx ry e k
  cases x <;> cases y <;> try (simp [oCatT] at e; done)
  simp only [oCatT] at e
  split at e
  · rename_i xs ys h
    cases e
    obtain ⟨a, vs, rfl, sa, ra⟩ := tup_view l rx
    obtain ⟨b, us, rfl, sb, rb⟩ := tup_view l ry
    refine ⟨a, b, vs, us, rfl, rfl, sa, sb, by rw [← ra.length, ← rb.length]; exact h, fun z => ?_, fun _ z => ?_, fun _ _ p hp => ?_⟩
    · subst z; cases ra
      exact k g H _ (.refl g) l ry
    · subst z; cases rb
      refine k g H _ (.refl g) l ?_
      rw [List.append_nil]; exact rx
    · obtain ⟨g', e1, l1, r1⟩ := l.newTup hp (RelDs.append ra rb)
      exact k g' _ _ e1 l1 r1
  · cases e
def oCatL : Sto → D → D → Option D := fun S x y => match lstMOf S x, lstMOf S y with
  | some a, some b => if a.length + b.length ≤ sizeLine then some (.lst (a ++ b)) else none
  | _, _ => none
theorem u_catL : UOp K rCat oCatL := by
  intro g S H x y d xv yv Q l rx ry e k
  simp only [oCatL] at e
  split at e
  · rename_i xs ys h1 h2
    split at e
    · rename_i h
      cases e
      obtain ⟨a, vs, rfl, sa, ra⟩ := lstM_view l rx h1
      obtain ⟨b, us, rfl, sb, rb⟩ := lstM_view l ry h2
      refine ⟨a, b, vs, us, rfl, rfl, sa, sb, by rw [← ra.length, ← rb.length]; exact h, fun p hp => ?_⟩
      obtain ⟨g', e1, l1, r1⟩ := l.newLst hp (ra.append rb)
      exact k g' _ _ e1 l1 r1
    · cases e
  · cases e
def oRepL : Sto → D → D → Option D := fun S x y => match lstMOf S x, y with
  | some a, .int k => if -(2 ^ 63) ≤ k ∧ k < 2 ^ 63 ∧ a.length * k.toNat ≤ sizeLine then some (.lst (List.replicate k.toNat a).flatten) else none
  | _, _ => none
theorem u_repL : UOp K rRep oRepL := by
  intro g S H x y d xv yv Q l rx ry e k
  simp only [oRepL] at e
  split at e
  · rename_i xs k' h1
    split at e
    · rename_i h
      cases e
      cases ry
      obtain ⟨a, vs, rfl, sa, ra⟩ := lstM_view l rx h1
      refine ⟨a, k', vs, rfl, rfl, sa, h.1, h.2.1, by rw [← ra.length]; exact h.2.2, fun p hp => ?_⟩
      obtain ⟨g', e1, l1, r1⟩ := l.newLst hp (ra.rep k'.toNat)
      exact k g' _ _ e1 l1 r1
    · cases e
  · cases e
def oRepT : Sto → D → D → Option D := fun _ x y => match x, y with
  | .tup a, .int k => if 1 ≤ a.length ∧ 2 ≤ k ∧ k ≤ 1000 ∧ a.length ≤ 1000 then some (.tup (List.replicate k.toNat a).flatten) else none
  | _, _ => none
theorem u_repT : UOp K (rRepT K) oRepT := by
  intro g S H x y d xv yv Q l rx ry e k
  cases x <;> cases y <;> try (simp [oRepT] at e; done)
  simp only [oRepT] at e
  split at e
  · rename_i xs k' h
    cases e
    cases ry
    obtain ⟨a, vs, rfl, sa, ra⟩ := tup_view l rx
    refine ⟨a, k', vs, rfl, rfl, sa, fun z => ?_, h.2.1, h.2.2.1, by rw [← ra.length]; exact h.2.2.2, fun p hp => ?_⟩
    · subst z
      have z := ra.length
      rw [List.length_nil] at z
      omega
    · obtain ⟨g', e1, l1, r1⟩ := l.newTup hp (ra.rep k'.toNat)
      exact k g' _ _ e1 l1 r1
  · cases e
/-! the operators -/
def oAdd : Sto → D → D → Option D := orO (oInt0 fun i j => i + j) (orO oCatS (orO oCatT oCatL))
def oSub : Sto → D → D → Option D := oInt0 fun i j => i - j
def oMul : Sto → D → D → Option D := orO (oInt (fun i j => decide (i.natAbs.log2 + j.natAbs.log2 < 1000000)) fun i j => i * j) (orO oRepL oRepT)
def oMod : Sto → D → D → Option D := oInt (fun _ j => decide (0 < j)) fun i j => i % j
def oDiv : Sto → D → D → Option D := oInt (fun _ j => decide (0 < j) && decide (j.natAbs.log2 < 9000)) fun i j => i / j
def oPow : Sto → D → D → Option D := oInt (fun i j => decide (0 ≤ j) && (decide (j ≤ 1000000) && decide (i.natAbs < 2 ^ 64))) fun i j => i ^ j.toNat
/-- an operator's rule: of values, of data -/
structure BinU (X : Cx) (op : Operator) (o : Sto → D → D → Option D) : Prop where
  ex : ∃ r, OpR X (binaryOp op) r ∧ UOp X.K r o
end
section
variable {X : Cx}
theorem b_add : BinU X .Add oAdd := ⟨_, op_add.or (op_add_str.or (op_catA.or op_cat)), u_int0.or (u_catS.or (u_catT.or u_catL))⟩
theorem b_sub : BinU X .Sub oSub := ⟨_, op_sub, u_int0⟩
theorem b_mul : BinU X .Mult oMul := ⟨_, op_mulW.or (op_rep.or op_repT), (u_int (C := CMulW) fun i j h => by unfold CMulW; exact of_decide_eq_true h).or (u_repL.or u_repT)⟩
theorem b_mod : BinU X .Mod oMod := ⟨_, op_mod, u_int fun i j h => of_decide_eq_true h⟩
theorem b_div : BinU X .FloorDiv oDiv := ⟨_, op_fdivW, u_int (C := CDivW) fun i j h => by
  simp only [Bool.and_eq_true, decide_eq_true_eq] at h; exact h⟩
theorem b_pow : BinU X .Pow oPow := ⟨_, op_pow, u_int (C := CPow) fun i j h => by
  simp only [Bool.and_eq_true, decide_eq_true_eq] at h; exact h⟩
end
/-! ### comparisons -/
def flatD : D → Option V
  | .non => some .non
  | .bl b => some (.bl b)
  | .int i => some (.int i)
  | .str x => some (.str x)
  | _ => none
theorem flat_view {K : PySem.W.Frag} {g : Gh} {d : D} {v w : V} (r : RelD K g d v) (e : flatD d = some w) : v = w := by
  cases d <;> simp only [flatD, Option.some.injEq, reduceCtorEq] at e <;> (subst e; exact r)
def boolO (f : Sto → D → D → Option Bool) : Sto → D → D → Option D := fun S x y => (f S x y).map .bl
mutual
def pyD : D → Option PyData
  | .non => some .none
  | .bl b => some (.bool b)
  | .int i => some (.int i)
  | .str x => some (.str x)
  | .tup xs => (pyDs xs).map .tuple
  | .lst xs => (pyDs xs).map .list
  | .fz xs => (pyDs xs).map .list
  | _ => none
def pyDs : List D → Option (List PyData)
  | [] => some []
  | x :: r => match pyD x, pyDs r with
    | some a, some b => some (a :: b)
    | _, _ => none
end
def pyV (S : Sto) : D → Option PyData
  | .ref n => (match S[n]? with | some (.lst xs) => (pyDs xs).map .list | _ => none)
  | d => pyD d
section
variable {K : PySem.W.Frag} {g : Gh} {S : Sto} {H : Hp}
mutual
theorem pyD_dp (l : Rl K g S H) : ∀ (d : D) (v : V) (p : PyData), RelD K g d v → pyD d = some p → Dp K H v p
  | .non, _, _, r, e => by cases e; cases r; exact .non
  | .bl b, _, _, r, e => by cases e; cases r; exact .bl b
  | .int i, _, _, r, e => by cases e; cases r; exact .int i
  | .str x, _, _, r, e => by cases e; cases r; exact .str x
  | .tup xs, v, p, r, e => by
    obtain ⟨q, e1, rfl⟩ := Option.map_eq_some_iff.mp (show (pyDs xs).map .tuple = some p by simpa only [pyD] using e)
    obtain ⟨a, vs, rfl, h, rs⟩ := tup_view l r
    exact .tup h (pyDs_dp l xs vs q rs e1)
  | .lst xs, v, p, r, e => by
    obtain ⟨q, e1, rfl⟩ := Option.map_eq_some_iff.mp (show (pyDs xs).map .list = some p by simpa only [pyD] using e)
    obtain ⟨a, vs, rfl, h, rs⟩ := lst_view l r rfl
    exact .lst h (pyDs_dp l xs vs q rs e1)
  | .fz xs, v, p, r, e => by
    obtain ⟨q, e1, rfl⟩ := Option.map_eq_some_iff.mp (show (pyDs xs).map .list = some p by simpa only [pyD] using e)
    obtain ⟨a, vs, rfl, h, rs⟩ := lst_view l r rfl
    exact .lst h (pyDs_dp l xs vs q rs e1)
  | .ty _, _, _, _, e => by simp [pyD] at e
  | .con _, _, _, _, e => by simp [pyD] at e
  | .dic _ _, _, _, _, e => by simp [pyD] at e
  | .ins _ _ _, _, _, _, e => by simp [pyD] at e
  | .ref _, _, _, _, e => by simp [pyD] at e
theorem pyDs_dp (l : Rl K g S H) : ∀ (ds : List D) (vs : List V) (ps : List PyData), RelDs K g ds vs → pyDs ds = some ps → DpAll K H vs ps
  | [], _, _, r, e => by cases r; simp only [pyDs, Option.some.injEq] at e; subst e; exact .nil
  | x :: xs, _, ps, r, e => by
    cases r with
    | cons r1 r2 =>
      simp only [pyDs] at e
      split at e
      · rename_i a b e1 e2
        cases e
        exact .cons (pyD_dp l x _ a r1 e1) (pyDs_dp l xs _ b r2 e2)
      · cases e
end
theorem pyV_dp {d : D} {v : V} {p : PyData} (l : Rl K g S H) (r : RelD K g d v) (e : pyV S d = some p) : Dp K H v p := by
  cases d with
  | ref n =>
    simp only [pyV] at e
    split at e
    · rename_i xs h
      obtain ⟨q, e1, rfl⟩ := Option.map_eq_some_iff.mp e
      obtain ⟨a, vs, rfl, hq, rs⟩ := lst_view (d := .ref n) (xs := xs) l r (by unfold lstOf; simp only [h])
      exact .lst hq (pyDs_dp l xs vs q rs e1)
    · cases e
  | _ => exact pyD_dp l _ _ _ r e
end
/-- ==: of single values, of data -/
def eqFB : Sto → D → D → Option Bool := fun _ x y => match flatD x, flatD y with
  | some a, some b => if scal a b = true then some (decide (a = b)) else none
  | _, _ => none
def eqPB : Sto → D → D → Option Bool := fun S x y => match pyV S x, pyV S y with
  | some a, some b => if SeqAt.shaped a = true ∧ SeqAt.shaped b = true then some (PyData.eqv a b) else none
  | _, _ => none
def orB (f f' : Sto → D → D → Option Bool) : Sto → D → D → Option Bool := fun S x y => match f S x y with
  | some d => some d
  | none => f' S x y
def eqB : Sto → D → D → Option Bool := orB eqFB eqPB
def ltB : Sto → D → D → Option Bool := fun _ x y => match x, y with
  | .int i, .int j => some (decide (i < j))
  | .str i, .str j => some (decide (i.cps.toList < j.cps.toList))
  | _, _ => none
def swapB (f : Sto → D → D → Option Bool) : Sto → D → D → Option Bool := fun S x y => f S y x
def notB (f : Sto → D → D → Option Bool) : Sto → D → D → Option Bool := fun S x y => (f S x y).map not
/-- a comparison by values is this one of data -/
def UCmp (K : PySem.W.Frag) (r : R2) (o : Sto → D → D → Option Bool) : Prop :=
  ∀ g S H x y b xv yv (Q : VK), Rl K g S H → RelD K g x xv → RelD K g y yv → o S x y = some b → Q (.bl b) H → r xv yv H Q
theorem UCmp.or {K : PySem.W.Frag} {r r' : R2} {o o' : Sto → D → D → Option Bool} (h : UCmp K r o) (h' : UCmp K r' o') : UCmp K (fun x y H Q => r x y H Q ∨ r' x y H Q) (orB o o') := by
  intro g S H x y d xv yv Q l rx ry e k
  unfold orB at e
  cases q : o S x y with
  | some z =>
    rw [q] at e
    exact .inl (h g S H x y d xv yv Q l rx ry (by rw [q]; exact e) k)
  | none =>
    rw [q] at e
    exact .inr (h' g S H x y d xv yv Q l rx ry e k)
structure CmpU (X : Cx) (op : CmpOp) (o : Sto → D → D → Option Bool) : Prop where
  ex : ∃ r, OpR X (compareOp op) r ∧ UCmp X.K r o
section
variable {X : Cx} {K : PySem.W.Frag}
theorem u_eqF : UCmp K rEq eqFB := by
  intro g S H x y b xv yv Q l rx ry e k
  simp only [eqFB] at e
  split at e
  · rename_i a c h1 h2
    split at e
    · rename_i h
      cases e
      rw [flat_view rx h1, flat_view ry h2]
      exact ⟨h, k⟩
    · cases e
  · cases e
theorem u_neF : UCmp K rNe (notB eqFB) := by
  intro g S H x y b xv yv Q l rx ry e k
  simp only [notB, eqFB] at e
  split at e
  · rename_i a c h1 h2
    split at e
    · rename_i h
      cases e
      rw [flat_view rx h1, flat_view ry h2]
      exact ⟨h, k⟩
    · cases e
  · cases e
theorem u_eqP : UCmp K (rEqD K) eqPB := by
  intro g S H x y b xv yv Q l rx ry e k
  simp only [eqPB] at e
  split at e
  · rename_i a c h1 h2
    split at e
    · rename_i h
      cases e
      exact ⟨a, c, pyV_dp l rx h1, pyV_dp l ry h2, h.1, h.2, k⟩
    · cases e
  · cases e
theorem u_neP : UCmp K (rNeD K) (notB eqPB) := by
  intro g S H x y b xv yv Q l rx ry e k
  simp only [notB, eqPB] at e
  split at e
  · rename_i a c h1 h2
    split at e
    · rename_i h
      cases e
      exact ⟨a, c, pyV_dp l rx h1, pyV_dp l ry h2, h.1, h.2, k⟩
    · cases e
  · cases e
theorem notB_or (f f' : Sto → D → D → Option Bool) : notB (orB f f') = orB (notB f) (notB f') := by
  funext S x y
  unfold notB orB
  cases h : f S x y <;> simp [h]
theorem c_eq (hu : X.A.units + 64 < cLine) : CmpU X .Eq eqB := ⟨_, op_eq.or (op_eqD hu), u_eqF.or u_eqP⟩
theorem c_ne (hu : X.A.units + 64 < cLine) : CmpU X .NotEq (notB eqB) := ⟨_, op_ne.or (op_neD hu), by unfold eqB; rw [notB_or]; exact u_neF.or u_neP⟩
def rStr (p : Str → Str → Bool) : R2 := fun x y H Q => ∃ i j, x = .str i ∧ y = .str j ∧ Q (.bl (p i j)) H
theorem u_lt : UCmp K (fun x y H Q => rI0 (fun i j => .bl (decide (i < j))) x y H Q ∨ rStr (fun i j => decide (i.cps.toList < j.cps.toList)) x y H Q) ltB := by
  intro g S H x y b xv yv Q l rx ry e k
  cases x <;> cases y <;> try (simp [ltB] at e; done)
  all_goals (cases rx; cases ry; cases e)
  · exact .inl ⟨_, _, rfl, rfl, k⟩
  · exact .inr ⟨_, _, rfl, rfl, k⟩
theorem u_gt : UCmp K (fun x y H Q => rI0 (fun i j => .bl (decide (j < i))) x y H Q ∨ rStr (fun i j => decide (j.cps.toList < i.cps.toList)) x y H Q) (swapB ltB) := by
  intro g S H x y b xv yv Q l rx ry e k
  cases x <;> cases y <;> try (simp [ltB, swapB] at e; done)
  all_goals (cases rx; cases ry; cases e)
  · exact .inl ⟨_, _, rfl, rfl, k⟩
  · exact .inr ⟨_, _, rfl, rfl, k⟩
theorem u_le : UCmp K (fun x y H Q => rI0 (fun i j => .bl (decide (i ≤ j))) x y H Q ∨ rStr (fun i j => !decide (j.cps.toList < i.cps.toList)) x y H Q) (notB (swapB ltB)) := by
  intro g S H x y b xv yv Q l rx ry e k
  cases x <;> cases y <;> try (simp [ltB, swapB, notB] at e; done)
  all_goals (cases rx; cases ry; cases e)
  · rename_i i j
    refine .inl ⟨_, _, rfl, rfl, ?_⟩
    have z : decide (i ≤ j) = !decide (j < i) := by
      by_cases h : j < i
      · simp [h]
      · simp [h]; omega
    show Q (.bl (decide (i ≤ j))) H
    rw [z]; exact k
  · exact .inr ⟨_, _, rfl, rfl, k⟩
theorem u_ge : UCmp K (fun x y H Q => rI0 (fun i j => .bl (decide (j ≤ i))) x y H Q ∨ rStr (fun i j => !decide (i.cps.toList < j.cps.toList)) x y H Q) (notB ltB) := by
  intro g S H x y b xv yv Q l rx ry e k
  cases x <;> cases y <;> try (simp [ltB, notB] at e; done)
  all_goals (cases rx; cases ry; cases e)
  · rename_i i j
    refine .inl ⟨_, _, rfl, rfl, ?_⟩
    have z : decide (j ≤ i) = !decide (i < j) := by
      by_cases h : i < j
      · simp [h]
      · simp [h]; omega
    show Q (.bl (decide (j ≤ i))) H
    rw [z]; exact k
  · exact .inr ⟨_, _, rfl, rfl, k⟩
theorem c_lt : CmpU X .Lt ltB := ⟨_, op_lt.or op_lt_str, u_lt⟩
theorem c_gt : CmpU X .Gt (swapB ltB) := ⟨_, op_gt.or op_gt_str, u_gt⟩
theorem c_le : CmpU X .LtE (notB (swapB ltB)) := ⟨_, op_le.or op_le_str, u_le⟩
theorem c_ge : CmpU X .GtE (notB ltB) := ⟨_, op_ge.or op_ge_str, u_ge⟩
/-- in: a text, a list or tuple of single values, of data -/
def inSB : Sto → D → D → Option Bool := fun _ x y => match x, y with
  | .str a, .str b => some (!(Builtin.Str.occurrences b a 0 b.length 1).isEmpty)
  | _, _ => none
def seqOf (S : Sto) : D → Option (List D)
  | .tup xs => some xs
  | d => lstOf S d
theorem seq_view {g : Gh} {S : Sto} {H : Hp} {d : D} {xs : List D} {v : V} (l : Rl K g S H) (r : RelD K g d v) (e : seqOf S d = some xs) : ∃ a vs, v = .ref a ∧ (SqL K H a vs ∨ SqT K H a vs) ∧ RelDs K g xs vs := by
  cases d with
  | tup ys =>
    cases (Option.some.inj e : ys = xs)
    obtain ⟨a, vs, h1, h2, h3⟩ := tup_view l r
    exact ⟨a, vs, h1, .inr h2, h3⟩
  | _ =>
    obtain ⟨a, vs, h1, h2, h3⟩ := lst_view l r e
    exact ⟨a, vs, h1, .inl h2, h3⟩
def flatDs : List D → Option (List V)
  | [] => some []
  | x :: r => match flatD x, flatDs r with
    | some a, some b => some (a :: b)
    | _, _ => none
theorem flats_view {g : Gh} : ∀ {ds : List D} {vs ws : List V}, RelDs K g ds vs → flatDs ds = some ws → vs = ws
  | _, _, _, .nil, e => by cases e; rfl
  | _, _, _, .cons r t, e => by
    simp only [flatDs] at e
    split at e
    · rename_i a b h1 h2
      cases e
      rw [flat_view r h1, flats_view t h2]
    · cases e
def inFB : Sto → D → D → Option Bool := fun S x y => match flatD x, seqOf S y with
  | some a, some ys => (match flatDs ys with
    | some bs => if flatV a = true ∧ bs.all flatV = true then some (inV a bs) else none
    | none => none)
  | _, _ => none
def inB : Sto → D → D → Option Bool := orB inSB inFB
theorem u_inS : UCmp K (fun x y H Q => ∃ i j, x = .str i ∧ y = .str j ∧ Q (.bl (!(Builtin.Str.occurrences j i 0 j.length 1).isEmpty)) H) inSB := by
  intro g S H x y b xv yv Q l rx ry e k
  cases x <;> cases y <;> try (simp [inSB] at e; done)
  cases rx; cases ry; cases e
  exact ⟨_, _, rfl, rfl, k⟩
theorem u_notinS : UCmp K (fun x y H Q => ∃ i j, x = .str i ∧ y = .str j ∧ Q (.bl (!(!(Builtin.Str.occurrences j i 0 j.length 1).isEmpty))) H) (notB inSB) := by
  intro g S H x y b xv yv Q l rx ry e k
  cases x <;> cases y <;> try (simp [inSB, notB] at e; done)
  cases rx; cases ry; cases e
  exact ⟨_, _, rfl, rfl, k⟩
theorem u_inF : UCmp K (rIn K false) inFB := by
  intro g S H x y b xv yv Q l rx ry e k
  simp only [inFB] at e
  split at e
  · rename_i a ys h1 h2
    split at e
    · rename_i bs h3
      split at e
      · rename_i h
        cases e
        obtain ⟨p, vs, rfl, hs, rs⟩ := seq_view l ry h2
        have e3 := flats_view rs h3
        subst e3
        rw [flat_view rx h1]
        exact ⟨p, vs, rfl, hs, h.1, h.2, k⟩
      · cases e
    · cases e
  · cases e
theorem u_notinF : UCmp K (rIn K true) (notB inFB) := by
  intro g S H x y b xv yv Q l rx ry e k
  simp only [notB, inFB] at e
  split at e
  · rename_i a ys h1 h2
    split at e
    · rename_i bs h3
      split at e
      · rename_i h
        cases e
        obtain ⟨p, vs, rfl, hs, rs⟩ := seq_view l ry h2
        have e3 := flats_view rs h3
        subst e3
        rw [flat_view rx h1]
        exact ⟨p, vs, rfl, hs, h.1, h.2, k⟩
      · cases e
    · cases e
  · cases e
theorem c_in : CmpU X .In inB := ⟨_, op_in_str.or op_in_seq, u_inS.or u_inF⟩
theorem c_notin : CmpU X .NotIn (notB inB) := ⟨_, op_notin_str.or op_notIn_seq, by unfold inB; rw [notB_or]; exact u_notinS.or u_notinF⟩
/-- is: None on the right, two truth values -/
def isNone : D → Bool
  | .non => true
  | _ => false
theorem isNone_view {g : Gh} {d : D} {v : V} (r : RelD K g d v) : decide (v = .non) = isNone d := by
  cases d with
  | non => cases r; rfl
  | bl b => cases r; rfl
  | int b => cases r; rfl
  | str b => cases r; rfl
  | ty b => cases r; rfl
  | con b => cases r; rfl
  | tup b => obtain ⟨_, a, rfl, _⟩ := r; rfl
  | lst b => obtain ⟨_, a, rfl, _⟩ := r; rfl
  | fz b => obtain ⟨_, a, rfl, _⟩ := r; rfl
  | dic _ b => obtain ⟨_, a, rfl, _⟩ := r; rfl
  | ins _ _ b => obtain ⟨_, a, rfl, _⟩ := r; rfl
  | ref n => obtain ⟨_, rfl⟩ := r; rfl
def isB : Sto → D → D → Option Bool := fun _ x y => match y with
  | .non => some (isNone x)
  | .bl b => (match x with | .bl a => some (decide (a = b)) | _ => none)
  | _ => none
theorem u_is : UCmp K (fun x y H Q => (y = .non ∧ Q (.bl (decide (x = .non))) H) ∨ rIsB x y H Q) isB := by
  intro g S H x y b xv yv Q l rx ry e k
  cases y with
  | non =>
    cases ry; cases e
    exact .inl ⟨rfl, by rw [isNone_view rx]; exact k⟩
  | bl c =>
    cases x <;> try (simp [isB] at e; done)
    cases rx; cases ry; cases e
    exact .inr ⟨_, _, rfl, rfl, k⟩
  | _ => cases e
theorem u_isnot : UCmp K (fun x y H Q => (y = .non ∧ Q (.bl (!decide (x = .non))) H) ∨ rNotB x y H Q) (notB isB) := by
  intro g S H x y b xv yv Q l rx ry e k
  cases y with
  | non =>
    cases ry; cases e
    exact .inl ⟨rfl, by rw [isNone_view rx]; exact k⟩
  | bl c =>
    cases x <;> try (simp [isB, notB] at e; done)
    cases rx; cases ry; cases e
    exact .inr ⟨_, _, rfl, rfl, k⟩
  | _ => cases e
theorem c_is : CmpU X .Is isB := ⟨_, op_isN.or op_isBl, u_is⟩
theorem c_isnot : CmpU X .IsNot (notB isB) := ⟨_, op_notN.or op_notBl, u_isnot⟩
end
end L2.U
namespace L2.U
open PySem PySem.Spec PyProof.Rows

/-- the objects from N on by value -/
def fz (N : Nat) (S : Sto) : Nat → D → D
  | 0, d => d
  | k + 1, .tup xs => .tup (xs.map (fz N S k))
  | k + 1, .lst xs => .lst (xs.map (fz N S k))
  | k + 1, .fz xs => .fz (xs.map (fz N S k))
  | k + 1, .dic ks vs => .dic (ks.map (fz N S k)) (vs.map (fz N S k))
  | k + 1, .ins C ns vs => .ins C ns (vs.map (fz N S k))
  | k + 1, .ref n => if n < N then .ref n else match S[n]? with
    | some (.lst xs) => .lst (xs.map (fz N S k))
    | some (.ins C ns vs) => .ins C ns (vs.map (fz N S k))
    | _ => .ref n
  | _ + 1, d => d
theorem bndL_all {n : Nat} : ∀ {l : List D}, bndL n l = true ↔ ∀ d ∈ l, bnd n d = true
  | [] => by simp [bndL]
  | x :: r => by simp [bndL, bndL_all (l := r)]
section
variable {N : Nat} {S : Sto}
theorem fz_id : ∀ (k : Nat) (d : D), bnd N d = true → fz N S k d = d
  | 0, _, _ => rfl
  | k + 1, d, b => by
    have go : ∀ l : List D, bndL N l = true → l.map (fz N S k) = l := fun l hl => by
      conv => rhs; rw [← List.map_id l]
      exact List.map_congr_left fun x hx => fz_id k x (bndL_all.mp hl x hx)
    cases d with
    | ref n =>
      have h : n < N := by simpa [bnd] using b
      simp [fz, h]
    | tup xs => simp only [fz]; rw [go xs (by simpa [bnd] using b)]
    | lst xs => simp only [fz]; rw [go xs (by simpa [bnd] using b)]
    | fz xs => simp only [fz]; rw [go xs (by simpa [bnd] using b)]
    | dic ks vs =>
      simp only [bnd, Bool.and_eq_true] at b
      simp only [fz]; rw [go ks b.1, go vs b.2]
    | ins C ns vs => simp only [fz]; rw [go vs (by simpa [bnd] using b)]
    | _ => rfl
theorem fz_stable : ∀ (k : Nat) (d : D), bnd N (fz N S k d) = true → fz N S (k + 1) d = fz N S k d
  | 0, d, b => fz_id 1 d b
  | k + 1, d, b => by
    have go : ∀ l : List D, bndL N (l.map (fz N S k)) = true → l.map (fz N S (k + 1)) = l.map (fz N S k) := fun l hl =>
      List.map_congr_left fun x hx => fz_stable k x (bndL_all.mp hl _ (List.mem_map_of_mem hx))
    cases d with
    | ref n =>
      by_cases h : n < N
      · simp [fz, h]
      · have e1 : fz N S (k + 1 + 1) (.ref n) = match S[n]? with
            | some (.lst xs) => .lst (xs.map (fz N S (k + 1)))
            | some (.ins C ns vs) => .ins C ns (vs.map (fz N S (k + 1)))
            | _ => .ref n := by rw [fz, if_neg h]
        have e2 : fz N S (k + 1) (.ref n) = match S[n]? with
            | some (.lst xs) => .lst (xs.map (fz N S k))
            | some (.ins C ns vs) => .ins C ns (vs.map (fz N S k))
            | _ => .ref n := by rw [fz, if_neg h]
        rw [e2] at b
        rw [e1, e2]
        cases q : S[n]? with
        | none => rfl
        | some o =>
          rw [q] at b
          cases o with
          | lst xs => simp only; rw [go xs (by simpa [bnd] using b)]
          | ins C ns vs => simp only; rw [go vs (by simpa [bnd] using b)]
          | dic _ _ => rfl
          | gone => rfl
    | tup xs =>
      show D.tup (xs.map (fz N S (k + 1))) = D.tup (xs.map (fz N S k))
      rw [go xs (by simpa [fz, bnd] using b)]
    | lst xs =>
      show D.lst (xs.map (fz N S (k + 1))) = D.lst (xs.map (fz N S k))
      rw [go xs (by simpa [fz, bnd] using b)]
    | fz xs =>
      show D.fz (xs.map (fz N S (k + 1))) = D.fz (xs.map (fz N S k))
      rw [go xs (by simpa [fz, bnd] using b)]
    | dic ks vs =>
      have b' : bndL N (ks.map (fz N S k)) = true ∧ bndL N (vs.map (fz N S k)) = true := by simpa [fz, bnd] using b
      show D.dic (ks.map (fz N S (k + 1))) (vs.map (fz N S (k + 1))) = D.dic (ks.map (fz N S k)) (vs.map (fz N S k))
      rw [go ks b'.1, go vs b'.2]
    | ins C ns vs =>
      show D.ins C ns (vs.map (fz N S (k + 1))) = D.ins C ns (vs.map (fz N S k))
      rw [go vs (by simpa [fz, bnd] using b)]
    | _ => rfl
theorem fz_le {k j : Nat} {d : D} (h : k ≤ j) (b : bnd N (fz N S k d) = true) : fz N S j d = fz N S k d := by
  induction h with
  | refl => rfl
  | step h ih => rw [← ih]; exact fz_stable _ d (by rw [ih]; exact b)
theorem fz_eq {k j : Nat} {d : D} (b : bnd N (fz N S k d) = true) (b' : bnd N (fz N S j d) = true) : fz N S k d = fz N S j d := by
  rcases Nat.le_total k j with h | h
  · exact (fz_le h b).symm
  · exact fz_le h b'
/-- one layer -/
theorem fz_list {k : Nat} {xs : List D} (b : bndL N (xs.map (fz N S k)) = true) : xs.map (fz N S (k + 1)) = xs.map (fz N S k) :=
  List.map_congr_left fun x hx => fz_stable k x (bndL_all.mp b _ (List.mem_map_of_mem hx))
end
/-- an object's references lie below n -/
def bndO (n : Nat) : AO → Bool
  | .lst xs => bndL n xs
  | .dic ks vs => bndL n ks && bndL n vs
  | .ins _ _ vs => bndL n vs
  | .gone => true
mutual
theorem kRep_bnd {K : PySem.W.Frag} : ∀ (f : Nat) (d : D) (u : Value), kRep K f d u = true → bnd 0 d = true
  | 0, _, _, h => by simp [kRep] at h
  | f + 1, .non, _, _ => rfl
  | f + 1, .bl _, _, _ => rfl
  | f + 1, .int _, _, _ => rfl
  | f + 1, .str _, _, _ => rfl
  | f + 1, .ty _, _, _ => rfl
  | f + 1, .con _, _, _ => rfl
  | f + 1, .tup ds, u, h => by
    cases u <;> try (simp [kRep] at h; done)
    unfold kRep at h
    split at h
    · simp only [Bool.and_eq_true] at h
      simp only [bnd]
      exact kReps_bnd f ds _ h.2.2
    · cases h
  | f + 1, .fz ds, u, h => by
    cases u <;> try (simp [kRep] at h; done)
    unfold kRep at h
    split at h
    · simp only [Bool.and_eq_true] at h
      simp only [bnd]
      exact kReps_bnd f ds _ h.2.2
    · cases h
  | f + 1, .lst _, u, h => by cases u <;> simp [kRep] at h
  | f + 1, .dic _ _, u, h => by cases u <;> simp [kRep] at h
  | f + 1, .ins _ _ _, u, h => by cases u <;> simp [kRep] at h
  | f + 1, .ref _, u, h => by cases u <;> simp [kRep] at h
theorem kReps_bnd {K : PySem.W.Frag} : ∀ (f : Nat) (ds : List D) (us : List Value), kReps K f ds us = true → bndL 0 ds = true
  | 0, _, _, h => by simp [kReps] at h
  | f + 1, [], _, _ => rfl
  | f + 1, d :: ds, [], h => by simp [kReps] at h
  | f + 1, d :: ds, u :: us, h => by
    simp only [kReps, Bool.and_eq_true] at h
    simp only [bndL, Bool.and_eq_true]
    exact ⟨kRep_bnd f d u h.1, kReps_bnd f ds us h.2⟩
end
section
variable {K : PySem.W.Frag} {g g0 g1 : Gh} {S S1 : Sto} {H H1 : Hp} {N : Nat}
theorem IRep.bnd {a : Addr} {d : D} (h : IRep K g H a d) : U.bnd g.sz d = true := by
  cases d with
  | tup ds => obtain ⟨vs, e1, r⟩ := h; simp only [U.bnd]; exact r.bnd
  | lst ds => obtain ⟨vs, e1, r⟩ := h; simp only [U.bnd]; exact r.bnd
  | fz ds => obtain ⟨vs, e1, r⟩ := h; simp only [U.bnd]; exact r.bnd
  | ins C ns ds => obtain ⟨dx, vs, e1, l, r⟩ := h; simp only [U.bnd]; exact r.bnd
  | _ => exact h.elim
open Classical in
/-- the ghost behind: what was made is by value -/
noncomputable def Gh.settled (g1 : Gh) (N : Nat) (S1 : Sto) : Gh where
  G := fun a => match g1.G a with
    | some e => if h : ∃ k, bnd N (fz N S1 k e) = true then some (fz N S1 h.choose e) else none
    | none => if h : ∃ n : Nat, ∃ k : Nat, N ≤ n ∧ (∃ o, S1[n]? = some o ∧ o ≠ AO.gone) ∧ g1.m n = a ∧ bnd N (fz N S1 k (.ref n)) = true then
        some (fz N S1 h.choose_spec.choose (.ref h.choose)) else none
  m := g1.m
  sz := N
  F := g1.F
open Classical in
theorem settled_some {a : Addr} {e : D} {k : Nat} (h : g1.G a = some e) (b : bnd N (fz N S1 k e) = true) : (g1.settled N S1).G a = some (fz N S1 k e) := by
  show (match g1.G a with
    | some e => if h : ∃ k, bnd N (fz N S1 k e) = true then some (fz N S1 h.choose e) else none
    | none => _) = _
  rw [h]
  have q : ∃ k, bnd N (fz N S1 k e) = true := ⟨k, b⟩
  simp only
  rw [dif_pos q]
  exact congrArg some (fz_eq q.choose_spec b)
open Classical in
theorem settled_ref (l : Rl K g1 S1 H1) {n k : Nat} {o : AO} (hn : N ≤ n) (h : S1[n]? = some o) (ho : o ≠ AO.gone) (b : bnd N (fz N S1 k (.ref n)) = true) : (g1.settled N S1).G (g1.m n) = some (fz N S1 k (.ref n)) := by
  show (match g1.G (g1.m n) with
    | some e => _
    | none => if h : ∃ n' : Nat, ∃ k : Nat, N ≤ n' ∧ (∃ o, S1[n']? = some o ∧ o ≠ AO.gone) ∧ g1.m n' = g1.m n ∧ bnd N (fz N S1 k (.ref n')) = true then
        some (fz N S1 h.choose_spec.choose (.ref h.choose)) else none) = _
  rw [(l.sto n o h ho).1]
  have q : ∃ n' : Nat, ∃ k : Nat, N ≤ n' ∧ (∃ o, S1[n']? = some o ∧ o ≠ AO.gone) ∧ g1.m n' = g1.m n ∧ bnd N (fz N S1 k (.ref n')) = true := ⟨n, k, hn, ⟨o, h, ho⟩, rfl, b⟩
  simp only
  rw [dif_pos q]
  obtain ⟨c1, ⟨o', c2, c3⟩, c4, c5⟩ := q.choose_spec.choose_spec
  have e : q.choose = n := l.inj _ _ o' o c2 c3 h ho c4
  have : ∀ (j : Nat), bnd N (fz N S1 j (.ref q.choose)) = true → fz N S1 j (.ref q.choose) = fz N S1 k (.ref n) := fun j hj => by
    rw [e] at hj ⊢
    exact fz_eq hj b
  exact congrArg some (this _ c5)
/-- values go along -/
theorem settled_rel (l : Rl K g1 S1 H1) (hN : N ≤ g1.sz) : ∀ {k : Nat} {d : D} {v : V}, RelD K g1 d v → bnd N (fz N S1 k d) = true → RelD K (g1.settled N S1) (fz N S1 k d) v := by
  intro k d v r b
  have comp_ : ∀ (xs : List D) (mk : List D → D), (∀ j, fz N S1 (j + 1) (mk xs) = mk (xs.map (fz N S1 j))) → True := fun _ _ _ => trivial
  cases d with
  | non => rw [fz_id k _ rfl]; exact r
  | bl x => rw [fz_id k _ rfl]; exact r
  | int x => rw [fz_id k _ rfl]; exact r
  | str x => rw [fz_id k _ rfl]; exact r
  | ty x => rw [fz_id k _ rfl]; exact r
  | con x => rw [fz_id k _ rfl]; exact r
  | ref n =>
    by_cases h : n < N
    · rw [fz_id k _ (by simp [bnd, h])]
      exact ⟨h, r.2⟩
    · have hS : n < S1.length := by have := r.1; rw [l.sz] at this; exact this
      cases k with
      | zero => simp [fz, bnd] at b; exact absurd b h
      | succ k =>
        have e2 : fz N S1 (k + 1) (.ref n) = match S1[n]? with
            | some (.lst xs) => .lst (xs.map (fz N S1 k))
            | some (.ins C ns vs) => .ins C ns (vs.map (fz N S1 k))
            | _ => .ref n := by rw [fz, if_neg h]
        cases q : S1[n]? with
        | none => rw [e2, q] at b; simp [bnd] at b; exact absurd b h
        | some o =>
          cases o with
          | lst xs =>
            have G := settled_ref l (Nat.le_of_not_lt h) q (by intro z; cases z) b
            rw [q] at e2
            simp only at e2
            rw [e2] at G b ⊢
            exact ⟨(by have b' := b; simp only [bnd] at b'; exact b'), g1.m n, r.2, G⟩
          | ins C ns vs =>
            have G := settled_ref l (Nat.le_of_not_lt h) q (by intro z; cases z) b
            rw [q] at e2
            simp only at e2
            rw [e2] at G b ⊢
            exact ⟨(by have b' := b; simp only [bnd] at b'; exact b'), g1.m n, r.2, G⟩
          | dic _ _ => rw [e2, q] at b; simp [bnd] at b; exact absurd b h
          | gone => rw [e2, q] at b; simp [bnd] at b; exact absurd b h
  | tup xs =>
    obtain ⟨bd, a, rfl, q | ⟨f, q⟩⟩ := r
    · have G := settled_some (N := N) (S1 := S1) q b
      cases k with
      | zero => exact ⟨(by have b' := b; simp only [fz, bnd] at b'; exact b'), a, rfl, .inl G⟩
      | succ k => exact ⟨(by have b' := b; simp only [fz, bnd] at b'; exact b'), a, rfl, .inl G⟩
    · have b0 := kRep_bnd f _ _ q
      rw [fz_id k _ (bnd_mono (Nat.zero_le _) _ b0)]
      exact ⟨(by have b' := bnd_mono (Nat.zero_le N) _ b0; simp only [bnd] at b'; exact b'), a, rfl, .inr ⟨f, q⟩⟩
  | fz xs =>
    obtain ⟨bd, a, rfl, q | ⟨f, q⟩⟩ := r
    · have G := settled_some (N := N) (S1 := S1) q b
      cases k with
      | zero => exact ⟨(by have b' := b; simp only [fz, bnd] at b'; exact b'), a, rfl, .inl G⟩
      | succ k => exact ⟨(by have b' := b; simp only [fz, bnd] at b'; exact b'), a, rfl, .inl G⟩
    · have b0 := kRep_bnd f _ _ q
      rw [fz_id k _ (bnd_mono (Nat.zero_le _) _ b0)]
      exact ⟨(by have b' := bnd_mono (Nat.zero_le N) _ b0; simp only [bnd] at b'; exact b'), a, rfl, .inr ⟨f, q⟩⟩
  | lst xs =>
    obtain ⟨bd, a, rfl, q⟩ := r
    have G := settled_some (N := N) (S1 := S1) q b
    cases k with
    | zero => exact ⟨(by have b' := b; simp only [fz, bnd] at b'; exact b'), a, rfl, G⟩
    | succ k => exact ⟨(by have b' := b; simp only [fz, bnd] at b'; exact b'), a, rfl, G⟩
  | dic ks vs =>
    obtain ⟨bd, a, rfl, q⟩ := r
    have G := settled_some (N := N) (S1 := S1) q b
    cases k with
    | zero => exact ⟨(by have b' := b; simp only [fz, bnd] at b'; exact b'), a, rfl, G⟩
    | succ k => exact ⟨(by have b' := b; simp only [fz, bnd] at b'; exact b'), a, rfl, G⟩
  | ins C ns vs =>
    obtain ⟨bd, a, rfl, q⟩ := r
    have G := settled_some (N := N) (S1 := S1) q b
    cases k with
    | zero => exact ⟨(by have b' := b; simp only [fz, bnd] at b'; exact b'), a, rfl, G⟩
    | succ k => exact ⟨(by have b' := b; simp only [fz, bnd] at b'; exact b'), a, rfl, G⟩
theorem settled_rels (l : Rl K g1 S1 H1) (hN : N ≤ g1.sz) {k : Nat} : ∀ {ds : List D} {vs : List V}, RelDs K g1 ds vs → bndL N (ds.map (fz N S1 k)) = true → RelDs K (g1.settled N S1) (ds.map (fz N S1 k)) vs
  | _, _, .nil, _ => .nil
  | _, _, .cons r t, b => by
    simp only [List.map_cons, bndL, Bool.and_eq_true] at b
    exact .cons (settled_rel l hN r b.1) (settled_rels l hN t b.2)
open Classical in
/-- what was made up to here, by value -/
theorem settle (l : Rl K g1 S1 H1) (e : Ext g0 g1) (h0 : g0.sz = N) (b0 : ∀ a d, g0.G a = some d → bnd N d = true) (hS : ∀ (n : Nat) (o : AO), n < N → S1[n]? = some o → bndO N o = true) :
    Ext g0 (g1.settled N S1) ∧ Rl K (g1.settled N S1) (S1.take N) H1 := by
  have hN : N ≤ g1.sz := by rw [← h0]; exact e.sz
  have irep : ∀ {a : Addr} {d : D} {k : Nat}, IRep K g1 H1 a d → bnd N (fz N S1 k d) = true → IRep K (g1.settled N S1) H1 a (fz N S1 k d) := fun {a d k} h b => by
    have up : ∀ {ds : List D} {vs : List V} {k : Nat}, RelDs K g1 ds vs → bndL N (ds.map (fz N S1 k)) = true → RelDs K (g1.settled N S1) (ds.map (fz N S1 k)) vs := fun r b => settled_rels l hN r b
    have z0 : ∀ {ds : List D}, ds.map (fz N S1 0) = ds := fun {ds} => by
      conv => rhs; rw [← List.map_id ds]
      exact List.map_congr_left fun x _ => rfl
    cases d with
    | tup ds =>
      obtain ⟨vs, e1, r⟩ := h
      cases k with
      | zero => exact ⟨vs, e1, by have := up (k := 0) r (by rw [z0]; simpa [fz, bnd] using b); rwa [z0] at this⟩
      | succ k => exact ⟨vs, e1, up r (by simpa [fz, bnd] using b)⟩
    | lst ds =>
      obtain ⟨vs, e1, r⟩ := h
      cases k with
      | zero => exact ⟨vs, e1, by have := up (k := 0) r (by rw [z0]; simpa [fz, bnd] using b); rwa [z0] at this⟩
      | succ k => exact ⟨vs, e1, up r (by simpa [fz, bnd] using b)⟩
    | fz ds =>
      obtain ⟨vs, e1, r⟩ := h
      cases k with
      | zero => exact ⟨vs, e1, by have := up (k := 0) r (by rw [z0]; simpa [fz, bnd] using b); rwa [z0] at this⟩
      | succ k => exact ⟨vs, e1, up r (by simpa [fz, bnd] using b)⟩
    | ins C ns ds =>
      obtain ⟨dx, vs, e1, ln, r⟩ := h
      cases k with
      | zero => exact ⟨dx, vs, e1, ln, by have := up (k := 0) r (by rw [z0]; simpa [fz, bnd] using b); rwa [z0] at this⟩
      | succ k => exact ⟨dx, vs, e1, by rw [List.length_map]; exact ln, up r (by simpa [fz, bnd] using b)⟩
    | _ => exact h.elim
  refine ⟨⟨fun a d q => ?_, by rw [h0]; exact Nat.le_refl _, fun n hn => e.m n hn, e.F⟩, ⟨fun a d q => ?_, fun n o q ho => ?_, fun i j oi oj q1 n1 q2 n2 z => ?_, ?_, fun a o q => ?_⟩⟩
  · have q1 := e.G a d q
    have b := b0 a d q
    have := settled_some (N := N) (S1 := S1) (k := 0) q1 b
    rwa [fz_id 0 d b] at this
  · have q' : (match g1.G a with
      | some e => if h : ∃ k, bnd N (fz N S1 k e) = true then some (fz N S1 h.choose e) else none
      | none => if h : ∃ n : Nat, ∃ k : Nat, N ≤ n ∧ (∃ o, S1[n]? = some o ∧ o ≠ AO.gone) ∧ g1.m n = a ∧ bnd N (fz N S1 k (.ref n)) = true then
          some (fz N S1 h.choose_spec.choose (.ref h.choose)) else none) = some d := q
    cases w : g1.G a with
    | some e2 =>
      rw [w] at q'
      simp only at q'
      split at q'
      · rename_i h
        cases q'
        exact irep (l.imm a e2 w) h.choose_spec
      · cases q'
    | none =>
      rw [w] at q'
      simp only at q'
      split at q'
      · rename_i h
        cases q'
        obtain ⟨c1, ⟨o, c2, c3⟩, c4, c5⟩ := h.choose_spec.choose_spec
        generalize h.choose_spec.choose = k at c5 ⊢
        generalize h.choose = n at c1 c2 c4 c5 ⊢
        subst c4
        have hnN : ¬ n < N := Nat.not_lt.mpr c1
        have M := (l.sto n o c2 c3).2
        cases k with
        | zero => simp [fz, bnd] at c5; exact absurd c5 hnN
        | succ k =>
          have e2 : fz N S1 (k + 1) (.ref n) = match S1[n]? with
              | some (.lst xs) => .lst (xs.map (fz N S1 k))
              | some (.ins C ns vs) => .ins C ns (vs.map (fz N S1 k))
              | _ => .ref n := by rw [fz, if_neg hnN]
          rw [c2] at e2
          cases o with
          | lst xs =>
            simp only at e2
            rw [e2] at c5 ⊢
            obtain ⟨vs, e3, r⟩ := M
            exact ⟨vs, e3, settled_rels l hN r (by simpa [bnd] using c5)⟩
          | ins C ns xs =>
            simp only at e2
            rw [e2] at c5 ⊢
            obtain ⟨dx, vs, e3, ln, r⟩ := M
            exact ⟨dx, vs, e3, by rw [List.length_map]; exact ln, settled_rels l hN r (by simpa [bnd] using c5)⟩
          | dic _ _ =>
            simp only at e2
            rw [e2] at c5
            simp [bnd] at c5
            exact absurd c5 hnN
          | gone => exact absurd rfl c3
      · cases q'
  · have hn : n < N := by
      by_cases h : n < N
      · exact h
      · rw [List.getElem?_eq_none (by rw [List.length_take]; omega)] at q; cases q
    rw [List.getElem?_take_of_lt hn] at q
    obtain ⟨m1, m2⟩ := l.sto n o q ho
    refine ⟨?_, ?_⟩
    · show (match g1.G (g1.m n) with
        | some e => _
        | none => if h : ∃ n' : Nat, ∃ k : Nat, N ≤ n' ∧ (∃ o, S1[n']? = some o ∧ o ≠ AO.gone) ∧ g1.m n' = g1.m n ∧ bnd N (fz N S1 k (.ref n')) = true then
            some (fz N S1 h.choose_spec.choose (.ref h.choose)) else none) = none
      rw [m1]
      simp only
      rw [dif_neg]
      rintro ⟨n', k, c1, ⟨o', c2, c3⟩, c4, _⟩
      have := l.inj n' n o' o c2 c3 q ho c4
      omega
    · have bo := hS n o hn q
      have up : ∀ {ds : List D} {vs : List V}, RelDs K g1 ds vs → bndL N ds = true → RelDs K (g1.settled N S1) ds vs := fun {ds vs} r b => by
        have z0 : ds.map (fz N S1 0) = ds := by
          conv => rhs; rw [← List.map_id ds]
          exact List.map_congr_left fun x _ => rfl
        have := settled_rels l hN (k := 0) r (by rw [z0]; exact b)
        rwa [z0] at this
      cases o with
      | lst xs => obtain ⟨vs, e3, r⟩ := m2; exact ⟨vs, e3, up r bo⟩
      | ins C ns xs => obtain ⟨dx, vs, e3, ln, r⟩ := m2; exact ⟨dx, vs, e3, ln, up r bo⟩
      | dic ks ds =>
        obtain ⟨kk, vs, e0, e3, ln, r⟩ := m2
        exact ⟨kk, vs, e0, e3, ln, up r (Bool.and_eq_true_iff.mp (show (bndL N ks && bndL N ds) = true from bo)).2⟩
      | gone => trivial
  · have f : ∀ {i : Nat} {o : AO}, (S1.take N)[i]? = some o → S1[i]? = some o := fun {i o} w => by
      by_cases h : i < N
      · rwa [List.getElem?_take_of_lt h] at w
      · rw [List.getElem?_eq_none (by rw [List.length_take]; omega)] at w; cases w
    exact l.inj i j oi oj (f q1) n1 (f q2) n2 z
  · show N = _
    rw [List.length_take, ← l.sz]; omega
  · obtain ⟨x1, x2, x3⟩ := l.fr a o q
    refine ⟨x1, ?_, fun n ob w hw => ?_⟩
    · show (match g1.G a with
        | some e => _
        | none => if h : ∃ n' : Nat, ∃ k : Nat, N ≤ n' ∧ (∃ o, S1[n']? = some o ∧ o ≠ AO.gone) ∧ g1.m n' = a ∧ bnd N (fz N S1 k (.ref n')) = true then
            some (fz N S1 h.choose_spec.choose (.ref h.choose)) else none) = none
      rw [x2]
      simp only
      rw [dif_neg]
      rintro ⟨n', k, c1, ⟨o', c2, c3⟩, c4, _⟩
      exact x3 n' o' c2 c3 c4
    · have f : S1[n]? = some ob := by
        by_cases h : n < N
        · rwa [List.getElem?_take_of_lt h] at w
        · rw [List.getElem?_eq_none (by rw [List.length_take]; omega)] at w; cases w
      exact x3 n ob f hw
end

/-! ### a call that sees no store -/
def Gh.pureAt (g : Gh) (a : Addr) : Option D := match g.G a with
  | some d => if bnd 0 d = true then some d else none
  | none => none
def Gh.sealed (g : Gh) (H : Hp) : Gh where
  G := g.pureAt
  m := g.m
  sz := 0
  F := fun a => match g.pureAt a with
    | some _ => none
    | none => match g.F a with
      | some o => some o
      | none => match H a with
        | some (.tbl _) => none
        | o => o
/-- .. and back -/
def Gh.opened (g g1 : Gh) : Gh where
  G := fun a => match g.G a with
    | some e => some e
    | none => g1.pureAt a
  m := g.m
  sz := g.sz
  F := g.F
section
variable {K : PySem.W.Frag} {g g1 : Gh} {S S1 : Sto} {H H1 : Hp}
theorem pureAt_some {a : Addr} {d : D} : g.pureAt a = some d ↔ g.G a = some d ∧ bnd 0 d = true := by
  unfold Gh.pureAt
  cases q : g.G a with
  | none => simp
  | some e =>
    by_cases b : bnd 0 e = true
    · simp only [b, if_true, Option.some.injEq]
      exact ⟨fun z => ⟨z, by rw [← z]; exact b⟩, fun z => z.1⟩
    · simp only [b, reduceCtorEq, Option.some.injEq, false_iff, Bool.false_eq_true, if_false]
      rintro ⟨z, b'⟩
      rw [z] at b; exact b b'
/-- pure data goes over -/
theorem relD_over (hp : ∀ a d, g.G a = some d → bnd 0 d = true → g1.G a = some d) {d : D} {v : V} (r : RelD K g d v) (b : bnd 0 d = true) : RelD K g1 d v := by
  cases d with
  | ref n => simp [bnd] at b
  | tup xs =>
    obtain ⟨_, a, e, q⟩ := r
    exact ⟨bndL_mono (Nat.zero_le _) _ (by simpa [bnd] using b), a, e, q.imp (fun z => hp a _ z b) id⟩
  | fz xs =>
    obtain ⟨_, a, e, q⟩ := r
    exact ⟨bndL_mono (Nat.zero_le _) _ (by simpa [bnd] using b), a, e, q.imp (fun z => hp a _ z b) id⟩
  | lst xs =>
    obtain ⟨_, a, e, q⟩ := r
    exact ⟨bndL_mono (Nat.zero_le _) _ (by simpa [bnd] using b), a, e, hp a _ q b⟩
  | dic ks vs =>
    obtain ⟨_, a, e, q⟩ := r
    have b' := b
    simp only [bnd, Bool.and_eq_true] at b'
    refine ⟨?_, a, e, hp a _ q b⟩
    simp only [Bool.and_eq_true]
    exact ⟨bndL_mono (Nat.zero_le _) _ b'.1, bndL_mono (Nat.zero_le _) _ b'.2⟩
  | ins C ns vs =>
    obtain ⟨_, a, e, q⟩ := r
    exact ⟨bndL_mono (Nat.zero_le _) _ (by simpa [bnd] using b), a, e, hp a _ q b⟩
  | _ => exact r
theorem relDs_over (hp : ∀ a d, g.G a = some d → bnd 0 d = true → g1.G a = some d) : ∀ {ds : List D} {vs : List V}, RelDs K g ds vs → bndL 0 ds = true → RelDs K g1 ds vs
  | _, _, .nil, _ => .nil
  | _, _, .cons r t, b => by
    simp only [bndL, Bool.and_eq_true] at b
    exact .cons (relD_over hp r b.1) (relDs_over hp t b.2)
theorem iRep_over (hp : ∀ a d, g.G a = some d → bnd 0 d = true → g1.G a = some d) {a : Addr} {d : D} (h : IRep K g H a d) (b : bnd 0 d = true) : IRep K g1 H a d := by
  cases d with
  | tup ds => obtain ⟨vs, e1, r⟩ := h; exact ⟨vs, e1, relDs_over hp r (by simpa [bnd] using b)⟩
  | lst ds => obtain ⟨vs, e1, r⟩ := h; exact ⟨vs, e1, relDs_over hp r (by simpa [bnd] using b)⟩
  | fz ds => obtain ⟨vs, e1, r⟩ := h; exact ⟨vs, e1, relDs_over hp r (by simpa [bnd] using b)⟩
  | ins C ns ds => obtain ⟨dx, vs, e1, ln, r⟩ := h; exact ⟨dx, vs, e1, ln, relDs_over hp r (by simpa [bnd] using b)⟩
  | _ => exact h.elim
theorem iRep_notbl {a : Addr} {d : D} (h : IRep K g H a d) : ∃ o, H a = some o ∧ ∀ ps, o ≠ .tbl ps := by
  cases d with
  | tup ds => obtain ⟨vs, e1, r⟩ := h; exact ⟨_, e1, fun _ z => by cases z⟩
  | lst ds => obtain ⟨vs, e1, r⟩ := h; exact ⟨_, e1, fun _ z => by cases z⟩
  | fz ds =>
    obtain ⟨vs, e | ⟨o, e⟩, r⟩ := h
    · exact ⟨_, e, fun _ z => by cases z⟩
    · exact ⟨_, e, fun _ z => by cases z⟩
  | ins C ns ds => obtain ⟨dx, vs, e1, ln, r⟩ := h; exact ⟨_, e1, fun _ z => by cases z⟩
  | _ => exact h.elim
theorem mRep_notbl {a : Addr} {o : AO} (h : MRep K g H a o) (n : o ≠ .gone) : ∃ u, H a = some u ∧ ∀ ps, u ≠ .tbl ps := by
  cases o with
  | lst ds => obtain ⟨vs, e1, r⟩ := h; exact ⟨_, e1, fun _ z => by cases z⟩
  | ins C ns ds => obtain ⟨dx, vs, e1, ln, r⟩ := h; exact ⟨_, e1, fun _ z => by cases z⟩
  | dic ks ds => obtain ⟨kk, vs, e0, e1, ln, r⟩ := h; exact ⟨_, e1, fun _ z => by cases z⟩
  | gone => exact absurd rfl n
theorem sealed_G {a : Addr} {d : D} : (g.sealed H).G a = some d ↔ g.G a = some d ∧ bnd 0 d = true := pureAt_some
/-- what is set aside there -/
theorem sealed_F {a : Addr} {o : HO} (hp : g.pureAt a = none) (h : H a = some o) (hf : g.F a = none ∨ g.F a = some o) (nt : ∀ ps, o ≠ .tbl ps) : (g.sealed H).F a = some o := by
  unfold Gh.sealed
  simp only [hp]
  rcases hf with hf | hf
  · simp only [hf, h]
    cases o <;> first | rfl | (rename_i ps; exact absurd rfl (nt ps))
  · simp only [hf]
theorem shut (l : Rl K g S H) : Rl K (g.sealed H) [] H := by
  have hp : ∀ a d, g.G a = some d → bnd 0 d = true → (g.sealed H).G a = some d := fun a d q b => sealed_G.mpr ⟨q, b⟩
  refine ⟨fun a d q => ?_, fun n o q => by simp at q, fun i j oi oj q => by simp at q, rfl, fun a o q => ?_⟩
  · obtain ⟨q1, q2⟩ := sealed_G.mp q
    exact iRep_over hp (l.imm a d q1) q2
  · have q' : (match g.pureAt a with
      | some _ => none
      | none => match g.F a with
        | some o => some o
        | none => match H a with
          | some (.tbl _) => none
          | o => o) = some o := q
    split at q'
    · cases q'
    · rename_i hn
      refine ⟨?_, hn, fun n ob w => by simp at w⟩
      split at q'
      · rename_i o' hf
        cases q'
        exact (l.fr a o hf).1
      · split at q'
        · cases q'
        · exact q'
theorem sealed_rel {d : D} {v : V} (r : RelD K g d v) (b : bnd 0 d = true) : RelD K (g.sealed H) d v := relD_over (fun _ _ q b => sealed_G.mpr ⟨q, b⟩) r b
theorem sealed_rels {ds : List D} {vs : List V} (r : RelDs K g ds vs) (b : bndL 0 ds = true) : RelDs K (g.sealed H) ds vs := relDs_over (fun _ _ q b => sealed_G.mpr ⟨q, b⟩) r b
theorem opened_ext : Ext g (g.opened g1) := ⟨fun a d q => by
  show (match g.G a with
    | some e => some e
    | none => g1.pureAt a) = some d
  rw [q], Nat.le_refl _, fun _ _ => rfl, rfl⟩
theorem reopen (l : Rl K g S H) (e : Ext (g.sealed H) g1) (l1 : Rl K g1 S1 H1) : Rl K (g.opened g1) S H1 ∧ ∀ a d, g1.G a = some d → bnd 0 d = true → (g.opened g1).G a = some d := by
  -- what is not pure stands as it stood
  have aside : ∀ {a : Addr} {o : HO}, g.pureAt a = none → H a = some o → (g.F a = none ∨ g.F a = some o) → (∀ ps, o ≠ .tbl ps) → H1 a = some o ∧ g1.G a = none := fun {a o} hp h hf nt => by
    have q : g1.F a = some o := by rw [e.F]; exact sealed_F hp h hf nt
    obtain ⟨x1, x2, _⟩ := l1.fr a o q
    exact ⟨x1, x2⟩
  have noF : ∀ {a : Addr} {d : D}, g.G a = some d → g.F a = none := fun {a d} q => by
    cases w : g.F a with
    | none => rfl
    | some o =>
      have := (l.fr a o w).2.1
      rw [q] at this; cases this
  have hp : ∀ a d, g1.G a = some d → bnd 0 d = true → (g.opened g1).G a = some d := fun a d q b => by
    show (match g.G a with
      | some e => some e
      | none => g1.pureAt a) = some d
    cases w : g.G a with
    | none => exact pureAt_some.mpr ⟨q, b⟩
    | some d' =>
      by_cases b' : bnd 0 d' = true
      · have := e.G a d' (sealed_G.mpr ⟨w, b'⟩)
        rw [q] at this
        exact this.symm ▸ rfl
      · obtain ⟨o, ho, nt⟩ := iRep_notbl (l.imm a d' w)
        have hn : g.pureAt a = none := by
          cases z : g.pureAt a with
          | none => rfl
          | some y =>
            obtain ⟨z1, z2⟩ := pureAt_some.mp z
            rw [w] at z1; cases z1
            exact absurd z2 b'
        have := (aside hn ho (.inl (noF w)) nt).2
        rw [q] at this; cases this
  refine ⟨⟨fun a d q => ?_, fun n o q ho => ?_, l.inj, l.sz, fun a o q => ?_⟩, hp⟩
  · have q' : (match g.G a with
      | some e => some e
      | none => g1.pureAt a) = some d := q
    cases w : g.G a with
    | some d' =>
      rw [w] at q'
      cases q'
      by_cases b' : bnd 0 d = true
      · exact iRep_over hp (l1.imm a d (e.G a d (sealed_G.mpr ⟨w, b'⟩))) b'
      · obtain ⟨o, ho, nt⟩ := iRep_notbl (l.imm a d w)
        have hn : g.pureAt a = none := by
          cases z : g.pureAt a with
          | none => rfl
          | some y =>
            obtain ⟨z1, z2⟩ := pureAt_some.mp z
            rw [w] at z1; cases z1
            exact absurd z2 b'
        have k := (aside hn ho (.inl (noF w)) nt).1
        exact (l.imm a d w).stay opened_ext fun u z => by rw [ho] at z; cases z; exact k
    | none =>
      rw [w] at q'
      obtain ⟨z1, z2⟩ := pureAt_some.mp q'
      exact iRep_over hp (l1.imm a d z1) z2
  · obtain ⟨m1, m2⟩ := l.sto n o q ho
    obtain ⟨u, hu, nt⟩ := mRep_notbl m2 ho
    have hn : g.pureAt (g.m n) = none := by unfold Gh.pureAt; rw [m1]
    have hf : g.F (g.m n) = none := by
      cases w : g.F (g.m n) with
      | none => rfl
      | some o' => exact absurd rfl ((l.fr _ _ w).2.2 n o q ho)
    obtain ⟨k1, k2⟩ := aside hn hu (.inl hf) nt
    refine ⟨?_, m2.stay opened_ext fun u' z => by
      have z' : H (g.m n) = some u' := z
      rw [hu] at z'; cases z'; exact k1⟩
    show (match g.G (g.m n) with
      | some e => some e
      | none => g1.pureAt (g.m n)) = none
    rw [m1]
    simp only
    unfold Gh.pureAt
    rw [k2]
  · have q0 : g.F a = some o := q
    obtain ⟨x1, x2, x3⟩ := l.fr a o q0
    have hn : g.pureAt a = none := by unfold Gh.pureAt; rw [x2]
    have qf : (g.sealed H).F a = some o := by
      unfold Gh.sealed
      simp only [hn, q0]
    have q1 : g1.F a = some o := by rw [e.F]; exact qf
    obtain ⟨y1, y2, _⟩ := l1.fr a o q1
    refine ⟨y1, ?_, x3⟩
    show (match g.G a with
      | some e => some e
      | none => g1.pureAt a) = none
    rw [x2]
    simp only
    unfold Gh.pureAt
    rw [y2]
end
end L2.U
namespace L2.U
open PySem PySem.Spec PyProof.Rows

abbrev EF := Env → Sto → R D
abbrev TF := Env → Sto → R Bool
abbrev AF := Env → Sto → R (List D)
abbrev OF := Env → Sto → R (Option Int)
def relB : Gh → Bool → Bool → Prop := fun _ a b => a = b
def relI : Gh → Option Int → Option Int → Prop := fun _ a b => a = b
abbrev SE (X : Cx) (W : WX) (e : Expr) (f : EF) : Prop := PE X e (TD X.K W (RelD X.K) f)
abbrev ST (X : Cx) (W : WX) (e : Expr) (f : TF) : Prop := PT X e (TD X.K W relB f)
abbrev SW (X : Cx) (W : WX) (e : Expr) (f : TF) : Prop := PW X e (TD X.K W relB f)
abbrev SA (X : Cx) (W : WX) (es : List Expr) (f : AF) : Prop := PA X es (TD X.K W (RelDs X.K) f)
abbrev SO (X : Cx) (W : WX) (e : Option Expr) (f : OF) : Prop := PO X e (TD X.K W relI f)

theorem pe_imp {X : Cx} {e : Expr} {t t' : TE} (h : PE X e t) (i : ∀ σ H Q, t' σ H Q → t σ H Q) : PE X e t' := ⟨fun pins s σ H Q I w => h.run pins s σ H Q I (i σ H Q w)⟩
theorem pt_imp {X : Cx} {e : Expr} {t t' : TT} (h : PT X e t) (i : ∀ σ H Q, t' σ H Q → t σ H Q) : PT X e t' := ⟨fun pins s σ H Q I w => h.run pins s σ H Q I (i σ H Q w)⟩
theorem pw_imp {X : Cx} {e : Expr} {t t' : TT} (h : PW X e t) (i : ∀ σ H Q, t' σ H Q → t σ H Q) : PW X e t' := ⟨fun wh pins s σ H Q I w => h.run wh pins s σ H Q I (i σ H Q w)⟩
theorem pa_imp {X : Cx} {e : List Expr} {t t' : TA} (h : PA X e t) (i : ∀ σ H Q, t' σ H Q → t σ H Q) : PA X e t' := ⟨fun pos pins s σ H Q I w => h.run pos pins s σ H Q I (i σ H Q w)⟩
theorem po_imp {X : Cx} {e : Option Expr} {t t' : TO} (h : PO X e t) (i : ∀ σ H Q, t' σ H Q → t σ H Q) : PO X e t' := ⟨fun pins s σ H Q I w => h.run pins s σ H Q I (i σ H Q w)⟩
/-- the reading goes on -/
theorem td_seq {α β : Type} {K : PySem.W.Frag} {W : WX} {rel : Gh → α → β → Prop} {f : Env → Sto → R α} {σ : St} {H : Hp} {Q Q' : β → Hp → Prop} (h : TD K W rel f σ H Q) (i : ∀ b H, Q b H → Q' b H) : TD K W rel f σ H Q' := by
  obtain ⟨g, r, S, l, e, p⟩ := h
  exact ⟨g, r, S, l, e, p.imp i⟩
theorem post_ok {α β : Type} {K : PySem.W.Frag} {W : WX} {rel : Gh → α → β → Prop} {g : Gh} {σ : St} {a : α} {r : Env} {S : Sto} {Q : β → Hp → Prop} (h : PostG K W rel g σ (.ok a r S) Q) {H : Hp} {b : β} (l : Rl K g S H) (e : REnv K g r σ) (q : rel g a b) : Q b H :=
  h g H b (.refl g) l e q

/-! ### names, constants -/
def eVar (i : Nat) : EF := fun r S => match r[i]? with
  | some (some d) => .ok d r S
  | _ => .no
def eC (d : D) : EF := fun r S => .ok d r S
section
variable {X : Cx} {W : WX} {pos : Pos}
theorem se_var (i : Nat) {x : Str} {pos : Pos} (hN : X.N[i]? = some x := by rfl) (hv : Vis X.env.scope x := by first | exact Or.inl rfl | exact Or.inr (Or.inl rfl) | exact Or.inr (Or.inr rfl)) (hd : (x == ("__debug__" : Str)) = false := by decide)
    (hcd : (x == ("__classdict__" : Str)) = false := by decide) : SE X W (.Name x pos) (eVar i) := pe_imp (pe_var hN hv hd hcd) fun σ H Q h => by
  obtain ⟨g, r, S, l, e, p⟩ := h
  unfold eVar at p
  split at p
  · rename_i d q
    obtain ⟨v, h1, h2⟩ := e.2 i d q
    exact ⟨v, h1, post_ok p l e h2⟩
  · exact p.elim
theorem tc_of {v : V} {d : D} (h : ∀ g, RelD X.K g d v) (σ : St) (H : Hp) (Q : VK) : TD X.K W (RelD X.K) (eC d) σ H Q → tC v σ H Q := fun ⟨g, r, S, l, e, p⟩ => post_ok p l e (h g)
theorem se_int {i j pos} : SE X W (.Constant (.int i) j pos) (eC (.int i)) := pe_imp pe_int (tc_of fun _ => rfl)
theorem se_bl {b j pos} : SE X W (.Constant (.bool b) j pos) (eC (.bl b)) := pe_imp pe_bl (tc_of fun _ => rfl)
theorem se_non {j pos} : SE X W (.Constant .none j pos) (eC .non) := pe_imp pe_non (tc_of fun _ => rfl)
theorem se_str {x j pos} : SE X W (.Constant (.str x) j pos) (eC (.str x)) := pe_imp pe_str (tc_of fun _ => rfl)
/-- a constant of the module -/
theorem kRep_rel {K : PySem.W.Frag} {f : Nat} {d : D} {u : Value} (h : kRep K f d u = true) : ∃ v, RelV v u ∧ ∀ g, RelD K g d v := by
  have b := kRep_bnd f d u h
  cases f with
  | zero => simp [kRep] at h
  | succ f =>
    cases d with
    | non => cases u <;> first | exact ⟨.non, rfl, fun _ => rfl⟩ | (simp [kRep] at h)
    | bl x => cases u <;> first | (simp [kRep] at h; subst h; exact ⟨.bl _, rfl, fun _ => rfl⟩) | (simp [kRep] at h)
    | int x => cases u <;> first | (simp [kRep] at h; subst h; exact ⟨.int _, ⟨_, rfl⟩, fun _ => rfl⟩) | (simp [kRep] at h)
    | str x => cases u <;> first | (simp [kRep] at h; subst h; exact ⟨.str _, ⟨_, rfl⟩, fun _ => rfl⟩) | (simp [kRep] at h)
    | ty x => cases u <;> first | (simp [kRep] at h; subst h; exact ⟨.ty _, rfl, fun _ => rfl⟩) | (simp [kRep] at h)
    | con x => cases u <;> first | (simp [kRep] at h; subst h; exact ⟨.ref _, rfl, fun _ => rfl⟩) | (simp [kRep] at h)
    | tup x => cases u <;> first | exact ⟨.ref _, rfl, fun g => ⟨bndL_mono (Nat.zero_le _) _ (by simpa [bnd] using b), _, rfl, .inr ⟨_, h⟩⟩⟩ | (simp [kRep] at h)
    | fz x => cases u <;> first | exact ⟨.ref _, rfl, fun g => ⟨bndL_mono (Nat.zero_le _) _ (by simpa [bnd] using b), _, rfl, .inr ⟨_, h⟩⟩⟩ | (simp [kRep] at h)
    | lst x => cases u <;> simp [kRep] at h
    | dic x y => cases u <;> simp [kRep] at h
    | ins x y z => cases u <;> simp [kRep] at h
    | ref x => cases u <;> simp [kRep] at h
/-- the module's name x is the constant d -/
def KCon (K : PySem.W.Frag) (mg : Str → Option Value) (x : Str) (d : D) : Prop := ∃ u f, mg x = some u ∧ kRep K f d u = true
theorem se_gc {x : Str} {d : D} (h : KCon X.K X.mg x d) (hg : Gl X x := by rfl) (hd : (x == ("__debug__" : Str)) = false := by decide) : SE X W (.Name x pos) (eC d) := by
  obtain ⟨u, f, hm, hk⟩ := h
  obtain ⟨v, r, q⟩ := kRep_rel hk
  exact pe_imp (pe_glob hg hm r hd) (tc_of q)
/-- a built-in type as a value -/
theorem se_ty {x : Str} {n : String} (hm : X.mg x = none) (hv : bootBuiltins x = some (.type n) := by decide +kernel) (hg : Gl X x := by rfl) (hn : x ≠ "__name__" := by decide) (hd : (x == ("__debug__" : Str)) = false := by decide) : SE X W (.Name x pos) (eC (.ty n)) :=
  pe_imp (pe_bltn (v := .ty n) hg hm hv rfl hn hd) (tc_of fun _ => rfl)

/-! ### operators -/
def eBin (o : Sto → D → D → Option D) (fa fb : EF) : EF := fun r S => (fa r S).bind fun x r S => (fb r S).bind fun y r S => match o S x y with
  | some d => .ok d r S
  | none => .no
def eCmp (o : Sto → D → D → Option Bool) (fa fb : EF) : EF := fun r S => (fa r S).bind fun x r S => (fb r S).bind fun y r S => match o S x y with
  | some d => .ok (.bl d) r S
  | none => .no
def tCmp (o : Sto → D → D → Option Bool) (fa fb : EF) : TF := fun r S => (fa r S).bind fun x r S => (fb r S).bind fun y r S => match o S x y with
  | some d => .ok d r S
  | none => .no
variable {a b c : Expr} {fa fb fc : EF}
/-- two, one behind the other -/
theorem td_two {β γ : Type} {rel : Gh → γ → β → Prop} {k : D → D → Env → Sto → R γ} {σ : St} {H : Hp} {Q : β → Hp → Prop} {R2' : V → V → Hp → Prop}
    (h : TD X.K W rel (fun r S => (fa r S).bind fun x r S => (fb r S).bind fun y r S => k x y r S) σ H Q)
    (i : ∀ g r S H x y xv yv, Rl X.K g S H → REnv X.K g r σ → RelD X.K g x xv → RelD X.K g y yv → PostG X.K W rel g σ (k x y r S) Q → R2' xv yv H) :
    TD X.K W (RelD X.K) fa σ H fun x H1 => TD X.K W (RelD X.K) fb σ H1 fun y H2 => R2' x y H2 := by
  refine td_seq (TD.split (rel := RelD X.K) h) fun xv H1 ⟨g, x, r, S, l, e, rx, p⟩ => ?_
  refine ⟨g, r, S, l, e, ?_⟩
  refine PostG.imp p.split fun yv H2 ⟨g', y, r', S', e', l', re, ry, p'⟩ => ?_
  exact i g' r' S' H2 x y xv yv l' re (rx.mono e') ry p'
theorem se_bin {op : Operator} {o : Sto → D → D → Option D} (u : BinU X op o) (ha : SE X W a fa) (hb : SE X W b fb) : SE X W (.BinOp a op b pos) (eBin o fa fb) := by
  obtain ⟨r, ho, hu⟩ := u
  refine pe_imp (pe_op ho ha hb) fun σ H Q h => td_two h fun g r S H x y xv yv l e rx ry p => ?_
  split at p
  · rename_i d q
    exact hu g S H x y d xv yv Q l rx ry q fun g' H' v x' l' r' => p g' H' v x' l' (e.mono x') r'
  · exact p.elim
theorem se_cmp {op : CmpOp} {o : Sto → D → D → Option Bool} (u : CmpU X op o) (ha : SE X W a fa) (hb : SE X W b fb) (hm : behindInMarks op b = false := by first | exact nomark _ | rfl) : SE X W (.Compare a [op] [b] pos) (eCmp o fa fb) := by
  obtain ⟨r, ho, hu⟩ := u
  refine pe_imp (pe_cmpR ho ha hb hm) fun σ H Q h => td_two h fun g r S H x y xv yv l e rx ry p => ?_
  split at p
  · rename_i d q
    exact hu g S H x y d xv yv Q l rx ry q (post_ok p l e rfl)
  · exact p.elim
theorem st_cmp {op : CmpOp} {o : Sto → D → D → Option Bool} (u : CmpU X op o) (ha : SE X W a fa) (hb : SE X W b fb) (hm : behindInMarks op b = false := by first | exact nomark _ | rfl) : ST X W (.Compare a [op] [b] pos) (tCmp o fa fb) := by
  obtain ⟨r, ho, hu⟩ := u
  refine pt_imp (pt_cmpR ho ha hb hm) fun σ H Q h => td_two h fun g r S H x y xv yv l e rx ry p => ?_
  split at p
  · rename_i d q
    exact hu g S H x y d xv yv _ l rx ry q ⟨d, rfl, post_ok p l e rfl⟩
  · exact p.elim
/-- a op b op' c -/
def eChain (o o' : Sto → D → D → Option Bool) (fa fb fc : EF) : EF := fun r S => (fa r S).bind fun x r S => (fb r S).bind fun y r S => match o S x y with
  | some true => (fc r S).bind fun z r S => (match o' S y z with
    | some d => .ok (.bl d) r S
    | none => .no)
  | some false => .ok (.bl false) r S
  | none => .no
def tChainB (o o' : Sto → D → D → Option Bool) (fa fb fc : EF) : TF := fun r S => (fa r S).bind fun x r S => (fb r S).bind fun y r S => match o S x y with
  | some true => (fc r S).bind fun z r S => (match o' S y z with
    | some d => .ok d r S
    | none => .no)
  | some false => .ok false r S
  | none => .no
theorem se_chain {op op' : CmpOp} {o o' : Sto → D → D → Option Bool} (u : CmpU X op o) (u' : CmpU X op' o') (ha : SE X W a fa) (hb : SE X W b fb) (hc : SE X W c fc)
    (hm : lastMarks [op, op'] [b, c] = false := by with_unfolding_all rfl) : SE X W (.Compare a [op, op'] [b, c] pos) (eChain o o' fa fb fc) := by
  obtain ⟨r, ho, hu⟩ := u
  obtain ⟨r', ho', hu'⟩ := u'
  refine pe_imp (pe_chain ho ho' ha hb hc hm) fun σ H Q h => td_two h fun g r S H x y xv yv l e rx ry p => ?_
  split at p
  · rename_i q
    refine hu g S H x y true xv yv _ l rx ry q ⟨true, rfl, ?_⟩
    rw [if_pos rfl]
    refine ⟨g, r, S, l, e, PostG.imp p.split fun zv H2 ⟨g', z, r2, S', e', l', re, rz, p'⟩ => ?_⟩
    split at p'
    · rename_i d q'
      exact hu' g' S' H2 y z d yv zv Q l' (ry.mono e') rz q' (post_ok p' l' re rfl)
    · exact p'.elim
  · rename_i q
    refine hu g S H x y false xv yv _ l rx ry q ⟨false, rfl, ?_⟩
    rw [if_neg Bool.false_ne_true]
    exact post_ok p l e rfl
  · exact p.elim
theorem st_chain {op op' : CmpOp} {o o' : Sto → D → D → Option Bool} (u : CmpU X op o) (u' : CmpU X op' o') (ha : SE X W a fa) (hb : SE X W b fb) (hc : SE X W c fc)
    (hm : lastMarks [op, op'] [b, c] = false := by with_unfolding_all rfl) : ST X W (.Compare a [op, op'] [b, c] pos) (tChainB o o' fa fb fc) := by
  obtain ⟨r, ho, hu⟩ := u
  obtain ⟨r', ho', hu'⟩ := u'
  refine pt_imp (pt_chain ho ho' ha hb hc hm) fun σ H Q h => td_two h fun g r S H x y xv yv l e rx ry p => ?_
  split at p
  · rename_i q
    refine hu g S H x y true xv yv _ l rx ry q ⟨true, rfl, ?_⟩
    rw [if_pos rfl]
    refine ⟨g, r, S, l, e, PostG.imp p.split fun zv H2 ⟨g', z, r2, S', e', l', re, rz, p'⟩ => ?_⟩
    split at p'
    · rename_i d q'
      exact hu' g' S' H2 y z d yv zv _ l' (ry.mono e') rz q' ⟨d, rfl, post_ok p' l' re rfl⟩
    · exact p'.elim
  · rename_i q
    refine hu g S H x y false xv yv _ l rx ry q ⟨false, rfl, ?_⟩
    rw [if_neg Bool.false_ne_true]
    exact ⟨false, rfl, post_ok p l e rfl⟩
  · exact p.elim
/-! ### and, or, not -/
def eAnd (fa fb : EF) : EF := fun r S => (fa r S).bind fun x r S => match x with
  | .bl true => fb r S
  | .bl false => .ok (.bl false) r S
  | _ => .no
def eOr (fa fb : EF) : EF := fun r S => (fa r S).bind fun x r S => match x with
  | .bl true => .ok (.bl true) r S
  | .bl false => fb r S
  | _ => .no
def eNot (fa : EF) : EF := fun r S => (fa r S).bind fun x r S => match x with
  | .bl b => .ok (.bl !b) r S
  | _ => .no
def tVal (fa : EF) : TF := fun r S => (fa r S).bind fun x r S => match x with
  | .bl b => .ok b r S
  | _ => .no
def tAndB (ta tb : TF) : TF := fun r S => (ta r S).bind fun x r S => if x = true then tb r S else .ok false r S
def tOrB (ta tb : TF) : TF := fun r S => (ta r S).bind fun x r S => if x = true then .ok true r S else tb r S
def tNotB (ta : TF) : TF := fun r S => (ta r S).bind fun x r S => .ok (!x) r S
def eIf (tc : TF) (fa fb : EF) : EF := fun r S => (tc r S).bind fun x r S => if x = true then fa r S else fb r S
variable {rest : List Expr} {ta tb tc : TF}
theorem se_one {op} (h : SE X W a fa) : SE X W (.BoolOp op [a] pos) fa := pe_one h
theorem se_and (ha : SE X W a fa) (hb : SE X W (.BoolOp .And (b :: rest) pos) fb) : SE X W (.BoolOp .And (a :: b :: rest) pos) (eAnd fa fb) :=
  pe_imp (pe_and ha hb) fun σ H Q h => td_seq (TD.split (rel := RelD X.K) h) fun xv H1 ⟨g, x, r, S, l, e, rx, p⟩ => by
    split at p
    · cases rx; exact ⟨true, rfl, by rw [if_pos rfl]; exact ⟨g, r, S, l, e, p⟩⟩
    · cases rx; exact ⟨false, rfl, by rw [if_neg Bool.false_ne_true]; exact post_ok p l e rfl⟩
    · exact p.elim
theorem se_or (ha : SE X W a fa) (hb : SE X W (.BoolOp .Or (b :: rest) pos) fb) : SE X W (.BoolOp .Or (a :: b :: rest) pos) (eOr fa fb) :=
  pe_imp (pe_or ha hb) fun σ H Q h => td_seq (TD.split (rel := RelD X.K) h) fun xv H1 ⟨g, x, r, S, l, e, rx, p⟩ => by
    split at p
    · cases rx; exact ⟨true, rfl, by rw [if_pos rfl]; exact post_ok p l e rfl⟩
    · cases rx; exact ⟨false, rfl, by rw [if_neg Bool.false_ne_true]; exact ⟨g, r, S, l, e, p⟩⟩
    · exact p.elim
theorem se_not (ha : SE X W a fa) : SE X W (.UnaryOp .Not a pos) (eNot fa) :=
  pe_imp (pe_not ha) fun σ H Q h => td_seq (TD.split (rel := RelD X.K) h) fun xv H1 ⟨g, x, r, S, l, e, rx, p⟩ => by
    split at p
    · rename_i b; cases rx; exact ⟨b, rfl, post_ok p l e rfl⟩
    · exact p.elim
theorem st_val (ha : SE X W a fa) (he : ∀ whole, isTrue a X.env whole = (do let v ← whole; standAt a.pos; holding [v] (truthy v)) := by intro _; rfl) : ST X W a (tVal fa) :=
  pt_imp (pt_val ha he) fun σ H Q h => td_seq (TD.split (rel := RelD X.K) h) fun xv H1 ⟨g, x, r, S, l, e, rx, p⟩ => by
    split at p
    · rename_i b; cases rx; exact ⟨b, rfl, post_ok p l e rfl⟩
    · exact p.elim
theorem st_not (ha : ST X W a ta) : ST X W (.UnaryOp .Not a pos) (tNotB ta) :=
  pt_imp (pt_not ha) fun σ H Q h => td_seq (TD.split (rel := relB) h) fun xv H1 ⟨g, x, r, S, l, e, rx, p⟩ => by
    cases rx
    exact post_ok p l e rfl
theorem st_and1 (ha : ST X W a ta) : SW X W (.BoolOp .And [a] pos) ta := pw_and1 ha
theorem st_or1 (ha : ST X W a ta) : SW X W (.BoolOp .Or [a] pos) ta := pw_or1 ha
theorem st_and (ha : ST X W a ta) (hb : SW X W (.BoolOp .And (b :: rest) pos) tb) : SW X W (.BoolOp .And (a :: b :: rest) pos) (tAndB ta tb) :=
  pw_imp (pw_and ha hb) fun σ H Q h => td_seq (TD.split (rel := relB) h) fun xv H1 ⟨g, x, r, S, l, e, rx, p⟩ => by
    cases rx
    split
    · rename_i hx; rw [if_pos hx] at p; exact ⟨g, r, S, l, e, p⟩
    · rename_i hx; rw [if_neg hx] at p; exact post_ok p l e rfl
theorem st_or (ha : ST X W a ta) (hb : SW X W (.BoolOp .Or (b :: rest) pos) tb) : SW X W (.BoolOp .Or (a :: b :: rest) pos) (tOrB ta tb) :=
  pw_imp (pw_or ha hb) fun σ H Q h => td_seq (TD.split (rel := relB) h) fun xv H1 ⟨g, x, r, S, l, e, rx, p⟩ => by
    cases rx
    split
    · rename_i hx; rw [if_pos hx] at p; exact post_ok p l e rfl
    · rename_i hx; rw [if_neg hx] at p; exact ⟨g, r, S, l, e, p⟩
theorem st_w (h : SW X W a ta) : ST X W a ta := h.pt
theorem se_if {t : Expr} (hc : ST X W t tc) (ha : SE X W a fa) (hb : SE X W b fb) : SE X W (.IfExp t a b pos) (eIf tc fa fb) :=
  pe_imp (pe_ifExp hc ha hb) fun σ H Q h => td_seq (TD.split (rel := relB) h) fun xv H1 ⟨g, x, r, S, l, e, rx, p⟩ => by
    cases rx
    split
    · rename_i hx; rw [if_pos hx] at p; exact ⟨g, r, S, l, e, p⟩
    · rename_i hx; rw [if_neg hx] at p; exact ⟨g, r, S, l, e, p⟩
/-! ### argument lists, displays -/
def aNil : AF := fun r S => .ok [] r S
def aCons (fa : EF) (fr : AF) : AF := fun r S => (fa r S).bind fun x r S => (fr r S).bind fun xs r S => .ok (x :: xs) r S
variable {es : List Expr} {fs : AF}
theorem sa_nil : SA X W [] aNil := pa_imp pa_nil fun σ H Q ⟨g, r, S, l, e, p⟩ => post_ok p l e .nil
theorem sa_cons (ha : SE X W a fa) (hr : SA X W es fs) (hs : starEach (a :: es) X.env = (false, eval a X.env) :: starEach es X.env := by rfl) : SA X W (a :: es) (aCons fa fs) :=
  pa_imp (pa_cons ha hr hs) fun σ H Q h => td_seq (TD.split (rel := RelD X.K) h) fun xv H1 ⟨g, x, r, S, l, e, rx, p⟩ =>
    ⟨g, r, S, l, e, PostG.imp p.split fun zv H2 ⟨g', z, r2, S', e', l', re, rz, p'⟩ => post_ok p' l' re (.cons (rx.mono e') rz)⟩
def eTup (fs : AF) : EF := fun r S => (fs r S).bind fun xs r S => if xs.length ≤ sizeLine then .ok (.tup xs) r S else .no
/-- a list that never changes; a list of the store -/
def eLst (fs : AF) : EF := fun r S => (fs r S).bind fun xs r S => if xs.length ≤ sizeLine then .ok (.lst xs) r S else .no
def eLstS (fs : AF) : EF := fun r S => (fs r S).bind fun xs r S => if xs.length ≤ sizeLine then .ok (.ref S.length) r (S ++ [.lst xs]) else .no
theorem se_tup {x1} (h : SA X W es fs) : SE X W (.Tuple es x1 pos) (eTup fs) :=
  pe_imp (pe_tup h) fun σ H Q hq => td_seq (TD.split (rel := RelDs X.K) hq) fun xv H1 ⟨g, x, r, S, l, e, rx, p⟩ => by
    split at p
    · rename_i hl
      refine ⟨by rw [← rx.length]; exact hl, fun q hp => ?_⟩
      obtain ⟨g', e1, l1, r1⟩ := l.newTup hp rx
      exact p g' _ _ e1 l1 (e.mono e1) r1
    · exact p.elim
theorem se_lst (h : SA X W es fs) : SE X W (.List es pos) (eLst fs) :=
  pe_imp (pe_lst h) fun σ H Q hq => td_seq (TD.split (rel := RelDs X.K) hq) fun xv H1 ⟨g, x, r, S, l, e, rx, p⟩ => by
    split at p
    · rename_i hl
      refine ⟨by rw [← rx.length]; exact hl, fun q hp => ?_⟩
      obtain ⟨g', e1, l1, r1⟩ := l.newLst hp rx
      exact p g' _ _ e1 l1 (e.mono e1) r1
    · exact p.elim
theorem se_lstS (h : SA X W es fs) : SE X W (.List es pos) (eLstS fs) :=
  pe_imp (pe_lst h) fun σ H Q hq => td_seq (TD.split (rel := RelDs X.K) hq) fun xv H1 ⟨g, x, r, S, l, e, rx, p⟩ => by
    split at p
    · rename_i hl
      refine ⟨by rw [← rx.length]; exact hl, fun q hp => ?_⟩
      obtain ⟨g', e1, l1, r1⟩ := l.newSto hp rx
      exact p g' _ _ e1 l1 (e.mono e1) r1
    · exact p.elim
/-! ### subscripts -/
def oIx : Sto → D → D → Option D := fun S x y => match x, y with
  | .str z, .int i => if z.length ≤ sizeLine then (atI z.cps.toList i).map fun c => .str ⟨#[c]⟩ else none
  | d, .int i => (seqOf S d).bind fun xs => atI xs i
  | _, _ => none
theorem atI_rel {K : PySem.W.Frag} {g : Gh} {xs : List D} {vs : List V} {i : Int} {d : D} (r : RelDs K g xs vs) (h : atI xs i = some d) : ∃ v, atI vs i = some v ∧ RelD K g d v := by
  unfold atI at h ⊢
  rw [← r.length]
  cases q : ixN xs.length i with
  | none => rw [q] at h; cases h
  | some j =>
    rw [q] at h
    exact r.get h
theorem u_ix {K : PySem.W.Frag} : UOp K (rIx K) oIx := by
  intro g S H x y d xv yv Q l rx ry e k
  have seqs : ∀ {i : Int}, y = .int i → (seqOf S x).bind (fun xs => atI xs i) = some d → rIx K xv yv H Q := fun {i} hy eq => by
    subst hy
    cases ry
    obtain ⟨xs, e1, e2⟩ := Option.bind_eq_some_iff.mp eq
    obtain ⟨a, vs, rfl, hs, rs⟩ := seq_view l rx e1
    obtain ⟨v, e3, rv⟩ := atI_rel rs e2
    rcases hs with hs | hs
    · exact .inl ⟨a, vs, i, v, rfl, rfl, hs, e3, k g H v (.refl g) l rv⟩
    · exact .inr (.inl ⟨a, vs, i, v, rfl, rfl, hs, e3, k g H v (.refl g) l rv⟩)
  cases y with
  | int i =>
    cases x with
    | str z =>
      simp only [oIx] at e
      split at e
      · rename_i hz
        obtain ⟨c, e1, rfl⟩ := Option.map_eq_some_iff.mp e
        cases rx
        cases ry
        exact .inr (.inr ⟨z, i, c, rfl, rfl, hz, e1, k g H _ (.refl g) l rfl⟩)
      · cases e
    | _ => exact seqs rfl e
  | _ => cases x <;> cases e
def eIx (fa fb : EF) : EF := eBin oIx fa fb
theorem se_ix (ha : SE X W a fa) (hb : SE X W b fb) (hs : PlainIx b := by exact fun _ _ => rfl) : SE X W (.Subscript a b pos) (eIx fa fb) := by
  refine pe_imp (pe_ix ix_seq ha hb hs) fun σ H Q h => td_two h fun g r S H x y xv yv l e rx ry p => ?_
  split at p
  · rename_i d q
    exact u_ix g S H x y d xv yv Q l rx ry q fun g' H' v x' l' r' => p g' H' v x' l' (e.mono x') r'
  · exact p.elim
def oNone : OF := fun r S => .ok none r S
def oSome (fa : EF) : OF := fun r S => (fa r S).bind fun x r S => match x with
  | .int i => .ok (some i) r S
  | _ => .no
theorem so_none : SO X W none oNone := po_imp po_none fun σ H Q ⟨g, r, S, l, e, p⟩ => post_ok p l e rfl
theorem so_some (ha : SE X W a fa) : SO X W (some a) (oSome fa) := po_imp (po_some ha) fun σ H Q h => td_seq (TD.split (rel := RelD X.K) h) fun xv H1 ⟨g, x, r, S, l, e, rx, p⟩ => by
  split at p
  · rename_i i; cases rx; exact ⟨i, rfl, post_ok p l e rfl⟩
  · exact p.elim
def cutD (xs : List D) (lo hi : Option Int) : List D := (xs.drop (HT.sIx xs.length 0 lo)).take (HT.sIx xs.length xs.length hi - HT.sIx xs.length 0 lo)
def sliceD (S : Sto) (d : D) (lo hi : Option Int) : Option D := match d with
  | .str z => if z.length ≤ sizeLine then some (.str (cutS z lo hi)) else none
  | .tup xs => some (.tup (cutD xs lo hi))
  | d => (lstOf S d).map fun xs => .lst (cutD xs lo hi)
theorem cutD_rel {K : PySem.W.Frag} {g : Gh} {xs : List D} {vs : List V} (r : RelDs K g xs vs) (lo hi : Option Int) : RelDs K g (cutD xs lo hi) (cutV vs lo hi) := by
  unfold cutD cutV
  rw [r.length]
  exact (r.drop _).take _
def eSl (fa : EF) (fl fh : OF) : EF := fun r S => (fa r S).bind fun x r S => (fl r S).bind fun lo r S => (fh r S).bind fun hi r S => match sliceD S x lo hi with
  | some d => .ok d r S
  | none => .no
variable {lo hi : Option Expr} {fl fh : OF}
theorem se_sl {p2 : Pos} (ha : SE X W a fa) (hl : SO X W lo fl) (hh : SO X W hi fh) : SE X W (.Subscript a (.Slice lo hi none p2) pos) (eSl fa fl fh) := by
  refine pe_imp (pe_slice (sl_list.or (sl_tupA.or sl_str)) ha hl hh) fun σ H Q h => td_seq (TD.split (rel := RelD X.K) h) fun xv H1 ⟨g, x, r, S, l, e, rx, p⟩ => ?_
  refine ⟨g, r, S, l, e, PostG.imp (PostG.split (rel := relI) p) fun lov H2 ⟨g2, lo2, r2, S2, e2, l2, re2, rlo, p2⟩ => ?_⟩
  refine ⟨g2, r2, S2, l2, re2, PostG.imp (PostG.split (rel := relI) p2) fun hiv H3 ⟨g3, hi3, r3, S3, e3, l3, re3, rhi, p3⟩ => ?_⟩
  have elo : lo2 = lov := rlo
  have ehi : hi3 = hiv := rhi
  subst elo
  subst ehi
  have rx3 := rx.mono (e2.trans e3)
  split at p3
  · rename_i d q
    have lists : (lstOf S3 x).map (fun xs => D.lst (cutD xs lo2 hi3)) = some d → rSlL X.K xv lo2 hi3 H3 Q := fun q => by
      obtain ⟨xs, q1, rfl⟩ := Option.map_eq_some_iff.mp q
      obtain ⟨a, vs, rfl, hs, rs⟩ := lst_view l3 rx3 q1
      refine ⟨a, vs, rfl, hs, fun pp hp => ?_⟩
      obtain ⟨g', e1, l1, r1⟩ := l3.newLst hp (cutD_rel rs lo2 hi3)
      exact p3 g' _ _ e1 l1 (re3.mono e1) r1
    cases x with
    | str z =>
      simp only [sliceD] at q
      split at q
      · rename_i hz
        cases q
        cases rx3
        exact .inr (.inr ⟨z, rfl, hz, post_ok p3 l3 re3 rfl⟩)
      · cases q
    | tup xs =>
      cases q
      obtain ⟨a, vs, rfl, hs, rs⟩ := tup_view l3 rx3
      refine .inr (.inl ⟨a, vs, rfl, hs, fun hw => ?_, fun _ pp hp => ?_⟩)
      · have ew : cutD xs lo2 hi3 = xs := by
          unfold cutD
          rw [rs.length, hw.1, hw.2, List.drop_zero, Nat.sub_zero, ← rs.length, List.take_length]
        rw [ew] at p3
        exact post_ok p3 l3 re3 rx3
      · obtain ⟨g', e1, l1, r1⟩ := l3.newTup hp (cutD_rel rs lo2 hi3)
        exact p3 g' _ _ e1 l1 (re3.mono e1) r1
    | _ => exact .inl (lists q)
  · exact p3.elim
end
end L2.U
namespace L2.U
open PySem PySem.Spec PyProof.Rows

/-! ### statements -/
inductive Fl where
  | nx | rt (d : D) | bk | ct
abbrev SF := Env → Sto → R Fl
def PostS (K : PySem.W.Frag) (W : WX) (g : Gh) (x : R Fl) (E : Ends) : Prop := match x with
  | .ok .nx r S => ∀ g' H' σ', Ext g g' → Rl K g' S H' → REnv K g' r σ' → E.nx σ' H'
  | .ok (.rt d) r S => ∀ g' H' v, Ext g g' → Rl K g' S H' → RelD K g' d v → E.rt v H'
  | .ok .bk r S => ∀ g' H' σ', Ext g g' → Rl K g' S H' → REnv K g' r σ' → E.bk σ' H'
  | .ok .ct r S => ∀ g' H' σ', Ext g g' → Rl K g' S H' → REnv K g' r σ' → E.ct σ' H'
  | .er x r S => ∀ g' H' σ' cls od, Ext g g' → Rl K g' S H' → REnv K g' r σ' → RelX K g' H' x cls od → W cls od σ' H'
  | .no => False
theorem PostS.ext {K : PySem.W.Frag} {W : WX} {g g' : Gh} {x : R Fl} {E : Ends} (e : Ext g g') (h : PostS K W g x E) : PostS K W g' x E := by
  cases x with
  | ok a r S => cases a <;> exact fun g2 H' b e2 => h g2 H' b (e.trans e2)
  | er x r S => exact fun g2 H' c d od e2 => h g2 H' c d od (e.trans e2)
  | no => exact h
theorem PostS.imp {K : PySem.W.Frag} {W : WX} {g : Gh} {x : R Fl} {E E' : Ends} (h : PostS K W g x E) (h1 : ∀ σ H, E.nx σ H → E'.nx σ H) (h2 : ∀ v H, E.rt v H → E'.rt v H) (h3 : ∀ σ H, E.bk σ H → E'.bk σ H) (h4 : ∀ σ H, E.ct σ H → E'.ct σ H) : PostS K W g x E' := by
  cases x with
  | ok a r S =>
    cases a with
    | nx => exact fun g2 H' b e2 l q => h1 _ _ (h g2 H' b e2 l q)
    | rt d => exact fun g2 H' b e2 l q => h2 _ _ (h g2 H' b e2 l q)
    | bk => exact fun g2 H' b e2 l q => h3 _ _ (h g2 H' b e2 l q)
    | ct => exact fun g2 H' b e2 l q => h4 _ _ (h g2 H' b e2 l q)
  | er x r S => exact h
  | no => exact h
def TSd (K : PySem.W.Frag) (W : WX) (f : SF) : TS := fun E σ H => ∃ g r S, Rl K g S H ∧ REnv K g r σ ∧ PostS K W g (f r S) E
abbrev SS (X : Cx) (W : WX) (st : Stmt) (f : SF) : Prop := PS X st (TSd X.K W f)
abbrev SSs (X : Cx) (W : WX) (st : List Stmt) (f : SF) : Prop := PSs X st (TSd X.K W f)
theorem ps_imp {X : Cx} {st : Stmt} {t t' : TS} (h : PS X st t) (i : ∀ E σ H, t' E σ H → t E σ H) : PS X st t' := ⟨fun pins s σ H E I w => h.run pins s σ H E I (i E σ H w)⟩
theorem pss_imp {X : Cx} {st : List Stmt} {t t' : TS} (h : PSs X st t) (i : ∀ E σ H, t' E σ H → t E σ H) : PSs X st t' := ⟨fun pins s σ H E I w => h.run pins s σ H E I (i E σ H w)⟩
/-- what an expression gives, then a statement's rest -/
theorem post_s {K : PySem.W.Frag} {W : WX} {α β : Type} {rel : Gh → α → β → Prop} {g : Gh} {σ : St} {x : R α} {k : α → Env → Sto → R Fl} {E : Ends} (h : PostS K W g (x.bind k) E) :
    PostG K W rel g σ x (fun b H' => ∃ g' a r S, Ext g g' ∧ Rl K g' S H' ∧ REnv K g' r σ ∧ rel g' a b ∧ PostS K W g' (k a r S) E) := by
  cases x with
  | ok a r S => exact fun g2 H' b e l re q => ⟨g2, a, r, S, e, l, re, q, PostS.ext e (show PostS K W g (k a r S) E from h)⟩
  | er x r S => exact fun g' H' cls od e l re q => h g' H' σ cls od e l re q
  | no => exact h
theorem ts_seq {K : PySem.W.Frag} {W : WX} {α β : Type} {rel : Gh → α → β → Prop} {f : Env → Sto → R α} {k : α → Env → Sto → R Fl} {σ : St} {H : Hp} {E : Ends} {Q : β → Hp → Prop} (h : TSd K W (fun r S => (f r S).bind k) E σ H)
    (i : ∀ b H' g a r S, Rl K g S H' → REnv K g r σ → rel g a b → PostS K W g (k a r S) E → Q b H') : TD K W rel f σ H Q := by
  obtain ⟨g, r, S, l, e, p⟩ := h
  exact ⟨g, r, S, l, e, PostG.imp (post_s (rel := rel) p) fun b H' ⟨g', a, r', S', _, l', e', q, p'⟩ => i b H' g' a r' S' l' e' q p'⟩
theorem post_nx {K : PySem.W.Frag} {W : WX} {g : Gh} {r : Env} {S : Sto} {E : Ends} (h : PostS K W g (.ok .nx r S) E) {H : Hp} {σ : St} (l : Rl K g S H) (e : REnv K g r σ) : E.nx σ H := h g H σ (.refl g) l e
theorem post_rt {K : PySem.W.Frag} {W : WX} {g : Gh} {r : Env} {S : Sto} {d : D} {E : Ends} (h : PostS K W g (.ok (.rt d) r S) E) {H : Hp} {v : V} (l : Rl K g S H) (q : RelD K g d v) : E.rt v H := h g H v (.refl g) l q

def sNext : SF := fun r S => .ok .nx r S
def sSeq (f h : SF) : SF := fun r S => (f r S).bind fun a r S => match a with
  | .nx => h r S
  | a => .ok a r S
def sRet (fa : EF) : SF := fun r S => (fa r S).bind fun d r S => .ok (.rt d) r S
def sRetN : SF := fun r S => .ok (.rt .non) r S
def sExpr (fa : EF) : SF := fun r S => (fa r S).bind fun _ r S => .ok .nx r S
def sIf (tc : TF) (f h : SF) : SF := fun r S => (tc r S).bind fun b r S => if b = true then f r S else h r S
def sBrk : SF := fun r S => .ok .bk r S
def sCont : SF := fun r S => .ok .ct r S
section
variable {X : Cx} {W : WX} {pos : Pos} {st : Stmt} {rest : List Stmt} {f h : SF} {a : Expr} {fa : EF}
theorem sss_nil : SSs X W [] sNext := pss_imp pss_nil fun E σ H ⟨g, r, S, l, e, p⟩ => post_nx p l e
theorem sss_cons (h1 : SS X W st f) (h2 : SSs X W rest h) : SSs X W (st :: rest) (sSeq f h) := pss_imp (pss_cons h1 h2) fun E σ H ⟨g, r, S, l, e, p⟩ => by
  refine ⟨g, r, S, l, e, ?_⟩
  have p' : PostS X.K W g ((f r S).bind fun a r S => match a with
    | .nx => h r S
    | a => .ok a r S) E := p
  cases q : f r S with
  | ok a r1 S1 =>
    rw [q] at p'
    cases a with
    | nx => exact fun g' H' σ' e' l' re => ⟨g', r1, S1, l', re, PostS.ext e' p'⟩
    | rt d => exact p'
    | bk => exact p'
    | ct => exact p'
  | er x r1 S1 => rw [q] at p'; exact p'
  | no => rw [q] at p'; exact p'.elim
theorem sss_one (h1 : SS X W st f) : SSs X W [st] f := pss_one h1
theorem ss_pass : SS X W (.Pass pos) sNext := ps_imp ps_pass fun E σ H ⟨g, r, S, l, e, p⟩ => post_nx p l e
theorem ss_doc {x j pos pos'} : SS X W (.Expr (.Constant (.str x) j pos) pos') sNext := ps_imp ps_doc fun E σ H ⟨g, r, S, l, e, p⟩ => post_nx p l e
theorem ss_break : SS X W (.Break pos) sBrk := ps_imp ps_break fun E σ H ⟨g, r, S, l, e, p⟩ => p g H σ (.refl g) l e
theorem ss_continue : SS X W (.Continue pos) sCont := ps_imp ps_continue fun E σ H ⟨g, r, S, l, e, p⟩ => p g H σ (.refl g) l e
theorem ss_ret (ha : SE X W a fa) : SS X W (.Return (some a) pos) (sRet fa) := ps_imp (ps_ret ha) fun E σ H h => ts_seq h fun v H' g d r S l e q p => post_rt p l q
theorem ss_retN : SS X W (.Return none pos) sRetN := ps_imp ps_retN fun E σ H ⟨g, r, S, l, e, p⟩ => post_rt p l rfl
theorem ss_expr (ha : SE X W a fa) (hs : swapsWith a none pos.line X.env = pure false := by rfl) : SS X W (.Expr a pos) (sExpr fa) := ps_imp (ps_expr ha hs) fun E σ H h => ts_seq h fun v H' g d r S l e q p => post_nx p l e
theorem ss_if {c : Expr} {tc : TF} {sa sb : List Stmt} (hc : ST X W c tc) (ha : SSs X W sa f) (hb : SSs X W sb h) : SS X W (.If c sa sb pos) (sIf tc f h) := ps_imp (ps_if hc ha hb) fun E σ H h => ts_seq h fun b H' g d r S l e q p => by
  cases q
  split
  · rename_i hx; rw [if_pos hx] at p; exact ⟨g, r, S, l, e, p⟩
  · rename_i hx; rw [if_neg hx] at p; exact ⟨g, r, S, l, e, p⟩

/-! ### targets -/
abbrev Bn := D → Env → Option Env
def bName (i : Nat) : Bn := fun d r => some (r.set i (some d))
/-- a target binds so; vs: its slots -/
def GU (K : PySem.W.Frag) (t : TG) (b : Bn) (vs : List Nat) : Prop := ∀ g S r σ H d v r' (Q : St → Hp → Prop), Rl K g S H → REnv K g r σ → RelD K g d v → b d r = some r' →
  (∀ σ', REnv K g r' σ' → (∀ ws : List Nat, (∀ i ∈ vs, i ∈ ws) → wipe σ' ws = wipe σ ws) → Q σ' H) → t v σ H Q
structure BU (X : Cx) (tg : Expr) (b : Bn) (vs : List Nat) : Prop where
  ex : ∃ t, PG X tg t ∧ GU X.K t b vs
theorem wipe_set {σ : St} {i : Nat} {v : Option V} : ∀ {ws : List Nat}, i ∈ ws → wipe (σ.set i v) ws = wipe σ ws
  | w :: ws, h => by
    unfold wipe
    rcases List.mem_cons.mp h with e | h
    · subst e
      by_cases q : i ∈ ws
      · rw [wipe_set q]
      · have comm : ∀ ws : List Nat, i ∉ ws → wipe (σ.set i v) ws = (wipe σ ws).set i v := by
          intro ws
          induction ws with
          | nil => intro _; rfl
          | cons w ws ih =>
            intro hn
            have h1 : i ≠ w := fun e => hn (by rw [e]; exact List.mem_cons_self)
            have h2 : i ∉ ws := fun e => hn (List.mem_cons_of_mem _ e)
            unfold wipe
            rw [ih h2, List.set_comm _ _ h1]
        rw [comm ws q, List.set_set]
    · rw [wipe_set h]
theorem gu_name {K : PySem.W.Frag} (i : Nat) : GU K (gName i) (bName i) [i] := fun g S r σ H d v r' Q l e q hb k => by
  cases hb
  exact k _ (e.set i q) fun ws h => wipe_set (h i (List.mem_singleton.mpr rfl))
theorem bu_name (i : Nat) {x : Str} (hN : X.N.Nodup) (hi : X.N[i]? = some x := by rfl) (hx : Loc X.env.scope x := by first | exact Or.inl rfl | exact Or.inr rfl) (hf : X.fn x = true ∨ X.env.scope.names.lookup x = some .local := by first | exact .inl rfl | exact .inr rfl | assumption) :
    BU X (.Name x pos) (bName i) [i] := ⟨_, pg_name hN hi hx hf, gu_name i⟩
abbrev Bns := List D → Env → Option Env
def bNil : Bns := fun ds r => match ds with
  | [] => some r
  | _ => none
def bCons (b : Bn) (bs : Bns) : Bns := fun ds r => match ds with
  | d :: ds => (b d r).bind (bs ds)
  | [] => none
def bTup (n : Nat) (bs : Bns) : Bn := fun d r => match d with
  | .tup xs => if xs.length = n then bs xs r else none
  | _ => none
def GUs (K : PySem.W.Frag) (t : TGs) (b : Bns) (vs : List Nat) : Prop := ∀ g S r σ H ds us r' (Q : St → Hp → Prop), Rl K g S H → REnv K g r σ → RelDs K g ds us → b ds r = some r' →
  (∀ σ', REnv K g r' σ' → (∀ ws : List Nat, (∀ i ∈ vs, i ∈ ws) → wipe σ' ws = wipe σ ws) → Q σ' H) → t us σ H Q
structure BUs (X : Cx) (tgs : List Expr) (b : Bns) (vs : List Nat) : Prop where
  ex : ∃ t, PGs X tgs t ∧ GUs X.K t b vs
theorem bus_nil : BUs X [] bNil [] := ⟨_, pgs_nil, fun g S r σ H ds us r' Q l e q hb k => by
  cases q with
  | nil => cases hb; exact ⟨rfl, k σ e fun _ _ => rfl⟩
  | cons _ _ => cases hb⟩
theorem bus_cons {e : Expr} {es : List Expr} {b : Bn} {bs : Bns} {vs ws : List Nat} (h1 : BU X e b vs) (h2 : BUs X es bs ws) (hs : (assignEach (e :: es) X.env).map (·.2) = assign e X.env :: (assignEach es X.env).map (·.2) := by rfl) : BUs X (e :: es) (bCons b bs) (vs ++ ws) := by
  obtain ⟨t, p, u⟩ := h1
  obtain ⟨t', p', u'⟩ := h2
  refine ⟨_, pgs_cons p p' hs, fun g S r σ H ds us r' Q l e q hb k => ?_⟩
  cases q with
  | nil => cases hb
  | cons q1 q2 =>
    obtain ⟨r1, hb1, hb2⟩ := Option.bind_eq_some_iff.mp (show (b _ r).bind _ = some r' from hb)
    refine ⟨_, _, rfl, u g S r σ H _ _ r1 _ l e q1 hb1 fun σ1 e1 w1 => ?_⟩
    exact u' g S r1 σ1 H _ _ r' _ l e1 q2 hb2 fun σ2 e2 w2 => k σ2 e2 fun zs hz => (w2 zs fun i hi => hz i (List.mem_append_right _ hi)).trans (w1 zs fun i hi => hz i (List.mem_append_left _ hi))
theorem bu_tup {es : List Expr} {k : Nat} {bs : Bns} {n : Nat} {vs : List Nat} (hc : X.calm = true) (h : BUs X es bs vs) (hn : (assignEach es X.env).length = n := by rfl) (hst : (assignEach es X.env).findIdx? (·.1) = none := by rfl) : BU X (.Tuple es k pos) (bTup n bs) vs := by
  obtain ⟨t, p, u⟩ := h
  refine ⟨_, pg_tup hc p hn hst, fun g S r σ H d v r' Q l e q hb k => ?_⟩
  cases d <;> try (cases hb; done)
  rename_i xs
  simp only [bTup] at hb
  split at hb
  · rename_i hl
    obtain ⟨a, us, rfl, hs, rs⟩ := tup_view l q
    exact ⟨a, us, rfl, hs, by rw [← rs.length]; exact hl, u g S r σ H xs us r' Q l e rs hb k⟩
  · cases hb
/-! ### assignments -/
def sAsg (fa : EF) (b : Bn) : SF := fun r S => (fa r S).bind fun d r S => match b d r with
  | some r' => .ok .nx r' S
  | none => .no
theorem ss_asg {tg : Expr} {b : Bn} {vs : List Nat} (ha : SE X W a fa) (hb : BU X tg b vs) (hs : swapsWithSole [tg] a pos.line X.env = pure false := by rfl) (hw : swappedStores [tg] a X.env = pure none := by rfl)
    (h1 : (assignEach [tg] X.env).map (·.2) = [assign tg X.env] := by rfl) : SS X W (.Assign [tg] a pos) (sAsg fa b) := by
  obtain ⟨t, p, u⟩ := hb
  refine ps_imp (ps_asg ha p hs hw h1) fun E σ H h => ts_seq h fun v H' g d r S l e q p => ?_
  split at p
  · rename_i r' hr
    exact u g S r σ H' d v r' _ l e q hr fun σ' e' _ => post_nx p l e'
  · exact p.elim
theorem ss_set (i : Nat) {x : Str} {pos' : Pos} (ha : SE X W a fa) (hN : X.N.Nodup) (hi : X.N[i]? = some x := by rfl) (hx : Loc X.env.scope x := by first | exact Or.inl rfl | exact Or.inr rfl) (hs : swapsWith a (some (.Name x pos')) pos.line X.env = pure false := by rfl)
    (hf : X.fn x = true ∨ X.env.scope.names.lookup x = some .local := by first | exact .inl rfl | exact .inr rfl | assumption) : SS X W (.Assign [.Name x pos'] a pos) (sAsg fa (bName i)) :=
  ps_imp (ps_set hN hi hx ha hs hf) fun E σ H h => ts_seq h fun v H' g d r S l e q p => post_nx p l (e.set i q)
/-- a, b = x, y: two plain names -/
def sPar (i j : Nat) (fs : AF) : SF := fun r S => (fs r S).bind fun ds r S => match ds with
  | [x, y] => .ok .nx ((r.set i (some x)).set j (some y)) S
  | _ => .no
theorem ss_par (i j : Nat) {x y : Str} {c d : Expr} {fs : AF} {px py pt : Pos} {kt k2 pt2} (hc : X.calm = true) (hN : X.N.Nodup) (ha : SA X W [c, d] fs) (hij : i ≠ j := by decide) (hi : X.N[i]? = some x := by rfl) (hj : X.N[j]? = some y := by rfl)
    (hx : X.env.scope.names.lookup x = some .local := by rfl) (hy : X.env.scope.names.lookup y = some .local := by rfl)
    (hw : swappedStores [.Tuple [.Name x px, .Name y py] kt pt] (.Tuple [c, d] k2 pt2) X.env = pure (some [x, y]) := by rfl)
    (hs : swapsWithSole [.Tuple [.Name x px, .Name y py] kt pt] (.Tuple [c, d] k2 pt2) pos.line X.env = pure false := by rfl) :
    SS X W (.Assign [.Tuple [.Name x px, .Name y py] kt pt] (.Tuple [c, d] k2 pt2) pos) (sPar i j fs) :=
  ps_imp (ps_par hc hN hi hj hij hx hy ha hw hs) fun E σ H h => ts_seq (rel := RelDs X.K) h fun us H' g ds r S l e q p => by
    split at p
    · cases q with
      | cons q1 q2 => cases q2 with
        | cons q2 q3 =>
          cases q3
          exact ⟨_, _, rfl, post_nx p l ((e.set i q1).set j q2)⟩
    · exact p.elim
/-- x op= e at a name -/
def sAug (i : Nat) (o : Sto → D → D → Option D) (fa : EF) : SF := fun r S => match r[i]? with
  | some (some x) => (fa r S).bind fun y r S => (match o S x y with
    | some d => .ok .nx (r.set i (some d)) S
    | none => .no)
  | _ => .no
structure AugU (X : Cx) (op : Operator) (o : Sto → D → D → Option D) : Prop where
  ex : ∃ r, PIp X op r ∧ UOp X.K r o
theorem ss_aug (i : Nat) {x : Str} {op : Operator} {o : Sto → D → D → Option D} {pos' : Pos} (u : AugU X op o) (ha : SE X W a fa) (hN : X.N.Nodup) (hi : X.N[i]? = some x := by rfl) (hx : Loc X.env.scope x := by first | exact Or.inl rfl | exact Or.inr rfl)
    (hf : X.fn x = true ∨ X.env.scope.names.lookup x = some .local := by first | exact .inl rfl | exact .inr rfl | assumption) : SS X W (.AugAssign (.Name x pos') op a pos) (sAug i o fa) := by
  obtain ⟨r0, ho, hu⟩ := u
  refine ps_imp (ps_aug hN hi hx ha ho hf) fun E σ H ⟨g, r, S, l, e, p⟩ => ?_
  unfold sAug at p
  split at p
  · rename_i x' hx'
    obtain ⟨v, h1, h2⟩ := e.2 i x' hx'
    refine ⟨v, h1, g, r, S, l, e, PostG.imp (post_s (rel := RelD X.K) p) fun yv H' ⟨g', y, r', S', e', l', re, ry, p'⟩ => ?_⟩
    split at p'
    · rename_i d q
      exact hu g' S' H' x' y d v yv _ l' (h2.mono e') ry q fun g2 H2 z e2 l2 rz => p' g2 H2 _ e2 l2 ((re.mono e2).set i rz)
    · exact p'.elim
  · exact p.elim
theorem a_add : AugU X .Add (orO (oInt0 fun i j => i + j) oCatS) := ⟨fun x y H Q => rI0 (fun i j => .int (i + j)) x y H Q ∨ (∃ i j, x = .str i ∧ y = .str j ∧ i.length + j.length ≤ sizeLine ∧ Q (.str (i ++ j)) H),
  iop_add.or iop_add_str, u_int0.or u_catS⟩
/-- o[i] = e: a list of the store -/
def setD (S : Sto) (x y d : D) : Option Sto := match x, y with
  | .ref n, .int i => (match S[n]? with
    | some (.lst xs) => (ixN xs.length i).map fun j => S.set n (.lst (xs.set j d))
    | _ => none)
  | _, _ => none
def sSub (fv fa fi : EF) : SF := fun r S => (fv r S).bind fun d r S => (fa r S).bind fun x r S => (fi r S).bind fun y r S => match setD S x y d with
  | some S' => .ok .nx r S'
  | none => .no
theorem ss_sub {o i v : Expr} {fo fi fv : EF} {tpos : Pos} (hv : SE X W v fv) (ho : SE X W o fo) (hi : SE X W i fi) (hs : swapsWithSole [.Subscript o i tpos] v pos.line X.env = pure false := by rfl) (hw : swappedStores [.Subscript o i tpos] v X.env = pure none := by rfl)
    (h1 : (assignEach [.Subscript o i tpos] X.env).map (·.2) = [assign (.Subscript o i tpos) X.env] := by rfl)
    (ha : ∀ v, assign (.Subscript o i tpos) X.env v = (do
      let ov ← holding [v] (eval o X.env)
      let iv ← holding [v, ov] (eval i X.env)
      standAt tpos
      holding [v, ov, iv] (setItem ov iv v)
      release [v, ov, iv] []) := by intro _; rfl) : SS X W (.Assign [.Subscript o i tpos] v pos) (sSub fv fo fi) := by
  refine ps_imp (ps_asg hv (pg_sub ho hi set_list ha) hs hw h1) fun E σ H h => ts_seq (rel := RelD X.K) h fun vv H1 g d r S l e q p => ?_
  refine ⟨g, r, S, l, e, PostG.imp (post_s (rel := RelD X.K) p) fun xv H2 ⟨g2, x, r2, S2, e2, l2, re2, rx, p2⟩ => ?_⟩
  refine ⟨g2, r2, S2, l2, re2, PostG.imp (post_s (rel := RelD X.K) p2) fun yv H3 ⟨g3, y, r3, S3, e3, l3, re3, ry, p3⟩ => ?_⟩
  have rx3 := rx.mono e3
  have q3 := q.mono (e2.trans e3)
  split at p3
  · rename_i S' hS
    cases x with
    | ref n =>
      cases y with
      | int i' =>
        simp only [setD] at hS
        split at hS
        · rename_i xs hx
          obtain ⟨j, hj, rfl⟩ := Option.map_eq_some_iff.mp hS
          obtain ⟨m1, vs, hh, rs⟩ := l3.sto n _ hx (by intro z; cases z)
          obtain ⟨_, rfl⟩ := rx3
          cases ry
          refine ⟨g3.m n, vs, i', j, rfl, rfl, hh, by rw [← rs.length]; exact hj, ?_⟩
          have lw := l3.write (ob' := .lst (xs.set j d)) (o := .lst (vs.set j vv)) hx (by intro z; cases z) ⟨_, upd_same, rs.set q3 j⟩
          exact p3 g3 _ σ (.refl g3) lw re3
        · cases hS
      | _ => cases hS
    | _ => cases y <;> cases hS
  · exact p3.elim
end
end L2.U
namespace L2.U
open PySem PySem.Spec PyProof.Rows

/-- what is known grows, whatever is set aside -/
structure ExtW (g g' : Gh) : Prop where
  G : ∀ a d, g.G a = some d → g'.G a = some d
  sz : g.sz ≤ g'.sz
  m : ∀ n, n < g.sz → g'.m n = g.m n
theorem Ext.w {g g' : Gh} (e : Ext g g') : ExtW g g' := ⟨e.G, e.sz, e.m⟩
theorem ExtW.trans {g1 g2 g3 : Gh} (a : ExtW g1 g2) (b : ExtW g2 g3) : ExtW g1 g3 :=
  ⟨fun x d h => b.G x d (a.G x d h), Nat.le_trans a.sz b.sz, fun n h => (b.m n (Nat.lt_of_lt_of_le h a.sz)).trans (a.m n h)⟩
theorem ExtW.ext {g g' : Gh} (e : ExtW g g') : Ext g { g' with F := g.F } := ⟨e.G, e.sz, e.m, rfl⟩
theorem RelD.monoW {K : PySem.W.Frag} {g g' : Gh} (e : ExtW g g') {d : D} {v : V} (h : RelD K g d v) : RelD K g' d v := (h.mono e.ext).eqG rfl rfl rfl
theorem RelDs.monoW {K : PySem.W.Frag} {g g' : Gh} (e : ExtW g g') {d : List D} {v : List V} (h : RelDs K g d v) : RelDs K g' d v := (h.mono e.ext).eqG rfl rfl rfl
theorem REnv.monoW {K : PySem.W.Frag} {g g' : Gh} (e : ExtW g g') {r : Env} {σ : St} (h : REnv K g r σ) : REnv K g' r σ := (h.mono e.ext).eqG rfl rfl rfl
/-- a walk over these data -/
structure SrcOk (K : PySem.W.Frag) (g : Gh) (xs : List D) (J : It) : Prop where
  ex : ∃ G Y, Walk J xs.length G Y ∧ (∀ g' S H, ExtW g g' → Rl K g' S H → G H) ∧
    ∀ i d g1 S1 H x H2, xs[i]? = some d → ExtW g g1 → Rl K g1 S1 H → Y i H x H2 → ∃ g2, Ext g1 g2 ∧ Rl K g2 S1 H2 ∧ RelD K g2 d x
structure IterU (X : Cx) (W : WX) (tg e : Expr) (f : AF) : Prop where
  ex : ∃ wi, PI X tg e wi ∧ ∀ σ H R, TD X.K W (fun g xs J => SrcOk X.K g xs J) f σ H R → wi σ H R
section
variable {X : Cx} {W : WX} {tg e : Expr} {pos : Pos} {fe : EF}
/-- a list, as it stands -/
theorem walk_lst {K : PySem.W.Frag} {a : Addr} {n : Nat} : Walk (Itl K a) n (fun H => ∃ vs, SqL K H a vs ∧ vs.length = n) (fun i H x H' => H' = H ∧ ∀ vs, SqL K H a vs → vs[i]? = some x) :=
  ⟨fun i _ hi ⟨vs, q, hl⟩ => ⟨vs, vs[i]'(by omega), q, by simp [show i < vs.length by omega]⟩, fun _ ⟨vs, q, hl⟩ => ⟨vs, q, by omega⟩, fun _ _ _ _ _ _ y => y⟩
theorem walk_tp {K : PySem.W.Frag} {a : Addr} {n : Nat} : Walk (Itt K a) n (fun H => ∃ vs, SqT K H a vs ∧ vs.length = n) (fun i H x H' => H' = H ∧ ∀ vs, SqT K H a vs → vs[i]? = some x) :=
  ⟨fun i _ hi ⟨vs, q, hl⟩ => ⟨vs, vs[i]'(by omega), q, by simp [show i < vs.length by omega]⟩, fun _ ⟨vs, q, hl⟩ => ⟨vs, q, by omega⟩, fun _ _ _ _ _ _ y => y⟩
/-- data that are a list by value -/
def vlst : D → Option (List D)
  | .lst xs => some xs
  | .fz xs => some xs
  | _ => none
theorem vlst_lst {S : Sto} {d : D} {xs : List D} (h : vlst d = some xs) : lstOf S d = some xs := by
  cases d <;> simp only [vlst, reduceCtorEq] at h <;> exact h
def iLst (fe : EF) : AF := fun r S => (fe r S).bind fun d r S => match vlst d with
  | some xs => .ok xs r S
  | none => .no
theorem rel_addr {K : PySem.W.Frag} {g g' : Gh} {d : D} {a : Addr} (x : Ext g g') (r : RelD K g d (.ref a)) : RelD K g' d (.ref a) := r.mono x
theorem src_lst {σ : St} {H : Hp} {R' : It → Hp → Prop} (h : TD X.K W (fun g xs J => SrcOk X.K g xs J) (iLst fe) σ H R') : iList X.K (TD X.K W (RelD X.K) fe) σ H R' := by
  refine td_seq (TD.split (rel := RelD X.K) h) fun v H1 ⟨g, d, r, S, l, e, rd, p⟩ => ?_
  split at p
  · rename_i xs hx
    obtain ⟨a, vs, rfl, hs, rs⟩ := lst_view l rd (vlst_lst hx)
    refine ⟨a, rfl, ⟨vs, hs⟩, post_ok p l e ⟨_, _, walk_lst, fun g' S' H' x' l' => ?_, fun i d' g1 S1 H' x H2 hi x' l' y => ?_⟩⟩
    · obtain ⟨b, us, eb, hs', rs'⟩ := lst_view l' (rd.monoW x') (vlst_lst hx)
      cases eb
      exact ⟨us, hs', rs'.length.symm⟩
    · obtain ⟨rfl, y⟩ := y
      obtain ⟨b, us, eb, hs', rs'⟩ := lst_view l' (rd.monoW x') (vlst_lst hx)
      cases eb
      obtain ⟨u, hu, ru⟩ := rs'.get hi
      have := y us hs'
      rw [hu] at this
      cases this
      exact ⟨g1, .refl g1, l', ru⟩
  · exact p.elim
theorem it_lst (he : SE X W e fe) : IterU X W tg e (iLst fe) := ⟨_, pi_list he, fun _ _ _ h => src_lst h⟩
def iTpl (fe : EF) : AF := fun r S => (fe r S).bind fun d r S => match d with
  | .tup xs => .ok xs r S
  | _ => .no
theorem src_tup {σ : St} {H : Hp} {R' : It → Hp → Prop} (h : TD X.K W (fun g xs J => SrcOk X.K g xs J) (iTpl fe) σ H R') : iTup X.K (TD X.K W (RelD X.K) fe) σ H R' := by
  refine td_seq (TD.split (rel := RelD X.K) h) fun v H1 ⟨g, d, r, S, l, e, rd, p⟩ => ?_
  cases d <;> try (exact p.elim)
  rename_i xs
  obtain ⟨a, vs, rfl, hs, rs⟩ := tup_view l rd
  refine ⟨a, rfl, ⟨vs, hs⟩, post_ok p l e ⟨_, _, walk_tp, fun g' S' H' x' l' => ?_, fun i d' g1 S1 H' x H2 hi x' l' y => ?_⟩⟩
  · obtain ⟨b, us, eb, hs', rs'⟩ := tup_view l' (rd.monoW x')
    cases eb
    exact ⟨us, hs', rs'.length.symm⟩
  · obtain ⟨rfl, y⟩ := y
    obtain ⟨b, us, eb, hs', rs'⟩ := tup_view l' (rd.monoW x')
    cases eb
    obtain ⟨u, hu, ru⟩ := rs'.get hi
    have := y us hs'
    rw [hu] at this
    cases this
    exact ⟨g1, .refl g1, l', ru⟩
theorem it_tup (he : SE X W e fe) : IterU X W tg e (iTpl fe) := ⟨_, pi_tup he, fun _ _ _ h => src_tup h⟩
/-- a text, sign by sign -/
def signsD (z : Str) : List D := z.cps.toList.map fun c => .str ⟨#[c]⟩
def iStrD (fe : EF) : AF := fun r S => (fe r S).bind fun d r S => match d with
  | .str z => .ok (signsD z) r S
  | _ => .no
theorem src_str {σ : St} {H : Hp} {R' : It → Hp → Prop} (h : TD X.K W (fun g xs J => SrcOk X.K g xs J) (iStrD fe) σ H R') : iStr (TD X.K W (RelD X.K) fe) σ H R' := by
  refine td_seq (TD.split (rel := RelD X.K) h) fun v H1 ⟨g, d, r, S, l, e, rd, p⟩ => ?_
  cases d <;> try (exact p.elim)
  rename_i z
  cases rd
  have hl : (signsD z).length = z.cps.size := by unfold signsD; rw [List.length_map, Array.length_toList]
  refine ⟨z, rfl, post_ok p l e ⟨_, _, by rw [hl]; exact walk_str, fun _ _ _ _ _ => trivial, fun i d' g1 S1 H' x H2 hi x' l' y => ?_⟩⟩
  obtain ⟨rfl, c, hc, rfl⟩ := y
  unfold signsD at hi
  rw [List.getElem?_map, Array.getElem?_toList, hc] at hi
  cases hi
  exact ⟨g1, .refl g1, l', rfl⟩
/-- a list, a tuple, a text -/
def itemsOf : D → Option (List D)
  | .tup xs => some xs
  | .lst xs => some xs
  | .fz xs => some xs
  | .str z => some (signsD z)
  | _ => none
def iSeq (fe : EF) : AF := fun r S => (fe r S).bind fun d r S => match itemsOf d with
  | some xs => .ok xs r S
  | none => .no
theorem pi_or {wi wi' : TI} (h : PI X tg e wi) (h' : PI X tg e wi') : PI X tg e (fun σ H R' => wi σ H R' ∨ wi' σ H R') := ⟨fun pins s σ H R' I q => q.elim (h.run pins s σ H R' I) (h'.run pins s σ H R' I)⟩
theorem it_seq (he : SE X W e fe) : IterU X W tg e (iSeq fe) := by
  refine ⟨_, pi_or (pi_tup he) (pi_or (pi_list he) (pi_str he)), fun σ H R' ⟨g, r, S, l, re, p⟩ => ?_⟩
  cases q : fe r S with
  | ok d r1 S1 =>
    have p' : PostG X.K W (fun g xs J => SrcOk X.K g xs J) g σ (match itemsOf d with
      | some xs => .ok xs r1 S1
      | none => .no) R' := by
      have : iSeq fe r S = (match itemsOf d with
        | some xs => .ok xs r1 S1
        | none => .no) := by unfold iSeq; rw [q]; rfl
      rw [this] at p; exact p
    cases d with
    | tup xs => exact .inl (src_tup ⟨g, r, S, l, re, by unfold iTpl; rw [q]; exact p'⟩)
    | lst xs => exact .inr (.inl (src_lst ⟨g, r, S, l, re, by unfold iLst; rw [q]; exact p'⟩))
    | fz xs => exact .inr (.inl (src_lst ⟨g, r, S, l, re, by unfold iLst; rw [q]; exact p'⟩))
    | str z => exact .inr (.inr (src_str ⟨g, r, S, l, re, by unfold iStrD; rw [q]; exact p'⟩))
    | _ => exact p'.elim
  | er x r1 S1 => exact .inl (src_tup ⟨g, r, S, l, re, by unfold iTpl; unfold iSeq at p; rw [q] at p ⊢; exact p⟩)
  | no => unfold iSeq at p; rw [q] at p; exact p.elim
/-- range(n), range(a, b) -/
def rangeD (lo : Int) (n : Nat) : List D := (List.range n).map fun (i : Nat) => .int (lo + i)
def iRange1 (fs : AF) : AF := fun r S => (fs r S).bind fun ds r S => match ds with
  | [.int j] => if -(2 ^ 62) ≤ j ∧ j < 2 ^ 62 then .ok (rangeD 0 j.toNat) r S else .no
  | _ => .no
def iRange2 (fs : AF) : AF := fun r S => (fs r S).bind fun ds r S => match ds with
  | [.int i, .int j] => if -(2 ^ 62) ≤ i ∧ i < 2 ^ 62 ∧ -(2 ^ 62) ≤ j ∧ j < 2 ^ 62 then .ok (rangeD i (j - i).toNat) r S else .no
  | _ => .no
theorem src_range {K : PySem.W.Frag} {g : Gh} (lo : Int) (n : Nat) : SrcOk K g (rangeD lo n) (Itr lo n) := by
  have hl : (rangeD lo n).length = n := by unfold rangeD; rw [List.length_map, List.length_range]
  refine ⟨_, _, by rw [hl]; exact walk_range, fun _ _ _ _ _ => trivial, fun i d' g1 S1 H' x H2 hi x' l' y => ?_⟩
  obtain ⟨rfl, rfl⟩ := y
  have hn : i < n := by rw [← hl]; exact (List.getElem?_eq_some_iff.mp hi).1
  unfold rangeD at hi
  rw [List.getElem?_map, List.getElem?_range hn] at hi
  cases hi
  exact ⟨g1, .refl g1, l', rfl⟩
theorem rels1 {K : PySem.W.Frag} {g : Gh} {i : Int} {vs : List V} (r : RelDs K g [.int i] vs) : vs = [.int i] := by
  cases r with
  | cons a b => cases b; cases a; rfl
theorem rels2 {K : PySem.W.Frag} {g : Gh} {i j : Int} {vs : List V} (r : RelDs K g [.int i, .int j] vs) : vs = [.int i, .int j] := by
  cases r with
  | cons a b => cases b with
    | cons b c => cases c; cases a; cases b; rfl
theorem it_range1 {a : Expr} {fs : AF} {p : Pos} (hm : X.mg "range" = none) (ha : SA X W [a] fs) (hg : Gl X "range" := by rfl) (hs : starEach [a] X.env = [(false, eval a X.env)] := by rfl) : IterU X W tg (.Call (.Name "range" p) [a] [] pos) (iRange1 fs) := by
  refine ⟨_, pi_range1 hg hm ha hs, fun σ H R h => td_seq (TD.split (rel := RelDs X.K) h) fun v H1 ⟨g, d, r, S, l, e, rd, p⟩ => ?_⟩
  split at p
  · rename_i j
    split at p
    · rename_i hb
      have := rels1 rd
      subst this
      exact ⟨j, rfl, hb.1, hb.2, post_ok p l e (src_range 0 j.toNat)⟩
    · exact p.elim
  · exact p.elim
theorem it_range2 {a b : Expr} {fs : AF} {p : Pos} (hm : X.mg "range" = none) (ha : SA X W [a, b] fs) (hg : Gl X "range" := by rfl) (hs : starEach [a, b] X.env = [(false, eval a X.env), (false, eval b X.env)] := by rfl) (hs2 : starEach [b] X.env = [(false, eval b X.env)] := by rfl) :
    IterU X W tg (.Call (.Name "range" p) [a, b] [] pos) (iRange2 fs) := by
  refine ⟨_, pi_range2 hg hm ha hs hs2, fun σ H R h => td_seq (TD.split (rel := RelDs X.K) h) fun v H1 ⟨g, d, r, S, l, e, rd, p⟩ => ?_⟩
  split at p
  · rename_i i j
    split at p
    · rename_i hb
      have := rels2 rd
      subst this
      exact ⟨i, j, rfl, hb, post_ok p l e (src_range i (j - i).toNat)⟩
    · exact p.elim
  · exact p.elim
end

/-! ### for -/
def loopF (b : Bn) (fb : SF) : List D → Env → Sto → R Fl
  | [], r, S => .ok .nx r S
  | x :: xs, r, S => match b x r with
    | some r1 => (fb r1 S).bind fun fl r2 S2 => match fl with
      | .nx => loopF b fb xs r2 S2
      | .ct => loopF b fb xs r2 S2
      | .bk => .ok .nx r2 S2
      | .rt d => .ok (.rt d) r2 S2
    | none => .no
def sFor (fi : AF) (b : Bn) (fb : SF) : SF := fun r S => (fi r S).bind fun xs r S => loopF b fb xs r S
section
variable {X : Cx} {W : WX} {tg iter : Expr} {body : List Stmt} {pos : Pos} {fi : AF} {b : Bn} {fb : SF} {vs : List Nat}
theorem ss_for (hp : PassesOwn (model X.prog X.w) X.A X.env X.xe) (hc : X.calm = true) (hi : IterU X W tg iter fi) (hg : BU X tg b vs) (hb : SSs X W body fb)
    (hs : ∀ x, foldedSetIterable iter X.env x = pure x := by intro _; rfl) : SS X W (.For tg iter body [] pos) (sFor fi b fb) := by
  obtain ⟨wi, pi, hw⟩ := hi
  obtain ⟨t, pg, gu⟩ := hg
  refine ps_imp (ps_for hp hc pi pg hb hs) fun E σ H h => hw σ H _ (ts_seq h fun J H1 g0 xs r S l e ⟨G, Y, wk, hG, hY⟩ p => ?_)
  refine for_it (n := xs.length) (G := G) (Y := Y) wk (fun i σ' H' => ∃ g r' S', Ext g0 g ∧ Rl X.K g S' H' ∧ REnv X.K g r' σ' ∧ PostS X.K W g (loopF b fb (xs.drop i) r' S') E)
    ⟨g0, r, S, .refl g0, l, e, p⟩ (fun i σ' H' _ ⟨g, r', S', x', l', _⟩ => hG g S' H' x'.w l') (fun i x σ' H' H2 hi ⟨g, r', S', x', l', e', p'⟩ y => ?_) (fun σ' H' ⟨g, r', S', x', l', e', p'⟩ => ?_)
  · rw [List.drop_eq_getElem_cons hi] at p'
    obtain ⟨g2, x2, l2, rx⟩ := hY i xs[i] g S' H' x H2 (by simp [hi]) x'.w l' y
    unfold loopF at p'
    split at p'
    · rename_i r1 hr1
      refine gu g2 S' r' σ' H2 xs[i] x r1 _ l2 (e'.mono x2) rx hr1 fun σ2 e2 _ => ?_
      refine ⟨g2, r1, S', l2, e2, ?_⟩
      have p2 := PostS.ext x2 p'
      cases q : fb r1 S' with
      | ok a r3 S3 =>
        rw [q] at p2
        cases a with
        | nx => exact fun g3 H3 σ3 x3 l3 e3 => ⟨g3, r3, S3, x'.trans (x2.trans x3), l3, e3, PostS.ext x3 p2⟩
        | ct => exact fun g3 H3 σ3 x3 l3 e3 => ⟨g3, r3, S3, x'.trans (x2.trans x3), l3, e3, PostS.ext x3 p2⟩
        | bk => exact p2
        | rt d => exact p2
      | er y r3 S3 => rw [q] at p2; exact p2
      | no => rw [q] at p2; exact p2.elim
    · exact p'.elim
  · rw [List.drop_length] at p'
    exact post_nx p' l' e'
/-! ### while: at most so many turns -/
def whileF (tc : TF) (fb : SF) : Nat → Env → Sto → R Fl
  | 0, _, _ => .no
  | n + 1, r, S => (tc r S).bind fun c r S => if c = true then (fb r S).bind fun fl r2 S2 => (match fl with
      | .nx => whileF tc fb n r2 S2
      | .ct => whileF tc fb n r2 S2
      | .bk => .ok .nx r2 S2
      | .rt d => .ok (.rt d) r2 S2) else .ok .nx r S
theorem ss_while {c : Expr} {tc : TF} (n : Nat) (hp : PassesOwn (model X.prog X.w) X.A X.env X.xe) (hc : ST X W c tc) (hb : SSs X W body fb) : SS X W (.While c body [] pos) (whileF tc fb n) := by
  refine ps_imp (ps_while hp hc hb) fun E σ H ⟨g, r, S, l, e, p⟩ => ?_
  refine ⟨fun m σ' H' => ∃ g r' S', Rl X.K g S' H' ∧ REnv X.K g r' σ' ∧ PostS X.K W g (whileF tc fb m r' S') E, ⟨n, g, r, S, l, e, p⟩, ?_⟩
  rintro m σ1 H1 ⟨g1, r1, S1, l1, e1, p1⟩
  cases m with
  | zero => exact p1.elim
  | succ m =>
    refine ⟨g1, r1, S1, l1, e1, PostG.imp (post_s (rel := relB) p1) fun b H2 ⟨g2, a, r2, S2, x2, l2, e2, rb, p2⟩ => ?_⟩
    cases rb
    split
    · rename_i hb'
      rw [if_pos hb'] at p2
      refine ⟨fun σ' H' => ∃ g r' S', Rl X.K g S' H' ∧ REnv X.K g r' σ' ∧ PostS X.K W g (whileF tc fb m r' S') E, fun σ' H' h' => ⟨m, Nat.lt_succ_self m, h'⟩, g2, r2, S2, l2, e2, ?_⟩
      cases q : fb r2 S2 with
      | ok a r3 S3 =>
        rw [q] at p2
        cases a with
        | nx => exact fun g3 H3 σ3 x3 l3 e3 => ⟨g3, r3, S3, l3, e3, PostS.ext x3 p2⟩
        | ct => exact fun g3 H3 σ3 x3 l3 e3 => ⟨g3, r3, S3, l3, e3, PostS.ext x3 p2⟩
        | bk => exact p2
        | rt d => exact p2
      | er y r3 S3 => rw [q] at p2; exact p2
      | no => rw [q] at p2; exact p2.elim
    · rename_i hb'
      rw [if_neg hb'] at p2
      exact post_nx p2 l2 e2
end

/-! ### comprehensions -/
/-- no exception -/
def R.calm {α : Type} (x : R α) : R α := match x with
  | .er _ _ _ => .no
  | x => x
def W0 : WX := fun _ _ _ _ => False
theorem post_calm {α β : Type} {K : PySem.W.Frag} {W W' : WX} {rel : Gh → α → β → Prop} {g : Gh} {σ : St} {x : R α} {Q : β → Hp → Prop} (h : PostG K W rel g σ x.calm Q) : PostG K W' rel g σ x Q := by
  cases x with
  | ok a r S => exact h
  | er x r S => exact h.elim
  | no => exact h
def wipeE (r : Env) : List Nat → Env
  | [] => r
  | v :: vs => (wipeE r vs).set v none
theorem wipeE_rel {K : PySem.W.Frag} {g : Gh} {r : Env} {σ : St} (h : REnv K g r σ) : ∀ vs : List Nat, REnv K g (wipeE r vs) (wipe σ vs)
  | [] => h
  | v :: vs => by
    have ih := wipeE_rel h vs
    unfold wipeE wipe
    refine ⟨by simpa using ih.1, fun i d e => ?_⟩
    by_cases hi : v = i
    · subst hi
      by_cases hl : v < (wipeE r vs).length
      · rw [List.getElem?_set_self hl] at e; cases e
      · rw [List.getElem?_eq_none (by simpa using hl)] at e; cases e
    · rw [List.getElem?_set_ne hi] at e
      rw [List.getElem?_set_ne hi]
      exact ih.2 i d e
/-- the items that the tests let through, each by the element -/
def compF (b : Bn) (tt : TF) (fe : EF) (r : Env) (vs : List Nat) : List D → Sto → R (List D)
  | [], S => .ok [] r S
  | x :: xs, S => match b x (wipeE r vs) with
    | some r1 => (tt r1 S).calm.bind fun c r2 S2 => if c = true then (fe r2 S2).calm.bind fun y _ S3 => (compF b tt fe r vs xs S3).bind fun ys r S => .ok (y :: ys) r S else compF b tt fe r vs xs S2
    | none => .no
def tYesB : TF := fun r S => .ok true r S
def eComp (fi : AF) (b : Bn) (vs : List Nat) (tt : TF) (fe : EF) : EF := fun r S => (fi r S).bind fun xs r S => if xs.length < sizeLine then (compF b tt fe r vs xs S).bind fun ys r S => .ok (.lst ys) r S else .no
/-- .. a list of the store -/
def eCompS (fi : AF) (b : Bn) (vs : List Nat) (tt : TF) (fe : EF) : EF := fun r S => (fi r S).bind fun xs r S => if xs.length < sizeLine then (compF b tt fe r vs xs S).bind fun ys r S => .ok (.ref S.length) r (S ++ [.lst ys]) else .no
theorem compF_len {b : Bn} {tt : TF} {fe : EF} {r : Env} {vs : List Nat} : ∀ {xs : List D} {S : Sto} {ys : List D} {r' : Env} {S' : Sto}, compF b tt fe r vs xs S = .ok ys r' S' → ys.length ≤ xs.length ∧ r' = r
  | [], S, ys, r', S', h => by cases h; exact ⟨Nat.le_refl _, rfl⟩
  | x :: xs, S, ys, r', S', h => by
    unfold compF at h
    split at h
    · rename_i r1 _
      cases q : (tt r1 S).calm with
      | ok c r2 S2 =>
        rw [q] at h
        simp only [R.bind] at h
        split at h
        · cases q2 : (fe r2 S2).calm with
          | ok y r3 S3 =>
            rw [q2] at h
            simp only at h
            cases q3 : compF b tt fe r vs xs S3 with
            | ok zs r4 S4 =>
              rw [q3] at h
              cases h
              obtain ⟨h1, h2⟩ := compF_len q3
              exact ⟨Nat.succ_le_succ h1, h2⟩
            | er _ _ _ => rw [q3] at h; cases h
            | no => rw [q3] at h; cases h
          | er _ _ _ => rw [q2] at h; cases h
          | no => rw [q2] at h; cases h
        · obtain ⟨h1, h2⟩ := compF_len h
          exact ⟨Nat.le_succ_of_le h1, h2⟩
      | er _ _ _ => rw [q] at h; cases h
      | no => rw [q] at h; cases h
    · cases h
theorem compF_ner {b : Bn} {tt : TF} {fe : EF} {r : Env} {vs : List Nat} : ∀ {xs : List D} {S : Sto} {x : D} {r' : Env} {S' : Sto}, compF b tt fe r vs xs S ≠ .er x r' S'
  | [], S, x, r', S' => fun h => by cases h
  | y :: xs, S, x, r', S' => fun h => by
    unfold compF at h
    split at h
    · rename_i r1 _
      cases q : tt r1 S with
      | ok c r2 S2 =>
        rw [q] at h
        simp only [R.calm, R.bind] at h
        split at h
        · cases q2 : fe r2 S2 with
          | ok y r3 S3 =>
            rw [q2] at h
            simp only [R.calm] at h
            cases q3 : compF b tt fe r vs xs S3 with
            | ok zs r4 S4 => rw [q3] at h; cases h
            | er _ _ _ => exact compF_ner q3
            | no => rw [q3] at h; cases h
          | er _ _ _ => rw [q2] at h; cases h
          | no => rw [q2] at h; cases h
        · exact compF_ner h
      | er _ _ _ => rw [q] at h; cases h
      | no => rw [q] at h; cases h
    · cases h
section
variable {X : Cx} {W : WX} {tg iter elt : Expr} {ifs : List Expr} {pos : Pos} {fi : AF} {b : Bn} {tt : TF} {fe : EF} {vs : List Nat} {scope : Scope} {own : List (Str × Nat)}
/-- a block's parts, whatever the block's frame -/
structure BlkU (X : Cx) (scope : Scope) (own : List (Str × Nat)) (tg : Expr) (ifs : List Expr) (elt : Expr) (b : Bn) (tt : TF) (fe : EF) : Prop where
  ex : ∃ (t : TG), (∀ s H C cl fp, PG (X.blk s H scope (compEnvC scope cl C X.env) fp) tg t) ∧ GU X.K t b (own.map (·.2)) ∧
    (∀ s H C cl fp, PTs (X.blk s H scope (compEnvC scope cl C X.env) fp) ifs (TD X.K W0 relB tt)) ∧ ∀ s H C cl fp, SE (X.blk s H scope (compEnvC scope cl C X.env) fp) W0 elt fe
theorem ts_nil {X' : Cx} : PTs X' [] (TD X'.K W0 relB tYesB) := ⟨fun pins s σ H Q I ⟨g, r, S, l, e, p⟩ => pts_nil.run pins s σ H Q I (post_ok p l e rfl)⟩
theorem ts_one {X' : Cx} {c : Expr} (h : ST X' W0 c tt) : PTs X' [c] (TD X'.K W0 relB tt) := pts_one h
theorem res_F {g g' : Gh} {p : Addr} {o u : HO} (h : g'.F = (g.res p o).F) : (g'.res p u).F = (g.res p u).F := by
  show (fun a => if a = p then some u else g'.F a) = fun a => if a = p then some u else g.F a
  rw [h]
  funext a
  by_cases q : a = p
  · simp [q]
  · show (if a = p then some u else if a = p then some o else g.F a) = _
    simp [q]
theorem wipe_wipe {σ : St} : ∀ {vs ws : List Nat}, (∀ i ∈ vs, i ∈ ws) → wipe (wipe σ vs) ws = wipe σ ws
  | [], _, _ => rfl
  | v :: vs, ws, h => by
    show wipe ((wipe σ vs).set v none) ws = _
    rw [wipe_set (h v List.mem_cons_self)]
    exact wipe_wipe fun i hi => h i (List.mem_cons_of_mem _ hi)
/-- the block's turns -/
theorem comp_core {Q : VK} {σ : St} {H1 : Hp} {g0 : Gh} {r0 : Env} {S0 Se : Sto} {xs ys : List D} {J : It} {t : TG} (src : SrcOk X.K g0 xs J) (l : Rl X.K g0 S0 H1) (e : REnv X.K g0 r0 σ) (hl : xs.length < sizeLine) (gu : GU X.K t b vs)
    (hrun : compF b tt fe r0 vs xs S0 = .ok ys r0 Se) (D : Addr) (hD : H1 D = none)
    (k : ∀ g H zs, ExtW g0 g → g.F = (g0.res D (.lst zs)).F → Rl X.K g Se H → RelDs X.K g ys zs → Q (.ref D) H) :
    ∃ Wl : Nat → Nat → Hp → Prop, (∃ m, Wl 0 m (upd H1 D (.lst []))) ∧ ∀ i m H, Wl i m H →
      (J.stop i H ∧ Q (.ref D) H) ∨ (J.go i H ∧ ∃ Nx : Hp → Prop, (∀ H', Nx H' → ∃ m', m' < m ∧ Wl (i + 1) m' H') ∧ ∀ x H', J.yld i H x H' → t x (wipe σ vs) H' fun σ2 H2 => wipe σ2 vs = wipe σ vs ∧ (TD X.K W0 relB tt) σ2 H2 fun b H3 =>
        if b = true then (TD X.K W0 (RelD X.K) fe) σ2 H3 fun y H4 => ∃ acc, H4 D = some (.lst acc) ∧ acc.length < sizeLine ∧ Nx (upd H4 D (.lst (acc ++ [y]))) else Nx H3) := by
  obtain ⟨G, Y, wk, hG, hY⟩ := src
  refine lc_it (n := xs.length) (G := G) (Y := Y) wk (fun i H => ∃ g S zs acc ws, ExtW g0 g ∧ g.F = (g0.res D (.lst acc)).F ∧ Rl X.K g S H ∧ RelDs X.K g zs acc ∧ zs.length ≤ i ∧ compF b tt fe r0 vs (xs.drop i) S = .ok ws r0 Se ∧ ys = zs ++ ws)
    ⟨g0.res D (.lst []), S0, [], [], ys, ⟨fun _ _ h => h, Nat.le_refl _, fun _ _ => rfl⟩, rfl, l.res hD, .nil, Nat.le_refl _, hrun, rfl⟩ ?_ ?_ ?_
  · rintro i H hi ⟨g, S, zs, acc, ws, x, _, l', _⟩
    exact hG g S H x l'
  · rintro i x H H' hi ⟨g, S, zs, acc, ws, x0, hF, l', rz, hz, hr, hy⟩ y
    obtain ⟨g2, x2, l2, rx⟩ := hY i xs[i] g S H x H' (by simp [hi]) x0 l' y
    rw [List.drop_eq_getElem_cons hi] at hr
    unfold compF at hr
    split at hr
    · rename_i r1 hr1
      refine gu g2 S _ _ H' xs[i] x r1 _ l2 ((wipeE_rel e vs).monoW (x0.trans x2.w)) rx hr1 fun σ2 e2 w2 => ?_
      refine ⟨(w2 vs fun _ h => h).trans (wipe_wipe fun _ h => h), g2, r1, S, l2, e2, ?_⟩
      have accl : acc.length < sizeLine := by
        have h1 := rz.length
        omega
      cases q : tt r1 S with
      | ok c r2 S2 =>
        rw [q] at hr
        intro g3 H3 c' x3 l3 e3 rb
        cases rb
        simp only [R.calm, R.bind] at hr
        have xw3 : ExtW g0 g3 := x0.trans (x2.w.trans x3.w)
        have F3 : g3.F = (g0.res D (.lst acc)).F := x3.F.trans (x2.F.trans hF)
        split
        · rename_i hc
          rw [if_pos hc] at hr
          refine ⟨g3, r2, S2, l3, e3, ?_⟩
          cases q2 : fe r2 S2 with
          | ok yd r3 S3 =>
            rw [q2] at hr
            intro g4 H4 yv x4 l4 e4 ry
            simp only [R.calm] at hr
            have F4 : g4.F = (g0.res D (.lst acc)).F := x4.F.trans F3
            have FD : g4.F D = some (.lst acc) := by rw [F4]; exact if_pos rfl
            refine ⟨acc, (l4.fr D _ FD).1, accl, ?_⟩
            cases q3 : compF b tt fe r0 vs (xs.drop (i + 1)) S3 with
            | ok us r4 S4 =>
              rw [q3] at hr
              have e5 := (compF_len q3).2
              cases hr
              refine ⟨g4.res D (.lst (acc ++ [yv])), S3, zs ++ [yd], acc ++ [yv], us, ?_, res_F F4, l4.rewrite FD, ?_, ?_, by rw [q3], by rw [hy]; simp⟩
              · have := xw3.trans x4.w
                exact ⟨this.G, this.sz, this.m⟩
              · have rz4 := (rz.monoW (x2.w.trans (x3.w.trans x4.w)))
                exact (rz4.append (.cons ry .nil)).eqG rfl rfl rfl
              · rw [List.length_append]
                simp only [List.length_cons, List.length_nil]
                omega
            | er _ _ _ => rw [q3] at hr; cases hr
            | no => rw [q3] at hr; cases hr
          | er _ _ _ => rw [q2] at hr; cases hr
          | no => rw [q2] at hr; cases hr
        · rename_i hc
          rw [if_neg hc] at hr
          exact ⟨g3, S2, zs, acc, ws, xw3, F3, l3, rz.monoW (x2.w.trans x3.w), Nat.le_succ_of_le hz, hr, hy⟩
      | er _ _ _ => rw [q] at hr; cases hr
      | no => rw [q] at hr; cases hr
    · cases hr
  · rintro H ⟨g, S, zs, acc, ws, x0, hF, l', rz, hz, hr, hy⟩
    rw [List.drop_length] at hr
    cases hr
    rw [List.append_nil] at hy
    subst hy
    exact k g H acc x0 hF l' rz
theorem noF {K : PySem.W.Frag} {g : Gh} {S : Sto} {H : Hp} {p : Addr} (l : Rl K g S H) (hp : H p = none) : g.F p = none := by
  cases q : g.F p with
  | none => rfl
  | some o =>
    have := (l.fr p o q).1
    rw [hp] at this; cases this
theorem se_comp (hc : X.calm = true) (hN : X.N.Nodup) (hi : IterU X W tg iter fi) (ok : BlkOk X.N X.env.scope scope own) (hb : BlkU X scope own tg ifs elt b tt fe) (hs : ∀ x, foldedSetIterable iter X.env x = pure x := by intro _; rfl) :
    SE X W (.ListComp elt [⟨tg, iter, ifs, 0⟩] scope pos) (eComp fi b (own.map (·.2)) tt fe) := by
  obtain ⟨wi, pi, hw⟩ := hi
  obtain ⟨t, h1, gu, h2, h3⟩ := hb
  refine pe_imp (pe_lc (te := TD X.K W0 (RelD X.K) fe) hc hN pi ok h1 h2 h3 hs) fun σ H Q h => hw σ H _ (td_seq (TD.split (rel := fun g xs J => SrcOk X.K g xs J) h) fun J H1 ⟨g0, xs, r0, S0, l, e, src, p⟩ D hD => ?_)
  split at p
  · rename_i hl
    cases q : compF b tt fe r0 (own.map (·.2)) xs S0 with
    | ok ys r1 Se =>
      have e5 := (compF_len q).2
      subst e5
      rw [q] at p
      refine comp_core src l e hl gu q D hD fun g H' zs x hF l' rz => ?_
      have FD : g.F D = some (.lst zs) := by rw [hF]; exact if_pos rfl
      have hb := l'.back (F := g0.F) (d := .lst ys) FD (noF l hD) (fun a ha => by
        rw [hF]
        show g0.F a = if a = D then _ else g0.F a
        rw [if_neg ha]) ⟨zs, (l'.fr D _ FD).1, rz⟩
      have pe := Gh.put_ext (d := .lst ys) (l'.fr D _ FD).2.1
      have xx : Ext g0 (g.back g0.F D (.lst ys)) := ⟨fun a d h => pe.G a d (x.G a d h), x.sz, x.m, rfl⟩
      exact p _ H' _ xx hb (e.mono xx) ⟨rz.bnd, D, rfl, Gh.put_at⟩
    | er _ _ _ => exact absurd q compF_ner
    | no => rw [q] at p; exact p.elim
  · exact p.elim
/-- a new object of the store that was set aside -/
theorem Rl.addB {K : PySem.W.Frag} {g : Gh} {S : Sto} {H : Hp} (h : Rl K g S H) {F : Addr → Option HO} {p : Addr} {o : HO} {ob : AO} (hp : g.F p = some o) (hF : F p = none) (hF' : ∀ a, a ≠ p → F a = g.F a) (hr : MRep K g H p ob) : Rl K { g.add p with F := F } (S ++ [ob]) H := by
  obtain ⟨y1, y2, y3⟩ := h.fr p o hp
  have x := Gh.add_ext (g := g) (p := p)
  have hm : ∀ n, n < S.length → (g.add p).m n = g.m n := fun n hn => if_neg (by rw [h.sz]; omega)
  have hm0 : (g.add p).m S.length = p := if_pos h.sz.symm
  have cases_ : ∀ n ob', (S ++ [ob])[n]? = some ob' → (n < S.length ∧ S[n]? = some ob') ∨ (n = S.length ∧ ob' = ob) := fun n ob' e => by
    by_cases hn : n < S.length
    · rw [List.getElem?_append_left hn] at e; exact .inl ⟨hn, e⟩
    · rw [List.getElem?_append_right (by omega)] at e
      have : n - S.length = 0 := by
        by_cases z : n - S.length = 0
        · exact z
        · rw [List.getElem?_eq_none (by simp; omega)] at e; cases e
      rw [this] at e
      exact .inr ⟨by omega, by simpa using e.symm⟩
  refine ⟨fun a e q => ((h.imm a e q).stay x (fun ob' z => z)).eqG rfl rfl rfl, fun n ob' e q => ?_, fun i j oi oj e1 q1 e2 q2 z => ?_, ?_, fun a u q => ?_⟩
  · show g.G ((g.add p).m n) = none ∧ MRep K _ H ((g.add p).m n) ob'
    rcases cases_ n ob' e with ⟨hn, e⟩ | ⟨hn, rfl⟩
    · obtain ⟨m1, m2⟩ := h.sto n ob' e q
      rw [hm n hn]
      exact ⟨m1, (m2.stay x (fun u z => z)).eqG rfl rfl rfl⟩
    · subst hn
      rw [hm0]
      exact ⟨y2, (hr.stay x (fun _ z => z)).eqG rfl rfl rfl⟩
  · have z' : (g.add p).m i = (g.add p).m j := z
    rcases cases_ i oi e1 with ⟨hi, f1⟩ | ⟨hi, _⟩
    · rcases cases_ j oj e2 with ⟨hj, f2⟩ | ⟨hj, _⟩
      · rw [hm i hi, hm j hj] at z'
        exact h.inj i j oi oj f1 q1 f2 q2 z'
      · subst hj
        rw [hm i hi, hm0] at z'
        exact absurd z' (y3 i oi f1 q1)
    · subst hi
      rcases cases_ j oj e2 with ⟨hj, f2⟩ | ⟨hj, _⟩
      · rw [hm j hj, hm0] at z'
        exact absurd z'.symm (y3 j oj f2 q2)
      · exact hj.symm
  · show g.sz + 1 = _
    rw [List.length_append, h.sz]; rfl
  · have q' : F a = some u := q
    have ha : a ≠ p := fun z => by rw [z, hF] at q'; cases q'
    rw [hF' a ha] at q'
    obtain ⟨x1, x2, x3⟩ := h.fr a u q'
    refine ⟨x1, x2, fun n ob' e q' => ?_⟩
    show (g.add p).m n ≠ a
    rcases cases_ n ob' e with ⟨hn, f1⟩ | ⟨hn, _⟩
    · rw [hm n hn]; exact x3 n ob' f1 q'
    · subst hn
      rw [hm0]; exact ha.symm
theorem se_compS (hc : X.calm = true) (hN : X.N.Nodup) (hi : IterU X W tg iter fi) (ok : BlkOk X.N X.env.scope scope own) (hb : BlkU X scope own tg ifs elt b tt fe) (hs : ∀ x, foldedSetIterable iter X.env x = pure x := by intro _; rfl) :
    SE X W (.ListComp elt [⟨tg, iter, ifs, 0⟩] scope pos) (eCompS fi b (own.map (·.2)) tt fe) := by
  obtain ⟨wi, pi, hw⟩ := hi
  obtain ⟨t, h1, gu, h2, h3⟩ := hb
  refine pe_imp (pe_lc (te := TD X.K W0 (RelD X.K) fe) hc hN pi ok h1 h2 h3 hs) fun σ H Q h => hw σ H _ (td_seq (TD.split (rel := fun g xs J => SrcOk X.K g xs J) h) fun J H1 ⟨g0, xs, r0, S0, l, e, src, p⟩ D hD => ?_)
  split at p
  · rename_i hl
    cases q : compF b tt fe r0 (own.map (·.2)) xs S0 with
    | ok ys r1 Se =>
      have e5 := (compF_len q).2
      subst e5
      rw [q] at p
      refine comp_core src l e hl gu q D hD fun g H' zs x hF l' rz => ?_
      have FD : g.F D = some (.lst zs) := by rw [hF]; exact if_pos rfl
      have hb := l'.addB (F := g0.F) (ob := .lst ys) FD (noF l hD) (fun a ha => by
        rw [hF]
        show g0.F a = if a = D then _ else g0.F a
        rw [if_neg ha]) ⟨zs, (l'.fr D _ FD).1, rz⟩
      have ae := Gh.add_ext (g := g) (p := D)
      have xx : Ext g0 { g.add D with F := g0.F } := ⟨fun a d h => x.G a d h, Nat.le_trans x.sz ae.sz, fun n hn => (ae.m n (Nat.lt_of_lt_of_le hn x.sz)).trans (x.m n hn), rfl⟩
      refine p _ H' _ xx hb (e.mono xx) ⟨?_, ?_⟩
      · show Se.length < g.sz + 1
        rw [l'.sz]; exact Nat.lt_succ_self _
      · show V.ref D = V.ref ((g.add D).m Se.length)
        rw [← l'.sz, Gh.add_m]
    | er _ _ _ => exact absurd q compF_ner
    | no => rw [q] at p; exact p.elim
  · exact p.elim
end
end L2.U
namespace L2.U
open PySem PySem.Spec PyProof.Rows

def UCall (K : PySem.W.Frag) (r : List V → Hp → VK → Prop) (o : Sto → List D → Option D) : Prop :=
  ∀ g S H ds d vs (Q : VK), Rl K g S H → RelDs K g ds vs → o S ds = some d → (∀ g' H' v, Ext g g' → Rl K g' S H' → RelD K g' d v → Q v H') → r vs H Q
def orL (o o' : Sto → List D → Option D) : Sto → List D → Option D := fun S x => match o S x with
  | some d => some d
  | none => o' S x
theorem UCall.or {K : PySem.W.Frag} {r r' : List V → Hp → VK → Prop} {o o' : Sto → List D → Option D} (h : UCall K r o) (h' : UCall K r' o') : UCall K (fun x H Q => r x H Q ∨ r' x H Q) (orL o o') := by
  intro g S H x d xv Q l rx e k
  unfold orL at e
  cases q : o S x with
  | some z =>
    rw [q] at e
    exact .inl (h g S H x d xv Q l rx (by rw [q]; exact e) k)
  | none =>
    rw [q] at e
    exact .inr (h' g S H x d xv Q l rx e k)
structure CallU (X : Cx) (f : Value) (o : Sto → List D → Option D) : Prop where
  ex : ∃ r, CallR X f r ∧ UCall X.K r o
def eCallB (o : Sto → List D → Option D) (fs : AF) : EF := fun r S => (fs r S).bind fun ds r S => match o S ds with
  | some d => .ok d r S
  | none => .no
section
variable {X : Cx} {W : WX} {pos p : Pos} {x : Str} {a : Expr} {es : List Expr} {fs : AF} {o : Sto → List D → Option D}
theorem se_callB {id : String} (u : CallU X (.builtin id) o) (hm : X.mg x = none) (ha : SA X W (a :: es) fs) (hv : bootBuiltins x = some (.builtin id) := by decide +kernel) (hg : Gl X x := by rfl) (hn : x ≠ "__name__" := by decide) (hdb : (x == ("__debug__" : Str)) = false := by decide)
    (he : starEach (a :: es) X.env = (false, eval a X.env) :: starEach es X.env := by rfl) (hpl : (backTo pos (starEach es X.env)).any (·.1) = false := by rfl) : SE X W (.Call (.Name x p) (a :: es) [] pos) (eCallB o fs) := by
  obtain ⟨r, hc, hu⟩ := u
  refine pe_imp (pe_callB hc hg hm hv ha hn hdb he hpl) fun σ H Q h => td_seq (TD.split (rel := RelDs X.K) h) fun vs H1 ⟨g, ds, r, S, l, e, rd, p⟩ => ?_
  split at p
  · rename_i d q
    exact hu g S H1 ds d vs Q l rd q fun g' H' v x' l' r' => p g' H' v x' l' (e.mono x') r'
  · exact p.elim
theorem se_callTy {T : String} (u : CallU X (.type T) o) (hm : X.mg x = none) (ha : SA X W (a :: es) fs) (hv : bootBuiltins x = some (.type T) := by decide +kernel) (hg : Gl X x := by rfl) (hn : x ≠ "__name__" := by decide) (hdb : (x == ("__debug__" : Str)) = false := by decide)
    (he : starEach (a :: es) X.env = (false, eval a X.env) :: starEach es X.env := by rfl) (hpl : (backTo pos (starEach es X.env)).any (·.1) = false := by rfl) : SE X W (.Call (.Name x p) (a :: es) [] pos) (eCallB o fs) := by
  obtain ⟨r, hc, hu⟩ := u
  refine pe_imp (pe_callTy hc hg hm hv ha hn hdb he hpl) fun σ H Q h => td_seq (TD.split (rel := RelDs X.K) h) fun vs H1 ⟨g, ds, r, S, l, e, rd, p⟩ => ?_
  split at p
  · rename_i d q
    exact hu g S H1 ds d vs Q l rd q fun g' H' v x' l' r' => p g' H' v x' l' (e.mono x') r'
  · exact p.elim
end
section
variable {K : PySem.W.Frag} {g : Gh}
theorem rel1 {d : D} {vs : List V} (r : RelDs K g [d] vs) : ∃ v, vs = [v] ∧ RelD K g d v := by
  cases r with
  | cons a b => cases b; exact ⟨_, rfl, a⟩
theorem rel2 {c d : D} {vs : List V} (r : RelDs K g [c, d] vs) : ∃ u v, vs = [u, v] ∧ RelD K g c u ∧ RelD K g d v := by
  cases r with
  | cons a b => cases b with
    | cons b c => cases c; exact ⟨_, _, rfl, a, b⟩
/-! ### len -/
def oLen : Sto → List D → Option D := fun S ds => match ds with
  | [.str z] => if z.length ≤ sizeLine then some (.int z.length) else none
  | [d] => (seqOf S d).map fun xs => .int xs.length
  | _ => none
theorem u_len : UCall K (fun xs H Q => ∃ x n, xs = [x] ∧ LenV K x H n ∧ Q (.int n) H) oLen := by
  intro g S H ds d vs Q l rd e k
  match ds, e with
  | [c], e =>
    obtain ⟨v, rfl, r⟩ := rel1 rd
    have seqs : (seqOf S c).map (fun xs => D.int xs.length) = some d → ∃ x n, [v] = [x] ∧ LenV K x H n ∧ Q (.int n) H := fun e => by
      obtain ⟨xs, e1, rfl⟩ := Option.map_eq_some_iff.mp e
      obtain ⟨a, us, rfl, hs, rs⟩ := seq_view l r e1
      exact ⟨_, xs.length, rfl, hs.imp (fun h => ⟨us, h, rs.length⟩) (fun h => ⟨us, h, rs.length⟩), k g H _ (.refl g) l rfl⟩
    cases c with
    | str z =>
      simp only [oLen] at e
      split at e
      · rename_i hz
        cases e
        cases r
        exact ⟨_, z.length, rfl, ⟨hz, rfl⟩, k g H _ (.refl g) l rfl⟩
      · cases e
    | _ => exact seqs e
  | [], e => cases e
  | _ :: _ :: _, e => simp [oLen] at e
end
theorem cu_len {X : Cx} : CallU X (.builtin "len") oLen := ⟨_, call_len, u_len⟩
/-! ### isinstance -/
def tyNames : List String := ["NoneType", "bool", "int", "str", "tuple", "list", "dict", "type"]
def subTy (a b : String) : Option Bool := if a ∈ tyNames ∧ b ∈ tyNames then some (decide (a = b) || (a == "bool" && b == "int")) else none
theorem subTy_ok {a b : String} {r : Bool} (h : subTy a b = some r) : kitB a b = some r := by
  unfold subTy at h
  split at h
  · rename_i hm
    cases h
    have all : ∀ a ∈ tyNames, ∀ b ∈ tyNames, kitB a b = some (decide (a = b) || (a == "bool" && b == "int")) := by decide +kernel
    exact all a hm.1 b hm.2
  · cases h
/-- a class of the module whose instances are told apart by it -/
def clsI (K : PySem.W.Frag) (C : Addr) : Bool := PySem.W.plainGet K C Str.empty && (PySem.W.hasDictIn K C && (PySem.W.plainOver K C && (decide (PySem.W.findIn K (.ref C) "__setattr__" = some (some (.builtin "object.__setattr__"))) &&
  (decide (PySem.W.findIn K (.ref C) "__class__" = some (some (.builtin "object.__class__"))) && (decide (PySem.W.specialIn K (.builtin "object.__class__") "__get__" = some (some (.builtin "getset_descriptor.__get__"))) &&
    (decide (PySem.W.takesIn K (.builtin "object.__class__") = some true) && decide (PySem.W.mroIn K C (.type "object") = some true)))))))
theorem clsI_cls {K : PySem.W.Frag} {C : Addr} (h : clsI K C = true) : Cls K C := by
  simp only [clsI, Bool.and_eq_true, decide_eq_true_eq] at h
  exact ⟨h.1, h.2.1, h.2.2.1, h.2.2.2.1⟩
/-- the type of data -/
def tyV (K : PySem.W.Frag) (S : Sto) : D → Option Value
  | .non => some (.type "NoneType")
  | .bl _ => some (.type "bool")
  | .int _ => some (.type "int")
  | .str _ => some (.type "str")
  | .tup _ => some (.type "tuple")
  | .lst _ => some (.type "list")
  | .fz _ => some (.type "list")
  | .ins C _ _ => if clsI K (He.ga K C) = true then some (.ref (He.ga K C)) else none
  | .ref n => (match S[n]? with
    | some (.lst _) => some (.type "list")
    | some (.ins C _ _) => if clsI K (He.ga K C) = true then some (.ref (He.ga K C)) else none
    | _ => none)
  | _ => none
def isaV (K : PySem.W.Frag) : Value → Value → Option Bool
  | .type a, .type b => subTy a b
  | .type a, .ref C => PySem.W.kitOne K (.type a) (.ref C)
  | .ref C, .ref C' => PySem.W.kitOne K (.ref C) (.ref C')
  | .ref C, .type b => PySem.W.kitOne K (.ref C) (.type b)
  | _, _ => none
def isaVs (K : PySem.W.Frag) (t : Value) : List Value → Option Bool
  | [] => some false
  | c :: r => match isaV K t c with
    | some true => some true
    | some false => isaVs K t r
    | none => none
def clsV (K : PySem.W.Frag) : D → Option Value
  | .ty n => some (.type n)
  | .con C => some (.ref (He.ga K C))
  | _ => none
def clsVs (K : PySem.W.Frag) : List D → Option (List Value)
  | [] => some []
  | d :: r => match clsV K d, clsVs K r with
    | some a, some b => some (a :: b)
    | _, _ => none
def oIsi (K : PySem.W.Frag) : Sto → List D → Option D := fun S ds => match ds with
  | [x, .tup cs] => (match tyV K S x, clsVs K cs with
    | some t, some us => (isaVs K t us).map .bl
    | _, _ => none)
  | [x, c] => (match tyV K S x, clsV K c with
    | some t, some u => (isaV K t u).map .bl
    | _, _ => none)
  | _ => none
section
variable {K : PySem.W.Frag} {g : Gh} {S : Sto} {H : Hp}
theorem isaV_ok {t u : Value} {b : Bool} (h : isaV K t u = some b) : PySem.W.kitOne K t u = some b := by
  cases t <;> cases u <;> first | (exact kit_ty (subTy_ok h)) | (cases h; done) | exact h
theorem isaVs_ok {t : Value} : ∀ {us : List Value} {b : Bool}, isaVs K t us = some b → PySem.W.kitAny K t us = some b
  | [], b, h => h
  | c :: r, b, h => by
    unfold isaVs at h
    unfold PySem.W.kitAny
    split at h
    · rename_i q; rw [isaV_ok q]; exact h
    · rename_i q; rw [isaV_ok q]; exact isaVs_ok h
    · cases h
theorem tyX_lst {a : Addr} {vs : List V} (h : SqL K H a vs) : TyX K H (.ref a) (.type "list") := by
  rcases h with (h | ⟨o, h⟩) | ⟨o, its, n, h, c, _⟩
  · exact .base (.lst h)
  · exact .base (.frz h)
  · exact .kList h c
theorem tyX_tup {a : Addr} {vs : List V} (h : SqT K H a vs) : TyX K H (.ref a) (.type "tuple") := by
  rcases h with (h | ⟨o, h⟩) | ⟨o, its, n, h, c, _⟩
  · exact .base (.tup h)
  · exact .fTuple h
  · exact .kTuple h c
theorem tyX_ins {a C dx : Addr} {fs : List (Str × V)} (h : H a = some (.ins C dx fs)) (c : clsI K C = true) : TyX K H (.ref a) (.ref C) := by
  have cl := clsI_cls c
  simp only [clsI, Bool.and_eq_true, decide_eq_true_eq] at c
  exact .base (.ins h cl c.2.2.2.2.1 c.2.2.2.2.2.1 c.2.2.2.2.2.2.1 c.2.2.2.2.2.2.2)
theorem tyV_ok {d : D} {v : V} {t : Value} (l : Rl K g S H) (r : RelD K g d v) (h : tyV K S d = some t) : TyX K H v t := by
  cases d with
  | non => cases h; cases r; exact .base .non
  | bl b => cases h; cases r; exact .base (.bl b)
  | int b => cases h; cases r; exact .base (.int b)
  | str b => cases h; cases r; exact .base (.str b)
  | tup xs => cases h; obtain ⟨a, vs, rfl, hs, _⟩ := tup_view l r; exact tyX_tup hs
  | lst xs => cases h; obtain ⟨a, vs, rfl, hs, _⟩ := lst_view l r rfl; exact tyX_lst hs
  | fz xs => cases h; obtain ⟨a, vs, rfl, hs, _⟩ := lst_view l r rfl; exact tyX_lst hs
  | ins C ns ds =>
    simp only [tyV] at h
    split at h
    · rename_i hc
      cases h
      obtain ⟨_, a, rfl, q⟩ := r
      obtain ⟨dx, vs, e, _⟩ := l.imm a _ q
      exact tyX_ins e hc
    · cases h
  | ref n =>
    simp only [tyV] at h
    split at h
    · rename_i xs q
      cases h
      obtain ⟨a, vs, rfl, hs, _⟩ := lst_view (d := .ref n) (xs := xs) l r (by unfold lstOf; simp only [q])
      exact tyX_lst hs
    · rename_i C ns ds q
      split at h
      · rename_i hc
        cases h
        obtain ⟨_, rfl⟩ := r
        obtain ⟨_, dx, vs, e, _⟩ := l.sto n _ q (by intro z; cases z)
        exact tyX_ins e hc
      · cases h
    · cases h
  | _ => cases h
theorem clsV_ok {d : D} {v : V} {u : Value} (r : RelD K g d v) (h : clsV K d = some u) : ClsV v u := by
  cases d <;> simp only [clsV, reduceCtorEq, Option.some.injEq] at h
  · subst h; cases r; exact .ty _
  · subst h; cases r; exact .own _
theorem clsVs_ok : ∀ {ds : List D} {vs : List V} {us : List Value}, RelDs K g ds vs → clsVs K ds = some us → Paired ClsV vs us
  | _, _, _, .nil, h => by cases h; exact .nil
  | _, _, _, .cons r t, h => by
    unfold clsVs at h
    split at h
    · rename_i a b h1 h2
      cases h
      exact .cons (clsV_ok r h1) (clsVs_ok t h2)
    · cases h
theorem u_isi : UCall K (fun xs H Q => rIsi K xs H Q ∨ ∃ (x : V) (tp : Addr) (cs : List V) (t : Value) (us : List Value) (b : Bool), xs = [x, .ref tp] ∧ SqT K H tp cs ∧ Paired ClsV cs us ∧ TyX K H x t ∧ PySem.W.kitAny K t us = some b ∧ Q (.bl b) H) (oIsi K) := by
  intro g S H ds d vs Q l rd e k
  match ds, e with
  | [x, c], e =>
    obtain ⟨xv, cv, rfl, rx, rc⟩ := rel2 rd
    have one : (match tyV K S x, clsV K c with
        | some t, some u => (isaV K t u).map D.bl
        | _, _ => none) = some d → rIsi K [xv, cv] H Q := fun e => by
      split at e
      · rename_i t u h1 h2
        obtain ⟨b, h3, rfl⟩ := Option.map_eq_some_iff.mp e
        exact ⟨xv, cv, t, u, b, rfl, clsV_ok rc h2, tyV_ok l rx h1, isaV_ok h3, k g H _ (.refl g) l rfl⟩
      · cases e
    cases c with
    | tup cs =>
      simp only [oIsi] at e
      split at e
      · rename_i t us h1 h2
        obtain ⟨b, h3, rfl⟩ := Option.map_eq_some_iff.mp e
        obtain ⟨a, ws, rfl, hs, rs⟩ := tup_view l rc
        exact .inr ⟨xv, a, ws, t, us, b, rfl, hs, clsVs_ok rs h2, tyV_ok l rx h1, isaVs_ok h3, k g H _ (.refl g) l rfl⟩
      · cases e
    | _ => exact .inl (one e)
  | [], e => cases e
  | [_], e => cases e
  | _ :: _ :: _ :: _, e => simp [oIsi] at e
end
/-- isinstance with a tuple of classes that is read -/
theorem call_isiQ {X : Cx} : CallR X (.builtin "isinstance") (fun xs H Q => ∃ (x : V) (tp : Addr) (cs : List V) (t : Value) (us : List Value) (b : Bool), xs = [x, .ref tp] ∧ SqT X.K H tp cs ∧ Paired ClsV cs us ∧ TyX X.K H x t ∧ PySem.W.kitAny X.K t us = some b ∧ Q (.bl b) H) := by
  intro pins s σ H xs us Q I r h
  obtain ⟨x, tp, cs, t, ws, b, rfl, hT, k, ty, e, q⟩ := h
  obtain ⟨u1, u2, rfl, r1, r2⟩ := vals2 r
  cases (show u2 = Value.ref tp from r2)
  obtain ⟨P, Z, p, hx⟩ := kit_of I r1 ty
  obtain ⟨its, rv, ⟨o, h1, h2, n, h3⟩, _⟩ := I.tuple hT
  have e3 := ClsV.all k rv
  subst e3
  obtain ⟨oc, od, dt, sl⟩ := o
  simp only at h2 h3
  subst h2 h3
  exact PySem.W.kia_tup Z I.kIn p h1 e hx fun tk => ⟨.bl b, H, I.tok tk, rfl, q⟩
theorem cu_isi {X : Cx} : CallU X (.builtin "isinstance") (oIsi X.K) := ⟨_, call_isi.or call_isiQ, u_isi⟩
/-! ### all, any -/
def blsD : List D → Option (List Bool)
  | [] => some []
  | .bl b :: r => (blsD r).map (b :: ·)
  | _ :: _ => none
theorem blsD_ok {K : PySem.W.Frag} {g : Gh} : ∀ {ds : List D} {vs : List V} {bs : List Bool}, RelDs K g ds vs → blsD ds = some bs → vs = bs.map V.bl
  | _, _, _, .nil, h => by cases h; rfl
  | d :: _, _, bs, .cons r t, h => by
    cases d <;> simp only [blsD, reduceCtorEq] at h
    obtain ⟨cs, h1, rfl⟩ := Option.map_eq_some_iff.mp h
    cases r
    rw [blsD_ok t h1]; rfl
def oAll : Sto → List D → Option D := fun S ds => match ds with
  | [d] => ((lstOf S d).bind blsD).map fun bs => .bl (bs.all id)
  | _ => none
def oAny : Sto → List D → Option D := fun S ds => match ds with
  | [d] => ((lstOf S d).bind blsD).map fun bs => .bl (bs.any id)
  | _ => none
theorem u_all {K : PySem.W.Frag} : UCall K (rAll K) oAll := by
  intro g S H ds d vs Q l rd e k
  match ds, e with
  | [c], e =>
    obtain ⟨v, rfl, r⟩ := rel1 rd
    obtain ⟨bs, e1, rfl⟩ := Option.map_eq_some_iff.mp e
    obtain ⟨xs, e2, e3⟩ := Option.bind_eq_some_iff.mp e1
    obtain ⟨a, us, rfl, hs, rs⟩ := lst_view l r e2
    rw [blsD_ok rs e3] at hs
    exact ⟨a, bs, rfl, hs, k g H _ (.refl g) l rfl⟩
  | [], e => cases e
  | _ :: _ :: _, e => cases e
theorem u_any {K : PySem.W.Frag} : UCall K (rAny K) oAny := by
  intro g S H ds d vs Q l rd e k
  match ds, e with
  | [c], e =>
    obtain ⟨v, rfl, r⟩ := rel1 rd
    obtain ⟨bs, e1, rfl⟩ := Option.map_eq_some_iff.mp e
    obtain ⟨xs, e2, e3⟩ := Option.bind_eq_some_iff.mp e1
    obtain ⟨a, us, rfl, hs, rs⟩ := lst_view l r e2
    rw [blsD_ok rs e3] at hs
    exact ⟨a, bs, rfl, hs, k g H _ (.refl g) l rfl⟩
  | [], e => cases e
  | _ :: _ :: _, e => cases e
theorem cu_all {X : Cx} (hc : X.calm = true) : CallU X (.builtin "all") oAll := ⟨_, cr_all hc, u_all⟩
theorem cu_any {X : Cx} (hc : X.calm = true) : CallU X (.builtin "any") oAny := ⟨_, cr_any hc, u_any⟩
/-! ### abs, int, list, tuple -/
def oAbs : Sto → List D → Option D := fun _ ds => match ds with
  | [.int i] => some (.int (if i < 0 then -i else i))
  | _ => none
theorem cu_abs {X : Cx} : CallU X (.builtin "abs") oAbs := ⟨_, call_abs, fun g S H ds d vs Q l rd e k => by
  match ds, e with
  | [.int i], e =>
    cases e
    rw [rels1 rd]
    exact ⟨i, rfl, k g H _ (.refl g) l rfl⟩⟩
def oIntOf : Sto → List D → Option D := fun _ ds => match ds with
  | [.int i] => some (.int i)
  | [.bl b] => some (.int (if b then 1 else 0))
  | _ => none
theorem cu_int {X : Cx} : CallU X (.type "int") oIntOf := ⟨_, call_int1, fun g S H ds d vs Q l rd e k => by
  match ds, e with
  | [.int i], e =>
    cases e
    rw [rels1 rd]
    exact .inl ⟨i, rfl, k g H _ (.refl g) l rfl⟩
  | [.bl b], e =>
    cases e
    obtain ⟨v, rfl, r⟩ := rel1 rd
    cases r
    exact .inr ⟨b, rfl, k g H _ (.refl g) l rfl⟩⟩
def oListOf : Sto → List D → Option D := fun S ds => match ds with
  | [d] => (seqOf S d).map .lst
  | _ => none
theorem cu_list {X : Cx} : CallU X (.type "list") oListOf := ⟨_, call_list_of, fun g S H ds d vs Q l rd e k => by
  match ds, e with
  | [c], e =>
    obtain ⟨v, rfl, r⟩ := rel1 rd
    obtain ⟨xs, e1, rfl⟩ := Option.map_eq_some_iff.mp e
    obtain ⟨a, us, rfl, hs, rs⟩ := seq_view l r e1
    refine ⟨a, us, rfl, hs, fun p hp => ?_⟩
    obtain ⟨g', e1, l1, r1⟩ := l.newLst hp rs
    exact k g' _ _ e1 l1 r1
  | [], e => cases e
  | _ :: _ :: _, e => cases e⟩
def oTupOf : Sto → List D → Option D := fun S ds => match ds with
  | [d] => (seqOf S d).map .tup
  | _ => none
theorem cu_tup {X : Cx} : CallU X (.type "tuple") oTupOf := ⟨_, call_tuple_of, fun g S H ds d vs Q l rd e k => by
  match ds, e with
  | [c], e =>
    obtain ⟨v, rfl, r⟩ := rel1 rd
    have lists : (lstOf S c).map D.tup = some d → ∃ p ys, [v] = [V.ref p] ∧ ((SqL X.K H p ys ∧ ∀ l, H l = none → Q (.ref l) (upd H l (.tup ys))) ∨ (SqT X.K H p ys ∧ Q (.ref p) H)) := fun e => by
      obtain ⟨xs, e1, rfl⟩ := Option.map_eq_some_iff.mp e
      obtain ⟨a, us, rfl, hs, rs⟩ := lst_view l r e1
      refine ⟨a, us, rfl, .inl ⟨hs, fun p hp => ?_⟩⟩
      obtain ⟨g', e1, l1, r1⟩ := l.newTup hp rs
      exact k g' _ _ e1 l1 r1
    cases c with
    | tup xs =>
      cases e
      obtain ⟨a, us, rfl, hs, rs⟩ := tup_view l r
      exact ⟨a, us, rfl, .inr ⟨hs, k g H _ (.refl g) l r⟩⟩
    | _ => exact lists e
  | [], e => cases e
  | _ :: _ :: _, e => cases e⟩
/-! ### defs -/
inductive RF where
  | ok (d : D) (S : Sto) | er (x : D) (S : Sto) | no
/-- what a def does: by its arguments and the store -/
abbrev MF := List D → Sto → RF
def PostF (K : PySem.W.Frag) (g : Gh) (x : RF) (Q : VK) (E : XK) : Prop := match x with
  | .ok d S => ∀ g' H' v, Ext g g' → Rl K g' S H' → RelD K g' d v → Q v H'
  | .er x S => ∀ g' H' cls od, Ext g g' → Rl K g' S H' → RelX K g' H' x cls od → E cls od H'
  | .no => False
def spU (K : PySem.W.Frag) (n : Nat) (m : MF) : Sp := fun vs H Q E => vs.length = n ∧ ∃ g ds S, Rl K g S H ∧ RelDs K g ds vs ∧ PostF K g (m ds S) Q E
theorem spU_len {K : PySem.W.Frag} {n : Nat} {m : MF} : ∀ vs H Q E, spU K n m vs H Q E → vs.length = n := fun _ _ _ _ h => h.1
/-- a def whose work is seen by its arguments alone -/
inductive Out where
  | ok (d : D) | er (x : D) | no
abbrev PF := List D → Out
def pureM (m : PF) : MF := fun ds S => if bndL 0 ds = true then match m ds with
  | .ok d => .ok d S
  | .er x => .er x S
  | .no => .no else .no
def RF.run (r : Env) : RF → R D
  | .ok d S' => .ok d r S'
  | .er x S' => .er x r S'
  | .no => .no
def eCallF (n : Nat) (m : MF) (dds : List D) (fs : AF) : EF := fun r S => (fs r S).bind fun ds r S => if (ds ++ dds).length = n then (m (ds ++ dds) S).run r else .no
/-- a def stands at f and does m -/
abbrev FnU (P : Program) (w : World) (K : PySem.W.Frag) (mg : Str → Option Value) (base : Heap) (k : Nat) (f : Addr) (fd : FuncData) (ps : List Str) (m : MF) : Prop := FnOk P w K mg base (L2.CX P w) k f fd ps (spU K ps.length m)
section
variable {X : Cx} {W : WX} {pos p : Pos} {x : Str} {a : Expr} {es : List Expr} {fs : AF} {k : Nat} {f : Addr} {fd : FuncData} {ps : List Str} {m : MF} {dds : List D} {dvs : List V} {dus : List Value}
theorem se_call (F : FnU X.prog X.w X.K X.mg X.base k f fd ps m) (hr : Room k X.A) (hm : X.mg x = some (.ref f)) (hk : PySem.W.keepIn X.K (.ref f) = true) (hb : Binds X.K fd ps dus) (hd : Vals dvs dus) (hdd : ∀ g, RelDs X.K g dds dvs) (tk : Takes X W)
    (ha : SA X W (a :: es) fs) (hg : Gl X x := by rfl) (hdb : (x == ("__debug__" : Str)) = false := by decide) (he : starEach (a :: es) X.env = (false, eval a X.env) :: starEach es X.env := by rfl) (hpl : (backTo pos (starEach es X.env)).any (·.1) = false := by rfl) :
    SE X W (.Call (.Name x p) (a :: es) [] pos) (eCallF ps.length m dds fs) := by
  refine pe_imp (pe_callSD (E := fun σ cls od H => W cls od σ H) F hr hg hm hk hb hd (fun σ => passAt tk σ) ha hdb he hpl) fun σ H Q h => td_seq (TD.split (rel := RelDs X.K) h) fun vs H1 ⟨g, ds, r, S, l, e, rd, p⟩ => ?_
  split at p
  · rename_i hn
    have rr := rd.append (hdd g)
    refine ⟨by rw [← rr.length]; exact hn, g, ds ++ dds, S, l, rr, ?_⟩
    cases q : m (ds ++ dds) S with
    | ok d S' =>
      rw [q] at p
      exact fun g' H' v x' l' r' => p g' H' v x' l' (e.mono x') r'
    | er d S' =>
      rw [q] at p
      exact fun g' H' cls od x' l' r' => p g' H' cls od x' l' (e.mono x') r'
    | no => rw [q] at p; exact p.elim
  · exact p.elim
/-- no argument -/
theorem se_call0 (F : FnU X.prog X.w X.K X.mg X.base k f fd ps m) (hr : Room k X.A) (hm : X.mg x = some (.ref f)) (hk : PySem.W.keepIn X.K (.ref f) = true) (hb : Binds X.K fd ps dus) (hd : Vals dvs dus) (hdd : ∀ g, RelDs X.K g dds dvs) (tk : Takes X W)
    (hg : Gl X x := by rfl) (hdb : (x == ("__debug__" : Str)) = false := by decide) : SE X W (.Call (.Name x p) [] [] pos) (eCallF ps.length m dds aNil) := by
  refine ⟨fun pins s σ H Q I h => ?_⟩
  refine wpAny_Call_Name_kw (ld_glob I hg hm ?_ hdb)
  refine PySem.W.callWith_K0 I.kIn hk ?_
  refine run_fnSD (us := []) (vs := []) (E := fun σ cls od H => W cls od σ H) F hr hb hd (passAt tk σ) I .nil ?_
  obtain ⟨g, r, S, l, e, p⟩ := h
  have p' : PostG X.K W (RelD X.K) g σ (if ([] ++ dds).length = ps.length then (m ([] ++ dds) S).run r else .no) Q := p
  split at p'
  · rename_i hn
    refine ⟨by rw [List.nil_append, ← (hdd g).length]; exact hn, g, dds, S, l, hdd g, ?_⟩
    rw [List.nil_append] at p'
    cases q : m dds S with
    | ok d S' =>
      rw [q] at p'
      exact fun g' H' v x' l' r' => p' g' H' v x' l' (e.mono x') r'
    | er d S' =>
      rw [q] at p'
      exact fun g' H' cls od x' l' r' => p' g' H' cls od x' l' (e.mono x') r'
    | no => rw [q] at p'; exact p'.elim
  · exact p'.elim
/-- f(e, .., k = v, ..) -/
def eCallK (n j : Nat) (c : Nat) (m : MF) (gD : List D → List D → List D) (fs fk : AF) : EF := fun r S => (fs r S).bind fun ds r S => (fk r S).bind fun zs r S =>
  if ds.length = j ∧ zs.length = c ∧ (gD ds zs).length = n then (m (gD ds zs) S).run r else .no
abbrev SK (X : Cx) (W : WX) (ks : List Keyword) (f : AF) : Prop := PK X ks (TD X.K W (RelDs X.K) f)
theorem pk_imp {ks : List Keyword} {t t' : TA} (h : PK X ks t) (i : ∀ σ H Q, t' σ H Q → t σ H Q) : PK X ks t' := ⟨fun pos pins s σ H Q I w => h.run pos pins s σ H Q I (i σ H Q w)⟩
theorem sk_nil : SK X W [] aNil := pk_imp pk_nil fun σ H Q ⟨g, r, S, l, e, p⟩ => post_ok p l e .nil
theorem sk_cons {nm : Option Str} {kpos : Pos} {kws : List Keyword} {fa : EF} {fr : AF} (ha : SE X W a fa) (hr : SK X W kws fr) : SK X W (⟨nm, a, kpos⟩ :: kws) (aCons fa fr) :=
  pk_imp (pk_cons ha hr) fun σ H Q h => td_seq (TD.split (rel := RelD X.K) h) fun xv H1 ⟨g, x, r, S, l, e, rx, p⟩ =>
    ⟨g, r, S, l, e, PostG.imp p.split fun zv H2 ⟨g', z, r2, S', e', l', re, rz, p'⟩ => post_ok p' l' re (.cons (rx.mono e') rz)⟩
end
/-! ### what a def promises, by its body -/
def startE (n : Nat) (ds : List D) : Env := ds.map some ++ List.replicate (n - ds.length) none
theorem start_rel {K : PySem.W.Frag} {g : Gh} {N : List Str} {ds : List D} {vs : List V} (r : RelDs K g ds vs) : REnv K g (startE N.length ds) (start N vs) := by
  unfold startE start
  refine ⟨by simp [r.length], fun i d e => ?_⟩
  by_cases hi : i < ds.length
  · rw [List.getElem?_append_left (by simpa using hi), List.getElem?_map] at e
    obtain ⟨d', h1, h2⟩ := Option.map_eq_some_iff.mp e
    cases h2
    obtain ⟨v, h3, h4⟩ := r.get h1
    exact ⟨v, by rw [List.getElem?_append_left (by rw [List.length_map, ← r.length]; exact hi), List.getElem?_map, h3]; rfl, h4⟩
  · rw [List.getElem?_append_right (by simpa using hi), List.getElem?_replicate] at e
    split at e <;> cases e
/-- the body's end -/
def endOf : R Fl → RF
  | .ok (.rt d) _ S => .ok d S
  | .ok .nx _ S => .ok .non S
  | .er x _ S => .er x S
  | _ => .no
/-- what was made within is settled: x is what the body leaves, y what is promised; n objects stood ahead -/
def Settled (n : Nat) (x y : RF) : Prop := match y with
  | .no => True
  | .ok d S => ∃ d1 S1 k, x = .ok d1 S1 ∧ (∀ (i : Nat) (o : AO), i < n → S1[i]? = some o → bndO n o = true) ∧ fz n S1 k d1 = d ∧ bnd n d = true ∧ S1.take n = S
  | .er d S => ∃ C ns ds S1 k, x = .er (.ins C ns ds) S1 ∧ (∀ (i : Nat) (o : AO), i < n → S1[i]? = some o → bndO n o = true) ∧ d = .ins C ns (ds.map (fz n S1 k)) ∧ bndL n (ds.map (fz n S1 k)) = true ∧ S1.take n = S
theorem post_settled {K : PySem.W.Frag} {g : Gh} {x y : RF} {n : Nat} {Q : VK} {E : XK} (hn : g.sz = n) (hb : ∀ a d, g.G a = some d → bnd n d = true) (h : Settled n x y) (p : PostF K g y Q E) : PostF K g x Q E := by
  cases y with
  | no => exact p.elim
  | ok d S =>
    obtain ⟨d1, S1, k, rfl, hS, hf, hd, ht⟩ := h
    intro g1 H1 v e l r
    obtain ⟨e2, l2⟩ := settle l e hn hb hS
    rw [ht] at l2
    refine p _ H1 v e2 l2 ?_
    rw [← hf]
    exact settled_rel l (by rw [← hn]; exact e.sz) r (by rw [hf]; exact hd)
  | er d S =>
    obtain ⟨C, ns, ds, S1, k, rfl, hS, hf, hd, ht⟩ := h
    intro g1 H1 cls od e l r
    obtain ⟨e2, l2⟩ := settle l e hn hb hS
    rw [ht] at l2
    obtain ⟨C', ns', ds', dx, vs, q1, q2, q3, q4, q5, q6⟩ := r
    cases q1
    exact p _ H1 cls od e2 l2 ⟨C, ns, _, dx, vs, hf, q2, q3, q4, by rw [List.length_map]; exact q5, settled_rels l (by rw [← hn]; exact e.sz) q6 hd⟩
theorem Rl.bounded {K : PySem.W.Frag} {g : Gh} {S : Sto} {H : Hp} (l : Rl K g S H) : ∀ a d, g.G a = some d → bnd g.sz d = true := fun a d q => (l.imm a d q).bnd
def Out.at (S : Sto) : Out → RF
  | .ok d => .ok d S
  | .er x => .er x S
  | .no => .no
/-- pure: what it leaves is seen to be pure -/
theorem post_pure {K : PySem.W.Frag} {g : Gh} {S : Sto} {H : Hp} {x : RF} {y : Out} {Q : VK} {E : XK} (l : Rl K g S H) (h : Settled 0 x (y.at [])) (p : PostF K g (y.at S) Q E) : PostF K (g.sealed H) x Q E := by
  refine post_settled (n := 0) rfl (fun a d q => (sealed_G.mp q).2) h ?_
  cases y with
  | no => exact p.elim
  | ok d =>
    obtain ⟨d1, S1, k, _, _, hf, hd, _⟩ := h
    intro g1 H1 v e l1 r
    obtain ⟨l2, hp⟩ := reopen l e l1
    exact p _ H1 v opened_ext l2 (relD_over hp r hd)
  | er d =>
    obtain ⟨C, ns, ds, S1, k, _, _, hf, hd, _⟩ := h
    intro g1 H1 cls od e l1 r
    obtain ⟨l2, hp⟩ := reopen l e l1
    obtain ⟨C', ns', ds', dx, vs, q1, q2, q3, q4, q5, q6⟩ := r
    rw [hf] at q1
    cases q1
    exact p _ H1 cls od opened_ext l2 ⟨C, ns, _, dx, vs, hf, q2, q3, q4, q5, relDs_over hp q6 hd⟩
section
variable {P : Program} {w : World} {K : PySem.W.Frag} {mg : Str → Option Value} {base : Heap} {x qual : Str} {params : Arguments} {body : List Stmt} {scope : Scope} {dvs : List V} {kws : List (Str × V)} {f : Addr} {fd : FuncData} {N ps : List Str} {k : Nat}
abbrev bodyCx (P : Program) (w : World) (K : PySem.W.Frag) (mg : Str → Option Value) (base : Heap) (N : List Str) (qual : Str) (scope : Scope) (f : Addr) (cdv : Value) (A : Around) (outer : List PySem.Env) (s : Shared) (H : Hp) (E : XK) : Cx :=
  cxOf (L2.CX P w) P w K mg base N qual scope f cdv A outer s H E
def wOf (E : XK) : WX := fun cls d _ H => E cls d H
/-- a def that changes the store -/
theorem fu_of (F : FunD K x qual params body scope dvs kws f fd) (S : FnScope N ps scope) (m : MF) (fb : SF)
    (hbody : ∀ (cdv : Value) (A : Around) (outer : List PySem.Env) (s : Shared) (H : Hp) (E : XK), Room k (A.deeper (envOfC qual scope s.heap.objs.size f cdv)) → Takes (bodyCx P w K mg base N qual scope f cdv A outer s H E) (wOf E) →
      PassesOwn (model P w) (A.deeper (envOfC qual scope s.heap.objs.size f cdv)) (envOfC qual scope s.heap.objs.size f cdv) (bodyCx P w K mg base N qual scope f cdv A outer s H E).xe → SSs (bodyCx P w K mg base N qual scope f cdv A outer s H E) (wOf E) body fb)
    (hm : ∀ ds S, ds.length = ps.length → Settled S.length (endOf (fb (startE N.length ds) S)) (m ds S)) : FnU P w K mg base (k + 1) f fd ps m := by
  refine F.ok S spU_len fun cdv A outer s H vs Q E hr h => ⟨TSd K (wOf E) fb, hbody cdv A outer s H E hr (takes_of rfl rfl rfl rfl) (passes_of rfl), ?_⟩
  obtain ⟨hl, g, ds, S, l, rd, p⟩ := h
  refine ⟨g, _, S, l, start_rel rd, ?_⟩
  have p2 := post_settled l.sz (by rw [← l.sz]; exact l.bounded) (hm ds S (by rw [rd.length]; exact hl)) p
  cases q : fb (startE N.length ds) S with
  | ok a r S1 =>
    rw [q] at p2
    cases a with
    | nx => exact fun g' H' σ' e l' _ => p2 g' H' .non e l' rfl
    | rt d => exact p2
    | bk => exact p2.elim
    | ct => exact p2.elim
  | er y r S1 =>
    rw [q] at p2
    exact fun g' H' σ' cls od e l' _ r' => p2 g' H' cls od e l' r'
  | no => rw [q] at p2; exact p2.elim
/-- a def that is pure -/
theorem pu_of (F : FunD K x qual params body scope dvs kws f fd) (S : FnScope N ps scope) (m : PF) (fb : SF)
    (hbody : ∀ (cdv : Value) (A : Around) (outer : List PySem.Env) (s : Shared) (H : Hp) (E : XK), Room k (A.deeper (envOfC qual scope s.heap.objs.size f cdv)) → Takes (bodyCx P w K mg base N qual scope f cdv A outer s H E) (wOf E) →
      PassesOwn (model P w) (A.deeper (envOfC qual scope s.heap.objs.size f cdv)) (envOfC qual scope s.heap.objs.size f cdv) (bodyCx P w K mg base N qual scope f cdv A outer s H E).xe → SSs (bodyCx P w K mg base N qual scope f cdv A outer s H E) (wOf E) body fb)
    (hm : ∀ ds, ds.length = ps.length → bndL 0 ds = true → Settled 0 (endOf (fb (startE N.length ds) [])) ((m ds).at [])) : FnU P w K mg base (k + 1) f fd ps (pureM m) := by
  refine F.ok S spU_len fun cdv A outer s H vs Q E hr h => ⟨TSd K (wOf E) fb, hbody cdv A outer s H E hr (takes_of rfl rfl rfl rfl) (passes_of rfl), ?_⟩
  obtain ⟨hl, g, ds, S, l, rd, p⟩ := h
  unfold pureM at p
  split at p
  · rename_i hb
    refine ⟨g.sealed H, _, [], shut l, start_rel (sealed_rels rd hb), ?_⟩
    have p1 : PostF K g ((m ds).at S) Q E := by
      cases q : m ds <;> (rw [q] at p; exact p)
    have p2 := post_pure l (hm ds (by rw [rd.length]; exact hl) hb) p1
    cases q : fb (startE N.length ds) [] with
    | ok a r S1 =>
      rw [q] at p2
      cases a with
      | nx => exact fun g' H' σ' e l' _ => p2 g' H' .non e l' rfl
      | rt d => exact p2
      | bk => exact p2.elim
      | ct => exact p2.elim
    | er y r S1 =>
      rw [q] at p2
      exact fun g' H' σ' cls od e l' _ r' => p2 g' H' cls od e l' r'
    | no => rw [q] at p2; exact p2.elim
  · exact p.elim
end
end L2.U
namespace L2.U
open PySem PySem.Spec PyProof.Rows He

/-! ### the look at the top -/
/-- the function that stands at a; of a property, a static method: the one behind it -/
def fnA (K : PySem.W.Frag) (a : Addr) : FnW := match K.lookup a with
  | some ⟨_, _, .func fd, _⟩ => some (fd.name, fd.qualname, fd.params, fd.body, fd.scope, fd.globals, fd.closure, fd.builtins)
  | _ => none
def behA (K : PySem.W.Frag) (a : Addr) : Addr := match PySem.W.recIn K a "property" with
  | some (.ref g :: _) => g
  | _ => match PySem.W.recIn K a "staticmethod" with
    | some (.ref g :: _) => g
    | _ => 0
def fAp (K : PySem.W.Frag) (p : Str × Option Str) : Addr := behA K (fAd K p)
def okA (K : PySem.W.Frag) (a : Addr) (d : DefD) : Bool := PySem.W.keepIn K (.ref a) && (match K.lookup a with
  | some ⟨_, _, .func fd, _⟩ => PySem.W.codeIn K fd.code d.qual && (dflB K fd.defaults (d.dvs K) && kwdB K fd.kwdefaults (d.kws K))
  | _ => false)
theorem funA {K : PySem.W.Frag} {a : Addr} {d : DefD} (e : fnA K a = d.val) (c : okA K a d = true) : ∃ fd, FunD K d.name d.qual d.params d.body d.scope (d.dvs K) (d.kws K) a fd := by
  obtain ⟨kp, c⟩ := ba c
  unfold fnA at e
  split at c
  · rename_i oc od fd osl q
    rw [q] at e
    obtain ⟨n1, n2, n3, n4, n5, n6, n7, n8, n9, n10, n11, n12, n13, n14, n15⟩ := fd
    have e2 : (some (n1, n2, n3, n4, n5, n6, n7, n15) : FnW) = some (d.name, d.qual, d.params, .stmts d.body, d.scope, mainGlobals, [], builtinsNs) := e
    simp only [Option.some.injEq, Prod.mk.injEq] at e2
    obtain ⟨h1, h2, h3, h4, h5, h6, h7, h8⟩ := e2
    subst h1 h2 h3 h4 h5 h6 h7 h8
    have c' : (PySem.W.codeIn K n13 d.qual && (dflB K n8 (d.dvs K) && kwdB K n9 (d.kws K))) = true := c
    obtain ⟨k1, k2⟩ := ba c'
    obtain ⟨k3, k4⟩ := ba k2
    exact ⟨_, ⟨oc, od, n8, n9, n10, n11, n12, n13, n14, osl, rfl, q, k1, dflB_ok k3, kwdB_ok k4⟩, kp⟩
  · cases c
def obsU (ck : PySem.W.Frag → Bool) (fn pn : List DefD) (K : PySem.W.Frag) : AlD := (ck K && (fn.all (fun d => okA K (fAd K d.at_) d) && pn.all fun d => okA K (fAp K d.at_) d), fn.map (fun d => fnA K (fAd K d.at_)) ++ pn.map fun d => fnA K (fAp K d.at_))
def SaysU (ck : PySem.W.Frag → Bool) (fn pn : List DefD) (K : PySem.W.Frag) : Prop := obsU ck fn pn K = valD (fn ++ pn)
def obsUG (n : Nat) (ck : PySem.W.Frag → Bool) (fn pn : List DefD) (g : Addr → Option Obj) : AlD := obsU ck fn pn (frG g (asD g n ++ [cStatics]))
def hookU (n : Nat) (ck : PySem.W.Frag → Bool) (fn pn : List DefD) : PySem.W.Hook where
  α := AlD
  obs := fun s => obsUG n ck fn pn s.heap.get?
  val := fun _ => valD (fn ++ pn)
  says := fun _ h => ∃ K : PySem.W.Frag, K.In h ∧ SaysU ck fn pn K
  of := fun _ _ e => ⟨_, frG_in, e⟩
  keeps := fun _ _ _ ⟨K, hK, c⟩ k => ⟨K, PySem.W.Frag.In.keeps hK k, c⟩
theorem obsUG_eq {n : Nat} {ck : PySem.W.Frag → Bool} {fn pn : List DefD} {g : Addr → Option Obj} {s : Shared} (h : ∀ a, g a = s.heap.get? a) : obsUG n ck fn pn g = (hookU n ck fn pn).obs s := by
  have e : g = s.heap.get? := funext h
  rw [e] <;> rfl
section
variable {ck : PySem.W.Frag → Bool} {fn pn : List DefD} {K : PySem.W.Frag}
theorem SaysU.chk (c : SaysU ck fn pn K) : ck K = true := (ba (congrArg (fun z : AlD => z.1) c)).1
theorem SaysU.two (c : SaysU ck fn pn K) : fn.map (fun d => fnA K (fAd K d.at_)) = fn.map DefD.val ∧ pn.map (fun d => fnA K (fAp K d.at_)) = pn.map DefD.val := by
  have e : fn.map (fun d => fnA K (fAd K d.at_)) ++ pn.map (fun d => fnA K (fAp K d.at_)) = (fn ++ pn).map DefD.val := congrArg (fun z : AlD => z.2) c
  rw [List.map_append] at e
  exact List.append_inj e (by simp)
theorem SaysU.def_ (c : SaysU ck fn pn K) (i : Nat) {d : DefD} (h : fn[i]? = some d := by rfl) : ∃ fd, FunD K d.name d.qual d.params d.body d.scope (d.dvs K) (d.kws K) (fAd K d.at_) fd := by
  have c2 := (ba (ba (congrArg (fun z : AlD => z.1) c)).2).1
  have e2 : (fn.map fun d => fnA K (fAd K d.at_))[i]? = (fn.map DefD.val)[i]? := by rw [c.two.1]
  rw [List.getElem?_map, List.getElem?_map, h] at e2
  exact funA (Option.some.inj e2) (List.all_eq_true.mp c2 d (List.mem_of_getElem? h))
theorem SaysU.prop_ (c : SaysU ck fn pn K) (i : Nat) {d : DefD} (h : pn[i]? = some d := by rfl) : ∃ fd, FunD K d.name d.qual d.params d.body d.scope (d.dvs K) (d.kws K) (fAp K d.at_) fd := by
  have c2 := (ba (ba (congrArg (fun z : AlD => z.1) c)).2).2
  have e2 : (pn.map fun d => fnA K (fAp K d.at_))[i]? = (pn.map DefD.val)[i]? := by rw [c.two.2]
  rw [List.getElem?_map, List.getElem?_map, h] at e2
  exact funA (Option.some.inj e2) (List.all_eq_true.mp c2 d (List.mem_of_getElem? h))
end
/-! ### what is looked at -/
/-- names of the module that are none; constants; functions -/
def freeB (K : PySem.W.Frag) (xs : List Str) : Bool := xs.all fun x => eqO (PySem.W.nsIn K mainGlobals x) (some none)
def conB (K : PySem.W.Frag) (xs : List (Str × D)) : Bool := xs.all fun q => match PySem.W.nsIn K mainGlobals q.1 with
  | some (some u) => kRep K 40 q.2 u
  | _ => false
def gloB (K : PySem.W.Frag) (xs : List Str) : Bool := xs.all fun x => eqO (PySem.W.nsIn K mainGlobals x) (some (some (.ref (ga K x))))
/-- the module's names as the walk has them -/
structure Nm (K : PySem.W.Frag) (mg : Str → Option Value) : Prop where
  v : ∀ x v, PySem.W.nsIn K mainGlobals x = some v → mg x = v
theorem Nm.of {K : PySem.W.Frag} {h : Heap} {mg : Str → Option Value} (X : K.In h) (G : h.Ns mainGlobals mg) : Nm K mg := ⟨fun x v e => by
  cases v with
  | none => exact PySem.W.mg_none_of X G e
  | some v => exact PySem.W.mg_of X G e⟩
section
variable {K : PySem.W.Frag} {mg : Str → Option Value}
theorem free_at (N : Nm K mg) {xs : List Str} (h : freeB K xs = true) (i : Nat) {x : Str} (hx : xs[i]? = some x := by rfl) : mg x = none :=
  N.v x none (eqO_ok (List.all_eq_true.mp h x (List.mem_of_getElem? hx)))
theorem glo_at (N : Nm K mg) {xs : List Str} (h : gloB K xs = true) (i : Nat) {x : Str} (hx : xs[i]? = some x := by rfl) : mg x = some (.ref (ga K x)) :=
  N.v x _ (eqO_ok (List.all_eq_true.mp h x (List.mem_of_getElem? hx)))
theorem con_at (N : Nm K mg) {xs : List (Str × D)} (h : conB K xs = true) (i : Nat) {x : Str} {d : D} (hx : xs[i]? = some (x, d) := by rfl) : KCon K mg x d := by
  have e := List.all_eq_true.mp h _ (List.mem_of_getElem? hx)
  simp only at e
  split at e
  · rename_i u q
    exact ⟨u, 40, N.v x _ q, e⟩
  · cases e
end
/-! ### a def by its name -/
structure Def1 (P : Program) (w : World) (K : PySem.W.Frag) (mg : Str → Option Value) (base : Heap) (x : Str) (k : Nat) (ps : List Str) (m : MF) (dds : List D) : Prop where
  ex : ∃ f fd dvs dus, FnU P w K mg base k f fd ps m ∧ mg x = some (.ref f) ∧ PySem.W.keepIn K (.ref f) = true ∧ Binds K fd ps dus ∧ Vals dvs dus ∧ ∀ g, RelDs K g dds dvs
section
variable {X : Cx} {W : WX} {pos p : Pos} {x : Str} {a : Expr} {es : List Expr} {fs : AF} {k : Nat} {ps : List Str} {m : MF} {dds : List D}
theorem se_fn (F : Def1 X.prog X.w X.K X.mg X.base x k ps m dds) (hr : Room k X.A) (tk : Takes X W) (ha : SA X W (a :: es) fs) (hg : Gl X x := by rfl) (hdb : (x == ("__debug__" : Str)) = false := by decide) (he : starEach (a :: es) X.env = (false, eval a X.env) :: starEach es X.env := by rfl)
    (hpl : (backTo pos (starEach es X.env)).any (·.1) = false := by rfl) : SE X W (.Call (.Name x p) (a :: es) [] pos) (eCallF ps.length m dds fs) := by
  obtain ⟨f, fd, dvs, dus, F, hm, hk, hb, hd, hdd⟩ := F
  exact se_call F hr hm hk hb hd hdd tk ha hg hdb he hpl
theorem se_fn0 (F : Def1 X.prog X.w X.K X.mg X.base x k ps m dds) (hr : Room k X.A) (tk : Takes X W) (hg : Gl X x := by rfl) (hdb : (x == ("__debug__" : Str)) = false := by decide) : SE X W (.Call (.Name x p) [] [] pos) (eCallF ps.length m dds aNil) := by
  obtain ⟨f, fd, dvs, dus, F, hm, hk, hb, hd, hdd⟩ := F
  exact se_call0 F hr hm hk hb hd hdd tk hg hdb
end
/-- a def called by keywords: j values by position, the keywords ks; gD puts all in the parameters' order -/
structure DefK (P : Program) (w : World) (K : PySem.W.Frag) (mg : Str → Option Value) (base : Heap) (x : Str) (k : Nat) (ps : List Str) (m : MF) (j : Nat) (ks : List Str) (gD : List D → List D → List D) : Prop where
  ex : ∃ f fd gv gV, FnU P w K mg base k f fd ps m ∧ mg x = some (.ref f) ∧ PySem.W.keepIn K (.ref f) = true ∧ KBn K fd ps j ks gv gV ∧ ∀ g ds vs zs us, RelDs K g ds vs → RelDs K g zs us → RelDs K g (gD ds zs) (gV vs us)
section
variable {X : Cx} {W : WX} {pos p : Pos} {x : Str} {a : Expr} {es : List Expr} {fs fk : AF} {k : Nat} {f : Addr} {fd : FuncData} {ps ks : List Str} {m : MF} {j : Nat} {gv : List Value → List Value → List Value} {gV : List V → List V → List V} {gD : List D → List D → List D} {kws : List Keyword}
theorem run_fnND {pins : List (Addr × Obj)} {σ : St} {H : Hp} {s : Shared} {Q : VK} {sp : Sp} {E : XK} {us ws : List Value} {vs zs : List V} (F : FnOk X.prog X.w X.K X.mg X.base (L2.CX X.prog X.w) k f fd ps sp) (hr : Room k X.A) (hb : KBn X.K fd ps j ks gv gV) (hx : PassesAt (L2.CX X.prog X.w) X σ E)
    (I : Inv X pins σ H s) (r : Vals vs us) (rz : Vals zs ws) (l1 : vs.length = j) (l2 : zs.length = ks.length) (h : sp (gV vs zs) H Q E) : wpAny (model X.prog X.w) X.A (call (.ref f) us (ks.zip ws)) (EP X pins σ Q) X.xe s := by
  have r2 := hb.rel r rz
  refine wpAny_call (codeAny_mono (F.run X.A X.stack s H ⟨us, ks.zip ws⟩ (gv us ws) (gV vs zs) Q E hr I.env0 (hb.to s us ws I.kIn (r.length.symm.trans l1) (rz.length.symm.trans l2)) r2 h) fun r s' hq => ?_)
  cases r with
  | error e => exact hx pins H s e s' I hq
  | ok fl =>
    cases fl with
    | ret u => exact I.after hq
    | next => exact False.elim hq
    | brk => exact False.elim hq
    | cont => exact False.elim hq
theorem go_spU {σ : St} {Q : VK} {g : Gh} {ds : List D} {vs : List V} {r : Env} {S : Sto} {H : Hp} {n : Nat} (l : Rl X.K g S H) (e : REnv X.K g r σ) (rr : RelDs X.K g ds vs) (hn : ds.length = n) (p : PostG X.K W (RelD X.K) g σ ((m ds S).run r) Q) :
    spU X.K n m vs H Q (fun cls od H => W cls od σ H) := by
  refine ⟨by rw [← rr.length]; exact hn, g, ds, S, l, rr, ?_⟩
  cases q : m ds S with
  | ok d S' =>
    rw [q] at p
    exact fun g' H' v x' l' r' => p g' H' v x' l' (e.mono x') r'
  | er d S' =>
    rw [q] at p
    exact fun g' H' cls od x' l' r' => p g' H' cls od x' l' (e.mono x') r'
  | no => rw [q] at p; exact p.elim
theorem se_fnK (F : DefK X.prog X.w X.K X.mg X.base x k ps m j ks gD) (hr : Room k X.A) (tk : Takes X W) (ha : SA X W (a :: es) fs) (hkw : SK X W kws fk) (hg : Gl X x := by rfl) (hall : (backToKw pos (keywordEach kws X.env)).all (·.1.isSome) = true := by rfl) (hks : (backToKw pos (keywordEach kws X.env)).filterMap (·.1) = ks := by rfl)
    (hdb : (x == ("__debug__" : Str)) = false := by decide) (he : starEach (a :: es) X.env = (false, eval a X.env) :: starEach es X.env := by rfl)
    (hpl : ((backTo pos (starEach (a :: es) X.env)).any (·.1) || (backToKw pos (keywordEach kws X.env)).any (·.1.isNone)) = false := by rfl) : SE X W (.Call (.Name x p) (a :: es) kws pos) (eCallK ps.length j ks.length m gD fs fk) := by
  obtain ⟨f, fd, gv, gV, F, hm, hk, hb, hrel⟩ := F
  refine ⟨fun pins s σ H Q I h => ?_⟩
  refine wpAny_Call_Name_kw (ld_glob I hg hm ?_ hdb)
  refine PySem.W.callWith_KW (h₀ := X.base) I.ok.mod.kin hk hall (thn (ha.run pos pins s σ H _ I (TD.split (rel := RelDs X.K) h)) fun us s1 ⟨vs, H1, I1, r1, g, ds, r, S, l, e, rd, p⟩ => ?_) hpl he
  refine thn (hkw.run pos pins s1 σ H1 _ I1 ⟨g, r, S, l, e, p.split⟩) fun ws s2 ⟨zs, H2, I2, rz, g2, zd, r2, S2, x2, l2, e2, rzd, p2⟩ => ⟨I2.kIn, ?_⟩
  rw [hks]
  split at p2
  · rename_i hn
    have rr := hrel g2 _ _ _ _ (rd.mono x2) rzd
    exact run_fnND (E := fun cls od H => W cls od σ H) F hr hb (passAt tk σ) I2 r1 rz (by rw [← rd.length]; exact hn.1) (by rw [← rzd.length]; exact hn.2.1) (go_spU l2 e2 rr hn.2.2 p2)
  · exact p2.elim
theorem se_fnK0 (F : DefK X.prog X.w X.K X.mg X.base x k ps m 0 ks gD) (hr : Room k X.A) (tk : Takes X W) (hkw : SK X W kws fk) (hg : Gl X x := by rfl) (hall : (backToKw pos (keywordEach kws X.env)).all (·.1.isSome) = true := by rfl) (hks : (backToKw pos (keywordEach kws X.env)).filterMap (·.1) = ks := by rfl)
    (hdb : (x == ("__debug__" : Str)) = false := by decide)
    (hpl : ((backTo pos (starEach [] X.env)).any (·.1) || (backToKw pos (keywordEach kws X.env)).any (·.1.isNone)) = false := by rfl) : SE X W (.Call (.Name x p) [] kws pos) (eCallK ps.length 0 ks.length m gD aNil fk) := by
  obtain ⟨f, fd, gv, gV, F, hm, hk, hb, hrel⟩ := F
  refine ⟨fun pins s σ H Q I h => ?_⟩
  refine wpAny_Call_Name_kw (ld_glob I hg hm ?_ hdb)
  obtain ⟨g, r, S, l, e, p⟩ := h
  have p' : PostG X.K W (RelD X.K) g σ ((fk r S).bind fun zs r S => if ([] : List D).length = 0 ∧ zs.length = ks.length ∧ (gD [] zs).length = ps.length then (m (gD [] zs) S).run r else .no) Q := p
  refine PySem.W.callWith_KW0 (h₀ := X.base) I.ok.mod.kin hk hall (thn (hkw.run pos pins s σ H _ I ⟨g, r, S, l, e, p'.split⟩) fun ws s2 ⟨zs, H2, I2, rz, g2, zd, r2, S2, x2, l2, e2, rzd, p2⟩ => ⟨I2.kIn, ?_⟩) hpl
  rw [hks]
  split at p2
  · rename_i hn
    have rr := hrel g2 _ _ _ _ (.nil : RelDs X.K g2 [] []) rzd
    exact run_fnND (us := []) (vs := []) (E := fun cls od H => W cls od σ H) F hr hb (passAt tk σ) I2 .nil rz rfl (by rw [← rzd.length]; exact hn.2.1) (go_spU l2 e2 rr hn.2.2 p2)
  · exact p2.elim
end
/-! ### the law -/
theorem kReps_ints {K : PySem.W.Frag} : ∀ (ns : List Int) (us : List Value) (f : Nat), Vals (ns.map V.int) us → ns.length + 2 ≤ f → kReps K f (ns.map D.int) us = true
  | [], us, f, r, hf => by
    cases r
    match f, hf with
    | f + 1, _ => rfl
  | n :: ns, us, f, r, hf => by
    rw [List.length_cons] at hf
    cases r with
    | cons r1 r2 =>
      obtain ⟨t, rfl⟩ := r1
      match f, hf with
      | f + 1, hf =>
        show (kRep K f (.int n) (.int n t) && kReps K f (ns.map D.int) _) = true
        rw [kReps_ints ns _ f r2 (by omega)]
        match f, hf with
        | f + 1, _ => simp [kRep]
theorem bndL_ints (n : Nat) : ∀ ns : List Int, bndL n (ns.map D.int) = true
  | [] => rfl
  | _ :: ns => by show (true && bndL n (ns.map D.int)) = true; rw [bndL_ints n ns]; rfl
/-- the law's def gives True for every script -/
theorem law_sp {K : PySem.W.Frag} {m : MF} {H : Hp} {a : Addr} {ns : List Int} (hO : Only H) (hS : SqL K H a (ns.map V.int)) (h : ∃ S, m [.fz (ns.map .int)] [] = .ok (.bl true) S) : spU K 1 m [.ref a] H (fun v _ => v = .bl true) fun _ _ _ => False := by
  obtain ⟨S, hm⟩ := h
  have fin : ∀ g : Gh, g.sz = 0 → Rl K g [] H → RelD K g (.fz (ns.map .int)) (.ref a) → spU K 1 m [.ref a] H (fun v _ => v = .bl true) fun _ _ _ => False := fun g _ l r => by
    refine ⟨rfl, g, [.fz (ns.map .int)], [], l, .cons r .nil, ?_⟩
    rw [hm]
    exact fun g' H' v _ _ rv => rv
  rcases hS with hS | ⟨o, its, n, h1, h2, h3, h4, h5, h6⟩
  · have hn : ∀ (ns : List Int) (g : Gh), RelDs K g (ns.map D.int) (ns.map V.int) := fun ns g => by
      induction ns with
      | nil => exact .nil
      | cons n ns ih => exact .cons rfl ih
    refine fin ⟨fun b => if b = a then some (.fz (ns.map .int)) else none, fun _ => 0, 0, fun _ => none⟩ rfl ⟨fun b d q => ?_, fun n o q => by simp at q, fun i j oi oj q => by simp at q, rfl, fun b o q => by cases q⟩ ⟨bndL_ints 0 ns, a, rfl, .inl (if_pos rfl)⟩
    have q' : (if b = a then some (D.fz (ns.map .int)) else none) = some d := q
    split at q'
    · rename_i e
      subst e
      cases q'
      exact ⟨_, hS, hn ns _⟩
    · cases q'
  · refine fin ⟨fun _ => none, fun _ => 0, 0, fun _ => none⟩ rfl ⟨fun b d q => (by cases q), fun n o q => by simp at q, fun i j oi oj q => by simp at q, rfl, fun b o q => by cases q⟩ ⟨bndL_ints 0 ns, a, rfl, .inr ⟨ns.length + 3, ?_⟩⟩
    obtain ⟨oc, od, dt, sl⟩ := o
    simp only at h2 h3 h4
    subst h2 h3 h4
    unfold kRep
    rw [h1]
    simp only [Bool.and_eq_true, decide_eq_true_eq]
    exact ⟨by first | rfl | trivial, h5, kReps_ints ns _ _ h6 (by omega)⟩
theorem cx_none {P : Program} {w : World} {H : Hp} {s : Shared} {e : Value} {s' : Shared} (h : L2.CX P w [] H s (fun _ _ _ => False) e s') : False := by
  obtain ⟨_, _, _, _, _, _, _, _, _, _, _, _, z⟩ := h
  exact z
/-- a law: F gives the written part, the function object, what the law's def does -/
theorem walk_U {l : PySem.W.OpenLaw} {n k : Nat} {q : Program} {loose : List Str} {XP : (Str → Option Value) → Heap → Prop} {YP : World → Heap → Prop} {d : DefRec} {x : Str}
    (hn : l.most = some n) (hn2 : n ≤ sizeLine) (hdf : d.params.defaults = []) (hr : Room k callerA)
    (F : ∀ (w : World) (mg : Str → Option Value) (fa : Addr) (h : Heap), YP w h → h.Ns mainGlobals mg → mg d.name = some (.ref fa) →
      ∃ (K : PySem.W.Frag) (fd : FuncData) (m : MF), K.In h ∧ (∀ (s : Shared) (u : Value), BindsTo s fd ⟨[u], []⟩ [(x, u)]) ∧
        (∀ ns : List Int, ns.length ≤ n → ∃ S, m [.fz (ns.map .int)] [] = .ok (.bl true) S) ∧
        ∀ base : Heap, K.In base → base.Ns mainGlobals mg → FnU l.prog w K mg base k fa fd [x] m) :
    PySem.W.WalkO q loose XP YP l.row.toRowW d [] (fun f vs => PySem.call f vs) := by
  refine Att.attach_call hn hdf fun w s₀ s₁ mg mb fa o pm cd doc a vs ns G Y ho hd hcd hmg hobj hints hlen hg => ?_
  obtain ⟨K, fd, m, KX, hb, hsp, hF⟩ := F w mg fa _ Y G.T.g hmg
  exact law_call (CX := L2.CX l.prog w) KX G.T.g G.T.b G.T.builtins G.T.nolimit hg hobj hints (Nat.le_trans hlen hn2) hr hF hb (fun H hO hS => law_sp hO hS (hsp ns hlen)) fun H e s' => cx_none
end L2.U
namespace L2.U
open PySem PySem.Spec PyProof.Rows He

/-! ### minus -/
def oNeg : Sto → D → Option D := fun _ x => match x with
  | .int i => some (.int (-i))
  | _ => none
structure UnU (X : Cx) (op : UnaryOp) (o : Sto → D → Option D) : Prop where
  ex : ∃ r, UnR X (unaryOp op) r ∧ ∀ g S H x d xv (Q : VK), Rl X.K g S H → RelD X.K g x xv → o S x = some d → (∀ v, RelD X.K g d v → Q v H) → r xv H Q
def eUn (o : Sto → D → Option D) (fa : EF) : EF := fun r S => (fa r S).bind fun x r S => match o S x with
  | some d => .ok d r S
  | none => .no
section
variable {X : Cx} {W : WX} {pos : Pos} {a : Expr} {fa : EF}
theorem un_negU : UnU X .USub oNeg := ⟨_, un_neg, fun g S H x d xv Q l rx e k => by
  cases x <;> simp only [oNeg, reduceCtorEq, Option.some.injEq] at e
  subst e
  cases rx
  exact ⟨_, rfl, k _ rfl⟩⟩
theorem se_un {op : UnaryOp} {o : Sto → D → Option D} (u : UnU X op o) (ha : SE X W a fa) : SE X W (.UnaryOp op a pos) (eUn o fa) := by
  obtain ⟨r0, ho, hu⟩ := u
  refine pe_imp (pe_un ho ha) fun σ H Q h => td_seq (TD.split (rel := RelD X.K) h) fun xv H1 ⟨g, x, r, S, l, e, rx, p⟩ => ?_
  split at p
  · rename_i d q
    exact hu g S H1 x d xv Q l rx q fun v rv => post_ok p l e rv
  · exact p.elim
end
/-! ### targets of blocks -/
section
variable {K : PySem.W.Frag}
theorem gus_nil : GUs K gNil bNil [] := fun g S r σ H ds us r' Q l e q hb k => by
  cases q with
  | nil => cases hb; exact ⟨rfl, k σ e fun _ _ => rfl⟩
  | cons _ _ => cases hb
theorem gus_cons {t : TG} {t' : TGs} {b : Bn} {bs : Bns} {vs ws : List Nat} (u : GU K t b vs) (u' : GUs K t' bs ws) : GUs K (gCons t t') (bCons b bs) (vs ++ ws) := fun g S r σ H ds us r' Q l e q hb k => by
  cases q with
  | nil => cases hb
  | cons q1 q2 =>
    obtain ⟨r1, hb1, hb2⟩ := Option.bind_eq_some_iff.mp (show (b _ r).bind _ = some r' from hb)
    refine ⟨_, _, rfl, u g S r σ H _ _ r1 _ l e q1 hb1 fun σ1 e1 w1 => ?_⟩
    exact u' g S r1 σ1 H _ _ r' _ l e1 q2 hb2 fun σ2 e2 w2 => k σ2 e2 fun zs hz => (w2 zs fun i hi => hz i (List.mem_append_right _ hi)).trans (w1 zs fun i hi => hz i (List.mem_append_left _ hi))
theorem gu_tup {t : TGs} {bs : Bns} {n : Nat} {vs : List Nat} (u : GUs K t bs vs) : GU K (gTup K n t) (bTup n bs) vs := fun g S r σ H d v r' Q l e q hb k => by
  cases d <;> try (cases hb; done)
  rename_i xs
  simp only [bTup] at hb
  split at hb
  · rename_i hl
    obtain ⟨a, us, rfl, hs, rs⟩ := tup_view l q
    exact ⟨a, us, rfl, hs, by rw [← rs.length]; exact hl, u g S r σ H xs us r' Q l e rs hb k⟩
  · cases hb
end
/-! ### defs by their bodies -/
def rawM (n : Nat) (fb : SF) : MF := fun ds S => endOf (fb (startE n ds) S)
/-- what is left behind is by value -/
def cleanF (n : Nat) : RF → RF
  | .ok d S => if (S.take n).all (bndO n) && bnd n (fz n S 60 d) then .ok (fz n S 60 d) (S.take n) else .no
  | .er (.ins C ns ds) S => if (S.take n).all (bndO n) && bndL n (ds.map (fz n S 60)) then .er (.ins C ns (ds.map (fz n S 60))) (S.take n) else .no
  | _ => .no
theorem take_bnd {n : Nat} {S : Sto} (h : (S.take n).all (bndO n) = true) (i : Nat) (o : AO) (hi : i < n) (e : S[i]? = some o) : bndO n o = true := by
  refine List.all_eq_true.mp h o (List.mem_of_getElem? (i := i) ?_)
  rw [List.getElem?_take, if_pos hi]
  exact e
theorem clean_settled (n : Nat) (x : RF) : Settled n x (cleanF n x) := by
  cases x with
  | no => exact trivial
  | ok d S =>
    show Settled n _ (if (S.take n).all (bndO n) && bnd n (fz n S 60 d) then RF.ok (fz n S 60 d) (S.take n) else .no)
    split
    · rename_i h
      simp only [Bool.and_eq_true] at h
      exact ⟨d, S, 60, rfl, take_bnd h.1, rfl, h.2, rfl⟩
    · exact trivial
  | er d S =>
    cases d with
    | ins C ns ds =>
      show Settled n _ (if (S.take n).all (bndO n) && bndL n (ds.map (fz n S 60)) then RF.er (.ins C ns (ds.map (fz n S 60))) (S.take n) else .no)
      split
      · rename_i h
        simp only [Bool.and_eq_true] at h
        exact ⟨C, ns, ds, S, 60, rfl, take_bnd h.1, rfl, h.2, rfl⟩
      · exact trivial
    | _ => exact trivial
def cleanM (n : Nat) (fb : SF) : MF := fun ds S => cleanF S.length (endOf (fb (startE n ds) S))
def outF : RF → Out
  | .ok d _ => .ok d
  | .er d _ => .er d
  | .no => .no
theorem out_settled (x : RF) : Settled 0 x ((outF (cleanF 0 x)).at []) := by
  have h := clean_settled 0 x
  have e : (outF (cleanF 0 x)).at [] = cleanF 0 x := by
    cases x with
    | no => rfl
    | ok d S => simp only [cleanF]; split <;> rfl
    | er d S =>
      cases d with
      | ins C ns ds => simp only [cleanF]; split <;> rfl
      | _ => rfl
  rw [e]
  exact h
def purF (n : Nat) (fb : SF) : PF := fun ds => outF (cleanF 0 (endOf (fb (startE n ds) [])))
def purM (n : Nat) (fb : SF) : MF := pureM (purF n fb)
section
variable {P : Program} {w : World} {K : PySem.W.Frag} {mg : Str → Option Value} {base : Heap} {x qual : Str} {params : Arguments} {body : List Stmt} {scope : Scope} {f : Addr} {fd : FuncData} {N ps : List Str} {k : Nat}
/-- the body's derivation -/
abbrev BodyU (P : Program) (w : World) (K : PySem.W.Frag) (mg : Str → Option Value) (base : Heap) (k : Nat) (N : List Str) (qual : Str) (scope : Scope) (f : Addr) (body : List Stmt) (fb : SF) : Prop :=
  ∀ (cdv : Value) (A : Around) (outer : List PySem.Env) (s : Shared) (H : Hp) (E : XK), Room k (A.deeper (envOfC qual scope s.heap.objs.size f cdv)) → Takes (bodyCx P w K mg base N qual scope f cdv A outer s H E) (wOf E) →
      PassesOwn (model P w) (A.deeper (envOfC qual scope s.heap.objs.size f cdv)) (envOfC qual scope s.heap.objs.size f cdv) (bodyCx P w K mg base N qual scope f cdv A outer s H E).xe → SSs (bodyCx P w K mg base N qual scope f cdv A outer s H E) (wOf E) body fb
variable {dvs : List V} {kws : List (Str × V)}
theorem fn_raw (F : FunD K x qual params body scope dvs kws f fd) (S : FnScope N ps scope) (fb : SF) (hbody : BodyU P w K mg base k N qual scope f body fb) : FnU P w K mg base (k + 1) f fd ps (rawM N.length fb) := by
  refine F.ok S spU_len fun cdv A outer s H vs Q E hr h => ⟨TSd K (wOf E) fb, hbody cdv A outer s H E hr (takes_of rfl rfl rfl rfl) (passes_of rfl), ?_⟩
  obtain ⟨hl, g, ds, S, l, rd, p⟩ := h
  refine ⟨g, _, S, l, start_rel rd, ?_⟩
  unfold rawM at p
  cases q : fb (startE N.length ds) S with
  | ok a r S1 =>
    rw [q] at p
    cases a with
    | nx => exact fun g' H' σ' e l' _ => p g' H' .non e l' rfl
    | rt d => exact p
    | bk => exact p.elim
    | ct => exact p.elim
  | er y r S1 =>
    rw [q] at p
    exact fun g' H' σ' cls od e l' _ r' => p g' H' cls od e l' r'
  | no => rw [q] at p; exact p.elim
theorem fn_clean (F : FunD K x qual params body scope dvs kws f fd) (S : FnScope N ps scope) (fb : SF) (hbody : BodyU P w K mg base k N qual scope f body fb) : FnU P w K mg base (k + 1) f fd ps (cleanM N.length fb) :=
  fu_of F S _ fb hbody fun ds S _ => clean_settled _ _
theorem fn_pur (F : FunD K x qual params body scope dvs kws f fd) (S : FnScope N ps scope) (fb : SF) (hbody : BodyU P w K mg base k N qual scope f body fb) : FnU P w K mg base (k + 1) f fd ps (purM N.length fb) :=
  pu_of F S _ fb hbody fun ds _ _ => out_settled _
/-- nothing is promised -/
theorem fn_no (F : FunD K x qual params body scope dvs kws f fd) (S : FnScope N ps scope) : FnU P w K mg base (k + 1) f fd ps (fun _ _ => .no) :=
  F.ok S spU_len fun cdv A outer s H vs Q E hr h => by
    obtain ⟨hl, g, ds, S, l, rd, p⟩ := h
    exact p.elim
/-- a def without defaults -/
theorem def1_of {m : MF} {k : Nat} (hF : FnU P w K mg base k f fd ps m) (F : FunD K x qual params body scope [] [] f fd) (hm : mg x = some (.ref f))
    (h : ∀ (kV doc pm : Value) (an : Option Addr) (cdv ct : Value) (us : List Value), us.length = ps.length → bindArgs (PySem.W.fnOf x qual params body scope .none kV doc pm an cdv ct) ⟨us, []⟩ = pure (ps.zip us)) : Def1 P w K mg base x k ps m [] :=
  ⟨f, fd, [], [], hF, hm, F.kp, F.bindsN h, .nil, fun _ => .nil⟩
/-- .. called by keywords alone, or so -/
theorem defK_of {m : MF} {k : Nat} (n : Nat) (ks : List Str) (gv : {α : Type} → List α → List α → List α) (hF : FnU P w K mg base k f fd ps m) (F : FunD K x qual params body scope [] [] f fd) (hm : mg x = some (.ref f))
    (hrel : ∀ {α β : Type} {R : α → β → Prop} {as : List α} {bs : List β} {cs : List α} {es : List β}, Paired R as bs → Paired R cs es → Paired R (gv as cs) (gv bs es))
    (h : ∀ (kV doc pm : Value) (an : Option Addr) (cdv ct : Value) (us ws : List Value), us.length = n → ws.length = ks.length → bindArgs (PySem.W.fnOf x qual params body scope .none kV doc pm an cdv ct) ⟨us, ks.zip ws⟩ = pure (ps.zip (gv us ws))) :
    DefK P w K mg base x k ps m n ks gv := by
  refine ⟨f, fd, gv, gv, hF, hm, F.kp, ⟨fun s us ws X l1 l2 => ?_, fun r1 r2 => hrel r1 r2⟩, fun g ds vs zs us r1 r2 => hrel r1 r2⟩
  obtain ⟨oc, od, dV, kV, doc, pm, an, cdv, ct, osl, rfl, lk, hcd, hD, hK⟩ := F.ex
  rcases hD with ⟨_, rfl⟩ | ⟨e, _⟩
  · exact .of_eq (h kV doc pm an cdv ct us ws l1 l2)
  · exact absurd rfl e
end

/-! ### what a function gives -/
def wp {α : Type} (x : R α) (Q : α → Env → Sto → Prop) (Z : D → Env → Sto → Prop) : Prop := match x with
  | .ok a r S => Q a r S
  | .er d r S => Z d r S
  | .no => False
def wf (x : RF) (Q : D → Sto → Prop) (Z : D → Sto → Prop) : Prop := match x with
  | .ok d S => Q d S
  | .er d S => Z d S
  | .no => False
section
variable {α β : Type} {Q Q' : α → Env → Sto → Prop} {Z Z' : D → Env → Sto → Prop}
@[simp] theorem wp_ok {a : α} {r : Env} {S : Sto} : wp (.ok a r S) Q Z = Q a r S := propext Iff.rfl
@[simp] theorem wp_er {d : D} {r : Env} {S : Sto} : wp (.er d r S : R α) Q Z = Z d r S := propext Iff.rfl
@[simp] theorem wp_no : wp (.no : R α) Q Z = False := propext Iff.rfl
@[simp] theorem wp_bind {x : R α} {k : α → Env → Sto → R β} {Q : β → Env → Sto → Prop} : wp (x.bind k) Q Z = wp x (fun a r S => wp (k a r S) Q Z) Z := by cases x <;> rfl
theorem wp_imp {x : R α} (h : wp x Q Z) (i : ∀ a r S, Q a r S → Q' a r S) (j : ∀ d r S, Z d r S → Z' d r S) : wp x Q' Z' := by
  cases x with
  | ok a r S => exact i a r S h
  | er d r S => exact j d r S h
  | no => exact h
theorem wp_calm {x : R α} (h : wp x Q fun _ _ _ => False) : wp x.calm Q Z := by
  cases x with
  | ok a r S => exact h
  | er d r S => exact h.elim
  | no => exact h
@[simp] theorem wp_run {x : RF} {r : Env} {Q : D → Env → Sto → Prop} : wp (x.run r) Q Z = wf x (fun d S => Q d r S) (fun d S => Z d r S) := by cases x <;> rfl
@[simp] theorem wf_ok {d : D} {S : Sto} {Q Z : D → Sto → Prop} : wf (.ok d S) Q Z = Q d S := propext Iff.rfl
theorem wf_imp {x : RF} {Q Q' Z Z' : D → Sto → Prop} (h : wf x Q Z) (i : ∀ a S, Q a S → Q' a S) (j : ∀ d S, Z d S → Z' d S) : wf x Q' Z' := by
  cases x with
  | ok a S => exact i a S h
  | er d S => exact j d S h
  | no => exact h
/-- a body's end -/
theorem wf_end {x : R Fl} {Q Z : D → Sto → Prop} (h : wp x (fun a _ S => match a with
    | .rt d => Q d S
    | .nx => Q .non S
    | _ => False) fun d _ S => Z d S) : wf (endOf x) Q Z := by
  cases x with
  | ok a r S => cases a <;> exact h
  | er d r S => exact h
  | no => exact h
/-- a statement, then the rest -/
theorem wp_seq {f h : SF} {r : Env} {S : Sto} {Q : Fl → Env → Sto → Prop} (e : wp (f r S) (fun a r S => match a with
    | .nx => wp (h r S) Q Z
    | a => Q a r S) Z) : wp (sSeq f h r S) Q Z := by
  unfold sSeq
  rw [wp_bind]
  refine wp_imp e (fun a r S q => ?_) (fun _ _ _ z => z)
  cases a <;> exact q
/-- a walk -/
theorem wp_loop {b : Bn} {fb : SF} {Q : Fl → Env → Sto → Prop} (I : List D → Env → Sto → Prop) : ∀ (xs : List D) (r : Env) (S : Sto), I xs r S → (∀ r S, I [] r S → Q .nx r S) →
    (∀ x xs r S, I (x :: xs) r S → ∃ r1, b x r = some r1 ∧ wp (fb r1 S) (fun a r S => match a with
      | .nx => I xs r S
      | .ct => I xs r S
      | .bk => Q .nx r S
      | .rt d => Q (.rt d) r S) Z) → wp (loopF b fb xs r S) Q Z
  | [], r, S, h0, h1, _ => h1 r S h0
  | x :: xs, r, S, h0, h1, h2 => by
    obtain ⟨r1, e1, h3⟩ := h2 x xs r S h0
    unfold loopF
    rw [e1]
    simp only
    rw [wp_bind]
    refine wp_imp h3 (fun a r S q => ?_) (fun _ _ _ z => z)
    cases a with
    | nx => exact wp_loop I xs r S q h1 h2
    | ct => exact wp_loop I xs r S q h1 h2
    | bk => exact q
    | rt d => exact q
/-- a block -/
theorem wp_comp {b : Bn} {tt : TF} {fe : EF} {r : Env} {vs : List Nat} (I : List D → List D → Sto → Prop) {Q : List D → Env → Sto → Prop} : ∀ (xs ys : List D) (S : Sto), I xs ys S → (∀ ys S, I [] ys S → Q ys r S) →
    (∀ x xs ys S, I (x :: xs) ys S → ∃ r1, b x (wipeE r vs) = some r1 ∧ wp (tt r1 S) (fun c r2 S2 => if c = true then wp (fe r2 S2) (fun y _ S3 => I xs (ys ++ [y]) S3) (fun _ _ _ => False) else I xs ys S2) fun _ _ _ => False) →
    wp (compF b tt fe r vs xs S) (fun zs r S => Q (ys ++ zs) r S) Z
  | [], ys, S, h0, h1, _ => by
    show Q (ys ++ []) r S
    rw [List.append_nil]
    exact h1 ys S h0
  | x :: xs, ys, S, h0, h1, h2 => by
    obtain ⟨r1, e1, h3⟩ := h2 x xs ys S h0
    unfold compF
    rw [e1]
    simp only
    rw [wp_bind]
    refine wp_calm (wp_imp h3 (fun c r2 S2 q => ?_) (fun _ _ _ z => z))
    split
    · rename_i hc
      rw [if_pos hc] at q
      rw [wp_bind]
      refine wp_calm (wp_imp q (fun y _ S3 q => ?_) (fun _ _ _ z => z))
      rw [wp_bind]
      refine wp_imp (wp_comp I xs (ys ++ [y]) S3 q h1 h2) (fun zs r S q => ?_) (fun _ _ _ z => z)
      show Q (ys ++ y :: zs) r S
      rw [List.append_assoc] at q
      exact q
    · rename_i hc
      rw [if_neg hc] at q
      exact wp_comp I xs ys S2 q h1 h2
end
end L2.U
namespace L2.U
open PySem PySem.Spec PyProof.Rows He

def tyV0 (S : Sto) : D → Option String
  | .non => some "NoneType"
  | .bl _ => some "bool"
  | .int _ => some "int"
  | .str _ => some "str"
  | .tup _ => some "tuple"
  | .lst _ => some "list"
  | .fz _ => some "list"
  | .ref n => (match S[n]? with
    | some (.lst _) => some "list"
    | _ => none)
  | _ => none
theorem tyV0_ok {K : PySem.W.Frag} {S : Sto} {d : D} {t : String} (h : tyV0 S d = some t) : tyV K S d = some (.type t) := by
  cases d <;> simp only [tyV0, reduceCtorEq, Option.some.injEq] at h <;> try (subst h; rfl)
  simp only [tyV]
  split at h
  · rename_i q; rw [q]; cases h; rfl
  · cases h
def isa0 (t : String) : List String → Option Bool
  | [] => some false
  | c :: r => match subTy t c with
    | some true => some true
    | some false => isa0 t r
    | none => none
def tysOf : List D → Option (List String)
  | [] => some []
  | .ty c :: r => (tysOf r).map (c :: ·)
  | _ :: _ => none
theorem tysOf_ok {K : PySem.W.Frag} : ∀ {cs : List D} {ts : List String}, tysOf cs = some ts → clsVs K cs = some (ts.map .type)
  | [], ts, h => by cases h; rfl
  | d :: r, ts, h => by
    cases d <;> simp only [tysOf, reduceCtorEq] at h
    obtain ⟨us, e, rfl⟩ := Option.map_eq_some_iff.mp h
    simp only [clsVs, clsV, tysOf_ok e, List.map_cons]
theorem isa0_ok {K : PySem.W.Frag} {t : String} : ∀ {cs : List String} {b : Bool}, isa0 t cs = some b → isaVs K (.type t) (cs.map .type) = some b
  | [], b, h => h
  | c :: r, b, h => by
    unfold isa0 at h
    show (match isaV K (.type t) (.type c) with
      | some true => some true
      | some false => isaVs K (.type t) (r.map .type)
      | none => none) = some b
    rw [show isaV K (.type t) (.type c) = subTy t c from rfl]
    split at h
    · exact h
    · exact isa0_ok h
    · cases h
def oIsi0 : Sto → List D → Option D := fun S ds => match ds with
  | [x, .tup cs] => (match tyV0 S x, tysOf cs with
    | some t, some us => (isa0 t us).map .bl
    | _, _ => none)
  | [x, .ty c] => (match tyV0 S x with
    | some t => (subTy t c).map .bl
    | none => none)
  | _ => none
theorem isi0_ok {K : PySem.W.Frag} {S : Sto} {ds : List D} {d : D} (h : oIsi0 S ds = some d) : oIsi K S ds = some d := by
  unfold oIsi0 at h
  split at h
  · rename_i x cs
    split at h
    · rename_i t us h1 h2
      simp only [oIsi, tyV0_ok h1, tysOf_ok h2]
      obtain ⟨b, e, rfl⟩ := Option.map_eq_some_iff.mp h
      rw [isa0_ok e]; rfl
    · cases h
  · rename_i x c
    split at h
    · rename_i t h1
      simp only [oIsi, tyV0_ok h1, clsV]
      exact h
    · cases h
  · cases h
theorem cu_isi0 {X : Cx} : CallU X (.builtin "isinstance") oIsi0 := by
  obtain ⟨r, h1, h2⟩ := cu_isi (X := X)
  exact ⟨r, h1, fun g S H ds d vs Q l rd e k => h2 g S H ds d vs Q l rd (isi0_ok e) k⟩
theorem blk_mk {X : Cx} {scope : Scope} {own : List (Str × Nat)} {tg elt : Expr} {ifs : List Expr} {b : Bn} {tt : TF} {fe : EF} {t : TG} (h1 : ∀ s H C cl fp, PG (X.blk s H scope (compEnvC scope cl C X.env) fp) tg t) (h2 : GU X.K t b (own.map (·.2)))
    (h3 : ∀ s H C cl fp, PTs (X.blk s H scope (compEnvC scope cl C X.env) fp) ifs (TD X.K W0 relB tt)) (h4 : ∀ s H C cl fp, SE (X.blk s H scope (compEnvC scope cl C X.env) fp) W0 elt fe) : BlkU X scope own tg ifs elt b tt fe := ⟨t, h1, h2, h3, h4⟩
/-! ### calls, the number of parameters told -/
section
variable {X : Cx} {W : WX} {pos p : Pos} {x : Str} {a : Expr} {es : List Expr} {fs fk : AF} {k n c : Nat} {ps ks : List Str} {m : MF} {dds : List D} {j : Nat} {gD : List D → List D → List D} {kws : List Keyword}
theorem sf_fn (F : Def1 X.prog X.w X.K X.mg X.base x k ps m dds) (hr : Room k X.A) (tk : Takes X W) (ha : SA X W (a :: es) fs) (hl : ps.length = n := by rfl) (hg : Gl X x := by rfl) (hdb : (x == ("__debug__" : Str)) = false := by decide) (he : starEach (a :: es) X.env = (false, eval a X.env) :: starEach es X.env := by rfl)
    (hpl : (backTo pos (starEach es X.env)).any (·.1) = false := by rfl) : SE X W (.Call (.Name x p) (a :: es) [] pos) (eCallF n m dds fs) := by
  subst hl
  exact se_fn F hr tk ha hg hdb he hpl
theorem sf_fn0 (F : Def1 X.prog X.w X.K X.mg X.base x k ps m dds) (hr : Room k X.A) (tk : Takes X W) (hl : ps.length = n := by rfl) (hg : Gl X x := by rfl) (hdb : (x == ("__debug__" : Str)) = false := by decide) : SE X W (.Call (.Name x p) [] [] pos) (eCallF n m dds aNil) := by
  subst hl
  exact se_fn0 F hr tk hg hdb
theorem sf_fnK (F : DefK X.prog X.w X.K X.mg X.base x k ps m j ks gD) (hr : Room k X.A) (tk : Takes X W) (ha : SA X W (a :: es) fs) (hkw : SK X W kws fk) (hl : ps.length = n := by rfl) (hc : ks.length = c := by rfl) (hg : Gl X x := by rfl) (hall : (backToKw pos (keywordEach kws X.env)).all (·.1.isSome) = true := by rfl) (hks : (backToKw pos (keywordEach kws X.env)).filterMap (·.1) = ks := by rfl)
    (hdb : (x == ("__debug__" : Str)) = false := by decide) (he : starEach (a :: es) X.env = (false, eval a X.env) :: starEach es X.env := by rfl)
    (hpl : ((backTo pos (starEach (a :: es) X.env)).any (·.1) || (backToKw pos (keywordEach kws X.env)).any (·.1.isNone)) = false := by rfl) : SE X W (.Call (.Name x p) (a :: es) kws pos) (eCallK n j c m gD fs fk) := by
  subst hl hc
  exact se_fnK F hr tk ha hkw hg hall hks hdb he hpl
theorem sf_fnK0 (F : DefK X.prog X.w X.K X.mg X.base x k ps m 0 ks gD) (hr : Room k X.A) (tk : Takes X W) (hkw : SK X W kws fk) (hl : ps.length = n := by rfl) (hc : ks.length = c := by rfl) (hg : Gl X x := by rfl) (hall : (backToKw pos (keywordEach kws X.env)).all (·.1.isSome) = true := by rfl) (hks : (backToKw pos (keywordEach kws X.env)).filterMap (·.1) = ks := by rfl)
    (hdb : (x == ("__debug__" : Str)) = false := by decide)
    (hpl : ((backTo pos (starEach [] X.env)).any (·.1) || (backToKw pos (keywordEach kws X.env)).any (·.1.isNone)) = false := by rfl) : SE X W (.Call (.Name x p) [] kws pos) (eCallK n 0 c m gD aNil fk) := by
  subst hl hc
  exact se_fnK0 F hr tk hkw hg hall hks hdb hpl
end
/-- a list's items in another order -/
def permL {α : Type} (is : List Nat) (l : List α) : List α := is.filterMap (l[·]?)
theorem paired_get {α β : Type} {R : α → β → Prop} : ∀ {as : List α} {bs : List β} (i : Nat), Paired R as bs → (as[i]? = none ∧ bs[i]? = none) ∨ ∃ a b, as[i]? = some a ∧ bs[i]? = some b ∧ R a b
  | _, _, i, .nil => .inl ⟨by simp, by simp⟩
  | _, _, 0, .cons r _ => .inr ⟨_, _, rfl, rfl, r⟩
  | _, _, i + 1, .cons _ t => by
    rcases paired_get i t with ⟨h1, h2⟩ | ⟨a, b, h1, h2, h3⟩
    · exact .inl ⟨by simpa using h1, by simpa using h2⟩
    · exact .inr ⟨a, b, by simpa using h1, by simpa using h2, h3⟩
theorem paired_app {α β : Type} {R : α → β → Prop} : ∀ {as : List α} {bs : List β} {cs : List α} {es : List β}, Paired R as bs → Paired R cs es → Paired R (as ++ cs) (bs ++ es)
  | _, _, _, _, .nil, h => h
  | _, _, _, _, .cons r t, h => .cons r (paired_app t h)
theorem paired_perm {α β : Type} {R : α → β → Prop} {as : List α} {bs : List β} (h : Paired R as bs) : ∀ is : List Nat, Paired R (permL is as) (permL is bs)
  | [] => .nil
  | i :: is => by
    unfold permL
    rcases paired_get i h with ⟨h1, h2⟩ | ⟨a, b, h1, h2, h3⟩
    · rw [List.filterMap_cons_none h1, List.filterMap_cons_none h2]
      exact paired_perm h is
    · rw [List.filterMap_cons_some h1, List.filterMap_cons_some h2]
      exact .cons h3 (paired_perm h is)
/-- a call by keywords: the values by position, then those of the keywords, put in order -/
abbrev kdL (is : List Nat) {α : Type} : List α → List α → List α := fun as bs => permL is (as ++ bs)
theorem kd_rel (is : List Nat) {α β : Type} {R : α → β → Prop} {as : List α} {bs : List β} {cs : List α} {es : List β} (h : Paired R as bs) (h' : Paired R cs es) : Paired R (kdL is as cs) (kdL is bs es) := paired_perm (paired_app h h') is
end L2.U
namespace L2.U
open PySem PySem.Spec PyProof.Rows He

section
variable {Z : D → Env → Sto → Prop} {r : Env} {S : Sto} {fa fb fc : EF} {ta tb : TF} {fs ft : AF}
@[simp] theorem wp_opt {α : Type} {o : Option D} {f : D → R α} {Q : α → Env → Sto → Prop} : wp (match o with
    | some d => f d
    | none => .no) Q Z = match o with
    | some d => wp (f d) Q Z
    | none => False := by cases o <;> rfl
variable {Q : D → Env → Sto → Prop}
@[simp] theorem wp_C {d : D} : wp (eC d r S) Q Z = Q d r S := propext Iff.rfl
def rd (r : Env) (i : Nat) : Option D := match r[i]? with
  | some (some d) => some d
  | _ => none
/-- an answer that may lack -/
def got {α : Type} (o : Option α) (P : α → Prop) : Prop := match o with
  | some d => P d
  | none => False
@[simp] theorem got_some {α : Type} {d : α} {P : α → Prop} : got (some d) P = P d := propext Iff.rfl
@[simp] theorem got_none {α : Type} {P : α → Prop} : got (none : Option α) P = False := propext Iff.rfl
@[simp] theorem got_ite {α : Type} {c : Prop} [Decidable c] {x y : Option α} {P : α → Prop} : got (if c then x else y) P = if c then got x P else got y P := by split <;> rfl
@[simp] theorem rd_cons0 {d : D} {r : Env} : rd (some d :: r) 0 = some d := rfl
@[simp] theorem rd_cons {x : Option D} {r : Env} {i : Nat} : rd (x :: r) (i + 1) = rd r i := rfl
@[simp] theorem wp_Var {i : Nat} : wp (eVar i r S) Q Z = got (rd r i) fun d => Q d r S := by
  unfold eVar rd; split <;> simp_all
@[simp] def asB : D → Option Bool
  | .bl b => some b
  | _ => none
@[simp] def asI : D → Option Int
  | .int b => some b
  | _ => none
@[simp] def asTwo : List D → Option (D × D)
  | [x, y] => some (x, y)
  | _ => none
def rng1 : List D → Option (List D)
  | [.int j] => if -(2 ^ 62) ≤ j ∧ j < 2 ^ 62 then some (rangeD 0 j.toNat) else none
  | _ => none
def rng2 : List D → Option (List D)
  | [.int i, .int j] => if -(2 ^ 62) ≤ i ∧ i < 2 ^ 62 ∧ -(2 ^ 62) ≤ j ∧ j < 2 ^ 62 then some (rangeD i (j - i).toNat) else none
  | _ => none
@[simp] theorem wp_Bin {o : Sto → D → D → Option D} : wp (eBin o fa fb r S) Q Z = wp (fa r S) (fun x r S => wp (fb r S) (fun y r S => got (o S x y) fun d => Q d r S) Z) Z := by
  unfold eBin
  simp only [wp_bind]
  congr; funext x r S; congr; funext y r S
  cases o S x y <;> rfl
@[simp] theorem wp_Cmp {o : Sto → D → D → Option Bool} : wp (eCmp o fa fb r S) Q Z = wp (fa r S) (fun x r S => wp (fb r S) (fun y r S => got (o S x y) fun d => Q (.bl d) r S) Z) Z := by
  unfold eCmp
  simp only [wp_bind]
  congr; funext x r S; congr; funext y r S
  cases o S x y <;> rfl
@[simp] theorem wp_Un {o : Sto → D → Option D} : wp (eUn o fa r S) Q Z = wp (fa r S) (fun x r S => got (o S x) fun d => Q d r S) Z := by
  unfold eUn
  simp only [wp_bind]
  congr; funext x r S
  cases o S x <;> rfl
@[simp] theorem wp_CallB {o : Sto → List D → Option D} : wp (eCallB o fs r S) Q Z = wp (fs r S) (fun x r S => got (o S x) fun d => Q d r S) Z := by
  unfold eCallB
  simp only [wp_bind]
  congr; funext x r S
  cases o S x <;> rfl
@[simp] theorem wp_Sl {fl fh : OF} : wp (eSl fa fl fh r S) Q Z = wp (fa r S) (fun x r S => wp (fl r S) (fun lo r S => wp (fh r S) (fun hi r S => got (sliceD S x lo hi) fun d => Q d r S) Z) Z) Z := by
  unfold eSl
  simp only [wp_bind]
  congr; funext x r S; congr; funext x2 r S; congr; funext x3 r S
  cases sliceD S x x2 x3 <;> rfl
@[simp] theorem wp_oNone {Q : Option Int → Env → Sto → Prop} : wp (oNone r S) Q Z = Q none r S := propext Iff.rfl
@[simp] theorem wp_oSome {Q : Option Int → Env → Sto → Prop} : wp (oSome fa r S) Q Z = wp (fa r S) (fun x r S => got (asI x) fun i => Q (some i) r S) Z := by
  unfold oSome
  simp only [wp_bind]
  congr; funext x r S
  cases x <;> rfl
@[simp] theorem wp_aNil {Q : List D → Env → Sto → Prop} : wp (aNil r S) Q Z = Q [] r S := propext Iff.rfl
@[simp] theorem wp_aCons {Q : List D → Env → Sto → Prop} : wp (aCons fa fs r S) Q Z = wp (fa r S) (fun x r S => wp (fs r S) (fun xs r S => Q (x :: xs) r S) Z) Z := by
  unfold aCons
  simp only [wp_bind, wp_ok]
theorem ite_and {c P : Prop} [Decidable c] : (if c then P else False) = (c ∧ P) := by by_cases h : c <;> simp [h]
@[simp] theorem wp_ite {α : Type} {c : Prop} [Decidable c] {x y : R α} {Q : α → Env → Sto → Prop} : wp (if c then x else y) Q Z = if c then wp x Q Z else wp y Q Z := by split <;> rfl
@[simp] theorem wp_Tup : wp (eTup fs r S) Q Z = wp (fs r S) (fun xs r S => xs.length ≤ sizeLine ∧ Q (.tup xs) r S) Z := by
  unfold eTup
  simp only [wp_bind, wp_ite, wp_ok, wp_no, ite_and]
@[simp] theorem wp_Lst : wp (eLst fs r S) Q Z = wp (fs r S) (fun xs r S => xs.length ≤ sizeLine ∧ Q (.lst xs) r S) Z := by
  unfold eLst
  simp only [wp_bind, wp_ite, wp_ok, wp_no, ite_and]
@[simp] theorem wp_LstS : wp (eLstS fs r S) Q Z = wp (fs r S) (fun xs r S => xs.length ≤ sizeLine ∧ Q (.ref S.length) r (S ++ [.lst xs])) Z := by
  unfold eLstS
  simp only [wp_bind, wp_ite, wp_ok, wp_no, ite_and]
@[simp] theorem wp_And : wp (eAnd fa fb r S) Q Z = wp (fa r S) (fun x r S => got (asB x) fun b => if b = true then wp (fb r S) Q Z else Q (.bl false) r S) Z := by
  unfold eAnd
  simp only [wp_bind]
  congr; funext x r S
  cases x with
  | bl b => cases b <;> rfl
  | _ => rfl
@[simp] theorem wp_Or : wp (eOr fa fb r S) Q Z = wp (fa r S) (fun x r S => got (asB x) fun b => if b = true then Q (.bl true) r S else wp (fb r S) Q Z) Z := by
  unfold eOr
  simp only [wp_bind]
  congr; funext x r S
  cases x with
  | bl b => cases b <;> rfl
  | _ => rfl
@[simp] theorem wp_Not : wp (eNot fa r S) Q Z = wp (fa r S) (fun x r S => got (asB x) fun b => Q (.bl !b) r S) Z := by
  unfold eNot
  simp only [wp_bind]
  congr; funext x r S
  cases x <;> rfl
@[simp] theorem wp_If : wp (eIf ta fa fb r S) Q Z = wp (ta r S) (fun c r S => if c = true then wp (fa r S) Q Z else wp (fb r S) Q Z) Z := by
  unfold eIf
  simp only [wp_bind, wp_ite]
@[simp] theorem wp_CallF {n : Nat} {m : MF} {dds : List D} : wp (eCallF n m dds fs r S) Q Z = wp (fs r S) (fun ds r S => (ds ++ dds).length = n ∧ wf (m (ds ++ dds) S) (fun d S => Q d r S) (fun d S => Z d r S)) Z := by
  unfold eCallF
  simp only [wp_bind, wp_ite, wp_run, wp_no, ite_and]
@[simp] theorem wp_CallK {n j c : Nat} {m : MF} {gD : List D → List D → List D} : wp (eCallK n j c m gD fs ft r S) Q Z = wp (fs r S) (fun ds r S => wp (ft r S) (fun zs r S => (ds.length = j ∧ zs.length = c ∧ (gD ds zs).length = n) ∧ wf (m (gD ds zs) S) (fun d S => Q d r S) (fun d S => Z d r S)) Z) Z := by
  unfold eCallK
  simp only [wp_bind, wp_ite, wp_run, wp_no, ite_and]
variable {T : Bool → Env → Sto → Prop}
@[simp] theorem wp_tVal : wp (tVal fa r S) T Z = wp (fa r S) (fun x r S => got (asB x) fun b => T b r S) Z := by
  unfold tVal
  simp only [wp_bind]
  congr; funext x r S
  cases x <;> rfl
@[simp] theorem wp_tCmp {o : Sto → D → D → Option Bool} : wp (tCmp o fa fb r S) T Z = wp (fa r S) (fun x r S => wp (fb r S) (fun y r S => got (o S x y) fun d => T d r S) Z) Z := by
  unfold tCmp
  simp only [wp_bind]
  congr; funext x r S; congr; funext y r S
  cases o S x y <;> rfl
@[simp] theorem wp_tAnd : wp (tAndB ta tb r S) T Z = wp (ta r S) (fun c r S => if c = true then wp (tb r S) T Z else T false r S) Z := by
  unfold tAndB
  simp only [wp_bind, wp_ite, wp_ok]
@[simp] theorem wp_tOr : wp (tOrB ta tb r S) T Z = wp (ta r S) (fun c r S => if c = true then T true r S else wp (tb r S) T Z) Z := by
  unfold tOrB
  simp only [wp_bind, wp_ite, wp_ok]
@[simp] theorem wp_tNot : wp (tNotB ta r S) T Z = wp (ta r S) (fun c r S => T (!c) r S) Z := by
  unfold tNotB
  simp only [wp_bind, wp_ok]
@[simp] theorem wp_Chain {o o' : Sto → D → D → Option Bool} : wp (eChain o o' fa fb fc r S) Q Z = wp (fa r S) (fun x r S => wp (fb r S) (fun y r S => got (o S x y) fun c => if c = true then wp (fc r S) (fun z r S => got (o' S y z) fun d => Q (.bl d) r S) Z else Q (.bl false) r S) Z) Z := by
  unfold eChain
  simp only [wp_bind]
  congr; funext x r S; congr; funext y r S
  cases o S x y with
  | none => rfl
  | some c =>
    cases c with
    | false => rfl
    | true =>
      simp only [wp_bind, got, if_pos]
      congr; funext z r S
      cases o' S y z <;> rfl
@[simp] theorem wp_tChain {o o' : Sto → D → D → Option Bool} : wp (tChainB o o' fa fb fc r S) T Z = wp (fa r S) (fun x r S => wp (fb r S) (fun y r S => got (o S x y) fun c => if c = true then wp (fc r S) (fun z r S => got (o' S y z) fun d => T d r S) Z else T false r S) Z) Z := by
  unfold tChainB
  simp only [wp_bind]
  congr; funext x r S; congr; funext y r S
  cases o S x y with
  | none => rfl
  | some c =>
    cases c with
    | false => rfl
    | true =>
      simp only [wp_bind, got, if_pos]
      congr; funext z r S
      cases o' S y z <;> rfl
/-! statements -/
variable {L : Fl → Env → Sto → Prop} {f h : SF}
@[simp] theorem wp_Next : wp (sNext r S) L Z = L .nx r S := propext Iff.rfl
@[simp] theorem wp_Brk : wp (sBrk r S) L Z = L .bk r S := propext Iff.rfl
@[simp] theorem wp_Cont : wp (sCont r S) L Z = L .ct r S := propext Iff.rfl
@[simp] theorem wp_RetN : wp (sRetN r S) L Z = L (.rt .non) r S := propext Iff.rfl
@[simp] theorem wp_Ret : wp (sRet fa r S) L Z = wp (fa r S) (fun d r S => L (.rt d) r S) Z := by
  unfold sRet
  simp only [wp_bind, wp_ok]
@[simp] theorem wp_Expr : wp (sExpr fa r S) L Z = wp (fa r S) (fun d r S => L .nx r S) Z := by
  unfold sExpr
  simp only [wp_bind, wp_ok]
@[simp] theorem wp_sIf : wp (sIf ta f h r S) L Z = wp (ta r S) (fun c r S => if c = true then wp (f r S) L Z else wp (h r S) L Z) Z := by
  unfold sIf
  simp only [wp_bind, wp_ite]
@[simp] theorem wp_Seq : wp (sSeq f h r S) L Z = wp (f r S) (fun a r S => match a with
    | .nx => wp (h r S) L Z
    | a => L a r S) Z := by
  unfold sSeq
  rw [wp_bind]
  congr; funext a r S
  cases a <;> rfl
@[simp] theorem wp_Asg {b : Bn} : wp (sAsg fa b r S) L Z = wp (fa r S) (fun d r S => got (b d r) fun r' => L .nx r' S) Z := by
  unfold sAsg
  simp only [wp_bind]
  congr; funext x r S
  cases b x r <;> rfl
@[simp] theorem wp_sSub : wp (sSub fa fb fc r S) L Z = wp (fa r S) (fun d r S => wp (fb r S) (fun x r S => wp (fc r S) (fun y r S => got (setD S x y d) fun S' => L .nx r S') Z) Z) Z := by
  unfold sSub
  simp only [wp_bind]
  congr; funext d r S; congr; funext x r S; congr; funext y r S
  cases setD S x y d <;> rfl
@[simp] theorem wp_sPar {i j : Nat} : wp (sPar i j fs r S) L Z = wp (fs r S) (fun ds r S => got (asTwo ds) fun q => L .nx ((r.set i (some q.1)).set j (some q.2)) S) Z := by
  unfold sPar
  simp only [wp_bind]
  congr; funext ds r S
  unfold asTwo
  split <;> simp_all
@[simp] theorem wp_sAug {i : Nat} {o : Sto → D → D → Option D} : wp (sAug i o fa r S) L Z = got (rd r i) fun x => wp (fa r S) (fun y r S => got (o S x y) fun d => L .nx (r.set i (some d)) S) Z := by
  unfold sAug rd
  split
  · rename_i x h
    simp only [h, wp_bind, got_some]
    congr; funext y r S
    cases o S _ y <;> rfl
  · simp_all
@[simp] theorem wp_For {fi : AF} {b : Bn} : wp (sFor fi b f r S) L Z = wp (fi r S) (fun xs r S => wp (loopF b f xs r S) L Z) Z := by
  unfold sFor
  rw [wp_bind]
@[simp] theorem wp_Range1 {A : List D → Env → Sto → Prop} : wp (iRange1 fs r S) A Z = wp (fs r S) (fun ds r S => got (rng1 ds) fun xs => A xs r S) Z := by
  unfold iRange1
  rw [wp_bind]
  congr; funext ds r S
  unfold rng1
  split
  · rename_i j
    by_cases h : -(2 ^ 62) ≤ j ∧ j < 2 ^ 62
    · simp only [if_pos h]; rfl
    · simp only [if_neg h]; rfl
  · first
      | rfl
      | (split
         · rename_i h; exact absurd rfl (h _)
         · rfl)
@[simp] theorem wp_Range2 {A : List D → Env → Sto → Prop} : wp (iRange2 fs r S) A Z = wp (fs r S) (fun ds r S => got (rng2 ds) fun xs => A xs r S) Z := by
  unfold iRange2
  rw [wp_bind]
  congr; funext ds r S
  unfold rng2
  split
  · rename_i i j
    by_cases h : -(2 ^ 62) ≤ i ∧ i < 2 ^ 62 ∧ -(2 ^ 62) ≤ j ∧ j < 2 ^ 62
    · simp only [if_pos h]; rfl
    · simp only [if_neg h]; rfl
  · first
      | rfl
      | (split
         · rename_i h; exact absurd rfl (h _ _)
         · rfl)
@[simp] theorem wp_iSeq {A : List D → Env → Sto → Prop} : wp (iSeq fa r S) A Z = wp (fa r S) (fun d r S => got (itemsOf d) fun xs => A xs r S) Z := by
  unfold iSeq
  rw [wp_bind]
  congr; funext d r S
  cases itemsOf d <;> rfl
@[simp] theorem wp_Comp {fi : AF} {b : Bn} {vs : List Nat} : wp (eComp fi b vs ta fa r S) Q Z = wp (fi r S) (fun xs r S => xs.length < sizeLine ∧ wp (compF b ta fa r vs xs S) (fun ys r S => Q (.lst ys) r S) Z) Z := by
  unfold eComp
  simp only [wp_bind, wp_ite, wp_ok, wp_no, ite_and]
@[simp] theorem wp_tYes : wp (tYesB r S) T Z = T true r S := propext Iff.rfl
end
end L2.U
namespace L2.U
open PySem PySem.Spec PyProof.Rows He

section
variable {S : Sto} {n : Nat}
theorem oIx_ref {xs : List D} {i : Int} (h : S[n]? = some (.lst xs)) : oIx S (.ref n) (.int i) = atI xs i := by
  simp only [oIx, seqOf, lstOf, h]; rfl
@[simp] theorem at4_0 {α : Type} {a b c d : α} : atI [a, b, c, d] 0 = some a := rfl
@[simp] theorem at4_1 {α : Type} {a b c d : α} : atI [a, b, c, d] 1 = some b := rfl
@[simp] theorem at4_2 {α : Type} {a b c d : α} : atI [a, b, c, d] 2 = some c := rfl
@[simp] theorem at4_3 {α : Type} {a b c d : α} : atI [a, b, c, d] 3 = some d := rfl
theorem set4_1 {a b c d x : D} (h : S[n]? = some (.lst [a, b, c, d])) : setD S (.ref n) (.int 1) x = some (S.set n (.lst [a, x, c, d])) := by
  simp only [setD, h]; rfl
theorem set4_2 {a b c d x : D} (h : S[n]? = some (.lst [a, b, c, d])) : setD S (.ref n) (.int 2) x = some (S.set n (.lst [a, b, x, d])) := by
  simp only [setD, h]; rfl
theorem set4_3 {a b c d x : D} (h : S[n]? = some (.lst [a, b, c, d])) : setD S (.ref n) (.int 3) x = some (S.set n (.lst [a, b, c, x])) := by
  simp only [setD, h]; rfl
theorem atI_nat {α : Type} {xs : List α} {p : Nat} (h : p < xs.length) : atI xs (p : Int) = some xs[p] := by
  unfold atI ixN
  simp [h]
end
@[simp] theorem oAdd_int {S : Sto} {i j : Int} : oAdd S (.int i) (.int j) = some (.int (i + j)) := rfl
@[simp] theorem oSub_int {S : Sto} {i j : Int} : oSub S (.int i) (.int j) = some (.int (i - j)) := rfl
theorem oMul_int {S : Sto} {i j : Int} (h : i.natAbs.log2 + j.natAbs.log2 < 1000000) : oMul S (.int i) (.int j) = some (.int (i * j)) := by
  simp only [oMul, orO, oInt, decide_eq_true h, if_true]
theorem oMod_int {S : Sto} {i j : Int} (h : 0 < j) : oMod S (.int i) (.int j) = some (.int (i % j)) := by
  simp only [oMod, oInt, decide_eq_true h, if_true]
theorem oDiv_int {S : Sto} {i j : Int} (h : 0 < j) (h' : j.natAbs.log2 < 9000) : oDiv S (.int i) (.int j) = some (.int (i / j)) := by
  simp only [oDiv, oInt, decide_eq_true h, decide_eq_true h', Bool.and_self, if_true]
@[simp] theorem eqB_int {S : Sto} {i j : Int} : eqB S (.int i) (.int j) = some (decide (i = j)) := by
  simp only [eqB, orB, eqFB, flatD]
  have h : scal (.int i) (.int j) = true := rfl
  rw [if_pos h]
  simp
@[simp] theorem ltB_int {S : Sto} {i j : Int} : ltB S (.int i) (.int j) = some (decide (i < j)) := rfl
@[simp] theorem gtB_int {S : Sto} {i j : Int} : swapB ltB S (.int i) (.int j) = some (decide (j < i)) := rfl
@[simp] theorem leB_int {S : Sto} {i j : Int} : notB (swapB ltB) S (.int i) (.int j) = some (decide (i ≤ j)) := by
  show some (!decide (j < i)) = _
  by_cases h : j < i
  · simp [h, Int.not_le.mpr h]
  · simp [h, Int.not_lt.mp h]
@[simp] theorem geB_int {S : Sto} {i j : Int} : notB ltB S (.int i) (.int j) = some (decide (j ≤ i)) := by
  show some (!decide (i < j)) = _
  by_cases h : i < j
  · simp [h, Int.not_le.mpr h]
  · simp [h, Int.not_lt.mp h]
@[simp] theorem oIntOf_int {S : Sto} {i : Int} : oIntOf S [.int i] = some (.int i) := rfl
@[simp] theorem oAbs_int {S : Sto} {i : Int} : oAbs S [.int i] = some (.int (i.natAbs : Int)) := by
  simp only [oAbs]
  congr 2
  split <;> omega

/-! ### the bag -/
def fbBag (c : Int) : SF := (sSeq (sAsg (eCallB oListOf (aCons (eSl (eVar 0) oNone (oSome (eC (.int 63)))) aNil)) (bName 1))
    (sRet (eLstS (aCons (eVar 1) (aCons (eC (.int 0)) (aCons (eC (.int 0)) (aCons (eBin oAdd (eC (.int c)) (eCallB oLen (aCons (eVar 1) aNil))) aNil)))))))
def fbDraw : SF := (sSeq (sIf (tAndB (tCmp eqB (eIx (eVar 0) (eC (.int 2))) (eC (.int 0))) (tCmp ltB (eIx (eVar 0) (eC (.int 1))) (eCallB oLen (aCons (eIx (eVar 0) (eC (.int 0))) aNil)))) (sSeq (sAsg (eIx (eIx (eVar 0) (eC (.int 0))) (eIx (eVar 0) (eC (.int 1)))) (bName 2))
    (sSeq (sSub (eBin oAdd (eIx (eVar 0) (eC (.int 1))) (eC (.int 1))) (eVar 0) (eC (.int 1)))
    (sIf (tCmp (notB ltB) (eCallB oAbs (aCons (eVar 2) aNil)) (eBin oPow (eC (.int 10)) (eC (.int 18)))) (sSub (eCallB oAbs (aCons (eVar 2) aNil)) (eVar 0) (eC (.int 2))) (sSub (eBin oMod (eCallB oIntOf (aCons (eBin oAdd (eBin oAdd (eBin oMul (eIx (eVar 0) (eC (.int 3))) (eC (.int 40961))) (eBin oMul (eBin oMod (eCallB oIntOf (aCons (eVar 2) aNil)) (eC (.int 1000003))) (eC (.int 523)))) (eC (.int 29))) aNil)) (eC (.int 2147483587))) (eVar 0) (eC (.int 3)))))) sNext)
    (sSeq (sIf (tCmp (swapB ltB) (eIx (eVar 0) (eC (.int 2))) (eC (.int 0))) (sSeq (sAsg (eBin oMod (eCallB oIntOf (aCons (eIx (eVar 0) (eC (.int 2))) aNil)) (eVar 1)) (bName 3))
    (sSeq (sSub (eBin oDiv (eIx (eVar 0) (eC (.int 2))) (eVar 1)) (eVar 0) (eC (.int 2)))
    (sRet (eVar 3)))) sNext)
    (sSeq (sSub (eBin oMod (eCallB oIntOf (aCons (eBin oAdd (eBin oAdd (eBin oMul (eIx (eVar 0) (eC (.int 3))) (eIx (eVar 0) (eC (.int 3)))) (eBin oMul (eIx (eVar 0) (eC (.int 3))) (eC (.int 28657)))) (eC (.int 1299709))) aNil)) (eC (.int 2147483579))) (eVar 0) (eC (.int 3)))
    (sRet (eBin oMod (eCallB oIntOf (aCons (eBin oDiv (eIx (eVar 0) (eC (.int 3))) (eC (.int 64))) aNil)) (eVar 1))))))
def fbPick (m : MF) : SF := sRet (eIx (eVar 1) (eCallF 2 m [] (aCons (eVar 0) (aCons (eCallB oLen (aCons (eVar 1) aNil)) aNil))))
/-- a bag of draws -/
structure BagO (o : AO) : Prop where
  ex : ∃ (cs : List Int) (p : Nat) (a m : Int), o = .lst [.lst (cs.map .int), .int p, .int a, .int m] ∧ p ≤ cs.length ∧ 0 ≤ a ∧ 0 ≤ m ∧ m < 2147483587
theorem log2_lt {i : Int} {k : Nat} (h : i.natAbs < 2 ^ k) (hk : 0 < k) : i.natAbs.log2 < k := by
  by_cases h0 : i.natAbs = 0
  · rw [h0]; simpa using hk
  · exact (Nat.log2_lt h0).mpr h
theorem _root_.List.set_getElem?_self' {α : Type} {l : List α} {n : Nat} {x : α} (h : l[n]? = some x) : l.set n x = l := by
  obtain ⟨h1, rfl⟩ := List.getElem?_eq_some_iff.mp h
  exact List.set_getElem_self h1
theorem pow18 {S : Sto} : oPow S (.int 10) (.int 18) = some (.int 1000000000000000000) := by
  simp only [oPow, oInt]
  rfl
theorem log_a : (40961 : Int).natAbs.log2 < 20 := by decide +kernel
theorem log_b : (523 : Int).natAbs.log2 < 20 := by decide +kernel
theorem log_c : (28657 : Int).natAbs.log2 < 20 := by decide +kernel
theorem log_d : (64 : Int).natAbs.log2 < 9000 := by decide +kernel
/-- a draw -/
theorem draw_ok {S : Sto} {n : Nat} {o : AO} {many : Int} {Z : D → Sto → Prop} (hS : S[n]? = some o) (hB : BagO o) (h0 : 0 < many) (hl : many.natAbs.log2 < 9000) :
    wf (rawM 4 fbDraw [.ref n, .int many] S) (fun d S' => ∃ v o', d = .int v ∧ 0 ≤ v ∧ v < many ∧ BagO o' ∧ S' = S.set n o') Z := by
  obtain ⟨cs, p, a, m, rfl, hp, ha, hm, hm'⟩ := hB
  have hn : n < S.length := (List.getElem?_eq_some_iff.mp hS).1
  refine wf_end ?_
  have e0 : startE 4 [.ref n, .int many] = [some (.ref n), some (.int many), none, none] := rfl
  rw [e0]
  unfold fbDraw
  obtain ⟨B, hB⟩ : ∃ B : Int, ∀ S : Sto, oPow S (.int 10) (.int 18) = some (.int B) := ⟨_, fun _ => pow18⟩
  refine wp_seq (wp_imp (Q := fun x r S' => x = .nx ∧ (∃ c, r = [some (.ref n), some (.int many), c, none]) ∧ ∃ (p' : Nat) (a' m' : Int), p' ≤ cs.length ∧ 0 ≤ a' ∧ 0 ≤ m' ∧ m' < 2147483587 ∧ S' = S.set n (.lst [.lst (cs.map .int), .int p', .int a', .int m'])) (Z := fun _ _ _ => False) ?_ ?_ (fun _ _ _ z => z.elim))
  · have hlen : oLen S [.lst (cs.map .int)] = some (.int cs.length) := by
      simp [oLen, seqOf, lstOf]
    have hself : ∀ (x : AO), (S.set n x)[n]? = some x := fun x => List.getElem?_set_self hn
    simp only [wp_sIf, wp_tAnd, wp_tCmp, eIx, wp_Bin, wp_Var, wp_C, rd_cons0, rd_cons, got_some, oIx_ref hS, at4_0, at4_1, at4_2, at4_3, eqB_int, ltB_int, wp_CallB, wp_aCons, wp_aNil, hlen]
    split
    · split
      · rename_i hz hlt
        have hlt' : p < cs.length := by simpa using hlt
        have hc : oIx S (.lst (cs.map .int)) (.int p) = some (.int cs[p]) := by
          show atI (cs.map D.int) (p : Int) = _
          rw [atI_nat (by simpa using hlt')]
          simp
        simp only [wp_Seq, wp_Asg, wp_sSub, wp_sIf, wp_tCmp, wp_Bin, wp_Var, wp_C, rd_cons0, rd_cons, got_some, oIx_ref hS, at4_0, at4_1, at4_2, at4_3, hc, bName, List.set_cons_zero, List.set_cons_succ, oAdd_int, set4_1 hS, hB]
        simp only [wp_CallB, wp_aCons, wp_aNil, wp_Var, rd_cons0, rd_cons, got_some, oAbs_int, geB_int]
        split
        · rename_i hbig
          simp only [wp_sSub, wp_CallB, wp_aCons, wp_aNil, wp_Var, wp_C, rd_cons0, rd_cons, got_some, oAbs_int, set4_2 (hself _), List.set_set]
          refine ⟨trivial, ⟨_, rfl⟩, p + 1, _, m, hlt', ?_, hm, hm', rfl⟩
          omega
        · simp only [wp_sSub, wp_Bin, wp_CallB, wp_aCons, wp_aNil, wp_Var, wp_C, rd_cons0, rd_cons, got_some, oIx_ref (hself _), at4_3, oIntOf_int]
          have h1 : ∀ S : Sto, oMul S (.int m) (.int 40961) = some (.int (m * 40961)) := fun S => oMul_int (by
            have := log2_lt (i := m) (k := 31) (by omega) (by decide)
            have := log_a
            omega)
          have h2 : ∀ S : Sto, oMod S (.int cs[p]) (.int 1000003) = some (.int (cs[p] % 1000003)) := fun S => oMod_int (by decide)
          have h3 : ∀ S : Sto, oMul S (.int (cs[p] % 1000003)) (.int 523) = some (.int (cs[p] % 1000003 * 523)) := fun S => oMul_int (by
            have := log2_lt (i := cs[p] % 1000003) (k := 31) (by omega) (by decide)
            have := log_b
            omega)
          have h4 : ∀ (S : Sto) (x : Int), oMod S (.int x) (.int 2147483587) = some (.int (x % 2147483587)) := fun S x => oMod_int (by decide)
          simp only [h1, h2, h3, h4, got_some, oAdd_int, oIntOf_int, set4_3 (hself _), List.set_set]
          refine ⟨trivial, ⟨_, rfl⟩, p + 1, a, _, hlt', ha, ?_, ?_, rfl⟩ <;> omega
      · simp only [wp_Next]
        refine ⟨trivial, ⟨_, rfl⟩, p, a, m, hp, ha, hm, hm', ?_⟩
        exact (List.set_getElem?_self' hS).symm
    · simp only [wp_Next]
      refine ⟨trivial, ⟨_, rfl⟩, p, a, m, hp, ha, hm, hm', ?_⟩
      exact (List.set_getElem?_self' hS).symm
  · rintro x r S' ⟨rfl, ⟨c, rfl⟩, p', a', m', hp', ha', hm1, hm2, rfl⟩
    have hself : ∀ (x : AO), (S.set n x)[n]? = some x := fun x => List.getElem?_set_self hn
    simp only [wp_Seq, wp_sIf, wp_tCmp, eIx, wp_Bin, wp_Var, wp_C, rd_cons0, rd_cons, got_some, oIx_ref (hself _), at4_2, gtB_int]
    split
    · rename_i hpos
      simp only [wp_Seq, wp_Asg, wp_sSub, wp_Ret, wp_Bin, wp_Var, wp_C, wp_CallB, wp_aCons, wp_aNil, rd_cons0, rd_cons, got_some, oIx_ref (hself _), at4_2, oIntOf_int, oMod_int h0, oDiv_int h0 hl, bName, List.set_cons_zero, List.set_cons_succ, set4_2 (hself _), List.set_set]
      refine ⟨_, _, rfl, Int.emod_nonneg _ (by omega), Int.emod_lt_of_pos _ h0, ⟨cs, p', a' / many, m', rfl, hp', Int.ediv_nonneg ha' (by omega), hm1, hm2⟩, rfl⟩
    · simp only [wp_Next, wp_Seq, wp_Asg, wp_sSub, wp_Ret, wp_Bin, wp_Var, wp_C, wp_CallB, wp_aCons, wp_aNil, rd_cons0, rd_cons, got_some, oIx_ref (hself _), at4_3, oIntOf_int]
      have l1 := log2_lt (i := m') (k := 31) (by omega) (by decide)
      have h1 : ∀ S : Sto, oMul S (.int m') (.int m') = some (.int (m' * m')) := fun S => oMul_int (by omega)
      have h2 : ∀ S : Sto, oMul S (.int m') (.int 28657) = some (.int (m' * 28657)) := fun S => oMul_int (by
        have := log_c
        omega)
      have h4 : ∀ (S : Sto) (x : Int), oMod S (.int x) (.int 2147483579) = some (.int (x % 2147483579)) := fun S x => oMod_int (by decide)
      have h5 : ∀ (S : Sto) (x : Int), oDiv S (.int x) (.int 64) = some (.int (x / 64)) := fun S x => oDiv_int (by decide) log_d
      simp only [h1, h2, h4, got_some, oAdd_int, oIntOf_int, set4_3 (hself _), List.set_set, oIx_ref (hself _), at4_3, h5, oMod_int h0]
      refine ⟨_, _, rfl, Int.emod_nonneg _ (by omega), Int.emod_lt_of_pos _ h0, ⟨cs, p', a', _, rfl, hp', ha', ?_, ?_⟩, rfl⟩ <;> omega
end L2.U
namespace L2.U
open PySem PySem.Spec PyProof.Rows He

def fbSame (mself : MF) : SF := (sSeq (sIf (tAndB (tVal (eCallB oIsi0 (aCons (eVar 1) (aCons (eTup (aCons (eC (.ty "list")) (aCons (eC (.ty "tuple")) aNil))) aNil)))) (tVal (eCallB oIsi0 (aCons (eVar 0) (aCons (eTup (aCons (eC (.ty "list")) (aCons (eC (.ty "tuple")) aNil))) aNil))))) (sSeq (sAsg (eAnd (eCmp eqB (eCallB oIsi0 (aCons (eVar 1) (aCons (eC (.ty "list")) aNil))) (eCallB oIsi0 (aCons (eVar 0) (aCons (eC (.ty "list")) aNil)))) (eCmp eqB (eCallB oLen (aCons (eVar 0) aNil)) (eCallB oLen (aCons (eVar 1) aNil)))) (bName 2))
    (sRet (eAnd (eVar 2) (eCallB oAll (aCons (eComp (iRange1 (aCons (eCallB oLen (aCons (eVar 1) aNil)) aNil)) (bName 3) [3] tYesB (eCallF 2 mself [] (aCons (eIx (eVar 0) (eVar 3)) (aCons (eIx (eVar 1) (eVar 3)) aNil)))) aNil))))) sNext)
    (sSeq (sIf (tOrB (tVal (eCallB oIsi0 (aCons (eVar 1) (aCons (eTup (aCons (eC (.ty "list")) (aCons (eC (.ty "tuple")) aNil))) aNil)))) (tOrB (tVal (eCallB oIsi0 (aCons (eVar 0) (aCons (eTup (aCons (eC (.ty "list")) (aCons (eC (.ty "tuple")) aNil))) aNil)))) (tCmp (notB eqB) (eCmp isB (eVar 1) (eC .non)) (eCmp isB (eVar 0) (eC .non))))) (sRet (eC (.bl false))) sNext)
    (sSeq (sAsg (eAnd (eCmp eqB (eCallB oIsi0 (aCons (eVar 1) (aCons (eC (.ty "bool")) aNil))) (eCallB oIsi0 (aCons (eVar 0) (aCons (eC (.ty "bool")) aNil)))) (eCmp eqB (eCallB oIsi0 (aCons (eVar 1) (aCons (eC (.ty "int")) aNil))) (eCallB oIsi0 (aCons (eVar 0) (aCons (eC (.ty "int")) aNil))))) (bName 2))
    (sRet (eAnd (eVar 2) (eAnd (eCmp eqB (eCallB oIsi0 (aCons (eVar 1) (aCons (eC (.ty "str")) aNil))) (eCallB oIsi0 (aCons (eVar 0) (aCons (eC (.ty "str")) aNil)))) (eCmp eqB (eVar 0) (eVar 1))))))))
def sameM : Nat → MF
  | 0 => fun _ _ => .no
  | k + 1 => purM 4 (fbSame (sameM k))
/-- plain data, at most so deep -/
def plainD : Nat → D → Bool
  | 0, _ => false
  | _ + 1, .non => true
  | _ + 1, .bl _ => true
  | _ + 1, .int _ => true
  | _ + 1, .str _ => true
  | k + 1, .tup xs => decide (xs.length < 4000000) && xs.all (plainD k)
  | k + 1, .lst xs => decide (xs.length < 4000000) && xs.all (plainD k)
  | k + 1, .fz xs => decide (xs.length < 4000000) && xs.all (plainD k)
  | _ + 1, _ => false
theorem bndL_of {n : Nat} : ∀ {xs : List D}, (∀ x ∈ xs, bnd n x = true) → bndL n xs = true := fun h => bndL_all.mpr h
theorem plain_bnd : ∀ (k : Nat) (d : D), plainD k d = true → bnd 0 d = true
  | 0, _, h => by simp [plainD] at h
  | k + 1, d, h => by
    cases d with
    | tup xs => simp only [plainD, Bool.and_eq_true, List.all_eq_true] at h; exact bndL_of fun x hx => plain_bnd k x (h.2 x hx)
    | lst xs => simp only [plainD, Bool.and_eq_true, List.all_eq_true] at h; exact bndL_of fun x hx => plain_bnd k x (h.2 x hx)
    | fz xs => simp only [plainD, Bool.and_eq_true, List.all_eq_true] at h; exact bndL_of fun x hx => plain_bnd k x (h.2 x hx)
    | dic _ _ => simp [plainD] at h
    | ins _ _ _ => simp [plainD] at h
    | ty _ => simp [plainD] at h
    | con _ => simp [plainD] at h
    | ref _ => simp [plainD] at h
    | _ => rfl
/-- a pure def that gives a flat value -/
theorem pur_flat {n : Nat} {fb : SF} {ds : List D} {S : Sto} {d : D} (hd : bnd 0 d = true) (hb : bndL 0 ds = true) (h : wp (fb (startE n ds) []) (fun a _ _ => a = .rt d) fun _ _ _ => False) : purM n fb ds S = .ok d S := by
  unfold purM pureM purF
  rw [if_pos hb]
  cases q : fb (startE n ds) [] with
  | ok a r S1 =>
    rw [q] at h
    cases (show a = .rt d from h)
    simp only [endOf, cleanF]
    have e : fz 0 S1 60 d = d := fz_id 60 d hd
    rw [e]
    simp [hd, outF]
  | er x r S1 => rw [q] at h; exact h.elim
  | no => rw [q] at h; exact h.elim
theorem all_true {n : Nat} : blsD (List.replicate n (.bl true)) = some (List.replicate n true) := by
  induction n with
  | zero => rfl
  | succ n ih => rw [List.replicate_succ, blsD, ih]; rfl
theorem oAll_true {S : Sto} {n : Nat} : oAll S [.lst (List.replicate n (.bl true))] = some (.bl true) := by
  simp only [oAll, lstOf, Option.bind_some, all_true, Option.map_some]
  simp
theorem oIx_seq {S : Sto} {x : D} {xs : List D} {i : Int} (h : seqOf S x = some xs) (hs : ∀ z, x ≠ .str z) : oIx S x (.int i) = atI xs i := by
  cases x with
  | str z => exact absurd rfl (hs z)
  | _ => simp only [oIx, h, Option.bind_some]
theorem oLen_seq {S : Sto} {x : D} {xs : List D} (h : seqOf S x = some xs) (hs : ∀ z, x ≠ .str z) : oLen S [x] = some (.int xs.length) := by
  cases x with
  | str z => exact absurd rfl (hs z)
  | _ => simp only [oLen, h, Option.map_some]
@[simp] theorem eqB_bl {S : Sto} {a b : Bool} : eqB S (.bl a) (.bl b) = some (decide (a = b)) := by
  cases a <;> cases b <;> rfl
theorem rng1_int {j : Int} (h1 : -(2 ^ 62) ≤ j) (h2 : j < 2 ^ 62) : rng1 [.int j] = some (rangeD 0 j.toNat) := by
  show (if -(2 ^ 62) ≤ j ∧ j < 2 ^ 62 then some (rangeD 0 j.toNat) else none) = _
  rw [if_pos ⟨h1, h2⟩]
theorem sz_big : (4000000 : Nat) ≤ sizeLine := by decide +kernel
theorem sz_le {n : Nat} (h : n ≤ 4000000) : n ≤ sizeLine := Nat.le_trans h sz_big
/-- two lists, two tuples -/
theorem same_seq {m : MF} {x y : D} {xs ys : List D} {t : String} (hx : seqOf [] x = some xs) (hy : seqOf [] y = some ys) (tx : tyV0 [] x = some t) (ty : tyV0 [] y = some t) (ht : t = "list" ∨ t = "tuple") (hl : xs.length = ys.length) (hlt : ys.length < 4000000)
    (he : ∀ (i : Nat) (a b : D), xs[i]? = some a → ys[i]? = some b → m [a, b] [] = .ok (.bl true) []) : wp (fbSame m (startE 4 [x, y]) []) (fun a _ _ => a = .rt (.bl true)) fun _ _ _ => False := by
  have nx : ∀ z, x ≠ .str z := fun z e => by subst e; simp [tyV0] at tx; subst tx; simp at ht
  have ny : ∀ z, y ≠ .str z := fun z e => by subst e; simp [tyV0] at ty; subst ty; simp at ht
  have e0 : startE 4 [x, y] = [some x, some y, none, none] := rfl
  have i1 : ∀ {z : D}, tyV0 [] z = some t → oIsi0 [] [z, .tup [.ty "list", .ty "tuple"]] = some (.bl true) := fun {z} hz => by
    simp only [oIsi0, hz, tysOf]
    rcases ht with rfl | rfl <;> rfl
  have i2 : ∀ {z : D}, tyV0 [] z = some t → oIsi0 [] [z, .ty "list"] = some (.bl (decide (t = "list"))) := fun {z} hz => by
    simp only [oIsi0, hz]
    rcases ht with rfl | rfl <;> rfl
  rw [e0]
  unfold fbSame
  have two : ([D.ty "list", D.ty "tuple"]).length ≤ sizeLine := sz_le (by decide)
  simp only [wp_Seq, wp_sIf, wp_tAnd, wp_tVal, wp_CallB, wp_aCons, wp_aNil, wp_Tup, wp_C, wp_Var, rd_cons0, rd_cons, two, true_and, i1 tx, i1 ty, got_some, asB, if_true]
  simp only [wp_Asg, wp_And, wp_Cmp, wp_CallB, wp_aCons, wp_aNil, wp_C, wp_Var, rd_cons0, rd_cons, i2 tx, i2 ty, got_some, asB, eqB_bl, oLen_seq hx nx, oLen_seq hy ny, eqB_int, hl, decide_true, if_true, bName, List.set_cons_succ, List.set_cons_zero, wp_Ret]
  have r1 : rng1 [.int (ys.length : Int)] = some (rangeD 0 ys.length) := by
    rw [rng1_int (by omega) (by omega)]
    simp
  have rl : (rangeD 0 ys.length).length = ys.length := by simp [rangeD]
  have rs : (rangeD 0 ys.length).length < sizeLine := by
    rw [rl]
    exact Nat.lt_of_lt_of_le hlt sz_big
  simp only [wp_Comp, wp_Range1, wp_CallB, wp_aCons, wp_aNil, wp_C, wp_Var, rd_cons0, rd_cons, got_some, r1, oLen_seq hy ny, rs, true_and]
  refine wp_imp (wp_comp (Z := fun _ _ _ => False) (fun (l : List D) (zs : List D) (S : Sto) => S = [] ∧ ∃ j : Nat, l = (rangeD 0 ys.length).drop j ∧ j ≤ ys.length ∧ zs = List.replicate j (.bl true))
    (Q := fun zs r S => S = [] ∧ zs = List.replicate ys.length (.bl true)) (rangeD 0 ys.length) [] [] ⟨rfl, 0, rfl, Nat.zero_le _, rfl⟩ ?_ ?_) ?_ (fun _ _ _ z => z)
  · rintro zs S ⟨rfl, j, h1, h2, rfl⟩
    have : ¬ j < ys.length := fun h => by
      have := congrArg List.length h1
      rw [List.length_drop, rl] at this
      simp at this
      omega
    have e : j = ys.length := by omega
    rw [e]
    exact ⟨rfl, rfl⟩
  · rintro z l zs S ⟨rfl, j, h1, h2, rfl⟩
    have hj : j < ys.length := by
      by_cases h : j < ys.length
      · exact h
      · rw [List.drop_eq_nil_of_le (by rw [rl]; omega)] at h1
        cases h1
    have hj' : j < (rangeD 0 ys.length).length := by rw [rl]; exact hj
    rw [List.drop_eq_getElem_cons hj'] at h1
    injection h1 with h3 h4
    have h5 : z = .int (j : Int) := by
      rw [h3]; simp [rangeD]
    subst h5
    refine ⟨_, rfl, ?_⟩
    have hx1 : j < xs.length := by omega
    have a1 : oIx [] x (.int (j : Int)) = some xs[j] := by rw [oIx_seq hx nx, atI_nat hx1]
    have a2 : oIx [] y (.int (j : Int)) = some ys[j] := by rw [oIx_seq hy ny, atI_nat hj]
    have hm := he j xs[j] ys[j] (by simp [hx1]) (by simp [hj])
    simp only [wp_tYes, if_true, true_and, wipeE, bName, List.set_cons_succ, List.set_cons_zero, wp_CallF, wp_aCons, wp_aNil, eIx, wp_Bin, wp_Var, rd_cons0, rd_cons, got_some, a1, a2, List.append_nil, List.length_cons, List.length_nil, hm, wf_ok, Nat.zero_add, Nat.reduceAdd]
    refine ⟨j + 1, h4, hj, ?_⟩
    rw [List.replicate_succ']
  · rintro zs r S ⟨rfl, rfl⟩
    simp only [List.nil_append, oAll_true, got_some]
/-- lists that are known and others: one kind -/
def lz : D → D
  | .tup xs => .tup (xs.map lz)
  | .lst xs => .lst (xs.map lz)
  | .fz xs => .lst (xs.map lz)
  | d => d
theorem lz_get {xs ys : List D} (h : xs.map lz = ys.map lz) (i : Nat) (a b : D) (ha : xs[i]? = some a) (hb : ys[i]? = some b) : lz a = lz b := by
  have e := congrArg (fun l : List D => l[i]?) h
  simp only [List.getElem?_map, ha, hb, Option.map_some] at e
  exact Option.some.inj e
/-- two single values -/
theorem same_flat {m : MF} {x : D} (hx : x = .non ∨ (∃ b, x = .bl b) ∨ (∃ i, x = .int i) ∨ ∃ z, x = .str z) : wp (fbSame m (startE 4 [x, x]) []) (fun a _ _ => a = .rt (.bl true)) fun _ _ _ => False := by
  have e0 : startE 4 [x, x] = [some x, some x, none, none] := rfl
  rw [e0]
  unfold fbSame
  have two : ([D.ty "list", D.ty "tuple"]).length ≤ sizeLine := sz_le (by decide)
  have i1 : oIsi0 [] [x, .tup [.ty "list", .ty "tuple"]] = some (.bl false) := by
    rcases hx with rfl | ⟨b, rfl⟩ | ⟨b, rfl⟩ | ⟨b, rfl⟩ <;> rfl
  obtain ⟨b1, i2⟩ : ∃ b, oIsi0 [] [x, .ty "bool"] = some (.bl b) := by
    rcases hx with rfl | ⟨b, rfl⟩ | ⟨b, rfl⟩ | ⟨b, rfl⟩ <;> exact ⟨_, rfl⟩
  obtain ⟨b2, i3⟩ : ∃ b, oIsi0 [] [x, .ty "int"] = some (.bl b) := by
    rcases hx with rfl | ⟨b, rfl⟩ | ⟨b, rfl⟩ | ⟨b, rfl⟩ <;> exact ⟨_, rfl⟩
  obtain ⟨b3, i4⟩ : ∃ b, oIsi0 [] [x, .ty "str"] = some (.bl b) := by
    rcases hx with rfl | ⟨b, rfl⟩ | ⟨b, rfl⟩ | ⟨b, rfl⟩ <;> exact ⟨_, rfl⟩
  obtain ⟨b4, i5⟩ : ∃ b, isB [] x .non = some b := ⟨_, rfl⟩
  have i6 : eqB [] x x = some true := by
    rcases hx with rfl | ⟨b, rfl⟩ | ⟨b, rfl⟩ | ⟨b, rfl⟩
    · rfl
    · cases b <;> rfl
    · simp
    · simp only [eqB, orB, eqFB, flatD]
      have h : scal (.str b) (.str b) = true := rfl
      rw [if_pos h]
      simp
  have i7 : ∀ b : Bool, notB eqB [] (.bl b) (.bl b) = some false := fun b => by cases b <;> rfl
  simp only [wp_Seq, wp_sIf, wp_tAnd, wp_tOr, wp_tVal, wp_tCmp, wp_Cmp, wp_CallB, wp_aCons, wp_aNil, wp_Tup, wp_C, wp_Var, rd_cons0, rd_cons, two, true_and, i1, i5, i7, got_some, asB, Bool.false_eq_true, if_false, wp_Next]
  simp only [wp_Asg, wp_And, wp_Cmp, wp_CallB, wp_aCons, wp_aNil, wp_C, wp_Var, rd_cons0, rd_cons, i2, i3, i4, i6, got_some, asB, eqB_bl, decide_true, if_true, bName, List.set_cons_succ, List.set_cons_zero, wp_Ret]
theorem plain_two {k : Nat} {x y : D} (hx : plainD k x = true) (hy : plainD k y = true) : bndL 0 [x, y] = true := by
  simp [bndL, plain_bnd k x hx, plain_bnd k y hy]
theorem same_ok : ∀ (k : Nat) (x y : D) (S : Sto), plainD k x = true → plainD k y = true → lz x = lz y → sameM k [x, y] S = .ok (.bl true) S
  | 0, _, _, _, h, _, _ => by simp [plainD] at h
  | k + 1, x, y, S, hx, hy, e => by
    refine pur_flat rfl (plain_two hx hy) ?_
    have seqs : ∀ (xs ys : List D) (t : String), seqOf [] x = some xs → seqOf [] y = some ys → tyV0 [] x = some t → tyV0 [] y = some t → (t = "list" ∨ t = "tuple") → xs.map lz = ys.map lz → xs.all (plainD k) = true → ys.all (plainD k) = true → ys.length < 4000000 → wp (fbSame (sameM k) (startE 4 [x, y]) []) (fun a _ _ => a = .rt (.bl true)) fun _ _ _ => False := fun xs ys t h1 h2 h3 h4 h5 h6 h7 h8 h9 => by
      have hl : xs.length = ys.length := by have := congrArg List.length h6; simpa using this
      exact same_seq h1 h2 h3 h4 h5 hl h9 fun i a b ha hb => same_ok k a b [] (List.all_eq_true.mp h7 a (List.mem_of_getElem? ha)) (List.all_eq_true.mp h8 b (List.mem_of_getElem? hb)) (lz_get h6 i a b ha hb)
    cases x <;> cases y <;> first
      | (simp [plainD] at hx; done)
      | (simp [plainD] at hy; done)
      | (simp [lz] at e; done)
      | (simp only [lz] at e; cases e; first | exact same_flat (.inl rfl) | exact same_flat (.inr (.inl ⟨_, rfl⟩)) | exact same_flat (.inr (.inr (.inl ⟨_, rfl⟩))) | exact same_flat (.inr (.inr (.inr ⟨_, rfl⟩))))
      | (simp only [plainD, Bool.and_eq_true, decide_eq_true_eq] at hx hy
         simp only [lz, D.lst.injEq, D.tup.injEq] at e
         first | exact seqs _ _ "list" rfl rfl rfl rfl (.inl rfl) e hx.2 hy.2 hy.1 | exact seqs _ _ "tuple" rfl rfl rfl rfl (.inr rfl) e hx.2 hy.2 hy.1)
/-- the bag's making -/
theorem bag_ok {c : Int} {ns : List Int} {S : Sto} {Z : D → Sto → Prop} (h0 : 0 ≤ c) (h1 : c < 2147480000) (hl : ns.length ≤ 63) : wf (rawM 2 (fbBag c) [.fz (ns.map .int)] S) (fun d S' => d = .ref S.length ∧ ∃ o, BagO o ∧ S' = S ++ [o]) Z := by
  refine wf_end ?_
  have e0 : startE 2 [.fz (ns.map .int)] = [some (.fz (ns.map .int)), none] := rfl
  rw [e0]
  unfold fbBag
  have sl : sliceD S (.fz (ns.map .int)) none (some 63) = some (.lst (ns.map .int)) := by
    have e : cutD (ns.map D.int) none (some 63) = ns.map D.int := by
      unfold cutD HT.sIx
      simp
      exact List.take_of_length_le (by simp; omega)
    show (lstOf S (.fz (ns.map .int))).map (fun xs => D.lst (cutD xs none (some 63))) = _
    simp only [lstOf, Option.map_some, e]
  have lo : oListOf S [.lst (ns.map .int)] = some (.lst (ns.map .int)) := by simp [oListOf, seqOf, lstOf]
  have ln : oLen S [.lst (ns.map .int)] = some (.int ns.length) := by simp [oLen, seqOf, lstOf]
  simp only [wp_Seq, wp_Asg, wp_CallB, wp_aCons, wp_aNil, wp_Sl, wp_Var, wp_C, rd_cons0, rd_cons, got_some, wp_oNone, wp_oSome, asI, sl, lo, bName, List.set_cons_succ, List.set_cons_zero, wp_Ret, wp_LstS, wp_Bin, ln, oAdd_int]
  refine ⟨sz_le (by simp), trivial, _, ⟨ns, 0, 0, _, rfl, Nat.zero_le _, Int.le_refl _, ?_, ?_⟩, rfl⟩ <;> omega
/-- a pick -/
theorem pick_ok {m : MF} {S : Sto} {n : Nat} {x : D} {xs : List D} {Q Z : D → Sto → Prop} (hx : ∀ S : Sto, seqOf S x = some xs) (hs : ∀ z, x ≠ .str z)
    (hm : wf (m [.ref n, .int xs.length] S) (fun d S' => ∃ v : Int, d = .int v ∧ 0 ≤ v ∧ v < xs.length ∧ ∀ y, xs[v.toNat]? = some y → Q y S') Z) : wf (rawM 2 (fbPick m) [.ref n, x] S) Q Z := by
  refine wf_end ?_
  have e0 : startE 2 [.ref n, x] = [some (.ref n), some x] := rfl
  rw [e0]
  unfold fbPick
  simp only [wp_Ret, eIx, wp_Bin, wp_Var, rd_cons0, rd_cons, got_some, wp_CallF, wp_aCons, wp_aNil, wp_CallB, oLen_seq (hx S) hs, List.append_nil, List.length_cons, List.length_nil, Nat.zero_add, Nat.reduceAdd, true_and]
  refine wf_imp hm (fun d S' ⟨v, h1, h2, h3, h4⟩ => ?_) (fun _ _ z => z)
  subst h1
  have hv : v.toNat < xs.length := by omega
  have e : v = (v.toNat : Int) := by omega
  rw [oIx_seq (hx S') hs]
  rw [e, atI_nat hv]
  exact h4 _ (by simp [hv])
theorem wp_of_eq {α : Type} {x : R α} {a : α} {r : Env} {S : Sto} {Q : α → Env → Sto → Prop} {Z : D → Env → Sto → Prop} (h : x = .ok a r S) (q : Q a r S) : wp x Q Z := by rw [h]; exact q
theorem blsD_map {f : D → Bool} : ∀ xs : List D, blsD (xs.map fun x => .bl (f x)) = some (xs.map f)
  | [] => rfl
  | x :: xs => by simp only [List.map_cons, blsD, blsD_map xs, Option.map_some]
theorem oAdd_tup {S : Sto} {a b : List D} (h : a.length + b.length ≤ 4000000) : oAdd S (.tup a) (.tup b) = some (.tup (a ++ b)) := by
  have h' : a.length + b.length ≤ sizeLine := sz_le h
  simp only [oAdd, orO, oInt0, oCatS, oCatT, if_pos h']
theorem cut_to {S : Sto} {xs : List D} {k : Nat} (h : k ≤ xs.length) : sliceD S (.tup xs) none (some (k : Int)) = some (.tup (xs.take k)) := by
  have e : cutD xs none (some (k : Int)) = xs.take k := by
    unfold cutD
    rw [HT.sIx_none, HT.sIx_nat, Nat.min_eq_left h]
    simp
  simp only [sliceD, e]
theorem cut_from {S : Sto} {xs : List D} {k : Nat} (h : k ≤ xs.length) : sliceD S (.tup xs) (some (k : Int)) none = some (.tup (xs.drop k)) := by
  have e : cutD xs (some (k : Int)) none = xs.drop k := by
    unfold cutD
    rw [HT.sIx_none, HT.sIx_nat, Nat.min_eq_left h]
    exact List.take_of_length_le (by simp)
  simp only [sliceD, e]
theorem pur_eq {n : Nat} {fb : SF} {ds : List D} {d : D} {S : Sto} (hb : bndL 0 ds = true) (h : outF (cleanF 0 (endOf (fb (startE n ds) []))) = .ok d) : purM n fb ds S = .ok d S := by
  show pureM _ _ _ = _
  unfold pureM purF
  rw [if_pos hb, h]
theorem asB_bl {b : Bool} : asB (.bl b) = some b := rfl
theorem asI_int {b : Int} : asI (.int b) = some b := rfl
/-- a block by its items -/
theorem comp_list {i : Nat} {fe : EF} {r : Env} {vs : List Nat} {S : Sto} : ∀ {xs ys : List D}, Paired (fun x y => ∃ r', fe ((wipeE r vs).set i (some x)) S = .ok y r' S) xs ys → compF (bName i) tYesB fe r vs xs S = .ok ys r S
  | _, _, .nil => rfl
  | _, _, .cons ⟨r', h⟩ t => by
    simp only [compF, bName, tYesB, R.calm, R.bind, if_true, h, comp_list t]
theorem call_one {m : MF} {i : Nat} {r : Env} {S S' : Sto} {x y : D} (h : rd r i = some x) (hm : m [x] S = .ok y S') : eCallF 1 m [] (aCons (eVar i) aNil) r S = .ok y r S' := by
  have hv : eVar i r S = .ok x r S := by
    unfold rd at h
    unfold eVar
    split at h
    · rename_i d q; cases h; first | rfl | rw [q]
    · cases h
  simp only [eCallF, aCons, hv, aNil, R.bind, List.append_nil, List.length_cons, List.length_nil, Nat.zero_add, if_true, hm, RF.run]
/-! the bag is the store's first object -/
theorem draw_c {T : Sto} {o : AO} {many : Int} {Z : D → Sto → Prop} (hB : BagO o) (h0 : 0 < many) (hl : many.natAbs.log2 < 9000) :
    wf (rawM 4 fbDraw [.ref 0, .int many] (o :: T)) (fun d S' => ∃ v o', d = .int v ∧ 0 ≤ v ∧ v < many ∧ BagO o' ∧ S' = o' :: T) Z :=
  wf_imp (draw_ok (S := o :: T) (n := 0) (Z := fun _ _ => False) rfl hB h0 hl) (fun d S' ⟨v, o', h1, h2, h3, h4, h5⟩ => ⟨v, o', h1, h2, h3, h4, h5⟩) (fun _ _ z => z.elim)
theorem pick_c {T : Sto} {o : AO} {x : D} {xs : List D} {Z : D → Sto → Prop} (hB : BagO o) (hx : ∀ S : Sto, seqOf S x = some xs) (hs : ∀ z, x ≠ .str z) (h0 : 0 < xs.length) (hl : xs.length < 4000000) :
    wf (rawM 2 (fbPick (rawM 4 fbDraw)) [.ref 0, x] (o :: T)) (fun y S' => y ∈ xs ∧ ∃ o', BagO o' ∧ S' = o' :: T) Z := by
  refine pick_ok hx hs (wf_imp (draw_c (Z := fun _ _ => False) hB (by omega) ?_) (fun d S' ⟨v, o', h1, h2, h3, h4, h5⟩ => ⟨v, h1, h2, h3, fun y hy => ⟨List.mem_of_getElem? hy, o', h4, h5⟩⟩) (fun _ _ z => z.elim))
  have := log2_lt (i := (xs.length : Int)) (k := 30) (by omega) (by decide)
  omega
end L2.U
namespace L2.U
open PySem PySem.Spec PyProof.Rows He

/-! ### never reached -/
def eNo : EF := fun _ _ => .no
def tNo : TF := fun _ _ => .no
def sNo : SF := fun _ _ => .no
section
variable {X : Cx} {W : WX}
theorem se_no {e : Expr} : SE X W e eNo := ⟨fun _ _ _ _ _ _ ⟨_, _, _, _, _, p⟩ => p.elim⟩
theorem st_no {e : Expr} : ST X W e tNo := ⟨fun _ _ _ _ _ _ ⟨_, _, _, _, _, p⟩ => p.elim⟩
theorem ss_no {st : Stmt} : SS X W st sNo := ⟨fun _ _ _ _ _ _ ⟨_, _, _, _, _, p⟩ => p.elim⟩
theorem sss_no {st : List Stmt} : SSs X W st sNo := ⟨fun _ _ _ _ _ _ ⟨_, _, _, _, _, p⟩ => p.elim⟩
end
/-! ### methods -/
def UMt (K : PySem.W.Frag) (r : V → List V → Hp → VK → Prop) (o : Sto → D → List D → Option (D × Sto)) : Prop :=
  ∀ g S H x ds d S' xv vs (Q : VK), Rl K g S H → RelD K g x xv → RelDs K g ds vs → o S x ds = some (d, S') → (∀ g' H' v, Ext g g' → Rl K g' S' H' → RelD K g' d v → Q v H') → r xv vs H Q
/-- the receiver's type as the layer asks it -/
def tyR (K : PySem.W.Frag) (T : String) (t : Sto → D → Bool) : Prop := ∀ g S H x xv, Rl K g S H → RelD K g x xv → t S x = true → L2.tyV K T xv H
structure MethU (X : Cx) (T id : String) (name : Str) (t : Sto → D → Bool) (o : Sto → D → List D → Option (D × Sto)) : Prop where
  pa : PlainAttrs T
  slot : Slot T name id
  ty : typeOf (.builtin id) = pure (.type "method_descriptor")
  tr : tyR X.K T t
  ex : ∃ r, MtR X id r ∧ UMt X.K r o
def eMeth (t : Sto → D → Bool) (o : Sto → D → List D → Option (D × Sto)) (fo : EF) (fs : AF) : EF := fun r S => (fo r S).bind fun x r S => if t S x = true then (fs r S).bind fun ds r S => match o S x ds with
  | some (d, S') => .ok d r S'
  | none => .no else .no
section
variable {X : Cx} {W : WX} {o e : Expr} {es : List Expr} {fo : EF} {fs : AF} {name : Str} {apos cpos : Pos} {T id : String} {t : Sto → D → Bool} {op : Sto → D → List D → Option (D × Sto)}
theorem se_meth (u : MethU X T id name t op) (ho : SE X W o fo) (ha : SA X W (e :: es) fs) (hbase : attributeBase o name X.env (eval o X.env) = eval o X.env := by rfl)
    (hfew : ((backTo cpos (starEach (e :: es) X.env)).all (fun x => !x.1) && (backToKw cpos (keywordEach [] X.env)).all (fun x => x.1.isSome)
      && decide ((e :: es).length + ([] : List Keyword).length + (if ([] : List Keyword).isEmpty then 0 else 1) < 30)) = true := by rfl)
    (hline : (apos.endLine == cpos.line) = true := by rfl) (hs : starEach (e :: es) X.env = (false, eval e X.env) :: starEach es X.env := by rfl) (hplain : (backTo cpos (starEach es X.env)).any (·.1) = false := by rfl) :
    SE X W (.Call (.Attribute o name apos) (e :: es) [] cpos) (eMeth t op fo fs) := by
  obtain ⟨pa, slot, ty, tr, r, hm, hu⟩ := u
  refine pe_imp (pe_bm pa slot ty hm ho ha hbase hfew hline hs hplain) fun σ H Q h => td_seq (TD.split (rel := RelD X.K) h) fun xv H1 ⟨g, x, r1, S, l, e1, rx, p⟩ => ?_
  split at p
  · rename_i ht
    refine ⟨tr g S H1 x xv l rx ht, g, r1, S, l, e1, PostG.imp (PostG.split (rel := RelDs X.K) p) fun vs H2 ⟨g2, ds, r2, S2, x2, l2, e2, rd, p2⟩ => ?_⟩
    split at p2
    · rename_i d S' q
      exact hu g2 S2 H2 x ds d S' xv vs Q l2 (rx.mono x2) rd q fun g' H' v x' l' r' => p2 g' H' v x' l' (e2.mono x') r'
    · exact p2.elim
  · exact p.elim
theorem se_meth0 (u : MethU X T id name t op) (ho : SE X W o fo) (hbase : attributeBase o name X.env (eval o X.env) = eval o X.env := by rfl)
    (hline : (apos.endLine == cpos.line) = true := by rfl) : SE X W (.Call (.Attribute o name apos) [] [] cpos) (eMeth t op fo aNil) := by
  obtain ⟨pa, slot, ty, tr, r, hm, hu⟩ := u
  refine pe_imp (pe_bm0 pa slot ty hm ho hbase hline) fun σ H Q h => td_seq (TD.split (rel := RelD X.K) h) fun xv H1 ⟨g, x, r1, S, l, e1, rx, p⟩ => ?_
  split at p
  · rename_i ht
    refine ⟨tr g S H1 x xv l rx ht, ?_⟩
    have p' : PostG X.K W (RelD X.K) g σ (match op S x [] with
      | some (d, S') => .ok d r1 S'
      | none => .no) Q := p
    split at p'
    · rename_i d S' q
      exact hu g S H1 x [] d S' xv [] Q l rx .nil q fun g' H' v x' l' r' => p' g' H' v x' l' (e1.mono x') r'
    · exact p'.elim
  · exact p.elim
end
def isStr : Sto → D → Bool := fun _ x => match x with
  | .str _ => true
  | _ => false
theorem tr_str {K : PySem.W.Frag} : tyR K "str" isStr := fun g S H x xv l rx h => by
  cases x <;> simp only [isStr, reduceCtorEq, Bool.false_eq_true] at h
  cases rx
  rfl
def isLst : Sto → D → Bool := fun S x => (lstOf S x).isSome
theorem tr_lst {K : PySem.W.Frag} : tyR K "list" isLst := fun g S H x xv l rx h => by
  obtain ⟨xs, e⟩ := Option.isSome_iff_exists.mp h
  obtain ⟨a, vs, rfl, hs, _⟩ := lst_view l rx e
  exact .inl ⟨rfl, vs, hs⟩
/-! texts -/
def strsD : List D → Option (List Str)
  | [] => some []
  | .str x :: r => (strsD r).map (x :: ·)
  | _ :: _ => none
theorem strsD_ok {K : PySem.W.Frag} {g : Gh} : ∀ {ds : List D} {vs : List V} {xs : List Str}, RelDs K g ds vs → strsD ds = some xs → vs = xs.map V.str
  | _, _, _, .nil, h => by cases h; rfl
  | d :: _, _, xs, .cons r t, h => by
    cases d <;> simp only [strsD, reduceCtorEq] at h
    obtain ⟨ys, h1, rfl⟩ := Option.map_eq_some_iff.mp h
    cases r
    rw [strsD_ok t h1]; rfl
theorem rel_strs {K : PySem.W.Frag} {g : Gh} : ∀ xs : List Str, RelDs K g (xs.map D.str) (xs.map V.str)
  | [] => .nil
  | x :: xs => .cons rfl (rel_strs xs)
def mJoin : Sto → D → List D → Option (D × Sto) := fun S x ds => match x, ds with
  | .str a, [c] => (match (seqOf S c).bind strsD with
    | some ys => if (ys.map (·.length)).sum + ys.length * a.length ≤ 16777216 then some (.str (Txt.join a ys), S) else none
    | none => none)
  | _, _ => none
def mSplit : Sto → D → List D → Option (D × Sto) := fun S x ds => match x, ds with
  | .str a, [.str b] => if (b.length == 0) = false ∧ a.length + 2 ≤ sizeLine then some (.lst ((Txt.split a b).map .str), S) else none
  | _, _ => none
def mPart : Sto → D → List D → Option (D × Sto) := fun S x ds => match x, ds with
  | .str a, [.str b] => if (b.length == 0) = false ∧ a.length ≤ sizeLine then some (.tup [.str (Txt.partition a b).1, .str (Txt.partition a b).2.1, .str (Txt.partition a b).2.2], S) else none
  | _, _ => none
def mEnds : Sto → D → List D → Option (D × Sto) := fun S x ds => match x, ds with
  | .str a, [.str b] => some (.bl (Txt.endswith a b), S)
  | _, _ => none
def mStarts : Sto → D → List D → Option (D × Sto) := fun S x ds => match x, ds with
  | .str a, [.str b] => some (.bl (Txt.startswith a b), S)
  | _, _ => none
section
variable {X : Cx}
theorem rels_s {K : PySem.W.Frag} {g : Gh} {i : Str} {vs : List V} (r : RelDs K g [.str i] vs) : vs = [.str i] := by
  cases r with
  | cons a b => cases b; cases a; rfl
theorem mu_join : MethU X "str" "str.join" "join" isStr mJoin := ⟨F.plainAttrs_str, F.slot_str_join, F.type_str_join, tr_str, _, mt_join, fun g S H x ds d S' xv vs Q l rx rd e k => by
  unfold mJoin at e
  split at e
  · rename_i a c
    split at e
    · rename_i ys q
      split at e
      · rename_i hz
        cases e
        cases rx
        obtain ⟨v, rfl, rc⟩ := rel1 rd
        obtain ⟨xs, q1, q2⟩ := Option.bind_eq_some_iff.mp q
        obtain ⟨p, us, rfl, hs, rs⟩ := seq_view l rc q1
        rw [strsD_ok rs q2] at hs
        exact ⟨a, p, ys, rfl, rfl, hs, hz, k g H _ (.refl g) l rfl⟩
      · cases e
    · cases e
  · cases e⟩
theorem mu_split : MethU X "str" "str.split" "split" isStr mSplit := ⟨F.plainAttrs_str, F.slot_str_split, F.type_str_split, tr_str, _, mt_split, fun g S H x ds d S' xv vs Q l rx rd e k => by
  unfold mSplit at e
  split at e
  · rename_i a b
    split at e
    · rename_i hz
      cases e
      cases rx
      rw [rels_s rd]
      refine ⟨a, b, rfl, rfl, hz.1, hz.2, fun p hp => ?_⟩
      obtain ⟨g', e1, l1, r1⟩ := l.newLst hp (rel_strs (Txt.split a b))
      exact k g' _ _ e1 l1 r1
    · cases e
  · cases e⟩
theorem mu_part : MethU X "str" "str.partition" "partition" isStr mPart := ⟨F.plainAttrs_str, F.slot_str_partition, F.type_str_partition, tr_str, _, mt_partition, fun g S H x ds d S' xv vs Q l rx rd e k => by
  unfold mPart at e
  split at e
  · rename_i a b
    split at e
    · rename_i hz
      cases e
      cases rx
      rw [rels_s rd]
      refine ⟨a, b, rfl, rfl, hz.1, hz.2, fun p hp => ?_⟩
      obtain ⟨g', e1, l1, r1⟩ := l.newTup (ds := [.str (Txt.partition a b).1, .str (Txt.partition a b).2.1, .str (Txt.partition a b).2.2]) hp (.cons rfl (.cons rfl (.cons rfl .nil)))
      exact k g' _ _ e1 l1 r1
    · cases e
  · cases e⟩
theorem mu_ends : MethU X "str" "str.endswith" "endswith" isStr mEnds := ⟨F.plainAttrs_str, F.slot_str_endswith, F.type_str_endswith, tr_str, _, mt_endswith, fun g S H x ds d S' xv vs Q l rx rd e k => by
  unfold mEnds at e
  split at e
  · rename_i a b
    cases e
    cases rx
    rw [rels_s rd]
    exact ⟨a, b, rfl, rfl, k g H _ (.refl g) l rfl⟩
  · cases e⟩
theorem mu_starts : MethU X "str" "str.startswith" "startswith" isStr mStarts := ⟨F.plainAttrs_str, F.slot_str_startswith, F.type_str_startswith, tr_str, _, mt_startswith, fun g S H x ds d S' xv vs Q l rx rd e k => by
  unfold mStarts at e
  split at e
  · rename_i a b
    cases e
    cases rx
    rw [rels_s rd]
    exact ⟨a, b, rfl, rfl, k g H _ (.refl g) l rfl⟩
  · cases e⟩
/-! lists of the store -/
def mAppend : Sto → D → List D → Option (D × Sto) := fun S x ds => match x, ds with
  | .ref n, [y] => (match S[n]? with
    | some (.lst xs) => if xs.length < sizeLine then some (.non, S.set n (.lst (xs ++ [y]))) else none
    | _ => none)
  | _, _ => none
theorem mu_append : MethU X "list" "list.append" "append" isLst mAppend := ⟨F.plainAttrs_list, F.slot_list_append, F.type_list_append, tr_lst, _, mt_append, fun g S H x ds d S' xv vs Q l rx rd e k => by
  unfold mAppend at e
  split at e
  · rename_i n y
    split at e
    · rename_i xs q
      split at e
      · rename_i hz
        cases e
        obtain ⟨_, rfl⟩ := rx
        obtain ⟨v, rfl, ry⟩ := rel1 rd
        obtain ⟨m1, us, hh, rs⟩ := l.sto n _ q (by intro z; cases z)
        refine ⟨g.m n, us, v, rfl, rfl, hh, by rw [← rs.length]; exact hz, ?_⟩
        have lw := l.write (ob' := .lst (xs ++ [y])) (o := .lst (us ++ [v])) q (by intro z; cases z) ⟨_, upd_same, rs.append (.cons ry .nil)⟩
        exact k g _ _ (.refl g) lw rfl
      · cases e
    · cases e
  · cases e⟩
def mPop : Sto → D → List D → Option (D × Sto) := fun S x ds => match x, ds with
  | .ref n, [] => (match S[n]? with
    | some (.lst xs) => (xs[xs.length - 1]?).map fun y => (y, S.set n (.lst xs.dropLast))
    | _ => none)
  | _, _ => none
theorem RelDs.dropLast {K : PySem.W.Frag} {g : Gh} : ∀ {ds : List D} {vs : List V}, RelDs K g ds vs → RelDs K g ds.dropLast vs.dropLast
  | _, _, .nil => .nil
  | _, _, .cons r .nil => .nil
  | _, _, .cons r (.cons r2 t) => .cons r (RelDs.dropLast (.cons r2 t))
theorem mu_pop : MethU X "list" "list.pop" "pop" isLst mPop := ⟨F.plainAttrs_list, F.slot_list_pop, F.type_list_pop, tr_lst, _, mt_pop, fun g S H x ds d S' xv vs Q l rx rd e k => by
  unfold mPop at e
  split at e
  · rename_i n
    split at e
    · rename_i xs q
      obtain ⟨y, q1, q2⟩ := Option.map_eq_some_iff.mp e
      cases q2
      obtain ⟨_, rfl⟩ := rx
      cases rd
      obtain ⟨m1, us, hh, rs⟩ := l.sto n _ q (by intro z; cases z)
      obtain ⟨u, hu, ru⟩ := rs.get q1
      rw [rs.length] at hu
      refine ⟨g.m n, us, u, rfl, rfl, hh, hu, ?_⟩
      have lw := l.write (ob' := .lst xs.dropLast) (o := .lst us.dropLast) q (by intro z; cases z) ⟨_, upd_same, rs.dropLast⟩
      exact k g _ _ (.refl g) lw ru
    · cases e
  · cases e⟩
end
/-! ### texts with fields -/
def jNil : Str → Env → Sto → R Str := fun acc r S => .ok acc r S
def jCons (fa : EF) (k : Str → Env → Sto → R Str) : Str → Env → Sto → R Str := fun acc r S => (fa r S).bind fun x r S => match x with
  | .str y => if (acc ++ y).length ≤ sizeLine then k (acc ++ y) r S else .no
  | _ => .no
def eFmt (fa : EF) : EF := fun r S => (fa r S).bind fun x r S => match x with
  | .str y => if y.length ≤ sizeLine then .ok (.str y) r S else .no
  | .int i => if i.natAbs.log2 < 1920 then .ok (.str (toString i)) r S else .no
  | _ => .no
def eJoined (k : Str → Env → Sto → R Str) : EF := fun r S => (k Str.empty r S).bind fun y r S => .ok (.str y) r S
def relS : Gh → Str → Str → Prop := fun _ a b => a = b
section
variable {X : Cx} {W : WX} {e : Expr} {fa : EF} {pos : Pos}
theorem se_fmt (ha : SE X W e fa) : SE X W (.FormattedValue e (-1) none pos) (eFmt fa) := pe_imp (pe_fmt ha) fun σ H Q h => td_seq (TD.split (rel := RelD X.K) h) fun xv H1 ⟨g, x, r, S, l, e, rx, p⟩ => by
  split at p
  · rename_i y
    split at p
    · rename_i hz; cases rx; exact .inl ⟨y, rfl, hz, post_ok p l e rfl⟩
    · exact p.elim
  · rename_i i
    split at p
    · rename_i hz; cases rx; exact .inr ⟨i, rfl, hz, post_ok p l e rfl⟩
    · exact p.elim
  · exact p.elim
/-- the parts, one behind the other -/
structure SJ (X : Cx) (W : WX) (es : List Expr) (k : Str → Env → Sto → R Str) : Prop where
  ex : ∃ ts, PJ X es ts ∧ ∀ acc σ H Q, TD X.K W relS (k acc) σ H Q → tJs ts acc σ H Q
theorem sj_nil : SJ X W [] jNil := ⟨_, .nil, fun acc σ H Q ⟨g, r, S, l, e, p⟩ => post_ok p l e rfl⟩
theorem sj_cons {es : List Expr} {k : Str → Env → Sto → R Str} (ha : SE X W e fa) (h : SJ X W es k) : SJ X W (e :: es) (jCons fa k) := by
  obtain ⟨ts, h1, h2⟩ := h
  refine ⟨_, .cons ha h1, fun acc σ H Q h => td_seq (TD.split (rel := RelD X.K) h) fun xv H1 ⟨g, x, r, S, l, e, rx, p⟩ => ?_⟩
  split at p
  · rename_i y
    split at p
    · rename_i hz
      cases rx
      exact ⟨y, rfl, hz, h2 _ σ H1 Q ⟨g, r, S, l, e, p⟩⟩
    · exact p.elim
  · exact p.elim
theorem se_joined {v1 v2 : Expr} {rest : List Expr} {k : Str → Env → Sto → R Str} (h : SJ X W (v1 :: v2 :: rest) k) : SE X W (.JoinedStr (v1 :: v2 :: rest) pos) (eJoined k) := by
  obtain ⟨ts, h1, h2⟩ := h
  refine pe_imp (pe_joined h1) fun σ H Q h => h2 _ σ H _ (td_seq (TD.split (rel := relS) h) fun y H1 ⟨g, x, r, S, l, e, rx, p⟩ => ?_)
  cases rx
  exact post_ok p l e rfl
theorem se_joined1 (ha : SE X W e fa) : SE X W (.JoinedStr [e] pos) fa := pe_joined1 ha
end
end L2.U
namespace L2.U
open PySem PySem.Spec PyProof.Rows He

section
variable {X : Cx} {W : WX} {tg iter elt : Expr} {ifs : List Expr} {pos : Pos} {fi : AF} {b : Bn} {tt : TF} {fe : EF} {vs : List Nat} {scope : Scope} {own : List (Str × Nat)}
/-- the block's reading, by value -/
theorem comp_td {wi : TI} {t : TG} (hw : ∀ σ H R, TD X.K W (fun g xs J => SrcOk X.K g xs J) fi σ H R → wi σ H R) (gu : GU X.K t b vs) {σ : St} {H : Hp} {Q : VK} (h : TD X.K W (RelD X.K) (eComp fi b vs tt fe) σ H Q) :
    tLc wi t (TD X.K W0 relB tt) (TD X.K W0 (RelD X.K) fe) vs σ H Q := by
  refine hw σ H _ (td_seq (TD.split (rel := fun g xs J => SrcOk X.K g xs J) h) fun J H1 ⟨g0, xs, r0, S0, l, e, src, p⟩ D hD => ?_)
  split at p
  · rename_i hl
    cases q : compF b tt fe r0 vs xs S0 with
    | ok ys r1 Se =>
      have e5 := (compF_len q).2
      subst e5
      rw [q] at p
      refine comp_core src l e hl gu q D hD fun g H' zs x hF l' rz => ?_
      have FD : g.F D = some (.lst zs) := by rw [hF]; exact if_pos rfl
      have hb := l'.back (F := g0.F) (d := .lst ys) FD (noF l hD) (fun a ha => by
        rw [hF]
        show g0.F a = if a = D then _ else g0.F a
        rw [if_neg ha]) ⟨zs, (l'.fr D _ FD).1, rz⟩
      have pe := Gh.put_ext (d := .lst ys) (l'.fr D _ FD).2.1
      have xx : Ext g0 (g.back g0.F D (.lst ys)) := ⟨fun a d h => pe.G a d (x.G a d h), x.sz, x.m, rfl⟩
      exact p _ H' _ xx hb (e.mono xx) ⟨rz.bnd, D, rfl, Gh.put_at⟩
    | er _ _ _ => exact absurd q compF_ner
    | no => rw [q] at p; exact p.elim
  · exact p.elim
/-- .. of the store -/
theorem compS_td {wi : TI} {t : TG} (hw : ∀ σ H R, TD X.K W (fun g xs J => SrcOk X.K g xs J) fi σ H R → wi σ H R) (gu : GU X.K t b vs) {σ : St} {H : Hp} {Q : VK} (h : TD X.K W (RelD X.K) (eCompS fi b vs tt fe) σ H Q) :
    tLc wi t (TD X.K W0 relB tt) (TD X.K W0 (RelD X.K) fe) vs σ H Q := by
  refine hw σ H _ (td_seq (TD.split (rel := fun g xs J => SrcOk X.K g xs J) h) fun J H1 ⟨g0, xs, r0, S0, l, e, src, p⟩ D hD => ?_)
  split at p
  · rename_i hl
    cases q : compF b tt fe r0 vs xs S0 with
    | ok ys r1 Se =>
      have e5 := (compF_len q).2
      subst e5
      rw [q] at p
      refine comp_core src l e hl gu q D hD fun g H' zs x hF l' rz => ?_
      have FD : g.F D = some (.lst zs) := by rw [hF]; exact if_pos rfl
      have hb := l'.addB (F := g0.F) (ob := .lst ys) FD (noF l hD) (fun a ha => by
        rw [hF]
        show g0.F a = if a = D then _ else g0.F a
        rw [if_neg ha]) ⟨zs, (l'.fr D _ FD).1, rz⟩
      have ae := Gh.add_ext (g := g) (p := D)
      have xx : Ext g0 { g.add D with F := g0.F } := ⟨fun a d h => x.G a d h, Nat.le_trans x.sz ae.sz, fun n hn => (ae.m n (Nat.lt_of_lt_of_le hn x.sz)).trans (x.m n hn), rfl⟩
      refine p _ H' _ xx hb (e.mono xx) ⟨?_, ?_⟩
      · show Se.length < g.sz + 1
        rw [l'.sz]; exact Nat.lt_succ_self _
      · show V.ref D = V.ref ((g.add D).m Se.length)
        rw [← l'.sz, Gh.add_m]
    | er _ _ _ => exact absurd q compF_ner
    | no => rw [q] at p; exact p.elim
  · exact p.elim
/-- y = [.. for ..] -/
theorem ss_setLc (i : Nat) {y : Str} {py spos : Pos} (hc : X.calm = true) (hN : X.N.Nodup) (hi : IterU X W tg iter fi) (ok : BlkOk X.N X.env.scope scope own) (hb : BlkU X scope own tg ifs elt b tt fe) (hv : own.map (·.2) = vs := by rfl) (hk : X.env.scope.kind = .function := by rfl) (hy : X.N[i]? = some y := by rfl) (hyl : X.env.scope.names.lookup y = some .local := by rfl)
    (hl : (py.line == pos.line) = true := by rfl) (ha : (scope.names.any fun (n, k) => n == y && (k == .local || k == .cell)) = false := by rfl) (hs : ∀ x, foldedSetIterable iter X.env x = pure x := by intro _; rfl) :
    SS X W (.Assign [.Name y py] (.ListComp elt [⟨tg, iter, ifs, 0⟩] scope pos) spos) (sAsg (eComp fi b vs tt fe) (bName i)) := by
  subst hv
  obtain ⟨wi, pi, hw⟩ := hi
  obtain ⟨t, h1, gu, h2, h3⟩ := hb
  refine ps_imp (ps_setLc hc hN hy hyl (sw_true hk hyl hl ha) pi ok h1 h2 h3 hs) fun E σ H h => comp_td hw gu (ts_seq h fun v H' g d r S l e q p => ?_)
  exact post_nx p l (e.set i q)
theorem ss_setLcS (i : Nat) {y : Str} {py spos : Pos} (hc : X.calm = true) (hN : X.N.Nodup) (hi : IterU X W tg iter fi) (ok : BlkOk X.N X.env.scope scope own) (hb : BlkU X scope own tg ifs elt b tt fe) (hv : own.map (·.2) = vs := by rfl) (hk : X.env.scope.kind = .function := by rfl) (hy : X.N[i]? = some y := by rfl) (hyl : X.env.scope.names.lookup y = some .local := by rfl)
    (hl : (py.line == pos.line) = true := by rfl) (ha : (scope.names.any fun (n, k) => n == y && (k == .local || k == .cell)) = false := by rfl) (hs : ∀ x, foldedSetIterable iter X.env x = pure x := by intro _; rfl) :
    SS X W (.Assign [.Name y py] (.ListComp elt [⟨tg, iter, ifs, 0⟩] scope pos) spos) (sAsg (eCompS fi b vs tt fe) (bName i)) := by
  subst hv
  obtain ⟨wi, pi, hw⟩ := hi
  obtain ⟨t, h1, gu, h2, h3⟩ := hb
  refine ps_imp (ps_setLc hc hN hy hyl (sw_true hk hyl hl ha) pi ok h1 h2 h3 hs) fun E σ H h => compS_td hw gu (ts_seq h fun v H' g d r S l e q p => ?_)
  exact post_nx p l (e.set i q)
end
/-! ### sorted texts -/
/-- texts in their order: by insertion -/
def leS (x y : Str) : Bool := !decide (y.cps.toList < x.cps.toList)
def insS (x : Str) : List Str → List Str
  | [] => [x]
  | y :: r => if leS x y = true then x :: y :: r else y :: insS x r
def sortS : List Str → List Str
  | [] => []
  | x :: r => insS x (sortS r)
end L2.U
namespace L2.U
open PySem PySem.Spec PyProof.Rows He

/-- an instance's class, names, values -/
def insOf (S : Sto) : D → Option (Str × List Str × List D)
  | .ins C ns vs => some (C, ns, vs)
  | .ref n => (match S[n]? with
    | some (.ins C ns vs) => some (C, ns, vs)
    | _ => none)
  | _ => none
theorem zip_lookup {K : PySem.W.Frag} {g : Gh} {f : Str} : ∀ {ns : List Str} {ds : List D} {vs : List V} {d : D}, RelDs K g ds vs → (ns.zip ds).lookup f = some d → ∃ v, (ns.zip vs).lookup f = some v ∧ RelD K g d v
  | [], _, _, _, _, h => by simp at h
  | n :: ns, _, _, d, .nil, h => by simp at h
  | n :: ns, _, _, d, .cons r t, h => by
    simp only [List.zip_cons_cons, List.lookup_cons] at h ⊢
    split at h
    · cases h; exact ⟨_, rfl, r⟩
    · exact zip_lookup t h
theorem zip_none {K : PySem.W.Frag} {g : Gh} {f : Str} : ∀ {ns : List Str} {ds : List D} {vs : List V}, RelDs K g ds vs → (ns.zip ds).lookup f = none → (ns.zip vs).lookup f = none
  | [], _, _, _, _ => by simp
  | n :: ns, _, _, .nil, h => by simp
  | n :: ns, _, _, .cons r t, h => by
    simp only [List.zip_cons_cons, List.lookup_cons] at h ⊢
    split at h
    · cases h
    · exact zip_none t h
section
variable {K : PySem.W.Frag} {g : Gh} {S : Sto} {H : Hp}
theorem ins_view {x : D} {v : V} {C : Str} {ns : List Str} {ds : List D} (l : Rl K g S H) (r : RelD K g x v) (e : insOf S x = some (C, ns, ds)) : ∃ a dx vs, v = .ref a ∧ H a = some (.ins (ga K C) dx (ns.zip vs)) ∧ ns.length = ds.length ∧ RelDs K g ds vs := by
  cases x <;> simp only [insOf, reduceCtorEq] at e
  · cases e
    obtain ⟨_, a, rfl, q⟩ := r
    obtain ⟨dx, vs, e1, e2, e3⟩ := l.imm a _ q
    exact ⟨a, dx, vs, rfl, e1, e2, e3⟩
  · rename_i n
    split at e
    · rename_i q
      cases e
      obtain ⟨_, rfl⟩ := r
      obtain ⟨_, dx, vs, e1, e2, e3⟩ := l.sto n _ q (by intro z; cases z)
      exact ⟨_, dx, vs, rfl, e1, e2, e3⟩
    · cases e
end
/-- what is known of a class and a name of its instances -/
def clsB (K : PySem.W.Frag) (C : Str) : Bool := clsI K (ga K C)
def fldB (K : PySem.W.Frag) (C f : Str) : Bool := eqO (PySem.W.findIn K (.ref (ga K C)) f) (some none)
theorem fldB_ok {K : PySem.W.Frag} {C f : Str} (h : fldB K C f = true) : NoAttr K (ga K C) f := eqO_ok h
/-- o.f -/
def eFld (cs : List Str) (f : Str) (fo : EF) : EF := fun r S => (fo r S).bind fun x r S => match insOf S x with
  | some (C, ns, ds) => if cs.contains C then (match (ns.zip ds).lookup f with
    | some d => .ok d r S
    | none => .no) else .no
  | none => .no
structure FldOk (K : PySem.W.Frag) (cs : List Str) (f : Str) : Prop where
  ok : ∀ C ∈ cs, Cls K (ga K C) ∧ NoAttr K (ga K C) f
section
variable {X : Cx} {W : WX} {o e : Expr} {fo fe : EF} {f : Str} {pos pos' : Pos} {cs : List Str}
theorem se_fld (h : FldOk X.K cs f) (ho : SE X W o fo) (hb : attributeBase o f X.env (eval o X.env) = eval o X.env := by rfl) : SE X W (.Attribute o f pos) (eFld cs f fo) :=
  pe_imp (pe_fld ho hb) fun σ H Q hq => td_seq (TD.split (rel := RelD X.K) hq) fun xv H1 ⟨g, x, r, S, l, e, rx, p⟩ => by
    split at p
    · rename_i C ns ds hi
      split at p
      · rename_i hc
        split at p
        · rename_i d hd
          obtain ⟨a, dx, vs, rfl, e1, e2, e3⟩ := ins_view l rx hi
          obtain ⟨v, e4, rv⟩ := zip_lookup e3 hd
          obtain ⟨c1, c2⟩ := h.ok C (by simpa using hc)
          exact ⟨a, _, dx, _, v, rfl, e1, c1, c2, e4, post_ok p l e rv⟩
        · exact p.elim
      · exact p.elim
    · exact p.elim
end
/-- a field put, in place or at the end -/
def setF (f : Str) (d : D) : List Str → List D → List Str × List D
  | n :: ns, x :: xs => if n = f then (n :: ns, d :: xs) else (n :: (setF f d ns xs).1, x :: (setF f d ns xs).2)
  | _, _ => ([f], [d])
theorem setF_ok {K : PySem.W.Frag} {g : Gh} {f : Str} {d : D} {v : V} (r : RelD K g d v) : ∀ {ns : List Str} {ds : List D} {vs : List V}, ns.length = ds.length → RelDs K g ds vs →
    ∃ us, (setF f d ns ds).1.zip us = putF f v (ns.zip vs) ∧ (setF f d ns ds).1.length = (setF f d ns ds).2.length ∧ RelDs K g (setF f d ns ds).2 us
  | [], [], _, _, .nil => ⟨[v], rfl, rfl, .cons r .nil⟩
  | [], _ :: _, _, h, _ => by simp at h
  | _ :: _, [], _, h, _ => by simp at h
  | n :: ns, x :: xs, _, h, .cons (b := y) (l₂ := ys) q t => by
    simp only [setF, List.zip_cons_cons, putF]
    split
    · exact ⟨v :: ys, rfl, by simpa using h, .cons r t⟩
    · obtain ⟨us, h1, h2, h3⟩ := setF_ok r (by simpa using h) t
      exact ⟨y :: us, by simp only [List.zip_cons_cons, h1], by simp [h2], .cons q h3⟩
/-- o.f = e: an instance of the store -/
def putD (cs : List Str) (f : Str) (S : Sto) (x d : D) : Option Sto := match x with
  | .ref n => (match S[n]? with
    | some (.ins C ns ds) => if cs.contains C && decide (ns.length < 1000) then some (S.set n (.ins C (setF f d ns ds).1 (setF f d ns ds).2)) else none
    | _ => none)
  | _ => none
def sFldS (cs : List Str) (f : Str) (fv fo : EF) : SF := fun r S => (fv r S).bind fun d r S => (fo r S).bind fun x r S => match putD cs f S x d with
  | some S' => .ok .nx r S'
  | none => .no
section
variable {X : Cx} {W : WX} {o e value : Expr} {fo fv : EF} {f : Str} {pos pos' : Pos} {cs : List Str}
theorem ss_fld (h : FldOk X.K cs f) (hv : SE X W value fv) (ho : SE X W o fo) (hs : swapsWith value (some (.Attribute o f pos')) pos.line X.env = pure false := by rfl) : SS X W (.Assign [.Attribute o f pos'] value pos) (sFldS cs f fv fo) :=
  ps_imp (ps_fld ho hv hs) fun E σ H hq => ts_seq (rel := RelD X.K) hq fun vv H1 g d r S l e q p => by
    refine ⟨g, r, S, l, e, PostG.imp (post_s (rel := RelD X.K) p) fun xv H2 ⟨g2, x, r2, S2, e2, l2, re2, rx, p2⟩ => ?_⟩
    have q2 := q.mono e2
    split at p2
    · rename_i S' hS
      cases x <;> simp only [putD, reduceCtorEq] at hS
      rename_i n
      split at hS
      · rename_i C ns ds hx
        split at hS
        · rename_i hc
          cases hS
          simp only [Bool.and_eq_true, decide_eq_true_eq] at hc
          obtain ⟨m1, dx, vs, hh, hl, rs⟩ := l2.sto n _ hx (by intro z; cases z)
          obtain ⟨_, rfl⟩ := rx
          obtain ⟨c1, c2⟩ := h.ok C (by simpa using hc.1)
          obtain ⟨us, k1, k2, k3⟩ := setF_ok (f := f) q2 hl rs
          have hz : (ns.zip vs).length < 1000 := by
            rw [List.length_zip]
            exact Nat.lt_of_le_of_lt (Nat.min_le_left _ _) hc.2
          refine ⟨g2.m n, _, dx, _, rfl, hh, c1, c2, hz, ?_⟩
          have lw := l2.write (ob' := .ins C (setF f d ns ds).1 (setF f d ns ds).2) (o := .ins (ga X.K C) dx (putF f vv (ns.zip vs))) hx (by intro z; cases z) ⟨dx, us, by rw [upd_same, k1], k2, k3⟩
          exact p2 g2 _ σ (.refl g2) lw re2
        · cases hS
      · cases hS
    · exact p2.elim
end
/-! ### methods -/
/-- C has the method m, which does mm -/
structure DefM (P : Program) (w : World) (K : PySem.W.Frag) (mg : Str → Option Value) (base : Heap) (C m : Str) (k : Nat) (ps : List Str) (mm : MF) (dds : List D) : Prop where
  ex : ∃ f fd dvs dus, FnU P w K mg base k f fd ps mm ∧ Cls K (ga K C) ∧ Meth K (ga K C) m f ∧ Binds K fd ps dus ∧ Vals dvs dus ∧ ∀ g, RelDs K g dds dvs
def eMethC (C m : Str) (n : Nat) (mm : MF) (dds : List D) (fo : EF) (fs : AF) : EF := fun r S => (fo r S).bind fun x r S => match insOf S x with
  | some (C', ns, ds) => if C' = C ∧ (ns.zip ds).lookup m = none then (fs r S).bind fun as r S => if (x :: (as ++ dds)).length = n then (mm (x :: (as ++ dds)) S).run r else .no else .no
  | none => .no
section
variable {X : Cx} {W : WX} {o a : Expr} {es : List Expr} {fo : EF} {fs : AF} {C m : Str} {k n : Nat} {ps : List Str} {mm : MF} {dds : List D} {apos pos : Pos}
theorem run_meth {g : Gh} {σ : St} {Q : VK} {ds : List D} {vs : List V} {r : Env} {S : Sto} {H : Hp} (l : Rl X.K g S H) (e : REnv X.K g r σ) (rr : RelDs X.K g ds vs) (hn : ds.length = n) (p : PostG X.K W (RelD X.K) g σ ((mm ds S).run r) Q) :
    spU X.K n mm vs H Q (fun cls od H => W cls od σ H) := go_spU l e rr hn p
theorem se_methC {pl : Sem Bool} (F : DefM X.prog X.w X.K X.mg X.base C m k ps mm dds) (hr : Room k X.A) (tk : Takes X W) (ho : SE X W o fo) (ha : SA X W (a :: es) fs) (hl : ps.length = n := by rfl)
    (hst : starEach (a :: es) X.env = (false, eval a X.env) :: starEach es X.env := by rfl) (hpl : (backTo pos (starEach es X.env)).any (·.1) = false := by rfl)
    (ht : eval (.Call (.Attribute o m apos) (a :: es) [] pos) X.env = (do
      let ov ← eval o X.env
      standAt apos.atName
      let (f, first) ← holding [ov] (getMethod ov m pl)
      callWith pos f first (backTo pos (starEach (a :: es) X.env)) (backToKw pos (keywordEach [] X.env))) := by rfl) : SE X W (.Call (.Attribute o m apos) (a :: es) [] pos) (eMethC C m n mm dds fo fs) := by
  subst hl
  obtain ⟨f, fd, dvs, dus, F, hc, hm, hb, hd, hdd⟩ := F
  refine ⟨fun pins s σ H Q I h => ?_⟩
  refine PySem.W.methodCall_KW (pl := pl) (thn (ho.run pins s σ H _ I (TD.split (rel := RelD X.K) h)) fun u s1 ⟨xv, H1, I1, rx, g, x, r, S, l, e, rd, p⟩ => ?_) ht
  split at p
  · rename_i C' ns ds hi
    split at p
    · rename_i hcm
      obtain ⟨rfl, hno⟩ := hcm
      obtain ⟨b, dx, vs, rfl, e1, e2, e3⟩ := ins_view l rd hi
      obtain rfl : u = Value.ref b := rx
      refine getmeth_ok I1 e1 hc hm (zip_none e3 hno) ?_
      refine PySem.W.callWith_K (first := [.ref b]) (h₀ := X.base) I.ok.mod.kin hm.kp (thn (ha.run pos pins s1 σ H1 _ I1 ⟨g, r, S, l, e, p.split⟩) fun us s2 ⟨vs2, H2, I2, r2, g2, as, rr2, S2, x2, l2, re2, ras, p2⟩ => ⟨I2.kIn, ?_⟩) hst hpl
      split at p2
      · rename_i hn
        have rr : RelDs X.K g2 (x :: (as ++ dds)) (V.ref b :: (vs2 ++ dvs)) := .cons (rd.mono x2) (ras.append (hdd g2))
        exact run_fnSD (us := .ref b :: us) (vs := .ref b :: vs2) (E := fun σ cls od H => W cls od σ H) F hr hb hd (passAt tk σ) I2 (.cons rfl r2) (run_meth l2 re2 rr hn p2)
      · exact p2.elim
    · exact p.elim
  · exact p.elim
theorem se_methC0 {pl : Sem Bool} (F : DefM X.prog X.w X.K X.mg X.base C m k ps mm dds) (hr : Room k X.A) (tk : Takes X W) (ho : SE X W o fo) (hl : ps.length = n := by rfl)
    (ht : eval (.Call (.Attribute o m apos) [] [] pos) X.env = (do
      let ov ← eval o X.env
      standAt apos.atName
      let (f, first) ← holding [ov] (getMethod ov m pl)
      callWith pos f first (backTo pos (starEach [] X.env)) (backToKw pos (keywordEach [] X.env))) := by rfl) : SE X W (.Call (.Attribute o m apos) [] [] pos) (eMethC C m n mm dds fo aNil) := by
  subst hl
  obtain ⟨f, fd, dvs, dus, F, hc, hm, hb, hd, hdd⟩ := F
  refine ⟨fun pins s σ H Q I h => ?_⟩
  refine PySem.W.methodCall_KW (pl := pl) (thn (ho.run pins s σ H _ I (TD.split (rel := RelD X.K) h)) fun u s1 ⟨xv, H1, I1, rx, g, x, r, S, l, e, rd, p⟩ => ?_) ht
  split at p
  · rename_i C' ns ds hi
    split at p
    · rename_i hcm
      obtain ⟨rfl, hno⟩ := hcm
      obtain ⟨b, dx, vs, rfl, e1, e2, e3⟩ := ins_view l rd hi
      obtain rfl : u = Value.ref b := rx
      refine getmeth_ok I1 e1 hc hm (zip_none e3 hno) ?_
      have p' : PostG X.K W (RelD X.K) g σ (if (x :: ([] ++ dds)).length = ps.length then (mm (x :: ([] ++ dds)) S).run r else .no) Q := p
      split at p'
      · rename_i hn
        have rr : RelDs X.K g (x :: ([] ++ dds)) (V.ref b :: ([] ++ dvs)) := .cons rd (hdd g)
        exact PySem.W.callWith_K0 (first := [.ref b]) I1.kIn hm.kp (run_fnSD (us := [.ref b]) (vs := [.ref b]) (E := fun σ cls od H => W cls od σ H) F hr hb hd (passAt tk σ) I1 (.cons rfl .nil) (run_meth l e rr hn p'))
      · exact p'.elim
    · exact p.elim
  · exact p.elim
end
end L2.U
namespace L2.U
open PySem PySem.Spec PyProof.Rows He

theorem Rl.over {K : PySem.W.Frag} {g : Gh} {S : Sto} {H : Hp} (l : Rl K g S H) {p : Addr} {o : HO} (hp : H p = none) : Rl K g S (upd H p o) := by
  have l2 := l.res (o := o) hp
  refine ⟨fun a d e => (l2.imm a d e).eqG rfl rfl rfl, fun n ob e q => ?_, l2.inj, l2.sz, fun a u q => ?_⟩
  · obtain ⟨m1, m2⟩ := l2.sto n ob e q
    exact ⟨m1, m2.eqG rfl rfl rfl⟩
  · have ne : a ≠ p := fun z => by
      have := (l.fr a u q).1
      rw [z, hp] at this; cases this
    have q' : (g.res p o).F a = some u := by
      show (if a = p then some o else g.F a) = some u
      rw [if_neg ne]; exact q
    exact l2.fr a u q'
/-- C(..): its making does mm -/
structure DefC (P : Program) (w : World) (K : PySem.W.Frag) (mg : Str → Option Value) (base : Heap) (C : Str) (k : Nat) (ps : List Str) (mm : MF) (dds : List D) : Prop where
  ex : ∃ f fd dvs dus, FnU P w K mg base k f fd ps mm ∧ Mk K (ga K C) f ∧ mg C = some (.ref (ga K C)) ∧ Binds K fd ps dus ∧ Vals dvs dus ∧ ∀ g, RelDs K g dds dvs
/-- .. with keywords: n values by position -/
structure DefCK (P : Program) (w : World) (K : PySem.W.Frag) (mg : Str → Option Value) (base : Heap) (C : Str) (k : Nat) (ps : List Str) (mm : MF) (n : Nat) (ks : List Str) (gD : List D → List D → List D) : Prop where
  ex : ∃ f fd gv gV, FnU P w K mg base k f fd ps mm ∧ Mk K (ga K C) f ∧ mg C = some (.ref (ga K C)) ∧ KBn K fd ps (n + 1) ks gv gV ∧ ∀ g ds vs zs us, RelDs K g ds vs → RelDs K g zs us → RelDs K g (gD ds zs) (gV vs us)
def RF.made (r : Env) (n : Nat) : RF → R D
  | .ok .non S' => .ok (.ref n) r S'
  | .er x S' => .er x r S'
  | _ => .no
def eMake (C : Str) (n : Nat) (mm : MF) (dds : List D) (fs : AF) : EF := fun r S => (fs r S).bind fun ds r S => if (.ref S.length :: (ds ++ dds)).length = n then (mm (.ref S.length :: (ds ++ dds)) (S ++ [.ins C [] []])).made r S.length else .no
def eMakeK (C : Str) (n j c : Nat) (mm : MF) (gD : List D → List D → List D) (fs fk : AF) : EF := fun r S => (fs r S).bind fun ds r S => (fk r S).bind fun zs r S =>
  if ds.length = j ∧ zs.length = c ∧ (gD (.ref S.length :: ds) zs).length = n then (mm (gD (.ref S.length :: ds) zs) (S ++ [.ins C [] []])).made r S.length else .no
section
variable {X : Cx} {W : WX} {pins : List (Addr × Obj)} {σ : St} {H : Hp} {s : Shared} {Q : VK} {us ws : List Value} {vs zs : List V} {k n : Nat} {f : Addr} {fd : FuncData} {ps ks : List Str} {mm : MF} {dds : List D} {dvs : List V} {dus : List Value} {C : Str} {g : Gh} {r : Env} {S : Sto} {ds zd : List D}
/-- the new object is ours -/
theorem made_rel (l : Rl X.K g S H) {x dx : Addr} (hx : H x = none) (hdx : H dx = none) (ne : dx ≠ x) : Rl X.K (g.add x) (S ++ [.ins C [] []]) (upd (upd H dx (.own x)) x (.ins (ga X.K C) dx [])) :=
  (l.over hdx).add (by rw [upd_ne (Ne.symm ne)]; exact hx) ⟨dx, [], upd_same, rfl, .nil⟩
theorem made_sp (l : Rl X.K g S H) (e : REnv X.K g r σ) {x dx : Addr} (hx : H x = none) (hdx : H dx = none) (ne : dx ≠ x) {as : List D} {avs : List V} (ra : RelDs X.K (g.add x) as avs) (hn : as.length = n)
    (p : PostG X.K W (RelD X.K) g σ ((mm as (S ++ [.ins C [] []])).made r S.length) Q) :
    spU X.K n mm avs (upd (upd H dx (.own x)) x (.ins (ga X.K C) dx [])) (fun v H2 => v = .non ∧ Q (.ref x) H2) (fun cls od H => W cls od σ H) := by
  have x1 := Gh.add_ext (g := g) (p := x)
  refine ⟨by rw [← ra.length]; exact hn, g.add x, as, _, made_rel l hx hdx ne, ra, ?_⟩
  cases q : mm as (S ++ [.ins C [] []]) with
  | ok d S' =>
    rw [q] at p
    cases d <;> try (exact p.elim)
    intro g' H' v x' l' r'
    cases r'
    refine ⟨rfl, p g' H' _ (x1.trans x') l' (e.mono (x1.trans x')) ?_⟩
    have hm : g'.m S.length = x := by
      rw [x'.m _ (by show S.length < g.sz + 1; rw [l.sz]; exact Nat.lt_succ_self _), ← l.sz, Gh.add_m]
    refine ⟨Nat.lt_of_lt_of_le (by show S.length < g.sz + 1; rw [l.sz]; exact Nat.lt_succ_self _) x'.sz, by rw [hm]⟩
  | er d S' =>
    rw [q] at p
    exact fun g' H' cls od x' l' r' => p g' H' cls od (x1.trans x') l' (e.mono (x1.trans x')) r'
  | no => rw [q] at p; exact p.elim
/-- the class is called: the new instance, its dict, then what __init__ does; an exception is looked at where it comes out -/
theorem run_mk {sp : Sp} {E : XK} {fI : Addr} {kw : List (Str × Value)} {bs : List Value} {avs : List V} (M : Mk X.K (ga X.K C) fI) (F : FnOk X.prog X.w X.K X.mg X.base (L2.CX X.prog X.w) k fI fd ps sp) (room : Room (k + 1) X.A) (out : PassesAt (L2.CX X.prog X.w) X σ E) (inv : Inv X pins σ H s)
    (bd : ∀ z : Shared, X.K.In z.heap → BindsTo z fd ⟨Value.ref (s.heap.objs.size + 1) :: us, kw⟩ (ps.zip bs)) (rel : Vals avs bs)
    (says : sp avs (upd (upd H s.heap.objs.size (.own (s.heap.objs.size + 1))) (s.heap.objs.size + 1) (.ins (ga X.K C) s.heap.objs.size [])) (fun v H2 => v = .non ∧ Q (.ref (s.heap.objs.size + 1)) H2) E) :
    wpAny (model X.prog X.w) X.A (call (.ref (ga X.K C)) us kw) (EP X pins σ Q) X.xe s := by
  have inv2 := Inv.made (C := ga X.K C) inv
  refine wpAny_call (make_map (f := fI) inv.kIn M.makes M.init (beq_iff_eq.mp M.fn) (codeAny_mono (F.run _ X.stack _ _ _ bs avs _ _ (room.make (ga X.K C) us kw) (inv2.env0.make (ga X.K C) us kw) (bd _ inv2.kIn) rel says) fun res t back => ?_))
  match res, back with
  | .error e, back => exact out pins _ _ e t inv2 back
  | .ok (.ret u), back =>
    obtain ⟨v, H3, inv3, ru, hv, hQ⟩ := inv2.after back
    subst hv
    exact ⟨ru, .ref (s.heap.objs.size + 1), H3, inv3, rfl, hQ⟩
end
section
variable {X : Cx} {W : WX} {a : Expr} {es : List Expr} {fs fk : AF} {C : Str} {k n j c : Nat} {ps ks : List Str} {mm : MF} {dds : List D} {p pos : Pos} {gD : List D → List D → List D} {kws : List Keyword}
theorem fresh1 {pins : List (Addr × Obj)} {σ : St} {H : Hp} {s : Shared} (I : Inv X pins σ H s) : H (s.heap.objs.size + 1) = none := I.hok.fresh (Nat.le_succ _)
theorem fresh0 {pins : List (Addr × Obj)} {σ : St} {H : Hp} {s : Shared} (I : Inv X pins σ H s) : H s.heap.objs.size = none := I.hok.fresh (Nat.le_refl _)
theorem add_ref {K : PySem.W.Frag} {g : Gh} {S : Sto} {H : Hp} (l : Rl K g S H) {x : Addr} : RelD K (g.add x) (.ref S.length) (.ref x) :=
  ⟨by show S.length < g.sz + 1; rw [l.sz]; exact Nat.lt_succ_self _, by rw [← l.sz, Gh.add_m]⟩
theorem se_make (F : DefC X.prog X.w X.K X.mg X.base C k ps mm dds) (hr : Room (k + 1) X.A) (tk : Takes X W) (ha : SA X W (a :: es) fs) (hl : ps.length = n := by rfl) (hg : Gl X C := by rfl) (hdb : (C == ("__debug__" : Str)) = false := by decide)
    (he : starEach (a :: es) X.env = (false, eval a X.env) :: starEach es X.env := by rfl) (hpl : (backTo pos (starEach es X.env)).any (·.1) = false := by rfl) : SE X W (.Call (.Name C p) (a :: es) [] pos) (eMake C n mm dds fs) := by
  subst hl
  obtain ⟨f, fd, dvs, dus, F, M, hm, hb, hd, hdd⟩ := F
  refine ⟨fun pins s σ H Q I h => ?_⟩
  refine wpAny_Call_Name_kw (ld_glob I hg hm ?_ hdb)
  refine PySem.W.callWith_K (h₀ := X.base) I.ok.mod.kin M.kp (thn (ha.run pos pins s σ H _ I (TD.split (rel := RelDs X.K) h)) fun us s1 ⟨vs, H1, I1, r1, g, ds, r, S, l, e, rd, p⟩ => ⟨I1.kIn, ?_⟩) he hpl
  split at p
  · rename_i hn
    have x1 := Gh.add_ext (g := g) (p := s1.heap.objs.size + 1)
    have rr : RelDs X.K _ (.ref S.length :: (ds ++ dds)) (.ref (s1.heap.objs.size + 1) :: (vs ++ dvs)) := .cons (add_ref l) ((rd.append (hdd g)).mono x1)
    have rv : Vals (V.ref (s1.heap.objs.size + 1) :: (vs ++ dvs)) (Value.ref (s1.heap.objs.size + 1) :: (us ++ dus)) := .cons rfl (r1.append hd)
    refine run_mk (E := fun cls od H => W cls od σ H) M F hr (passAt tk σ) I1 (fun z hz => hb z (Value.ref (s1.heap.objs.size + 1) :: us) hz ?_) rv (made_sp l e (fresh1 I1) (fresh0 I1) (Nat.ne_of_lt (Nat.lt_succ_self _)) rr hn p)
    rw [List.cons_append, ← rv.length, ← rr.length]; exact hn
  · exact p.elim
theorem se_make0 (F : DefC X.prog X.w X.K X.mg X.base C k ps mm dds) (hr : Room (k + 1) X.A) (tk : Takes X W) (hl : ps.length = n := by rfl) (hg : Gl X C := by rfl) (hdb : (C == ("__debug__" : Str)) = false := by decide) : SE X W (.Call (.Name C p) [] [] pos) (eMake C n mm dds aNil) := by
  subst hl
  obtain ⟨f, fd, dvs, dus, F, M, hm, hb, hd, hdd⟩ := F
  refine ⟨fun pins s σ H Q I h => ?_⟩
  refine wpAny_Call_Name_kw (ld_glob I hg hm ?_ hdb)
  obtain ⟨g, r, S, l, e, p⟩ := h
  have p' : PostG X.K W (RelD X.K) g σ (if (D.ref S.length :: ([] ++ dds)).length = ps.length then (mm (.ref S.length :: ([] ++ dds)) (S ++ [.ins C [] []])).made r S.length else .no) Q := p
  split at p'
  · rename_i hn
    have x1 := Gh.add_ext (g := g) (p := s.heap.objs.size + 1)
    have rr : RelDs X.K _ (.ref S.length :: ([] ++ dds)) (.ref (s.heap.objs.size + 1) :: dvs) := .cons (add_ref l) ((hdd g).mono x1)
    have rv : Vals (V.ref (s.heap.objs.size + 1) :: dvs) (Value.ref (s.heap.objs.size + 1) :: dus) := .cons rfl hd
    refine PySem.W.callWith_K0 I.kIn M.kp (run_mk (us := []) (E := fun cls od H => W cls od σ H) M F hr (passAt tk σ) I (fun z hz => hb z [Value.ref (s.heap.objs.size + 1)] hz ?_) rv (made_sp l e (fresh1 I) (fresh0 I) (Nat.ne_of_lt (Nat.lt_succ_self _)) rr hn p'))
    rw [List.singleton_append, ← rv.length, ← rr.length]; exact hn
  · exact p'.elim
theorem se_makeK (F : DefCK X.prog X.w X.K X.mg X.base C k ps mm j ks gD) (hr : Room (k + 1) X.A) (tk : Takes X W) (ha : SA X W (a :: es) fs) (hkw : SK X W kws fk) (hl : ps.length = n := by rfl) (hc : ks.length = c := by rfl) (hg : Gl X C := by rfl)
    (hall : (backToKw pos (keywordEach kws X.env)).all (·.1.isSome) = true := by rfl) (hks : (backToKw pos (keywordEach kws X.env)).filterMap (·.1) = ks := by rfl) (hdb : (C == ("__debug__" : Str)) = false := by decide)
    (he : starEach (a :: es) X.env = (false, eval a X.env) :: starEach es X.env := by rfl) (hpl : ((backTo pos (starEach (a :: es) X.env)).any (·.1) || (backToKw pos (keywordEach kws X.env)).any (·.1.isNone)) = false := by rfl) :
    SE X W (.Call (.Name C p) (a :: es) kws pos) (eMakeK C n j c mm gD fs fk) := by
  subst hl hc
  obtain ⟨f, fd, gv, gV, F, M, hm, hb, hrel⟩ := F
  refine ⟨fun pins s σ H Q I h => ?_⟩
  refine wpAny_Call_Name_kw (ld_glob I hg hm ?_ hdb)
  refine PySem.W.callWith_KW (h₀ := X.base) I.ok.mod.kin M.kp hall (thn (ha.run pos pins s σ H _ I (TD.split (rel := RelDs X.K) h)) fun us s1 ⟨vs, H1, I1, r1, g, ds, r, S, l, e, rd, p⟩ => ?_) hpl he
  refine thn (hkw.run pos pins s1 σ H1 _ I1 ⟨g, r, S, l, e, p.split⟩) fun ws s2 ⟨zs, H2, I2, rz, g2, zd, r2, S2, x2, l2, e2, rzd, p2⟩ => ⟨I2.kIn, ?_⟩
  rw [hks]
  split at p2
  · rename_i hn
    have x1 := Gh.add_ext (g := g2) (p := s2.heap.objs.size + 1)
    have rf : Vals (V.ref (s2.heap.objs.size + 1) :: vs) (Value.ref (s2.heap.objs.size + 1) :: us) := .cons rfl r1
    refine run_mk (E := fun cls od H => W cls od σ H) M F hr (passAt tk σ) I2 (fun z hz => hb.to z (Value.ref (s2.heap.objs.size + 1) :: us) ws hz ?_ ?_) (hb.rel rf rz) (made_sp l2 e2 (fresh1 I2) (fresh0 I2) (Nat.ne_of_lt (Nat.lt_succ_self _)) (hrel _ _ _ _ _ (.cons (add_ref l2) (rd.mono (x2.trans x1))) (rzd.mono x1)) hn.2.2 p2)
    · rw [List.length_cons, ← r1.length, ← rd.length, hn.1]
    · rw [← rz.length, ← rzd.length]; exact hn.2.1
  · exact p2.elim
end
end L2.U
namespace L2.U
open PySem PySem.Spec PyProof.Rows He

/-- what is new is by value from here on; the names hold nothing of it -/
def eSettle (f : EF) : EF := fun r S => match f r S with
  | .ok d _ S1 => if (S1.take S.length).all (bndO S.length) && bnd S.length (fz S.length S1 60 d) then .ok (fz S.length S1 60 d) r (S1.take S.length) else .no
  | .er x r1 S1 => .er x r1 S1
  | .no => .no
section
variable {X : Cx} {W : WX} {e : Expr} {f : EF}
theorem se_settle (h : SE X W e f) : SE X W e (eSettle f) := pe_imp h fun σ H Q ⟨g, r, S, l, re, p⟩ => by
  refine ⟨g, r, S, l, re, ?_⟩
  have p' : PostG X.K W (RelD X.K) g σ (match f r S with
    | .ok d _ S1 => if (S1.take S.length).all (bndO S.length) && bnd S.length (fz S.length S1 60 d) then .ok (fz S.length S1 60 d) r (S1.take S.length) else .no
    | .er x r1 S1 => .er x r1 S1
    | .no => .no) Q := p
  cases q : f r S with
  | ok d r1 S1 =>
    rw [q] at p'
    simp only at p'
    split at p'
    · rename_i hc
      simp only [Bool.and_eq_true] at hc
      intro g1 H1 v x1 l1 e1 rd
      have hz : g.sz = S.length := l.sz
      obtain ⟨e2, l2⟩ := settle l1 x1 hz (by rw [← hz]; exact l.bounded) (take_bnd hc.1)
      exact p' _ H1 v e2 l2 (re.mono e2) (settled_rel l1 (by rw [← hz]; exact x1.sz) rd hc.2)
    · exact p'.elim
  | er x r1 S1 => rw [q] at p'; exact p'
  | no => rw [q] at p'; exact p'.elim
end
/-! ### own special methods: no exception comes out of them -/
def noE : XK := fun _ _ _ => False
theorem noE_at {X : Cx} {σ : St} : PassesAt (L2.CX X.prog X.w) X σ noE := fun _ _ _ _ _ _ h => by
  obtain ⟨_, _, _, _, _, _, _, _, _, _, _, _, z⟩ := h
  exact z.elim
/-- a call of the method at f, at A beneath the body -/
theorem run_at {X : Cx} {k : Nat} {f : Addr} {fd : FuncData} {ps : List Str} {sp : Sp} {A : Around} {pins : List (Addr × Obj)} {σ : St} {H : Hp} {s : Shared} {Q : VK} {us : List Value} {vs : List V} {E : Value → Shared → Prop} (F : FnOk X.prog X.w X.K X.mg X.base (L2.CX X.prog X.w) k f fd ps sp) (room : Room k A)
    (e0 : Env0 X.prog X.w X.K X.mg X.base A X.stack s H) (hb : Binds X.K fd ps []) (I : Inv X pins σ H s) (rv : Vals vs us) (says : sp vs H Q noE) : wpAny (model X.prog X.w) A (call (.ref f) us) (EP X pins σ Q) E s := by
  have hl : (us ++ []).length = ps.length := by rw [List.append_nil, ← rv.length]; exact F.len _ _ _ _ says
  have bd := hb s us I.kIn hl
  rw [List.append_nil] at bd
  refine wpAny_call (codeAny_mono (F.run A X.stack s H _ us vs Q noE room e0 bd rv says) fun res t back => ?_)
  match res, back with
  | .error e, back =>
    obtain ⟨_, _, _, _, _, _, _, _, _, _, _, _, z⟩ := back
    exact z.elim
  | .ok (.ret u), back => exact I.after back
/-- C has its own special method m, which does mm -/
structure DefS (P : Program) (w : World) (K : PySem.W.Frag) (mg : Str → Option Value) (base : Heap) (C m : Str) (k : Nat) (ps : List Str) (mm : MF) : Prop where
  ex : ∃ f fd, FnU P w K mg base k f fd ps mm ∧ PySem.W.findIn K (.ref (ga K C)) m = some (some (.ref f)) ∧ PySem.W.isFn K (.ref f) = true ∧ Binds K fd ps []
theorem ins_at {X : Cx} {pins : List (Addr × Obj)} {σ : St} {H : Hp} {s : Shared} {a C dx : Addr} {fs : List (Str × V)} (I : Inv X pins σ H s) (ha : H a = some (.ins C dx fs)) : ∃ od, PySem.W.InstAt s.heap a (PySem.W.instObj C dx) C (some od) := by
  obtain ⟨mA, J, _⟩ := ins_get I.hok ha
  obtain ⟨od, J, _⟩ := J.look
  exact ⟨od, J⟩
/-- a promise without exceptions -/
def spN (K : PySem.W.Frag) (n : Nat) (mm : MF) : List V → Hp → VK → Prop := fun vs H Q => spU K n mm vs H Q noE
section
variable {X : Cx} {C : Str} {k n : Nat} {ps : List Str} {mm : MF}
def rInC (K : PySem.W.Frag) (C : Str) (n : Nat) (mm : MF) (neg : Bool) : R2 := fun x y H Q => ∃ a dx fs, y = .ref a ∧ H a = some (.ins (ga K C) dx fs) ∧ spN K n mm [y, x] H fun v H2 => ∃ b, v = .bl b ∧ Q (.bl (b != neg)) H2
theorem op_inC (F : DefS X.prog X.w X.K X.mg X.base C "__contains__" k ps mm) (hr : Room k X.A) : OpR X (compareOp .In) (rInC X.K C ps.length mm false) := by
  obtain ⟨f, fd, F, hs, hf, hb⟩ := F
  intro pins s σ H x y v u Q I rx ry ⟨a, dx, fs, hy, ha, hsp⟩
  subst hy
  obtain rfl : u = Value.ref a := ry
  obtain ⟨od, J⟩ := ins_at I ha
  obtain ⟨m, hF⟩ := I.fr
  refine PySem.W.in_K hF I.ok.mod.kin J hs hf (wpAny_mono (run_at (vs := [.ref a, x]) (us := [.ref a, v]) F hr I.env0 hb I (.cons rfl (.cons rx .nil)) hsp) (fun r t back => ?_) fun _ _ z => z)
  obtain ⟨_, H2, I2, r2, b, rfl, q⟩ := back
  cases r2
  rw [Bool.bne_false] at q
  exact wpAny_truthy_bool ⟨.bl b, H2, I2, rfl, q⟩
theorem op_ninC (F : DefS X.prog X.w X.K X.mg X.base C "__contains__" k ps mm) (hr : Room k X.A) : OpR X (compareOp .NotIn) (rInC X.K C ps.length mm true) := by
  obtain ⟨f, fd, F, hs, hf, hb⟩ := F
  intro pins s σ H x y v u Q I rx ry ⟨a, dx, fs, hy, ha, hsp⟩
  subst hy
  obtain rfl : u = Value.ref a := ry
  obtain ⟨od, J⟩ := ins_at I ha
  obtain ⟨m, hF⟩ := I.fr
  refine PySem.W.notIn_K hF I.ok.mod.kin J hs hf (wpAny_mono (run_at (vs := [.ref a, x]) (us := [.ref a, v]) F hr I.env0 hb I (.cons rfl (.cons rx .nil)) hsp) (fun r t back => ?_) fun _ _ z => z)
  obtain ⟨_, H2, I2, r2, b, rfl, q⟩ := back
  cases r2
  rw [Bool.bne_true] at q
  exact wpAny_truthy_bool ⟨.bl (!b), H2, I2, rfl, q⟩
def rLenC (K : PySem.W.Frag) (C : Str) (n : Nat) (mm : MF) : List V → Hp → VK → Prop := fun xs H Q => ∃ a dx fs, xs = [.ref a] ∧ H a = some (.ins (ga K C) dx fs) ∧ spN K n mm xs H fun v H2 => ∃ i : Int, v = .int i ∧ 0 ≤ i ∧ i < 2 ^ 63 ∧ Q (.int i) H2
theorem call_lenC (F : DefS X.prog X.w X.K X.mg X.base C "__len__" k ps mm) (hr : Room (k + 1) X.A) : CallR X (.builtin "len") (rLenC X.K C ps.length mm) := by
  obtain ⟨f, fd, F, hs, hf, hb⟩ := F
  intro pins s σ H xs us Q I rv ⟨a, dx, fs, hx, ha, hsp⟩
  subst hx
  cases rv with
  | cons r0 t0 =>
    cases t0
    cases r0
    obtain ⟨od, J⟩ := ins_at I ha
    obtain ⟨m, hF⟩ := I.fr
    refine PySem.W.len_K hF I.ok.mod.kin J hs hf (wpAny_mono (run_at (vs := [.ref a]) (us := [.ref a]) F hr.in1 I.env0.in1 hb I (.cons rfl .nil) hsp) (fun r t back => ?_) fun _ _ z => z)
    obtain ⟨_, H2, I2, r2, i, rfl, h0, h1, q⟩ := back
    obtain ⟨tk, rfl⟩ := r2
    exact ⟨⟨h0, h1⟩, .int i, H2, I2.tok _, ⟨_, rfl⟩, q⟩
def rReprC (K : PySem.W.Frag) (C : Str) (n : Nat) (mm : MF) : List V → Hp → VK → Prop := fun xs H Q => ∃ a dx fs, xs = [.ref a] ∧ H a = some (.ins (ga K C) dx fs) ∧ spN K n mm xs H fun v H2 => ∃ z : Str, v = .str z ∧ Q (.str z) H2
theorem call_reprC (F : DefS X.prog X.w X.K X.mg X.base C "__repr__" k ps mm) (hr : Room (k + 1) X.A) : CallR X (.builtin "repr") (rReprC X.K C ps.length mm) := by
  obtain ⟨f, fd, F, hs, hf, hb⟩ := F
  intro pins s σ H xs us Q I rv ⟨a, dx, fs, hx, ha, hsp⟩
  subst hx
  cases rv with
  | cons r0 t0 =>
    cases t0
    cases r0
    obtain ⟨od, J⟩ := ins_at I ha
    obtain ⟨m, hF⟩ := I.fr
    refine PySem.W.repr_K hr.in1.units0 hF I.ok.mod.kin J hs hf (wpAny_mono (run_at (vs := [.ref a]) (us := [.ref a]) F hr.in1 I.env0.in1 hb I (.cons rfl .nil) hsp) (fun r t back => ?_) fun _ _ z => z)
    obtain ⟨_, H2, I2, r2, z, rfl, q⟩ := back
    obtain ⟨tk, rfl⟩ := r2
    exact ⟨.str z, H2, I2, ⟨_, rfl⟩, q⟩
end
end L2.U
namespace L2.U
open PySem PySem.Spec PyProof.Rows He

/-- what a special method gave: a truth value -/
def RF.asBl (neg : Bool) (r : Env) : RF → R Bool
  | .ok (.bl b) S => .ok (b != neg) r S
  | _ => .no
def RF.asLen (r : Env) : RF → R D
  | .ok (.int i) S => if 0 ≤ i ∧ i < 2 ^ 63 then .ok (.int i) r S else .no
  | _ => .no
def RF.asTxt (r : Env) : RF → R D
  | .ok (.str z) S => .ok (.str z) r S
  | _ => .no
/-- x in y: by the built-in ways, else y is an instance of C -/
def inCB (C : Str) (mm : MF) (neg : Bool) (o : Sto → D → D → Option Bool) (x y : D) (r : Env) (S : Sto) : R Bool := match o S x y with
  | some b => .ok b r S
  | none => (match insOf S y with
    | some q => if q.1 = C then (mm [y, x] S).asBl neg r else .no
    | none => .no)
def eInC (C : Str) (mm : MF) (neg : Bool) (o : Sto → D → D → Option Bool) (fa fb : EF) : EF := fun r S => (fa r S).bind fun x r S => (fb r S).bind fun y r S => (inCB C mm neg o x y r S).bind fun b r S => .ok (.bl b) r S
def tInC (C : Str) (mm : MF) (neg : Bool) (o : Sto → D → D → Option Bool) (fa fb : EF) : TF := fun r S => (fa r S).bind fun x r S => (fb r S).bind fun y r S => inCB C mm neg o x y r S
/-- len(x), repr(x) -/
def eCall1C (C : Str) (mm : MF) (o : Sto → List D → Option D) (back : Env → RF → R D) (fs : AF) : EF := fun r S => (fs r S).bind fun ds r S => match o S ds with
  | some d => .ok d r S
  | none => (match ds with
    | [x] => (match insOf S x with
      | some q => if q.1 = C then back r (mm [x] S) else .no
      | none => .no)
    | _ => .no)
section
variable {X : Cx} {W : WX} {C : Str} {k : Nat} {ps : List Str} {mm : MF} {a b : Expr} {fa fb : EF} {pos : Pos}
theorem in_two {neg : Bool} {o : Sto → D → D → Option Bool} {r0 : R2} (hl : ps.length = 2) (hu : UCmp X.K r0 o) {g : Gh} {r : Env} {S : Sto} {H : Hp} {x y : D} {xv yv : V} {σ : St} {Q : Bool → Hp → Prop} {Q0 : VK} (hQ : ∀ d H', Q d H' → Q0 (.bl d) H') (l : Rl X.K g S H) (e : REnv X.K g r σ) (rx : RelD X.K g x xv) (ry : RelD X.K g y yv)
    (p : PostG X.K W relB g σ (inCB C mm neg o x y r S) Q) : r0 xv yv H Q0 ∨ rInC X.K C ps.length mm neg xv yv H Q0 := by
  unfold inCB at p
  split at p
  · rename_i d q
    exact .inl (hu g S H x y d xv yv _ l rx ry q (hQ _ _ (post_ok p l e rfl)))
  · split at p
    · rename_i q hi
      obtain ⟨C', ns, ds⟩ := q
      split at p
      · rename_i hc
        cases hc
        obtain ⟨ad, dx, vs, rfl, e1, _, _⟩ := ins_view l ry hi
        refine .inr ⟨ad, dx, _, rfl, e1, by rw [hl]; rfl, g, [y, x], S, l, .cons ry (.cons rx .nil), ?_⟩
        cases q : mm [y, x] S with
        | ok d S' =>
          rw [q] at p
          cases d <;> try (exact p.elim)
          rename_i bb
          intro g' H' v x' l' r'
          cases r'
          exact ⟨bb, rfl, hQ _ _ (p g' H' _ x' l' (e.mono x') rfl)⟩
        | er d S' => rw [q] at p; exact p.elim
        | no => rw [q] at p; exact p.elim
      · exact p.elim
    · exact p.elim
theorem st_inC (F : DefS X.prog X.w X.K X.mg X.base C "__contains__" k ps mm) (hr : Room k X.A) (ha : SE X W a fa) (hb : SE X W b fb) (hl : ps.length = 2 := by rfl) (hm : behindInMarks .In b = false := by first | exact nomark _ | rfl) : ST X W (.Compare a [.In] [b] pos) (tInC C mm false inB fa fb) := by
  obtain ⟨r0, ho, hu⟩ := c_in (X := X)
  exact pt_imp (pt_cmpR (ho.or (op_inC F hr)) ha hb hm) fun σ H Q h => td_two h fun g r S H x y xv yv l e rx ry p => in_two hl hu (fun d H' q => ⟨d, rfl, q⟩) l e rx ry p
theorem st_ninC (F : DefS X.prog X.w X.K X.mg X.base C "__contains__" k ps mm) (hr : Room k X.A) (ha : SE X W a fa) (hb : SE X W b fb) (hl : ps.length = 2 := by rfl) (hm : behindInMarks .NotIn b = false := by first | exact nomark _ | rfl) : ST X W (.Compare a [.NotIn] [b] pos) (tInC C mm true (notB inB) fa fb) := by
  obtain ⟨r0, ho, hu⟩ := c_notin (X := X)
  exact pt_imp (pt_cmpR (ho.or (op_ninC F hr)) ha hb hm) fun σ H Q h => td_two h fun g r S H x y xv yv l e rx ry p => in_two hl hu (fun d H' q => ⟨d, rfl, q⟩) l e rx ry p
theorem post_bl {g : Gh} {σ : St} {x : R Bool} {Q : VK} (p : PostG X.K W (RelD X.K) g σ (x.bind fun b r S => .ok (.bl b) r S) Q) : PostG X.K W relB g σ x (fun b H => Q (.bl b) H) := by
  cases x with
  | ok b r S =>
    intro g' H' b' x' l' e' q
    cases q
    exact p g' H' _ x' l' e' rfl
  | er d r S => exact p
  | no => exact p
theorem se_inC (F : DefS X.prog X.w X.K X.mg X.base C "__contains__" k ps mm) (hr : Room k X.A) (ha : SE X W a fa) (hb : SE X W b fb) (hl : ps.length = 2 := by rfl) (hm : behindInMarks .In b = false := by first | exact nomark _ | rfl) : SE X W (.Compare a [.In] [b] pos) (eInC C mm false inB fa fb) := by
  obtain ⟨r0, ho, hu⟩ := c_in (X := X)
  exact pe_imp (pe_cmpR (ho.or (op_inC F hr)) ha hb hm) fun σ H Q h => td_two h fun g r S H x y xv yv l e rx ry p => in_two hl hu (fun _ _ q => q) l e rx ry (post_bl p)
theorem se_ninC (F : DefS X.prog X.w X.K X.mg X.base C "__contains__" k ps mm) (hr : Room k X.A) (ha : SE X W a fa) (hb : SE X W b fb) (hl : ps.length = 2 := by rfl) (hm : behindInMarks .NotIn b = false := by first | exact nomark _ | rfl) : SE X W (.Compare a [.NotIn] [b] pos) (eInC C mm true (notB inB) fa fb) := by
  obtain ⟨r0, ho, hu⟩ := c_notin (X := X)
  exact pe_imp (pe_cmpR (ho.or (op_ninC F hr)) ha hb hm) fun σ H Q h => td_two h fun g r S H x y xv yv l e rx ry p => in_two hl hu (fun _ _ q => q) l e rx ry (post_bl p)
/-! len, repr -/
variable {es : List Expr} {fs : AF} {p : Pos}
theorem se_lenC (F : DefS X.prog X.w X.K X.mg X.base C "__len__" k ps mm) (hr : Room (k + 1) X.A) (hm : X.mg "len" = none) (ha : SA X W (a :: es) fs) (hl : ps.length = 1 := by rfl) (hg : Gl X "len" := by rfl)
    (he : starEach (a :: es) X.env = (false, eval a X.env) :: starEach es X.env := by rfl) (hpl : (backTo pos (starEach es X.env)).any (·.1) = false := by rfl) : SE X W (.Call (.Name "len" p) (a :: es) [] pos) (eCall1C C mm oLen (fun r y => y.asLen r) fs) := by
  obtain ⟨r0, ho, hu⟩ := cu_len (X := X)
  refine pe_imp (pe_callB (ho.or (call_lenC F hr)) hg hm (by decide +kernel) ha (by decide) (by decide) he hpl) fun σ H Q h => td_seq (TD.split (rel := RelDs X.K) h) fun vs H1 ⟨g, ds, r, S, l, e, rd, p⟩ => ?_
  split at p
  · rename_i d q
    exact .inl (hu g S H1 ds d vs Q l rd q fun g' H' v x' l' r' => p g' H' v x' l' (e.mono x') r')
  · split at p
    · rename_i _ _ x _
      obtain ⟨v, rfl, rx⟩ := rel1 rd
      split at p
      · rename_i q hi
        obtain ⟨C', ns, zs⟩ := q
        split at p
        · rename_i hc
          cases hc
          obtain ⟨ad, dx, us, rfl, e1, _, _⟩ := ins_view l rx hi
          refine .inr ⟨ad, dx, _, rfl, e1, by rw [hl]; rfl, g, [x], S, l, .cons rx .nil, ?_⟩
          cases q : mm [x] S with
          | ok d S' =>
            rw [q] at p
            cases d <;> try (exact p.elim)
            rename_i i
            intro g' H' v x' l' r'
            cases r'
            have p2 : PostG X.K W (RelD X.K) g σ (if 0 ≤ i ∧ i < 2 ^ 63 then .ok (.int i) r S' else .no) Q := p
            split at p2
            · rename_i hi
              exact ⟨i, rfl, hi.1, hi.2, p2 g' H' _ x' l' (e.mono x') rfl⟩
            · exact p2.elim
          | er d S' => rw [q] at p; exact p.elim
          | no => rw [q] at p; exact p.elim
        · exact p.elim
      · exact p.elim
    · exact p.elim
def oNever : Sto → List D → Option D := fun _ _ => none
theorem se_reprC (F : DefS X.prog X.w X.K X.mg X.base C "__repr__" k ps mm) (hr : Room (k + 1) X.A) (hm : X.mg "repr" = none) (ha : SA X W (a :: es) fs) (hl : ps.length = 1 := by rfl) (hg : Gl X "repr" := by rfl)
    (he : starEach (a :: es) X.env = (false, eval a X.env) :: starEach es X.env := by rfl) (hpl : (backTo pos (starEach es X.env)).any (·.1) = false := by rfl) : SE X W (.Call (.Name "repr" p) (a :: es) [] pos) (eCall1C C mm oNever (fun r y => y.asTxt r) fs) := by
  refine pe_imp (pe_callB (call_reprC F hr) hg hm (by decide +kernel) ha (by decide) (by decide) he hpl) fun σ H Q h => td_seq (TD.split (rel := RelDs X.K) h) fun vs H1 ⟨g, ds, r, S, l, e, rd, p⟩ => ?_
  simp only [oNever] at p
  split at p
  · rename_i x
    obtain ⟨v, rfl, rx⟩ := rel1 rd
    split at p
    · rename_i q hi
      obtain ⟨C', ns, zs⟩ := q
      split at p
      · rename_i hc
        cases hc
        obtain ⟨ad, dx, us, rfl, e1, _, _⟩ := ins_view l rx hi
        refine ⟨ad, dx, _, rfl, e1, by rw [hl]; rfl, g, [x], S, l, .cons rx .nil, ?_⟩
        cases q : mm [x] S with
        | ok d S' =>
          rw [q] at p
          cases d <;> try (exact p.elim)
          rename_i z
          intro g' H' v x' l' r'
          cases r'
          exact ⟨z, rfl, p g' H' _ x' l' (e.mono x') rfl⟩
        | er d S' => rw [q] at p; exact p.elim
        | no => rw [q] at p; exact p.elim
      · exact p.elim
    · exact p.elim
  · exact p.elim
end
end L2.U
namespace L2.U
open PySem PySem.Spec PyProof.Rows He

/-- a value's type, as the comparison asks it; not one that goes first -/
def TyL (X : Cx) (C : Addr) (H : Hp) (y : V) : Prop := ∀ (pins : List (Addr × Obj)) (σ : St) (s : Shared) (u : Value), Inv X pins σ H s → RelV y u → ∃ tb, PySem.W.Looks (model X.prog X.w) s.heap (typeOf u) tb ∧ PySem.W.notFirst X.K C tb = true
def rEqC (X : Cx) (C : Str) (n : Nat) (mm : MF) (neg : Bool) : R2 := fun x y H Q => ∃ a dx fs, x = .ref a ∧ H a = some (.ins (ga X.K C) dx fs) ∧ TyL X (ga X.K C) H y ∧ spN X.K n mm [x, y] H fun v H2 => ∃ b, v = .bl b ∧ Q (.bl (b != neg)) H2
theorem op_eqC {X : Cx} {C : Str} {k : Nat} {ps : List Str} {mm : MF} (F : DefS X.prog X.w X.K X.mg X.base C "__eq__" k ps mm) (hr : Room k X.A) : OpR X (compareOp .Eq) (rEqC X C ps.length mm false) := by
  obtain ⟨f, fd, F, hs, hf, hb⟩ := F
  intro pins s σ H x y v u Q I rx ry ⟨a, dx, fs, hx, ha, ht, hsp⟩
  subst hx
  obtain rfl : v = Value.ref a := rx
  obtain ⟨od, J⟩ := ins_at I ha
  obtain ⟨m, hF⟩ := I.fr
  obtain ⟨tb, t1, t2⟩ := ht pins σ s u I ry
  refine PySem.W.cmp_K (op := .Eq) hr.units0 hF I.ok.mod.kin J t1 t2 hs hf (wpAny_mono (run_at (vs := [.ref a, y]) (us := [.ref a, u]) F hr I.env0 hb I (.cons rfl (.cons ry .nil)) hsp) (fun r t back => ?_) fun _ _ z => z)
  obtain ⟨_, H2, I2, r2, b, rfl, q⟩ := back
  cases r2
  rw [Bool.bne_false] at q
  exact ⟨.bl b, H2, I2, rfl, q⟩
/-- the types that a text, a number, None and an instance of C have -/
def tyOk (C : Str) (S : Sto) (y : D) : Bool := match y with
  | .non => true | .bl _ => true | .int _ => true | .str _ => true
  | y => match insOf S y with
    | some q => decide (q.1 = C)
    | none => false
/-- no built-in type is one of C -/
def notB4 (K : PySem.W.Frag) (C : Addr) : Bool := PySem.W.notFirst K C (.type "NoneType") && (PySem.W.notFirst K C (.type "bool") && (PySem.W.notFirst K C (.type "int") && PySem.W.notFirst K C (.type "str")))
theorem ty_ok {X : Cx} {C : Str} {g : Gh} {S : Sto} {H : Hp} {y : D} {yv : V} (hn : notB4 X.K (ga X.K C) = true) (l : Rl X.K g S H) (r : RelD X.K g y yv) (h : tyOk C S y = true) : TyL X (ga X.K C) H yv := by
  obtain ⟨n1, n2⟩ := ba hn
  obtain ⟨n2, n3⟩ := ba n2
  obtain ⟨n3, n4⟩ := ba n3
  intro pins σ s u I ru
  have inst : (match insOf S y with
    | some q => decide (q.1 = C)
    | none => false) = true → ∃ tb, PySem.W.Looks (model X.prog X.w) s.heap (typeOf u) tb ∧ PySem.W.notFirst X.K (ga X.K C) tb = true := fun h => by
    split at h
    · rename_i q hi
      obtain ⟨C', ns, ds⟩ := q
      cases of_decide_eq_true h
      obtain ⟨a, dx, vs, rfl, e1, _, _⟩ := ins_view l r hi
      obtain rfl : u = Value.ref a := ru
      obtain ⟨od, J⟩ := ins_at I e1
      exact ⟨_, J.type, by simp [PySem.W.notFirst]⟩
    · cases h
  cases y with
  | non => cases r; cases ru; exact ⟨_, PySem.W.Looks.of_pure rfl, n1⟩
  | bl b => cases r; cases ru; exact ⟨_, PySem.W.Looks.of_pure rfl, n2⟩
  | int b => cases r; obtain ⟨t, rfl⟩ := ru; exact ⟨_, PySem.W.Looks.of_pure rfl, n3⟩
  | str b => cases r; obtain ⟨t, rfl⟩ := ru; exact ⟨_, PySem.W.Looks.of_pure rfl, n4⟩
  | _ => exact inst h
/-- x == y: by the built-in ways, else x is an instance of C -/
def eqCB (C : Str) (mm : MF) (o : Sto → D → D → Option Bool) (x y : D) (r : Env) (S : Sto) : R Bool := match o S x y with
  | some b => .ok b r S
  | none => (match insOf S x with
    | some q => if q.1 = C ∧ tyOk C S y = true then (mm [x, y] S).asBl false r else .no
    | none => .no)
def eEqC (C : Str) (mm : MF) (o : Sto → D → D → Option Bool) (fa fb : EF) : EF := fun r S => (fa r S).bind fun x r S => (fb r S).bind fun y r S => (eqCB C mm o x y r S).bind fun b r S => .ok (.bl b) r S
def tEqC (C : Str) (mm : MF) (o : Sto → D → D → Option Bool) (fa fb : EF) : TF := fun r S => (fa r S).bind fun x r S => (fb r S).bind fun y r S => eqCB C mm o x y r S
section
variable {X : Cx} {W : WX} {C : Str} {k : Nat} {ps : List Str} {mm : MF} {a b : Expr} {fa fb : EF} {pos : Pos}
theorem eq_two {o : Sto → D → D → Option Bool} {r0 : R2} (hn : notB4 X.K (ga X.K C) = true) (hl : ps.length = 2) (hu : UCmp X.K r0 o) {g : Gh} {r : Env} {S : Sto} {H : Hp} {x y : D} {xv yv : V} {σ : St} {Q : Bool → Hp → Prop} {Q0 : VK} (hQ : ∀ d H', Q d H' → Q0 (.bl d) H') (l : Rl X.K g S H) (e : REnv X.K g r σ) (rx : RelD X.K g x xv) (ry : RelD X.K g y yv)
    (p : PostG X.K W relB g σ (eqCB C mm o x y r S) Q) : r0 xv yv H Q0 ∨ rEqC X C ps.length mm false xv yv H Q0 := by
  unfold eqCB at p
  split at p
  · rename_i d q
    exact .inl (hu g S H x y d xv yv _ l rx ry q (hQ _ _ (post_ok p l e rfl)))
  · split at p
    · rename_i q hi
      obtain ⟨C', ns, ds⟩ := q
      split at p
      · rename_i hc
        obtain ⟨hc, hy⟩ := hc
        cases hc
        obtain ⟨ad, dx, vs, rfl, e1, _, _⟩ := ins_view l rx hi
        refine .inr ⟨ad, dx, _, rfl, e1, ty_ok hn l ry hy, by rw [hl]; rfl, g, [x, y], S, l, .cons rx (.cons ry .nil), ?_⟩
        cases q : mm [x, y] S with
        | ok d S' =>
          rw [q] at p
          cases d <;> try (exact p.elim)
          rename_i bb
          intro g' H' v x' l' r'
          cases r'
          exact ⟨bb, rfl, hQ _ _ (p g' H' _ x' l' (e.mono x') rfl)⟩
        | er d S' => rw [q] at p; exact p.elim
        | no => rw [q] at p; exact p.elim
      · exact p.elim
    · exact p.elim
theorem se_eqC (F : DefS X.prog X.w X.K X.mg X.base C "__eq__" k ps mm) (hn : notB4 X.K (ga X.K C) = true) (hr : Room k X.A) (ha : SE X W a fa) (hb : SE X W b fb) (hl : ps.length = 2 := by rfl) (hm : behindInMarks .Eq b = false := by first | exact nomark _ | rfl) : SE X W (.Compare a [.Eq] [b] pos) (eEqC C mm eqB fa fb) := by
  obtain ⟨r0, ho, hu⟩ := c_eq (X := X) hr.units
  exact pe_imp (pe_cmpR (ho.or (op_eqC F hr)) ha hb hm) fun σ H Q h => td_two h fun g r S H x y xv yv l e rx ry p => eq_two hn hl hu (fun _ _ q => q) l e rx ry (post_bl p)
theorem st_eqC (F : DefS X.prog X.w X.K X.mg X.base C "__eq__" k ps mm) (hn : notB4 X.K (ga X.K C) = true) (hr : Room k X.A) (ha : SE X W a fa) (hb : SE X W b fb) (hl : ps.length = 2 := by rfl) (hm : behindInMarks .Eq b = false := by first | exact nomark _ | rfl) : ST X W (.Compare a [.Eq] [b] pos) (tEqC C mm eqB fa fb) := by
  obtain ⟨r0, ho, hu⟩ := c_eq (X := X) hr.units
  exact pt_imp (pt_cmpR (ho.or (op_eqC F hr)) ha hb hm) fun σ H Q h => td_two h fun g r S H x y xv yv l e rx ry p => eq_two hn hl hu (fun d H' q => ⟨d, rfl, q⟩) l e rx ry p
end
end L2.U
namespace L2.U
open PySem PySem.Spec PyProof.Rows He

/-- what the first way does not serve goes the second way -/
def alt {α : Type} (f h : Env → Sto → R α) : Env → Sto → R α := fun r S => match f r S with
  | .no => h r S
  | x => x
theorem td_alt {α β : Type} {K : PySem.W.Frag} {W : WX} {rel : Gh → α → β → Prop} {f h : Env → Sto → R α} {σ : St} {H : Hp} {Q : β → Hp → Prop} (t : TD K W rel (alt f h) σ H Q) : TD K W rel f σ H Q ∨ TD K W rel h σ H Q := by
  obtain ⟨g, r, S, l, e, p⟩ := t
  unfold alt at p
  cases q : f r S with
  | no => rw [q] at p; exact .inr ⟨g, r, S, l, e, p⟩
  | ok a r1 S1 => rw [q] at p; exact .inl ⟨g, r, S, l, e, by rw [q]; exact p⟩
  | er a r1 S1 => rw [q] at p; exact .inl ⟨g, r, S, l, e, by rw [q]; exact p⟩
section
variable {X : Cx} {W : WX} {e : Expr} {f h : EF} {tf th : TF}
theorem se_alt (a : SE X W e f) (b : SE X W e h) : SE X W e (alt f h) := ⟨fun pins s σ H Q I t => (td_alt t).elim (fun t => a.run pins s σ H Q I t) fun t => b.run pins s σ H Q I t⟩
theorem st_alt (a : ST X W e tf) (b : ST X W e th) : ST X W e (alt tf th) := ⟨fun pins s σ H Q I t => (td_alt t).elim (fun t => a.run pins s σ H Q I t) fun t => b.run pins s σ H Q I t⟩
end
/-! ### facts of the text -/
def faB (K : PySem.W.Frag) (fa : List Fa) : Bool := fa.all fun f => f.ok K
theorem fa_at {K : PySem.W.Frag} {fa : List Fa} (h : faB K fa = true) (i : Nat) {f : Fa} (hf : fa[i]? = some f := by rfl) : f.ok K = true := List.all_eq_true.mp h f (List.mem_of_getElem? hf)
/-! methods by their facts -/
section
variable {P : Program} {w : World} {K : PySem.W.Frag} {mg : Str → Option Value} {base : Heap} {x qual : Str} {params : Arguments} {body : List Stmt} {scope : Scope} {fd : FuncData} {ps : List Str} {k : Nat} {mm : MF} {C m : Str}
theorem defM_of (hF : FnU P w K mg base k (fAd K (C, some m)) fd ps mm) (F : FunD K x qual params body scope [] [] (fAd K (C, some m)) fd) (hc : (Fa.cls C).ok K = true) (hm : (Fa.meth C m).ok K = true)
    (h : ∀ (kV doc pm : Value) (an : Option Addr) (cdv ct : Value) (us : List Value), us.length = ps.length → bindArgs (PySem.W.fnOf x qual params body scope .none kV doc pm an cdv ct) ⟨us, []⟩ = pure (ps.zip us)) : DefM P w K mg base C m k ps mm [] :=
  ⟨_, fd, [], [], hF, cls_ok hc, meth_ok hm, F.bindsN h, .nil, fun _ => .nil⟩
theorem defS_of (hF : FnU P w K mg base k (fAd K (C, some m)) fd ps mm) (F : FunD K x qual params body scope [] [] (fAd K (C, some m)) fd) (hm : (Fa.meth C m).ok K = true)
    (h : ∀ (kV doc pm : Value) (an : Option Addr) (cdv ct : Value) (us : List Value), us.length = ps.length → bindArgs (PySem.W.fnOf x qual params body scope .none kV doc pm an cdv ct) ⟨us, []⟩ = pure (ps.zip us)) : DefS P w K mg base C m k ps mm :=
  ⟨_, fd, hF, (meth_ok hm).at_, (meth_ok hm).fn, F.bindsN h⟩
theorem defC_of (hF : FnU P w K mg base k (fAd K (C, some "__init__")) fd ps mm) (F : FunD K x qual params body scope [] [] (fAd K (C, some "__init__")) fd) (hm : (Fa.mkr C).ok K = true) (hg : mg C = some (.ref (ga K C)))
    (h : ∀ (kV doc pm : Value) (an : Option Addr) (cdv ct : Value) (us : List Value), us.length = ps.length → bindArgs (PySem.W.fnOf x qual params body scope .none kV doc pm an cdv ct) ⟨us, []⟩ = pure (ps.zip us)) : DefC P w K mg base C k ps mm [] :=
  ⟨_, fd, [], [], hF, mkr_ok hm, hg, F.bindsN h, .nil, fun _ => .nil⟩
theorem fldOk_nil {f : Str} : FldOk K [] f := ⟨fun C h => by cases h⟩
theorem fldOk_cons {f : Str} {cs : List Str} (hc : (Fa.cls C).ok K = true) (hf : (Fa.noat C f).ok K = true) (h : FldOk K cs f) : FldOk K (C :: cs) f := ⟨fun D hD => by
  rcases List.mem_cons.mp hD with e | e
  · rw [e]; exact ⟨cls_ok hc, noat_ok hf⟩
  · exact h.ok D e⟩
end
end L2.U
namespace L2.U
open PySem PySem.Spec PyProof.Rows He

/-- classes that are told apart, none of them a built-in type's -/
def isiB (K : PySem.W.Frag) (cs : List Str) : Bool := cs.all fun C => clsI K (ga K C) && ((tyNames.all fun T => decide (PySem.W.kitOne K (.type T) (.ref (ga K C)) = some false)) && cs.all fun C' => decide (PySem.W.kitOne K (.ref (ga K C')) (.ref (ga K C)) = some (decide (C' = C))))
def oIsiC (cs : List Str) : Sto → List D → Option D := fun S ds => match ds with
  | [x, .con C] => if cs.contains C then (match insOf S x with
    | some q => if cs.contains q.1 then some (.bl (decide (q.1 = C))) else none
    | none => (tyV0 S x).map fun _ => .bl false) else none
  | _ => none
theorem tyV0_names {S : Sto} {x : D} {t : String} (h : tyV0 S x = some t) : t ∈ tyNames := by
  cases x <;> simp only [tyV0, reduceCtorEq, Option.some.injEq] at h <;> try (subst h; decide)
  split at h
  · cases h; decide
  · cases h
theorem ins_ty {K : PySem.W.Frag} {S : Sto} {x : D} {q : Str × List Str × List D} (h : insOf S x = some q) (hc : clsI K (ga K q.1) = true) : tyV K S x = some (.ref (ga K q.1)) := by
  cases x <;> simp only [insOf, reduceCtorEq] at h
  · cases h; simp only [tyV, hc, if_true]
  · split at h
    · rename_i e
      cases h
      simp only [tyV, e]
      rw [if_pos hc]
    · cases h
theorem isiC_ok {K : PySem.W.Frag} {cs : List Str} {S : Sto} {ds : List D} {d : D} (hk : isiB K cs = true) (h : oIsiC cs S ds = some d) : oIsi K S ds = some d := by
  unfold oIsiC at h
  split at h
  · rename_i x C
    split at h
    · rename_i hC
      have hC' : C ∈ cs := by simpa using hC
      have f := List.all_eq_true.mp hk C hC'
      obtain ⟨f1, f2⟩ := ba f
      obtain ⟨f2, f3⟩ := ba f2
      split at h
      · rename_i q hi
        split at h
        · rename_i hq
          have hq' : q.1 ∈ cs := by simpa using hq
          cases h
          have g1 := (ba (List.all_eq_true.mp hk q.1 hq')).1
          have g2 := of_decide_eq_true (List.all_eq_true.mp f3 q.1 hq')
          simp only [oIsi, ins_ty hi g1, clsV]
          show (PySem.W.kitOne K (.ref (ga K q.1)) (.ref (ga K C))).map D.bl = _
          rw [g2]; rfl
        · cases h
      · rename_i hi
        obtain ⟨t, e, rfl⟩ := Option.map_eq_some_iff.mp h
        have g2 := of_decide_eq_true (List.all_eq_true.mp f2 t (tyV0_names e))
        simp only [oIsi, tyV0_ok e, clsV]
        show (PySem.W.kitOne K (.type t) (.ref (ga K C))).map D.bl = _
        rw [g2]; rfl
    · cases h
  · cases h
theorem cu_isiC {X : Cx} {cs : List Str} (hk : isiB X.K cs = true) : CallU X (.builtin "isinstance") (orL oIsi0 (oIsiC cs)) := by
  obtain ⟨r, h1, h2⟩ := cu_isi (X := X)
  refine ⟨r, h1, fun g S H ds d vs Q l rd e k => h2 g S H ds d vs Q l rd ?_ k⟩
  unfold orL at e
  split at e
  · rename_i q; cases e; exact isi0_ok q
  · exact isiC_ok hk e
end L2.U
namespace L2.U
open PySem PySem.Spec PyProof.Rows He

section
variable {P : Program} {w : World} {K : PySem.W.Frag} {mg : Str → Option Value} {base : Heap} {x qual : Str} {params : Arguments} {body : List Stmt} {scope : Scope} {fd : FuncData} {ps : List Str} {k : Nat} {mm : MF} {C : Str} {kws : List (Str × V)}
/-- C(.., k = v, ..): n values by position, keywords ks; ms: the keyword-only parameters that lack, msD as data -/
theorem defCK_of (n : Nat) (ks : List Str) (ms : List (Str × V)) (msD : List D) (is : List Nat) (hF : FnU P w K mg base k (fAd K (C, some "__init__")) fd ps mm) (F : FunD K x qual params body scope [] kws (fAd K (C, some "__init__")) fd) (hm : (Fa.mkr C).ok K = true) (hg : mg C = some (.ref (ga K C)))
    (hk : kws ≠ []) (hms : ∀ q ∈ ms, q ∈ kws) (hD : ∀ g, RelDs K g msD (ms.map (·.2)))
    (h : ∀ (D : Addr) (doc pm : Value) (an : Option Addr) (cdv ct : Value) (us mv ws : List Value), us.length = n + 1 → mv.length = ms.length → ws.length = ks.length →
      KwChain D ((ms.map (·.1)).zip mv) (bindArgs (PySem.W.fnOf x qual params body scope .none (.ref D) doc pm an cdv ct) ⟨us, ks.zip ws⟩) (ps.zip (permL is (us ++ (mv ++ ws))))) :
    DefCK P w K mg base C k ps mm n ks (fun ds zs => permL is (ds ++ (msD ++ zs))) := by
  obtain ⟨mv, B⟩ := F.kbinds0 (n + 1) ks ms (fun us mv ws => permL is (us ++ (mv ++ ws))) hk hms (fun r1 r2 r3 => paired_perm (paired_app r1 (paired_app r2 r3)) is) h
  exact ⟨_, fd, _, _, hF, mkr_ok hm, hg, B, fun g ds vs zs us r1 r2 => paired_perm (paired_app r1 (paired_app (hD g) r2)) is⟩
/-- .. no keyword-only parameters -/
theorem defCK_of0 (n : Nat) (ks : List Str) (is : List Nat) (hF : FnU P w K mg base k (fAd K (C, some "__init__")) fd ps mm) (F : FunD K x qual params body scope [] [] (fAd K (C, some "__init__")) fd) (hm : (Fa.mkr C).ok K = true) (hg : mg C = some (.ref (ga K C)))
    (h : ∀ (kV doc pm : Value) (an : Option Addr) (cdv ct : Value) (us ws : List Value), us.length = n + 1 → ws.length = ks.length → bindArgs (PySem.W.fnOf x qual params body scope .none kV doc pm an cdv ct) ⟨us, ks.zip ws⟩ = pure (ps.zip (permL is (us ++ ws)))) :
    DefCK P w K mg base C k ps mm n ks (fun ds zs => permL is (ds ++ zs)) := by
  refine ⟨_, fd, fun us ws => permL is (us ++ ws), fun vs zs => permL is (vs ++ zs), hF, mkr_ok hm, hg, ⟨fun s us ws X l1 l2 => ?_, fun r1 r2 => paired_perm (paired_app r1 r2) is⟩, fun g ds vs zs us r1 r2 => paired_perm (paired_app r1 r2) is⟩
  obtain ⟨oc, od, dV, kV, doc, pm, an, cdv, ct, osl, rfl, lk, hcd, hD, hK⟩ := F.ex
  rcases hD with ⟨_, rfl⟩ | ⟨e, _⟩
  · exact .of_eq (h kV doc pm an cdv ct us ws l1 l2)
  · exact absurd rfl e
end
end L2.U
namespace L2.U
open PySem PySem.Spec PyProof.Rows He

def sCalm (f : SF) : SF := fun r S => (f r S).calm
section
variable {X : Cx} {W : WX} {body : List Stmt} {h₀ : ExceptHandler} {hs : List ExceptHandler} {pos : Pos} {f : SF}
theorem ss_try0 (hb : SSs X.nox W0 body f) : SS X W (.Try body (h₀ :: hs) [] [] pos) (sCalm f) := ps_imp (ps_try_thru0 hb) fun E σ H ⟨g, r, S, l, e, p⟩ => by
  refine ⟨g, r, S, l, e, ?_⟩
  unfold sCalm at p
  cases q : f r S with
  | ok a r1 S1 =>
    rw [q] at p
    cases a <;> exact p
  | er x r1 S1 => rw [q] at p; exact p.elim
  | no => rw [q] at p; exact p.elim
end
end L2.U
namespace L2.U
open PySem PySem.Spec PyProof.Rows He

/-- C.f is the flat constant d -/
def flatU : Value → Option D
  | .none => some .non
  | .bool b => some (.bl b)
  | .int i _ => some (.int i)
  | .str x _ => some (.str x)
  | _ => none
def cvalB (K : PySem.W.Frag) (C f : Str) (ok : Value → Bool) : Bool := PySem.W.readsIn K (ga K C) (.type "type") && (eqO (PySem.W.specialIn K (.ref (ga K C)) "__getattribute__") (some (some (.builtin "type.__getattribute__"))) && (match PySem.W.findCls K (.ref (ga K C)) (.type "type") f with
  | some (.val u) => ok u
  | _ => false))
def isIntU (i : Int) : Value → Bool
  | .int j _ => decide (j = i)
  | _ => false
def eCval (C : Str) (d : D) (fa : EF) : EF := fun r S => (fa r S).bind fun x r S => match x with
  | .con c => if c = C then .ok d r S else .no
  | _ => .no
section
variable {X : Cx} {W : WX} {e : Expr} {fa : EF} {C f : Str} {i : Int} {pos : Pos}
theorem se_cvalI (h : cvalB X.K C f (isIntU i) = true) (ha : SE X W e fa) (hb : attributeBase e f X.env (eval e X.env) = eval e X.env := by rfl) : SE X W (.Attribute e f pos) (eCval C (.int i) fa) := by
  obtain ⟨h1, h2⟩ := ba h
  obtain ⟨h4, h3⟩ := ba h2
  refine pe_imp (ClX.pe_cval ha hb) fun σ H Q h => td_seq (TD.split (rel := RelD X.K) h) fun xv H1 ⟨g, x, r, S, l, e, rx, p⟩ => ?_
  split at p
  · rename_i c
    split at p
    · rename_i hc
      subst hc
      cases rx
      split at h3
      · rename_i u q
        cases u <;> simp only [isIntU, Bool.false_eq_true, decide_eq_true_eq] at h3
        subst h3
        exact ⟨_, .type "type", .int _, _, rfl, ⟨h1, eqO_ok h4⟩, ⟨q, ⟨_, rfl⟩⟩, post_ok p l e rfl⟩
      · cases h3
    · exact p.elim
  · exact p.elim
end
end L2.U
namespace L2.U
open PySem PySem.Spec PyProof.Rows He

/-- one answer, else another -/
def orGot {α : Type} (o : Option α) (P : α → Prop) (q : Prop) : Prop := match o with
  | some d => P d
  | none => q
@[simp] theorem orGot_some {α : Type} {d : α} {P : α → Prop} {q : Prop} : orGot (some d) P q = P d := propext Iff.rfl
@[simp] theorem orGot_none {α : Type} {P : α → Prop} {q : Prop} : orGot (none : Option α) P q = q := propext Iff.rfl
def fldD (cs : List Str) (f : Str) (S : Sto) (x : D) : Option D := match insOf S x with
  | some (C, ns, ds) => if cs.contains C then (ns.zip ds).lookup f else none
  | none => none
@[simp] def asS : D → Option Str
  | .str z => some z
  | _ => none
@[simp] def asOne : List D → Option D
  | [x] => some x
  | _ => none
theorem asS_str {z : Str} : asS (.str z) = some z := rfl
theorem asOne_one {x : D} : asOne [x] = some x := rfl
theorem asTwo_two {x y : D} : asTwo [x, y] = some (x, y) := rfl
def fmtD : D → Option Str
  | .str y => if y.length ≤ sizeLine then some y else none
  | .int i => if i.natAbs.log2 < 1920 then some (toString i) else none
  | _ => none
section
variable {Z : D → Env → Sto → Prop} {r : Env} {S : Sto} {fa fb fc : EF} {ta tb : TF} {fs ft : AF} {Q : D → Env → Sto → Prop} {T : Bool → Env → Sto → Prop} {L : Fl → Env → Sto → Prop} {f h : SF} {C m : Str} {mm : MF} {n j c : Nat} {cs : List Str} {o : Sto → D → D → Option Bool} {neg : Bool} {dds : List D}
@[simp] theorem wf_er {d : D} {S : Sto} {Q Z : D → Sto → Prop} : wf (.er d S) Q Z = Z d S := propext Iff.rfl
@[simp] theorem wf_no {Q Z : D → Sto → Prop} : wf .no Q Z = False := propext Iff.rfl
@[simp] theorem wp_Ix : wp (eIx fa fb r S) Q Z = wp (fa r S) (fun x r S => wp (fb r S) (fun y r S => got (oIx S x y) fun d => Q d r S) Z) Z := wp_Bin
theorem rng2_int {i j : Int} (h1 : -(2 ^ 62) ≤ i) (h2 : i < 2 ^ 62) (h3 : -(2 ^ 62) ≤ j) (h4 : j < 2 ^ 62) : rng2 [.int i, .int j] = some (rangeD i (j - i).toNat) := by
  show (if -(2 ^ 62) ≤ i ∧ i < 2 ^ 62 ∧ -(2 ^ 62) ≤ j ∧ j < 2 ^ 62 then some (rangeD i (j - i).toNat) else none) = _
  rw [if_pos ⟨h1, h2, h3, h4⟩]
@[simp] theorem wp_Settle : wp (eSettle fa r S) Q Z = wp (fa r S) (fun d _ S1 => ((S1.take S.length).all (bndO S.length) && bnd S.length (fz S.length S1 60 d)) = true ∧ Q (fz S.length S1 60 d) r (S1.take S.length)) Z := by
  unfold eSettle
  cases fa r S with
  | ok d r1 S1 => simp only [wp_ok, wp_ite, wp_no, ite_and]
  | er d r1 S1 => simp only [wp_er]
  | no => simp only [wp_no]
theorem wp_made {x : RF} {n : Nat} : wp (x.made r n) Q Z = wf x (fun d S' => d = .non ∧ Q (.ref n) r S') (fun d S' => Z d r S') := by
  cases x with
  | ok d S' => cases d <;> simp [RF.made]
  | er d S' => simp only [RF.made, wp_er, wf_er]
  | no => simp only [RF.made, wp_no, wf_no]
@[simp] theorem wp_Make : wp (eMake C n mm dds fs r S) Q Z = wp (fs r S) (fun ds r S => (.ref S.length :: (ds ++ dds)).length = n ∧ wf (mm (.ref S.length :: (ds ++ dds)) (S ++ [.ins C [] []])) (fun d S' => d = .non ∧ Q (.ref S.length) r S') (fun d S' => Z d r S')) Z := by
  unfold eMake
  simp only [wp_bind, wp_ite, wp_made, wp_no, ite_and]
@[simp] theorem wp_MakeK {gD : List D → List D → List D} : wp (eMakeK C n j c mm gD fs ft r S) Q Z = wp (fs r S) (fun ds r S => wp (ft r S) (fun zs r S => (ds.length = j ∧ zs.length = c ∧ (gD (.ref S.length :: ds) zs).length = n) ∧ wf (mm (gD (.ref S.length :: ds) zs) (S ++ [.ins C [] []])) (fun d S' => d = .non ∧ Q (.ref S.length) r S') (fun d S' => Z d r S')) Z) Z := by
  unfold eMakeK
  simp only [wp_bind, wp_ite, wp_made, wp_no, ite_and]
@[simp] theorem wp_Fld {f : Str} : wp (eFld cs f fa r S) Q Z = wp (fa r S) (fun x r S => got (fldD cs f S x) fun d => Q d r S) Z := by
  unfold eFld
  simp only [wp_bind]
  congr; funext x r S
  unfold fldD
  cases insOf S x with
  | none => rfl
  | some q =>
    obtain ⟨C, ns, ds⟩ := q
    simp only
    split
    · cases (ns.zip ds).lookup f <;> rfl
    · rfl
@[simp] theorem wp_FldS {f : Str} : wp (sFldS cs f fa fb r S) L Z = wp (fa r S) (fun d r S => wp (fb r S) (fun x r S => got (putD cs f S x d) fun S' => L .nx r S') Z) Z := by
  unfold sFldS
  simp only [wp_bind]
  congr; funext d r S; congr; funext x r S
  cases putD cs f S x d <;> rfl
@[simp] theorem wp_MethC : wp (eMethC C m n mm dds fa fs r S) Q Z = wp (fa r S) (fun x r S => got (insOf S x) fun q => (q.1 = C ∧ (q.2.1.zip q.2.2).lookup m = none) ∧ wp (fs r S) (fun as r S => (x :: (as ++ dds)).length = n ∧ wf (mm (x :: (as ++ dds)) S) (fun d S => Q d r S) (fun d S => Z d r S)) Z) Z := by
  unfold eMethC
  simp only [wp_bind]
  congr; funext x r S
  cases insOf S x with
  | none => rfl
  | some q =>
    obtain ⟨C', ns, ds⟩ := q
    simp only [got_some, wp_ite, wp_bind, wp_run, wp_no, ite_and]
theorem wp_asBl {x : RF} : wp (x.asBl neg r) T Z = wf x (fun d S' => got (asB d) fun b => T (b != neg) r S') (fun _ _ => False) := by
  cases x with
  | ok d S' => cases d <;> simp [RF.asBl]
  | er d S' => simp [RF.asBl]
  | no => simp [RF.asBl]
theorem wp_inCB {x y : D} : wp (inCB C mm neg o x y r S) T Z = orGot (o S x y) (fun b => T b r S) (got (insOf S y) fun q => q.1 = C ∧ wf (mm [y, x] S) (fun d S' => got (asB d) fun b => T (b != neg) r S') (fun _ _ => False)) := by
  unfold inCB
  cases o S x y with
  | some b => simp only [wp_ok, orGot_some]
  | none =>
    cases insOf S y with
    | none => rfl
    | some q => simp only [wp_ite, wp_asBl, wp_no, ite_and, orGot_none, got_some]
theorem wp_eqCB {x y : D} : wp (eqCB C mm o x y r S) T Z = orGot (o S x y) (fun b => T b r S) (got (insOf S x) fun q => (q.1 = C ∧ tyOk C S y = true) ∧ wf (mm [x, y] S) (fun d S' => got (asB d) fun b => T (b != false) r S') (fun _ _ => False)) := by
  unfold eqCB
  cases o S x y with
  | some b => simp only [wp_ok, orGot_some]
  | none =>
    cases insOf S x with
    | none => rfl
    | some q => simp only [wp_ite, wp_asBl, wp_no, ite_and, orGot_none, got_some]
@[simp] theorem wp_InC : wp (eInC C mm neg o fa fb r S) Q Z = wp (fa r S) (fun x r S => wp (fb r S) (fun y r S => orGot (o S x y) (fun b => Q (.bl b) r S) (got (insOf S y) fun q => q.1 = C ∧ wf (mm [y, x] S) (fun d S' => got (asB d) fun b => Q (.bl (b != neg)) r S') (fun _ _ => False))) Z) Z := by
  unfold eInC
  simp only [wp_bind, wp_inCB, wp_ok]
@[simp] theorem wp_tInC : wp (tInC C mm neg o fa fb r S) T Z = wp (fa r S) (fun x r S => wp (fb r S) (fun y r S => orGot (o S x y) (fun b => T b r S) (got (insOf S y) fun q => q.1 = C ∧ wf (mm [y, x] S) (fun d S' => got (asB d) fun b => T (b != neg) r S') (fun _ _ => False))) Z) Z := by
  unfold tInC
  simp only [wp_bind, wp_inCB]
@[simp] theorem wp_EqC : wp (eEqC C mm o fa fb r S) Q Z = wp (fa r S) (fun x r S => wp (fb r S) (fun y r S => orGot (o S x y) (fun b => Q (.bl b) r S) (got (insOf S x) fun q => (q.1 = C ∧ tyOk C S y = true) ∧ wf (mm [x, y] S) (fun d S' => got (asB d) fun b => Q (.bl (b != false)) r S') (fun _ _ => False))) Z) Z := by
  unfold eEqC
  simp only [wp_bind, wp_eqCB, wp_ok]
@[simp] theorem wp_tEqC : wp (tEqC C mm o fa fb r S) T Z = wp (fa r S) (fun x r S => wp (fb r S) (fun y r S => orGot (o S x y) (fun b => T b r S) (got (insOf S x) fun q => (q.1 = C ∧ tyOk C S y = true) ∧ wf (mm [x, y] S) (fun d S' => got (asB d) fun b => T (b != false) r S') (fun _ _ => False))) Z) Z := by
  unfold tEqC
  simp only [wp_bind, wp_eqCB]
theorem wp_asLen {x : RF} : wp (x.asLen r) Q Z = wf x (fun d S' => got (asI d) fun i => (0 ≤ i ∧ i < 2 ^ 63) ∧ Q (.int i) r S') (fun _ _ => False) := by
  cases x with
  | ok d S' => cases d <;> simp [RF.asLen, ite_and]
  | er d S' => simp [RF.asLen]
  | no => simp [RF.asLen]
theorem wp_asTxt {x : RF} : wp (x.asTxt r) Q Z = wf x (fun d S' => got (asS d) fun i => Q (.str i) r S') (fun _ _ => False) := by
  cases x with
  | ok d S' => cases d <;> simp [RF.asTxt]
  | er d S' => simp [RF.asTxt]
  | no => simp [RF.asTxt]
theorem wp_call1 {o : Sto → List D → Option D} {back : Env → RF → R D} : wp (eCall1C C mm o back fs r S) Q Z = wp (fs r S) (fun ds r S => orGot (o S ds) (fun d => Q d r S) (got (asOne ds) fun x => got (insOf S x) fun q => q.1 = C ∧ wp (back r (mm [x] S)) Q Z)) Z := by
  unfold eCall1C
  simp only [wp_bind]
  congr; funext ds r S
  cases o S ds with
  | some d => rfl
  | none =>
    simp only [orGot_none]
    match ds with
    | [x] =>
      simp only [asOne_one, got_some]
      cases insOf S x with
      | none => rfl
      | some q => simp only [got_some, wp_ite, wp_no, ite_and]
    | [] => rfl
    | _ :: _ :: _ => rfl
@[simp] theorem wp_LenC : wp (eCall1C C mm oLen (fun r y => y.asLen r) fs r S) Q Z = wp (fs r S) (fun ds r S => orGot (oLen S ds) (fun d => Q d r S) (got (asOne ds) fun x => got (insOf S x) fun q => q.1 = C ∧ wf (mm [x] S) (fun d S' => got (asI d) fun i => (0 ≤ i ∧ i < 2 ^ 63) ∧ Q (.int i) r S') (fun _ _ => False))) Z := by
  rw [wp_call1]; simp only [wp_asLen]
@[simp] theorem wp_TxtC : wp (eCall1C C mm oNever (fun r y => y.asTxt r) fs r S) Q Z = wp (fs r S) (fun ds r S => got (asOne ds) fun x => got (insOf S x) fun q => q.1 = C ∧ wf (mm [x] S) (fun d S' => got (asS d) fun i => Q (.str i) r S') (fun _ _ => False)) Z := by
  rw [wp_call1]; simp only [wp_asTxt, oNever, orGot_none]
variable {G : Str → Env → Sto → Prop} {k : Str → Env → Sto → R Str} {a : Str}
@[simp] theorem wp_jNil : wp (jNil a r S) G Z = G a r S := propext Iff.rfl
@[simp] theorem wp_jCons : wp (jCons fa k a r S) G Z = wp (fa r S) (fun x r S => got (asS x) fun y => (a ++ y).length ≤ sizeLine ∧ wp (k (a ++ y) r S) G Z) Z := by
  unfold jCons
  simp only [wp_bind]
  congr; funext x r S
  cases x <;> simp [ite_and]
@[simp] theorem wp_Joined : wp (eJoined k r S) Q Z = wp (k Str.empty r S) (fun y r S => Q (.str y) r S) Z := by
  unfold eJoined
  simp only [wp_bind, wp_ok]
@[simp] theorem wp_Fmt : wp (eFmt fa r S) Q Z = wp (fa r S) (fun x r S => got (fmtD x) fun z => Q (.str z) r S) Z := by
  unfold eFmt
  simp only [wp_bind]
  congr; funext x r S
  cases x <;> simp [fmtD, ite_and]
@[simp] theorem wp_Calm : wp (sCalm f r S) L Z = wp (f r S) L (fun _ _ _ => False) := by
  unfold sCalm
  cases f r S <;> simp [R.calm]
@[simp] theorem wp_Cval {d : D} : wp (eCval C d fa r S) Q Z = wp (fa r S) (fun x r S => x = .con C ∧ Q d r S) Z := by
  unfold eCval
  simp only [wp_bind]
  congr; funext x r S
  cases x <;> simp [ite_and]
@[simp] theorem wp_Meth {t : Sto → D → Bool} {o : Sto → D → List D → Option (D × Sto)} : wp (eMeth t o fa fs r S) Q Z = wp (fa r S) (fun x r S => t S x = true ∧ wp (fs r S) (fun ds r S => got (o S x ds) fun q => Q q.1 r q.2) Z) Z := by
  unfold eMeth
  simp only [wp_bind]
  congr; funext x r S
  simp only [wp_ite, wp_bind, wp_no, ite_and]
  congr; funext ds r S
  cases o S x ds <;> rfl
theorem wp_alt1 (h : wp (fa r S) Q Z) : wp (alt fa fb r S) Q Z := by
  unfold alt
  cases q : fa r S with
  | no => rw [q] at h; exact (wp_no ▸ h : False).elim
  | ok d r S => rw [q] at h; exact h
  | er d r S => rw [q] at h; exact h
theorem wp_alt2 (h : fa r S = .no) (h' : wp (fb r S) Q Z) : wp (alt fa fb r S) Q Z := by
  unfold alt
  rw [h]; exact h'
end
/-- a block whose items leave the store -/
theorem comp_maps {α : Type} {i : Nat} {fe : EF} {r : Env} {vs : List Nat} {S : Sto} (f g : α → D) : ∀ {xs : List α}, (∀ x ∈ xs, wp (fe ((wipeE r vs).set i (some (f x))) S) (fun y _ S' => y = g x ∧ S' = S) fun _ _ _ => False) → compF (bName i) tYesB fe r vs (xs.map f) S = .ok (xs.map g) r S
  | [], _ => rfl
  | x :: xs, h => by
    have h1 := h x (List.mem_cons_self ..)
    have h2 := comp_maps f g (xs := xs) fun y hy => h y (List.mem_cons_of_mem _ hy)
    cases q : fe ((wipeE r vs).set i (some (f x))) S with
    | ok y r' S' =>
      rw [q] at h1
      obtain ⟨rfl, rfl⟩ := h1
      simp only [List.map_cons, compF, bName, tYesB, R.calm, R.bind, if_true, q, h2]
    | er y r' S' => rw [q] at h1; exact h1.elim
    | no => rw [q] at h1; exact h1.elim
theorem comp_map {i : Nat} {fe : EF} {r : Env} {vs : List Nat} {S : Sto} (g : D → D) {xs : List D} (h : ∀ x ∈ xs, wp (fe ((wipeE r vs).set i (some x)) S) (fun y _ S' => y = g x ∧ S' = S) fun _ _ _ => False) : compF (bName i) tYesB fe r vs xs S = .ok (xs.map g) r S := by
  have := comp_maps (fe := fe) id g h
  rwa [List.map_id] at this
theorem wf_eq {x : RF} {d : D} {S : Sto} (h : wf x (fun d' S' => d' = d ∧ S' = S) fun _ _ => False) : x = .ok d S := by
  cases x with
  | ok d' S' => obtain ⟨rfl, rfl⟩ := h; rfl
  | er d' S' => exact h.elim
  | no => exact h.elim
theorem bag_bnd {o : AO} {n : Nat} (h : BagO o) : bndO n o = true := by
  obtain ⟨cs, p, a, m, rfl, _⟩ := h
  have : bndL n (cs.map D.int) = true := bndL_of fun x hx => by
    obtain ⟨i, _, rfl⟩ := List.mem_map.mp hx; rfl
  simp [bndO, bndL, bnd, this]
end L2.U
namespace L2.U
open PySem PySem.Spec PyProof.Rows He

def txt (l : List Nat) : Str := ⟨l.toArray⟩
@[simp] theorem txt_cps {l : List Nat} : (txt l).cps.toList = l := by simp [txt]
@[simp] theorem txt_len {l : List Nat} : (txt l).length = l.length := by simp [txt, Str.length]
theorem txt_eta (z : Str) : z = txt z.cps.toList := by cases z; simp [txt]
theorem txt_app {a b : List Nat} : txt a ++ txt b = txt (a ++ b) := by
  show Str.append _ _ = _
  simp [txt, Str.append]
theorem txt_inj {a b : List Nat} : txt a = txt b ↔ a = b := ⟨fun h => by rw [← txt_cps (l := a), h, txt_cps], fun h => by rw [h]⟩
theorem sg_txt {c : Nat} : (⟨#[c]⟩ : Str) = txt [c] := rfl
section
variable {S : Sto} {a b l : List Nat} {c d : Nat}
theorem in_sg {z : Str} : inB S (.str (txt [c])) (.str z) = some (decide (c ∈ z.cps.toList)) := by
  show some (!(Builtin.Str.occurrences z ⟨#[c]⟩ 0 z.length 1).isEmpty) = _
  rw [StrLaws.found_one]
theorem in_sgt : inB S (.str (txt [c])) (.str (txt l)) = some (decide (c ∈ l)) := by
  rw [in_sg, txt_cps]
theorem nin_sgt : notB inB S (.str (txt [c])) (.str (txt l)) = some (!decide (c ∈ l)) := by
  unfold notB
  rw [in_sgt]; rfl
theorem oLen_txt (h : l.length ≤ 4000000) : oLen S [.str (txt l)] = some (.int l.length) := by
  show (if (txt l).length ≤ sizeLine then some (D.int (txt l).length) else none) = _
  rw [txt_len, if_pos (sz_le h)]
theorem eqB_str {x y : Str} : eqB S (.str x) (.str y) = some (decide (x = y)) := by
  simp only [eqB, orB, eqFB, flatD]
  have h : scal (.str x) (.str y) = true := rfl
  rw [if_pos h]
  simp
theorem eqB_txt : eqB S (.str (txt a)) (.str (txt b)) = some (decide (a = b)) := by
  rw [eqB_str]
  simp only [txt_inj]
theorem neB_str {x y : Str} : notB eqB S (.str x) (.str y) = some (!decide (x = y)) := by
  unfold notB
  rw [eqB_str]; rfl
theorem neB_txt : notB eqB S (.str (txt a)) (.str (txt b)) = some (!decide (a = b)) := by
  unfold notB
  rw [eqB_txt]; rfl
theorem ltB_sg : ltB S (.str (txt [c])) (.str (txt [d])) = some (decide (c < d)) := by
  show some (decide ((txt [c]).cps.toList < (txt [d]).cps.toList)) = _
  rw [txt_cps, txt_cps]
  congr 1
  refine decide_eq_decide.mpr ⟨fun h => ?_, fun h => .rel h⟩
  cases h with
  | rel h => exact h
  | cons h => cases h
theorem oIx_txt {n : Nat} (hl : l.length ≤ 4000000) (h : n < l.length) : oIx S (.str (txt l)) (.int n) = some (.str (txt [l[n]])) := by
  show (if (txt l).length ≤ sizeLine then (atI (txt l).cps.toList (n : Int)).map (fun c => D.str ⟨#[c]⟩) else none) = _
  rw [txt_len, if_pos (sz_le hl), txt_cps, atI_nat h]
  rfl
theorem oAdd_txt (h : a.length + b.length ≤ 4000000) : oAdd S (.str (txt a)) (.str (txt b)) = some (.str (txt (a ++ b))) := by
  have h' : (txt a).length + (txt b).length ≤ sizeLine := by
    rw [txt_len, txt_len]; exact sz_le h
  simp only [oAdd, orO, oInt0, oCatS, if_pos h', txt_app]
theorem items_txt : itemsOf (.str (txt l)) = some (l.map fun c => .str (txt [c])) := by
  show some (signsD (txt l)) = _
  unfold signsD
  rw [txt_cps]
  rfl
theorem fmt_txt (h : l.length ≤ 4000000) : fmtD (.str (txt l)) = some (txt l) := by
  show (if (txt l).length ≤ sizeLine then some (txt l) else none) = _
  rw [txt_len, if_pos (sz_le h)]
theorem empty_txt : Str.empty = txt [] := rfl
theorem lit_abc : ("abcdefghijklmnopqrstuvwxyz" : Str) = txt (List.range' 97 26) := by kernel_rfl
theorem lit_nil : ("" : Str) = txt [] := by kernel_rfl
theorem lit_sp : (" " : Str) = txt [32] := by kernel_rfl
theorem mem_abc : c ∈ List.range' 97 26 ↔ 97 ≤ c ∧ c < 123 := by
  rw [List.mem_range']
  constructor
  · rintro ⟨i, h, rfl⟩; omega
  · rintro ⟨h, h'⟩; exact ⟨c - 97, by omega, by omega⟩
theorem get_abc {n : Nat} (h : n < (List.range' 97 26).length) : (List.range' 97 26)[n] = 97 + n := by simp
end
/-! ### cutting and joining -/
def cutL (c : Nat) : List Nat → List (List Nat)
  | [] => [[]]
  | x :: r => if x = c then [] :: cutL c r else match cutL c r with
    | [] => [[x]]
    | p :: q => (x :: p) :: q
theorem cutL_free {c : Nat} : ∀ {a : List Nat}, c ∉ a → cutL c a = [a]
  | [], _ => rfl
  | x :: r, h => by
    simp only [List.mem_cons, not_or] at h
    unfold cutL
    rw [if_neg (Ne.symm h.1), cutL_free h.2]
theorem cutL_app {c : Nat} {b : List Nat} : ∀ {a : List Nat}, c ∉ a → cutL c (a ++ c :: b) = a :: cutL c b
  | [], _ => by
    show (if c = c then [] :: cutL c b else _) = _
    rw [if_pos rfl]
  | x :: r, h => by
    simp only [List.mem_cons, not_or] at h
    show (if x = c then [] :: cutL c (r ++ c :: b) else match cutL c (r ++ c :: b) with
      | [] => [[x]]
      | p :: q => (x :: p) :: q) = _
    rw [if_neg (Ne.symm h.1), cutL_app h.2]
def joinL (s : List Nat) : List (List Nat) → List Nat
  | [] => []
  | [x] => x
  | x :: y :: r => x ++ s ++ joinL s (y :: r)
theorem join_txt {s : List Nat} : ∀ xs : List (List Nat), Str.join (txt s) (xs.map txt) = txt (joinL s xs)
  | [] => rfl
  | [x] => rfl
  | x :: y :: r => by
    show txt x ++ txt s ++ Str.join (txt s) ((y :: r).map txt) = txt (x ++ s ++ joinL s (y :: r))
    rw [join_txt (y :: r), txt_app, txt_app]
theorem cut_join {c : Nat} : ∀ {xs : List (List Nat)}, xs ≠ [] → (∀ x ∈ xs, c ∉ x) → cutL c (joinL [c] xs) = xs
  | [], h, _ => absurd rfl h
  | [x], _, h => cutL_free (h x (List.mem_cons_self ..))
  | x :: y :: r, _, h => by
    show cutL c (x ++ [c] ++ joinL [c] (y :: r)) = _
    rw [List.append_assoc]
    show cutL c (x ++ c :: joinL [c] (y :: r)) = _
    rw [cutL_app (h x (List.mem_cons_self ..)), cut_join (by simp) fun z hz => h z (List.mem_cons_of_mem _ hz)]
theorem txts (ps : List Str) : ps = (ps.map fun p => p.cps.toList).map txt := by
  induction ps with
  | nil => rfl
  | cons p ps ih =>
    simp only [List.map_cons]
    rw [← ih, ← txt_eta]
theorem map_txt_inj : ∀ {xs ys : List (List Nat)}, xs.map txt = ys.map txt → xs = ys
  | [], [], _ => rfl
  | [], _ :: _, h => by simp at h
  | _ :: _, [], h => by simp at h
  | x :: xs, y :: ys, h => by
    simp only [List.map_cons, List.cons.injEq, txt_inj] at h
    rw [h.1, map_txt_inj h.2]
/-- a text cut at a sign -/
theorem split_txt {c : Nat} {l : List Nat} : Txt.split (txt l) (txt [c]) = (cutL c l).map txt := by
  have h1 := StrLaws.join_split (txt l) (txt [c])
  have h2 : ∀ p ∈ Txt.split (txt l) (txt [c]), c ∉ p.cps.toList := StrLaws.split_free (txt l) c
  have h3 := (fact_split (txt l) (txt [c])).1
  generalize Txt.split (txt l) (txt [c]) = ps at h1 h2 h3 ⊢
  rw [txts ps] at h1 ⊢
  rw [join_txt, txt_inj] at h1
  congr 1
  rw [← h1]
  refine (cut_join ?_ ?_).symm
  · cases ps with
    | nil => simp at h3
    | cons p ps => simp
  · intro x hx
    obtain ⟨p, hp, rfl⟩ := List.mem_map.mp hx
    exact h2 p hp
theorem glue_txt {s : List Nat} {xs : List (List Nat)} : Txt.join (txt s) (xs.map txt) = txt (joinL s xs) := by
  show Builtin.Str.glued _ _ = _
  rw [StrLaws.glued_eq_join, join_txt]
theorem joinL_sg : ∀ l : List Nat, joinL [] (l.map fun c => [c]) = l
  | [] => rfl
  | [x] => rfl
  | x :: y :: r => by
    show [x] ++ [] ++ joinL [] ((y :: r).map fun c => [c]) = _
    rw [joinL_sg (y :: r)]
    rfl
theorem strsD_txt : ∀ xs : List (List Nat), strsD (xs.map fun x => .str (txt x)) = some (xs.map txt)
  | [] => rfl
  | x :: xs => by simp only [List.map_cons, strsD, strsD_txt xs, Option.map_some]
theorem mJoin_txt {S : Sto} {s : List Nat} {xs : List (List Nat)} {d : D} (hd : seqOf S d = some (xs.map fun x => .str (txt x))) (h : (xs.map (·.length)).sum + xs.length * s.length ≤ 16777216) : mJoin S (.str (txt s)) [d] = some (.str (txt (joinL s xs)), S) := by
  have e : ((xs.map txt).map (·.length)).sum + (xs.map txt).length * (txt s).length ≤ 16777216 := by
    rw [List.map_map]
    have : ((·.length) ∘ txt : List Nat → Nat) = (·.length) := by funext x; simp
    rw [this, List.length_map, txt_len]
    exact h
  simp only [mJoin, hd, Option.bind_some, strsD_txt, if_pos e, glue_txt]
theorem mSplit_txt {S : Sto} {c : Nat} {l : List Nat} (h : l.length ≤ 3000000) : mSplit S (.str (txt l)) [.str (txt [c])] = some (.lst ((cutL c l).map fun x => .str (txt x)), S) := by
  have e : ((txt [c]).length == 0) = false ∧ (txt l).length + 2 ≤ sizeLine := ⟨by simp, by rw [txt_len]; exact sz_le (by omega)⟩
  simp only [mSplit, if_pos e, split_txt, List.map_map]
  rfl
/-! ### instances that are new -/
section
variable {S : Sto} {cs ns : List Str} {C f : Str} {ds : List D} {d : D}
theorem last_get {o : AO} : (S ++ [o])[S.length]? = some o := by simp
theorem last_set {o o' : AO} : (S ++ [o]).set S.length o' = S ++ [o'] := by simp
theorem last_take {o : AO} : (S ++ [o]).take S.length = S := by simp
theorem putD_last (h : (cs.contains C && decide (ns.length < 1000)) = true) : putD cs f (S ++ [.ins C ns ds]) (.ref S.length) d = some (S ++ [.ins C (setF f d ns ds).1 (setF f d ns ds).2]) := by
  simp only [putD, last_get, h, if_true, last_set]
theorem insOf_last : insOf (S ++ [.ins C ns ds]) (.ref S.length) = some (C, ns, ds) := by
  simp only [insOf, last_get]
theorem fz_last (hd : bndL S.length ds = true) : fz S.length (S ++ [.ins C ns ds]) 60 (.ref S.length) = .ins C ns ds := by
  have e : fz S.length (S ++ [.ins C ns ds]) 60 (.ref S.length) = .ins C ns (ds.map (fz S.length (S ++ [.ins C ns ds]) 59)) := by
    simp only [fz, last_get, Nat.lt_irrefl, if_false]
  rw [e]
  congr 1
  conv => rhs; rw [← List.map_id ds]
  exact List.map_congr_left fun x hx => fz_id 59 x (bndL_all.mp hd x hx)
/-- the new one is by value -/
theorem settle_last {Q : D → Sto → Prop} (hS : S.all (bndO S.length) = true) (hd : bndL S.length ds = true) (q : Q (.ins C ns ds) S) :
    (((S ++ [AO.ins C ns ds]).take S.length).all (bndO S.length) && bnd S.length (fz S.length (S ++ [AO.ins C ns ds]) 60 (.ref S.length))) = true ∧ Q (fz S.length (S ++ [AO.ins C ns ds]) 60 (.ref S.length)) ((S ++ [AO.ins C ns ds]).take S.length) := by
  rw [fz_last hd, last_take]
  refine ⟨?_, q⟩
  rw [hS]
  simpa [bnd] using hd
end
end L2.U
namespace L2.U
open PySem PySem.Spec PyProof.Rows He

/-- the tuple at a: each item in a new pair with its place -/
def IteT (K : PySem.W.Frag) (a : Addr) : It :=
  ⟨fun n G => ∃ (ys : List V) (y : V), SqT K G a ys ∧ ys[n]? = some y, fun n G z G' => ∃ T y, z = .ref T ∧ G T = none ∧ G' = upd G T (.tup [.int (n : Nat), y]) ∧ ∀ ys, SqT K G a ys → ys[n]? = some y, fun n G => ∃ ys : List V, SqT K G a ys ∧ ys.length = n⟩
section
variable {P : Program} {w : World} {K : PySem.W.Frag} {elts : List Expr} {kk : Nat} {tpos : Pos}
theorem turn_enumT (a en it : Addr) :
    Turn P w K (.Tuple elts kk tpos) (IteT K a) [en, it] en (fun n h => (∃ old, IsEnum h en it ((n : Nat) : Int) old) ∧ h.IsTupleIter it a n ∧ en ≠ it ∧ a ≠ it ∧ a ≠ en) where
  mem := by simp
  obj := fun n h st b hb => by
    obtain ⟨⟨old, he⟩, ⟨o, ho, hc, hd⟩, _⟩ := st
    rcases List.mem_cons.mp hb with rfl | hb
    · exact ⟨_, he, fun v q => nomatch q⟩
    · cases List.mem_singleton.mp hb
      exact ⟨o, ho, fun v q => by rw [hd] at q; cases q⟩
  keep := fun n h h' st k => by
    obtain ⟨⟨old, he⟩, hi, hne⟩ := st
    exact ⟨⟨old, k en (by simp) _ he⟩, hi.at fun o q => k it (by simp) o q, hne⟩
  item := by
    intro X hP hw hK hc n pins s σ G E I hf st hg
    subst hP hw hK
    obtain ⟨⟨old, he⟩, hit, ne1, ne2, ne3⟩ := st
    obtain ⟨ys, y, hq, hy⟩ := hg
    obtain ⟨vals, rv, tp, hz⟩ := I.tuple hq
    obtain ⟨u, hu, ru⟩ := rv.get hy
    have le : en < s.heap.objs.size := Heap.lt_size he
    have li : it < s.heap.objs.size := by
      obtain ⟨_, q, _⟩ := hit
      exact Heap.lt_size q
    have Dr := Draws.tuple (prog := X.prog) (w := X.w) (A := X.A.in1) (I.ok.hd hc) it a ne2 vals.toArray
    have lt : n < vals.toArray.size := by
      obtain ⟨q, _⟩ := List.getElem?_eq_some_iff.mp hu
      simpa using q
    refine wpAny_pyNext_enum_itemD Dr he ⟨hit, tp⟩ lt ne1 (by simp [ne1, Ne.symm ne3]) fun u' h1 tk hu' out st1 hT hsz hk => ?_
    have eu : u' = u := by
      have : vals[n]? = some u' := by simpa using hu'
      rw [this] at hu; exact Option.some.inj hu
    subst eu
    refine ⟨_, rfl, wpAny_letOwnedTupleGo_enum (s := { s with heap := h1, toks := tk + 1 }) out fun h2 he2 sb => ?_⟩
    have hT2 : h2.get? s.heap.objs.size = some { cls := .type "tuple", data := .seq #[.int n tk, u'] } := (sb.2 _ (Nat.ne_of_gt le)).trans hT
    have fresh : ObjOk X.prog X.w (upd G s.heap.objs.size (.tup [.int (n : Nat), y])) h2 s.heap.objs.size (.tup [.int (n : Nat), y]) :=
      ⟨by show 2 ≤ sizeLine; decide, [.int n tk, u'], .cons ⟨_, rfl⟩ (.cons ru .nil), ⟨_, hT2, rfl, _, rfl⟩⟩
    have J : Inv X pins σ (upd G s.heap.objs.size (.tup [.int (n : Nat), y])) { s with heap := h2, toks := tk + 1 } :=
      I.turnedNew (ch := [en, it]) (fun b o hb q => (sb.2 b (fun z => hb (by simp [z]))).trans (hk b o (fun z => hb (by simp [z])) (fun z => hb (by simp [z])) q)) hf (Nat.le_refl _) fresh
    refine ⟨.ref s.heap.objs.size, _, J, rfl, ⟨_, y, rfl, I.hok.fresh (Nat.le_refl _), rfl, fun zs hz => by rw [I.tuple_inj hz hq]; exact hy⟩, ⟨⟨u', ?_⟩, st1.1.at fun o q => (sb.2 it (Ne.symm ne1)).trans q, ne1, ne2, ne3⟩, fun b hb => ?_⟩
    · rw [show ((n + 1 : Nat) : Int) = (n : Int) + 1 by omega]
      exact he2
    · have lb : b < s.heap.objs.size := by
        rcases List.mem_cons.mp hb with rfl | hb
        · exact le
        · cases List.mem_singleton.mp hb
          exact li
      rw [upd_ne (Nat.ne_of_lt lb)]
      exact (hf b hb).1
  done := by
    intro X hP hw hK hc n pins s σ G E I hf st hg
    subst hP hw hK
    obtain ⟨⟨old, he⟩, hit, ne1, ne2, ne3⟩ := st
    obtain ⟨ys, hq, hy⟩ := hg
    obtain ⟨vals, rv, tp, hz⟩ := I.tuple hq
    obtain ⟨z0, z1, _, z3, z4, z5⟩ := hf it (by simp)
    have hl := rv.length
    obtain rfl : n = vals.toArray.size := by simp; omega
    have Dr := Draws.tuple (prog := X.prog) (w := X.w) (A := X.A.in1) (I.ok.hd hc) it a ne2 vals.toArray
    exact wpAny_pyNext_enum_endD Dr he ⟨hit, tp⟩ fun h' eb => ⟨rfl, I.turned (t' := s.toks) (fun b o hb q => eb b o hb q) z0 z1 z3 z4 z5⟩
  self := fun A n s Q E st h => by
    obtain ⟨⟨_, he⟩, _⟩ := st
    exact wpAny_pyIter_enum he h
/-- enumerate(v): its two new cells -/
theorem meets_enumB {v : Value} {o : Obj} {G : Heap → Prop} (B : Begins v o G) :
    Meets (Builtin.«enumerate.__new__» ⟨[.type "enumerate", v], []⟩) (fun _ R s => G s.heap ∧
      R (.ok (.ret (.ref (s.heap.push o).objs.size))) { s with heap := (s.heap.push o).push { cls := .type "enumerate", data := .fields #[.none, .bool false, .ref s.heap.objs.size, rawInt 0, .none, .none] } }) :=
  .of_wp fun prog w A R s h => by
    obtain ⟨hp, gl, dp, tk, os⟩ := s
    obtain ⟨h1, h⟩ := h
    have hsub := sub_enumerate
    have q1 : ∀ {A' : Around} {E : Value → Shared → Prop} {Q : Value → Shared → Prop}, Q (.ref hp.objs.size) ⟨hp.push o, gl, dp, tk, os⟩ → wpAny (model prog w) A' (pyIter v) Q E ⟨hp, gl, dp, tk, os⟩ :=
      fun q => B.iter prog w _ _ ⟨hp, gl, dp, tk, os⟩ _ h1 q
    wp_walk using q1
    refine wpAny_stack_any fun st => wpAny_pure ?_
    split
    · rename_i c _ _ _ _ _
      cases (c == Value.type "enumerate") <;>
      · wp_walk using q1
        exact ⟨_, rfl, h⟩
    · wp_walk using q1
      exact ⟨_, rfl, h⟩
theorem call_enumB {prog : Program} {w : World} {A : Around} {E : Value → Shared → Prop} {s : Shared} {v : Value} {o : Obj} {G : Heap → Prop} {Q : Value → Shared → Prop} (B : Begins v o G) (h1 : G s.heap)
    (h : ∀ h', IsEnum h' (s.heap.objs.size + 1) s.heap.objs.size 0 .none → h'.get? s.heap.objs.size = some o → h'.objs.size = s.heap.objs.size + 2 →
      (∀ b x, s.heap.get? b = some x → h'.get? b = some x) → Q (.ref (s.heap.objs.size + 1)) { s with heap := h' }) :
    wpAny (model prog w) A (call (.type "enumerate") [v]) Q E s := by
  refine callType_new F.called_enumerate (by decide) (F.typeCall_enumerate_1 _) (F.newCall_enumerate_1 _) (fun obj => F.args_object_init_2 obj _) F.entry_enumerate_new (meets_enumB B) ⟨h1, ?_⟩
  have hz : (s.heap.push o).objs.size = s.heap.objs.size + 1 := Heap.size_push ..
  show _ ∧ _
  rw [hz]
  generalize hb : (s.heap.push o).push { cls := .type "enumerate", data := .fields #[.none, .bool false, .ref s.heap.objs.size, rawInt 0, .none, .none] } = hh
  have he : IsEnum hh (s.heap.objs.size + 1) s.heap.objs.size 0 .none := by
    rw [← hb, ← hz]
    exact Heap.get?_push_size _ rfl
  refine ⟨⟨_, he, rfl⟩, h _ he ?_ ?_ fun b x q => ?_⟩
  · rw [← hb]; exact Heap.get?_push_of_some _ (Heap.get?_push_size _ B.free)
  · rw [← hb, Heap.size_push, hz]
  · rw [← hb]; exact Heap.get?_push_of_some _ (Heap.get?_push_of_some _ q)
end
section
variable {X : Cx} {W : WX} {e : Expr} {fs : AF} {p pos tpos : Pos} {elts : List Expr} {kk : Nat}
def iEnumK (K : PySem.W.Frag) (ta : TA) : TI := fun σ G R' => ta σ G fun vs G1 => ∃ a xs, vs = [.ref a] ∧ SqT K G1 a xs ∧ R' (IteT K a) G1
theorem pi_enumT {ta : TA} (hg : Gl X "enumerate") (hm : X.mg "enumerate" = none) (ha : PA X [e] ta) (hs : starEach [e] X.env = [(false, eval e X.env)] := by rfl) :
    PI X (.Tuple elts kk tpos) (.Call (.Name "enumerate" p) [e] [] pos) (iEnumK X.K ta) := by
  refine ⟨fun pins s σ G R' I h => ?_⟩
  refine Call_ (ld_blt I hg hm boot_enumerate (PyProof.Rows.callWith_type1 (thn (ha.run pos pins s σ G _ I h) fun us s1 ⟨vs, G1, I1, r1, a, xs, ex, hq, q⟩ => ?_) hs rfl))
  subst ex
  cases r1 with
  | cons r0 rr =>
    cases rr
    cases r0
    obtain ⟨vals, rv, tp, hz⟩ := I1.tuple hq
    have la : a < s1.heap.objs.size := by
      obtain ⟨_, x, _⟩ := tp
      exact Heap.lt_size x
    refine call_enumB (begins_tuple a vals.toArray) tp fun h' he hit hsz hk => wpAny_pyIter_enum he ?_
    have I2 : Inv X pins σ G1 { s1 with heap := h' } := I1.kept (t' := s1.toks) hk
    refine ⟨s1.heap.objs.size + 1, [s1.heap.objs.size + 1, s1.heap.objs.size], _, _, G1, rfl, I2, turn_enumT a (s1.heap.objs.size + 1) s1.heap.objs.size, ⟨⟨.none, he⟩, ⟨_, hit, rfl, rfl⟩, Nat.succ_ne_self _, Nat.ne_of_lt la, Nat.ne_of_lt (Nat.lt_succ_of_lt la)⟩, fun b hb => ?_, q⟩
    have le : s1.heap.objs.size ≤ b := by
      rcases List.mem_cons.mp hb with rfl | hb
      · exact Nat.le_succ _
      · rw [List.mem_singleton.mp hb]; exact Nat.le_refl _
    exact I1.fpOk le (I1.hok.fresh le)
theorem walk_ite {K : PySem.W.Frag} {a : Addr} {n : Nat} : Walk (Ite K a) n (fun G => ∃ vs, SqL K G a vs ∧ vs.length = n) (fun i G z G' => ∃ T y, z = .ref T ∧ G T = none ∧ G' = upd G T (.tup [.int (i : Nat), y]) ∧ ∀ ys, SqL K G a ys → ys[i]? = some y) :=
  ⟨fun i _ hi ⟨vs, q, hl⟩ => ⟨vs, vs[i]'(by omega), q, by simp [show i < vs.length by omega]⟩, fun _ ⟨vs, q, hl⟩ => ⟨vs, q, by omega⟩, fun _ _ _ _ _ _ y => y⟩
theorem walk_iteT {K : PySem.W.Frag} {a : Addr} {n : Nat} : Walk (IteT K a) n (fun G => ∃ vs, SqT K G a vs ∧ vs.length = n) (fun i G z G' => ∃ T y, z = .ref T ∧ G T = none ∧ G' = upd G T (.tup [.int (i : Nat), y]) ∧ ∀ ys, SqT K G a ys → ys[i]? = some y) :=
  ⟨fun i _ hi ⟨vs, q, hl⟩ => ⟨vs, vs[i]'(by omega), q, by simp [show i < vs.length by omega]⟩, fun _ ⟨vs, q, hl⟩ => ⟨vs, q, hl⟩, fun _ _ _ _ _ _ y => y⟩
def enumD (xs : List D) : List D := xs.zipIdx.map fun q => .tup [.int q.2, q.1]
theorem enumD_len {xs : List D} : (enumD xs).length = xs.length := by simp [enumD]
theorem enumD_get {xs : List D} {i : Nat} {d : D} (h : (enumD xs)[i]? = some d) : ∃ x, xs[i]? = some x ∧ d = .tup [.int (i : Nat), x] := by
  simp only [enumD, List.getElem?_map, List.getElem?_zipIdx, Option.map_map, Option.map_eq_some_iff] at h
  obtain ⟨x, h1, rfl⟩ := h
  exact ⟨x, h1, by simp⟩
def iEnumLD (fs : AF) : AF := fun r S => (fs r S).bind fun ds r S => match ds with
  | [d] => (match vlst d with
    | some xs => .ok (enumD xs) r S
    | none => .no)
  | _ => .no
def iEnumTD (fs : AF) : AF := fun r S => (fs r S).bind fun ds r S => match ds with
  | [.tup xs] => .ok (enumD xs) r S
  | _ => .no
def iEnumU (fs : AF) : AF := fun r S => (fs r S).bind fun ds r S => match ds with
  | [.tup xs] => .ok (enumD xs) r S
  | [d] => (match vlst d with
    | some xs => .ok (enumD xs) r S
    | none => .no)
  | _ => .no
theorem src_enumL {σ : St} {H : Hp} {R' : It → Hp → Prop} (h : TD X.K W (fun g xs J => SrcOk X.K g xs J) (iEnumLD fs) σ H R') : iEnum X.K (TD X.K W (RelDs X.K) fs) σ H R' := by
  refine td_seq (TD.split (rel := RelDs X.K) h) fun v H1 ⟨g, ds, r, S, l, e, rd, p⟩ => ?_
  split at p
  · split at p
    · rename_i xs hx
      obtain ⟨v0, rfl, rx⟩ := rel1 rd
      obtain ⟨a, vs, rfl, hs, rs⟩ := lst_view l rx (vlst_lst hx)
      refine ⟨a, vs, rfl, hs, post_ok p l e ⟨_, _, by rw [enumD_len]; exact walk_ite, fun g' S' H' x' l' => ?_, fun i d' g1 S1 H' x H2 hi x' l' y => ?_⟩⟩
      · obtain ⟨b, us, eb, hs', rs'⟩ := lst_view l' (rx.monoW x') (vlst_lst hx)
        cases eb
        exact ⟨us, hs', rs'.length.symm⟩
      · obtain ⟨T, y0, rfl, hT, rfl, hy⟩ := y
        obtain ⟨x0, hx0, rfl⟩ := enumD_get hi
        obtain ⟨b, us, eb, hs', rs'⟩ := lst_view l' (rx.monoW x') (vlst_lst hx)
        cases eb
        obtain ⟨u, hu, ru⟩ := rs'.get hx0
        have := hy us hs'
        rw [hu] at this
        cases this
        exact l'.newTup hT (.cons rfl (.cons ru .nil))
    · exact p.elim
  · exact p.elim
theorem src_enumT {σ : St} {H : Hp} {R' : It → Hp → Prop} (h : TD X.K W (fun g xs J => SrcOk X.K g xs J) (iEnumTD fs) σ H R') : iEnumK X.K (TD X.K W (RelDs X.K) fs) σ H R' := by
  refine td_seq (TD.split (rel := RelDs X.K) h) fun v H1 ⟨g, ds, r, S, l, e, rd, p⟩ => ?_
  split at p
  · rename_i xs
    obtain ⟨v0, rfl, rx⟩ := rel1 rd
    obtain ⟨a, vs, rfl, hs, rs⟩ := tup_view l rx
    refine ⟨a, vs, rfl, hs, post_ok p l e ⟨_, _, by rw [enumD_len]; exact walk_iteT, fun g' S' H' x' l' => ?_, fun i d' g1 S1 H' x H2 hi x' l' y => ?_⟩⟩
    · obtain ⟨b, us, eb, hs', rs'⟩ := tup_view l' (rx.monoW x')
      cases eb
      exact ⟨us, hs', rs'.length.symm⟩
    · obtain ⟨T, y0, rfl, hT, rfl, hy⟩ := y
      obtain ⟨x0, hx0, rfl⟩ := enumD_get hi
      obtain ⟨b, us, eb, hs', rs'⟩ := tup_view l' (rx.monoW x')
      cases eb
      obtain ⟨u, hu, ru⟩ := rs'.get hx0
      have := hy us hs'
      rw [hu] at this
      cases this
      exact l'.newTup hT (.cons rfl (.cons ru .nil))
  · exact p.elim
theorem it_enum (hm : X.mg "enumerate" = none) (ha : SA X W [e] fs) (hg : Gl X "enumerate" := by rfl) (hs : starEach [e] X.env = [(false, eval e X.env)] := by rfl) : IterU X W (.Tuple elts kk tpos) (.Call (.Name "enumerate" p) [e] [] pos) (iEnumU fs) := by
  refine ⟨_, pi_or (pi_enumT hg hm ha hs) (pi_enum hg hm ha hs), fun σ H R' ⟨g, r, S, l, re, p⟩ => ?_⟩
  cases q : fs r S with
  | ok ds r1 S1 =>
    unfold iEnumU at p
    rw [q] at p
    match ds, q, p with
    | [.tup xs], q, p => exact .inl (src_enumT ⟨g, r, S, l, re, by unfold iEnumTD; rw [q]; exact p⟩)
    | [.lst xs], q, p => exact .inr (src_enumL ⟨g, r, S, l, re, by unfold iEnumLD; rw [q]; exact p⟩)
    | [.fz xs], q, p => exact .inr (src_enumL ⟨g, r, S, l, re, by unfold iEnumLD; rw [q]; exact p⟩)
    | [.non], q, p | [.bl _], q, p | [.int _], q, p | [.str _], q, p | [.ty _], q, p | [.con _], q, p | [.dic _ _], q, p | [.ins _ _ _], q, p | [.ref _], q, p => exact p.elim
    | [], q, p => exact p.elim
    | h :: _ :: _, q, p => cases h <;> exact p.elim
  | er x r1 S1 => exact .inl (src_enumT ⟨g, r, S, l, re, by unfold iEnumTD; unfold iEnumU at p; rw [q] at p ⊢; exact p⟩)
  | no => unfold iEnumU at p; rw [q] at p; exact p.elim
end
end L2.U
namespace L2.U
open PySem PySem.Spec PyProof.Rows He

/-- n values ahead, the others as one tuple -/
def spStar (K : PySem.W.Frag) (n : Nat) (mm : MF) : Sp := fun vs H Q E => ∃ ws rest, vs = ws ++ rest ∧ ws.length = n ∧ rest.length ≤ sizeLine ∧ ∀ p, H p = none → spU K (n + 1) mm (ws ++ [V.ref p]) (upd H p (.tup rest)) Q E
structure DefR (P : Program) (w : World) (K : PySem.W.Frag) (mg : Str → Option Value) (base : Heap) (C : Str) (k j : Nat) (mm : MF) : Prop where
  ex : ∃ f, FnR P w K mg base (L2.CX P w) k f (spStar K (j + 1) mm) ∧ Mk K (ga K C) f ∧ mg C = some (.ref (ga K C))
section
variable {P : Program} {w : World} {K : PySem.W.Frag} {mg : Str → Option Value} {base : Heap} {x qual : Str} {params : Arguments} {body : List Stmt} {scope : Scope} {f : Addr} {fd : FuncData} {N ps : List Str} {k : Nat}
theorem fn_rawS {pv : Str} (F : FunD K x qual params body scope [] [] f fd) (S : FnScope N (ps ++ [pv]) scope) (fb : SF)
    (hb : ∀ (kV doc pm : Value) (an : Option Addr) (cdv ct : Value) (us rest : List Value), us.length = ps.length → bindArgs (PySem.W.fnOf x qual params body scope .none kV doc pm an cdv ct) ⟨us ++ rest, []⟩ = (newTuple rest >>= fun t => pure (ps.zip us ++ [(pv, t)])))
    (hbody : BodyU P w K mg base k N qual scope f body fb) : FnR P w K mg base (L2.CX P w) (k + 1) f (spStar K ps.length (rawM N.length fb)) := by
  obtain ⟨oc, od, dV, kV, doc, pm, an, cdv, ct, osl, rfl, lk, hcd, hD, hK⟩ := F.ex
  rcases hD with ⟨_, rfl⟩ | ⟨e, _⟩
  · refine StX.fn_star (sp := spU K (ps.length + 1) (rawM N.length fb)) lk hcd S StX.cxUp (hb kV doc pm an cdv ct) fun A outer s H vs Q E hr h => ⟨TSd K (wOf E) fb, hbody cdv A outer s H E hr (takes_of rfl rfl rfl rfl) (passes_of rfl), ?_⟩
    obtain ⟨hl, g, ds, S, l, rd, p⟩ := h
    refine ⟨g, _, S, l, start_rel rd, ?_⟩
    unfold rawM at p
    cases q : fb (startE N.length ds) S with
    | ok a r S1 =>
      rw [q] at p
      cases a with
      | nx => exact fun g' H' σ' e l' _ => p g' H' .non e l' rfl
      | rt d => exact p
      | bk => exact p.elim
      | ct => exact p.elim
    | er y r S1 =>
      rw [q] at p
      exact fun g' H' σ' cls od e l' _ r' => p g' H' cls od e l' r'
    | no => rw [q] at p; exact p.elim
  · exact absurd rfl e
theorem defR_of {C : Str} {j : Nat} {mm : MF} (hF : FnR P w K mg base (L2.CX P w) k (fAd K (C, some "__init__")) (spStar K (j + 1) mm)) (hm : (Fa.mkr C).ok K = true) (hg : mg C = some (.ref (ga K C))) : DefR P w K mg base C k j mm :=
  ⟨_, hF, mkr_ok hm, hg⟩
end
/-- the new instance, what its __init__ does -/
def goR (C : Str) (j : Nat) (mm : MF) (ds : List D) : Env → Sto → R D := fun r S =>
  if j ≤ ds.length ∧ ds.length ≤ sizeLine then (mm (.ref S.length :: (ds.take j ++ [.tup (ds.drop j)])) (S ++ [.ins C [] []])).made r S.length else .no
def eMakeR (C : Str) (j : Nat) (mm : MF) (fs : AF) : EF := fun r S => (fs r S).bind fun ds r S => goR C j mm ds r S
/-- C( *e) -/
def eMakeS (C : Str) (j : Nat) (mm : MF) (fe : EF) : EF := fun r S => (fe r S).bind fun x r S => match seqOf S x with
  | some ds => goR C j mm ds r S
  | none => .no
section
variable {X : Cx} {W : WX} {pins : List (Addr × Obj)} {σ : St} {H : Hp} {s : Shared} {Q : VK} {us : List Value} {vs : List V} {k j : Nat} {mm : MF} {C : Str} {g : Gh} {r : Env} {S : Sto} {ds : List D}
theorem run_mkR {sp : Sp} {E : XK} {fI : Addr} (M : Mk X.K (ga X.K C) fI) (F : FnR X.prog X.w X.K X.mg X.base (L2.CX X.prog X.w) k fI sp) (room : Room (k + 1) X.A) (out : PassesAt (L2.CX X.prog X.w) X σ E) (inv : Inv X pins σ H s) (rel : Vals vs us)
    (says : sp (V.ref (s.heap.objs.size + 1) :: vs) (upd (upd H s.heap.objs.size (.own (s.heap.objs.size + 1))) (s.heap.objs.size + 1) (.ins (ga X.K C) s.heap.objs.size [])) (fun v H2 => v = .non ∧ Q (.ref (s.heap.objs.size + 1)) H2) E) :
    wpAny (model X.prog X.w) X.A (call (.ref (ga X.K C)) us) (EP X pins σ Q) X.xe s := by
  have inv2 := Inv.made (C := ga X.K C) inv
  have rel2 : Vals (V.ref (s.heap.objs.size + 1) :: vs) (Value.ref (s.heap.objs.size + 1) :: us) := .cons rfl rel
  refine wpAny_call (make_map (f := fI) inv.kIn M.makes M.init (beq_iff_eq.mp M.fn) (codeAny_mono (F _ X.stack _ _ _ _ _ E (room.make (ga X.K C) us []) (inv2.env0.make (ga X.K C) us []) rel2 says) fun res t back => ?_))
  match res, back with
  | .error e, back => exact out pins _ _ e t inv2 back
  | .ok (.ret u), back =>
    obtain ⟨v, H3, inv3, ru, hv, hQ⟩ := inv2.after back
    subst hv
    exact ⟨ru, .ref (s.heap.objs.size + 1), H3, inv3, rfl, hQ⟩
theorem madeR_sp (l : Rl X.K g S H) (e : REnv X.K g r σ) {x dx : Addr} (hx : H x = none) (hdx : H dx = none) (ne : dx ≠ x) (rd : RelDs X.K g ds vs) (p : PostG X.K W (RelD X.K) g σ (goR C j mm ds r S) Q) :
    spStar X.K (j + 1) mm (.ref x :: vs) (upd (upd H dx (.own x)) x (.ins (ga X.K C) dx [])) (fun v H2 => v = .non ∧ Q (.ref x) H2) (fun cls od H => W cls od σ H) := by
  unfold goR at p
  split at p
  · rename_i hc
    have hl := rd.length
    have x1 := Gh.add_ext (g := g) (p := x)
    refine ⟨.ref x :: vs.take j, vs.drop j, by rw [List.cons_append, List.take_append_drop], by rw [List.length_cons, List.length_take, Nat.min_eq_left (by omega)], by rw [List.length_drop]; exact Nat.le_trans (Nat.sub_le _ _) (by rw [← hl]; exact hc.2), fun q hq => ?_⟩
    obtain ⟨g2, x2, l2, r2⟩ := (made_rel (C := C) l hx hdx ne).newTup hq ((rd.drop j).mono x1)
    have ra : RelDs X.K g2 (.ref S.length :: (ds.take j ++ [.tup (ds.drop j)])) (.ref x :: vs.take j ++ [.ref q]) := by
      rw [List.cons_append]
      exact .cons ((add_ref l).mono x2) ((((rd.take j).mono x1).mono x2).append (.cons r2 .nil))
    refine ⟨?_, g2, _, _, l2, ra, ?_⟩
    · simp only [List.length_append, List.length_cons, List.length_nil, List.length_take]
      omega
    cases qm : mm (.ref S.length :: (ds.take j ++ [.tup (ds.drop j)])) (S ++ [.ins C [] []]) with
    | ok d S' =>
      rw [qm] at p
      cases d <;> try (exact p.elim)
      intro g' H' v x' l' r'
      cases r'
      have x3 := x1.trans (x2.trans x')
      refine ⟨rfl, p g' H' _ x3 l' (e.mono x3) ?_⟩
      have hm : g'.m S.length = x := by
        rw [(x2.trans x').m _ (by show S.length < g.sz + 1; rw [l.sz]; exact Nat.lt_succ_self _), ← l.sz, Gh.add_m]
      refine ⟨Nat.lt_of_lt_of_le (by show S.length < g.sz + 1; rw [l.sz]; exact Nat.lt_succ_self _) (x2.trans x').sz, by rw [hm]⟩
    | er d S' =>
      rw [qm] at p
      exact fun g' H' cls od x' l' r' => p g' H' cls od (x1.trans (x2.trans x')) l' (e.mono (x1.trans (x2.trans x'))) r'
    | no => rw [qm] at p; exact p.elim
  · exact p.elim
end
section
variable {X : Cx} {W : WX} {a : Expr} {es : List Expr} {fs : AF} {fe : EF} {C : Str} {k j : Nat} {mm : MF} {p p' pos : Pos}
theorem se_makeR (F : DefR X.prog X.w X.K X.mg X.base C k j mm) (hr : Room (k + 1) X.A) (tk : Takes X W) (ha : SA X W (a :: es) fs) (hg : Gl X C := by rfl) (hdb : (C == ("__debug__" : Str)) = false := by decide)
    (he : starEach (a :: es) X.env = (false, eval a X.env) :: starEach es X.env := by rfl) (hpl : (backTo pos (starEach es X.env)).any (·.1) = false := by rfl) : SE X W (.Call (.Name C p) (a :: es) [] pos) (eMakeR C j mm fs) := by
  obtain ⟨f, F, M, hm⟩ := F
  refine ⟨fun pins s σ H Q I h => ?_⟩
  refine wpAny_Call_Name_kw (ld_glob I hg hm ?_ hdb)
  refine PySem.W.callWith_K (h₀ := X.base) I.ok.mod.kin M.kp (thn (ha.run pos pins s σ H _ I (TD.split (rel := RelDs X.K) h)) fun us s1 ⟨vs, H1, I1, r1, g, ds, r, S, l, e, rd, p⟩ => ⟨I1.kIn, ?_⟩) he hpl
  exact run_mkR (E := fun cls od H => W cls od σ H) M F hr (passAt tk σ) I1 r1 (madeR_sp l e (fresh1 I1) (fresh0 I1) (Nat.ne_of_lt (Nat.lt_succ_self _)) rd p)
theorem se_makeR0 (F : DefR X.prog X.w X.K X.mg X.base C k j mm) (hr : Room (k + 1) X.A) (tk : Takes X W) (hg : Gl X C := by rfl) (hdb : (C == ("__debug__" : Str)) = false := by decide) : SE X W (.Call (.Name C p) [] [] pos) (eMakeR C j mm aNil) := by
  obtain ⟨f, F, M, hm⟩ := F
  refine ⟨fun pins s σ H Q I h => ?_⟩
  refine wpAny_Call_Name_kw (ld_glob I hg hm ?_ hdb)
  obtain ⟨g, r, S, l, e, p⟩ := h
  have q : PostG X.K W (RelD X.K) g σ (goR C j mm [] r S) Q := p
  exact PySem.W.callWith_K0 I.kIn M.kp (run_mkR (us := []) (E := fun cls od H => W cls od σ H) M F hr (passAt tk σ) I .nil (madeR_sp l e (fresh1 I) (fresh0 I) (Nat.ne_of_lt (Nat.lt_succ_self _)) .nil q))
theorem se_makeS (F : DefR X.prog X.w X.K X.mg X.base C k j mm) (hr : Room (k + 1) X.A) (tk : Takes X W) (ha : SE X W a fe) (hg : Gl X C := by rfl) (hdb : (C == ("__debug__" : Str)) = false := by decide)
    (hst : starEach [.Starred a p'] X.env = [(true, eval a X.env)] := by rfl) : SE X W (.Call (.Name C p) [.Starred a p'] [] pos) (eMakeS C j mm fe) := by
  obtain ⟨f, F, M, hm⟩ := F
  refine ⟨fun pins s σ H Q I h => ?_⟩
  refine wpAny_Call_Name_kw (ld_glob I hg hm ?_ hdb)
  refine PySem.W.callWith_S (h₀ := X.base) I.ok.mod.kin M.kp (thn (ha.run pins s σ H _ I (TD.split (rel := RelD X.K) h)) fun v s1 ⟨y, H1, I1, ry, g, d, r, S, l, e, rd, p⟩ => ?_) hst
  split at p
  · rename_i ds hx
    obtain ⟨b, vs, rfl, hs, rs⟩ := seq_view l rd hx
    obtain rfl : v = Value.ref b := ry
    refine StX.star_any I1 hs.symm fun us s2 I2 rv => ⟨I2.kIn, ?_⟩
    exact run_mkR (E := fun cls od H => W cls od σ H) M F hr (passAt tk σ) I2 rv (madeR_sp l e (fresh1 I2) (fresh0 I2) (Nat.ne_of_lt (Nat.lt_succ_self _)) rs p)
  · exact p.elim
variable {Z : D → Env → Sto → Prop} {r : Env} {S : Sto} {Q : D → Env → Sto → Prop}
theorem wp_goR {ds : List D} : wp (goR C j mm ds r S) Q Z = ((j ≤ ds.length ∧ ds.length ≤ sizeLine) ∧ wf (mm (.ref S.length :: (ds.take j ++ [.tup (ds.drop j)])) (S ++ [.ins C [] []])) (fun d S' => d = .non ∧ Q (.ref S.length) r S') (fun d S' => Z d r S')) := by
  unfold goR
  rw [wp_ite, wp_made, wp_no, ite_and]
@[simp] theorem wp_MakeR : wp (eMakeR C j mm fs r S) Q Z = wp (fs r S) (fun ds r S => (j ≤ ds.length ∧ ds.length ≤ sizeLine) ∧ wf (mm (.ref S.length :: (ds.take j ++ [.tup (ds.drop j)])) (S ++ [.ins C [] []])) (fun d S' => d = .non ∧ Q (.ref S.length) r S') (fun d S' => Z d r S')) Z := by
  unfold eMakeR
  simp only [wp_bind, wp_goR]
@[simp] theorem wp_MakeS : wp (eMakeS C j mm fe r S) Q Z = wp (fe r S) (fun x r S => got (seqOf S x) fun ds => (j ≤ ds.length ∧ ds.length ≤ sizeLine) ∧ wf (mm (.ref S.length :: (ds.take j ++ [.tup (ds.drop j)])) (S ++ [.ins C [] []])) (fun d S' => d = .non ∧ Q (.ref S.length) r S') (fun d S' => Z d r S')) Z := by
  unfold eMakeS
  simp only [wp_bind]
  congr; funext x r S
  cases seqOf S x with
  | none => rfl
  | some ds => exact wp_goR
@[simp] theorem wp_EnumU {A : List D → Env → Sto → Prop} : wp (iEnumU fs r S) A Z = wp (fs r S) (fun ds r S => got ((asOne ds).bind fun d => match d with
    | .tup xs => some xs
    | d => vlst d) fun xs => A (enumD xs) r S) Z := by
  unfold iEnumU
  simp only [wp_bind]
  congr; funext ds r S
  match ds with
  | [.tup xs] => rfl
  | [.lst xs] => rfl
  | [.fz xs] => rfl
  | [.non] | [.bl _] | [.int _] | [.str _] | [.ty _] | [.con _] | [.dic _ _] | [.ins _ _ _] | [.ref _] => rfl
  | [] => rfl
  | x :: _ :: _ => cases x <;> rfl
end
end L2.U
namespace L2.U
open PySem PySem.Spec PyProof.Rows He

section
variable {X : Cx}
theorem CallU.or {f : Value} {o o' : Sto → List D → Option D} (h : CallU X f o) (h' : CallU X f o') : CallU X f (orL o o') := by
  obtain ⟨r, h1, h2⟩ := h
  obtain ⟨r', h1', h2'⟩ := h'
  exact ⟨_, h1.or h1', h2.or h2'⟩
def oListOfT : Sto → List D → Option D := fun _ ds => match ds with
  | [.str z] => if z.length ≤ sizeLine then some (.lst (signsD z)) else none
  | _ => none
theorem call_listT (hc : X.calm = true) : CallR X (.type "list") (fun xs H Q => ∃ z, xs = [.str z] ∧ z.length ≤ sizeLine ∧ ∀ l, H l = none → Q (.ref l) (upd H l (.lst (z.cps.toList.map fun c => V.str ⟨#[c]⟩)))) := by
  intro pins s σ H xs us Q I r h
  obtain ⟨z, rfl, hz, q⟩ := h
  obtain ⟨u, rfl, rx⟩ := vals1 r
  obtain ⟨t, rfl⟩ := rx
  refine call_list_str (I.ok.hd hc) z t (hn := hz) fun h' tk acc c' hk hS hacc => ?_
  refine ⟨.ref s.heap.objs.size, _, I.laid (t' := tk) hk (Nat.le_refl _) (show ObjOk X.prog X.w _ h' _ (.lst (z.cps.toList.map fun c => V.str ⟨#[c]⟩)) from ⟨?_, acc.toList, c', ?_, by simpa using hS⟩), rfl, q _ (I.hok.fresh (Nat.le_refl _))⟩
  · simpa [Str.length] using hz
  · refine vals_of_at (by simp [hacc.1]) fun j x w h1 h2 => ?_
    obtain ⟨c, u, hc', rfl⟩ := hacc.2 j w (by rw [← Array.getElem?_toList]; exact h2)
    rw [List.getElem?_map, Array.getElem?_toList, hc'] at h1
    cases h1
    exact ⟨u, rfl⟩
theorem rel_signs {K : PySem.W.Frag} {g : Gh} : ∀ l : List Nat, RelDs K g (l.map fun c => D.str ⟨#[c]⟩) (l.map fun c => V.str ⟨#[c]⟩)
  | [] => .nil
  | c :: l => .cons rfl (rel_signs l)
theorem cu_listT (hc : X.calm = true) : CallU X (.type "list") oListOfT := ⟨_, call_listT hc, fun g S H ds d vs Q l rd e k => by
  match ds, e with
  | [c], e =>
    obtain ⟨v, rfl, r⟩ := rel1 rd
    cases c <;> simp only [oListOfT, reduceCtorEq] at e
    rename_i z
    split at e
    · rename_i hz
      cases e
      cases r
      refine ⟨z, rfl, hz, fun p hp => ?_⟩
      obtain ⟨g', e1, l1, r1⟩ := l.newLst hp (rel_signs (K := X.K) (g := g) z.cps.toList)
      exact k g' _ _ e1 l1 r1
    · cases e
  | [], e => cases e
  | _ :: _ :: _, e => simp [oListOfT] at e⟩
def oStrOf : Sto → List D → Option D := fun _ ds => match ds with
  | [.int i] => if i.natAbs.log2 < 1920 then some (.str (toString i)) else none
  | _ => none
theorem cu_strI : CallU X (.type "str") oStrOf := ⟨_, call_str_int, fun g S H ds d vs Q l rd e k => by
  match ds, e with
  | [c], e =>
    obtain ⟨v, rfl, r⟩ := rel1 rd
    cases c <;> simp only [oStrOf, reduceCtorEq] at e
    rename_i i
    split at e
    · rename_i hz
      cases e
      cases r
      exact ⟨i, rfl, hz, k g H _ (.refl g) l rfl⟩
    · cases e
  | [], e => cases e
  | _ :: _ :: _, e => simp [oStrOf] at e⟩
end
/-- list(x), kept in the store -/
def eListS (fs : AF) : EF := fun r S => (fs r S).bind fun ds r S => match (asOne ds).bind (seqOf S) with
  | some xs => .ok (.ref S.length) r (S ++ [.lst xs])
  | none => .no
section
variable {X : Cx} {W : WX} {pos p : Pos} {a : Expr} {es : List Expr} {fs : AF}
theorem se_listS (hm : X.mg "list" = none) (ha : SA X W (a :: es) fs) (hg : Gl X "list" := by rfl)
    (he : starEach (a :: es) X.env = (false, eval a X.env) :: starEach es X.env := by rfl) (hpl : (backTo pos (starEach es X.env)).any (·.1) = false := by rfl) : SE X W (.Call (.Name "list" p) (a :: es) [] pos) (eListS fs) := by
  refine pe_imp (pe_callTy call_list_of hg hm (by decide +kernel) ha (by decide) (by decide) he hpl) fun σ H Q h => td_seq (TD.split (rel := RelDs X.K) h) fun vs H1 ⟨g, ds, r, S, l, e, rd, p⟩ => ?_
  split at p
  · rename_i xs hx
    obtain ⟨c, hc, hx⟩ := Option.bind_eq_some_iff.mp hx
    match ds, hc with
    | [_], rfl =>
      obtain ⟨v, rfl, rv⟩ := rel1 rd
      obtain ⟨b, us, rfl, hs, rs⟩ := seq_view l rv hx
      refine ⟨b, us, rfl, hs, fun q hq => ?_⟩
      obtain ⟨g', e1, l1, r1⟩ := l.newSto hq rs
      exact p g' _ _ e1 l1 (e.mono e1) r1
  · exact p.elim
variable {Z : D → Env → Sto → Prop} {r : Env} {S : Sto} {Q : D → Env → Sto → Prop}
@[simp] theorem wp_ListS : wp (eListS fs r S) Q Z = wp (fs r S) (fun ds r S => got ((asOne ds).bind (seqOf S)) fun xs => Q (.ref S.length) r (S ++ [.lst xs])) Z := by
  unfold eListS
  simp only [wp_bind]
  congr; funext ds r S
  cases (asOne ds).bind (seqOf S) <;> rfl
end
theorem listT_txt {S : Sto} {l : List Nat} (h : l.length ≤ 4000000) : oListOfT S [.str (txt l)] = some (.lst (l.map fun c => .str (txt [c]))) := by
  show (if (txt l).length ≤ sizeLine then some (D.lst (signsD (txt l))) else none) = _
  rw [txt_len, if_pos (sz_le h)]
  unfold signsD
  rw [txt_cps]
  rfl
end L2.U
namespace L2.U
open PySem PySem.Spec PyProof.Rows He

section
variable {T : Sto} {o : AO} {Q Z : D → Sto → Prop}
theorem draw_to {many : Int} (hB : BagO o) (h0 : 0 < many) (hl : many < 1000000000) (h : ∀ (v : Int) (o' : AO), 0 ≤ v → v < many → BagO o' → Q (.int v) (o' :: T)) : wf (rawM 4 fbDraw [.ref 0, .int many] (o :: T)) Q Z :=
  wf_imp (draw_c (Z := fun _ _ => False) hB h0 (by
    have := log2_lt (i := many) (k := 30) (by omega) (by decide)
    omega)) (fun d S ⟨v, o', e, h1, h2, h3, h4⟩ => by subst e h4; exact h v o' h1 h2 h3) (fun _ _ z => z.elim)
theorem pick_to {x : D} (xs : List D) (hB : BagO o) (hx : ∀ S : Sto, seqOf S x = some xs) (hs : ∀ z, x ≠ .str z) (h0 : 0 < xs.length) (hl : xs.length < 4000000) (h : ∀ y o', y ∈ xs → BagO o' → Q y (o' :: T)) :
    wf (rawM 2 (fbPick (rawM 4 fbDraw)) [.ref 0, x] (o :: T)) Q Z :=
  wf_imp (pick_c (Z := fun _ _ => False) hB hx hs h0 hl) (fun d S ⟨hy, o', h1, h2⟩ => by subst h2; exact h d o' hy h1) (fun _ _ z => z.elim)
/-- a block that draws -/
theorem comp_draws {α β : Type} {Z : D → Env → Sto → Prop} {i : Nat} {fe : EF} {r : Env} {vs : List Nat} (g : β → D) (f : α → D) (P : β → α → Prop) : ∀ (xs : List β) {o : AO}, BagO o →
    (∀ x o, x ∈ xs → BagO o → wp (fe ((wipeE r vs).set i (some (g x))) (o :: T)) (fun y _ S' => ∃ a o', y = f a ∧ P x a ∧ BagO o' ∧ S' = o' :: T) fun _ _ _ => False) →
    wp (compF (bName i) tYesB fe r vs (xs.map g) (o :: T)) (fun ys r' S' => r' = r ∧ ∃ as o', ys = as.map f ∧ Paired P xs as ∧ BagO o' ∧ S' = o' :: T) Z
  | [], o, hB, _ => ⟨rfl, [], o, rfl, .nil, hB, rfl⟩
  | x :: xs, o, hB, h => by
    simp only [List.map_cons, compF, bName, tYesB]
    have h1 := h x o (List.mem_cons_self ..) hB
    rw [wp_bind]
    refine wp_calm ?_
    rw [wp_ok, if_pos rfl, wp_bind]
    refine wp_calm (wp_imp h1 ?_ (fun _ _ _ z => z))
    rintro y _ S' ⟨a, o', rfl, ha, hB', rfl⟩
    rw [wp_bind]
    refine wp_imp (comp_draws (Z := Z) g f P xs hB' fun z o hz => h z o (List.mem_cons_of_mem _ hz)) ?_ (fun _ _ _ z => z)
    rintro ys r' S' ⟨rfl, as, o'', rfl, hp, hB'', rfl⟩
    exact ⟨rfl, a :: as, o'', rfl, .cons ha hp, hB'', rfl⟩
end
/-- .. and what comes behind it -/
theorem comp_to {α β : Type} {Z : D → Env → Sto → Prop} {Q : List D → Env → Sto → Prop} {T : Sto} {o : AO} {i : Nat} {fe : EF} {r : Env} {vs : List Nat} (g : β → D) (f : α → D) (P : β → α → Prop) (xs : List β) (hB : BagO o)
    (h : ∀ x o, x ∈ xs → BagO o → wp (fe ((wipeE r vs).set i (some (g x))) (o :: T)) (fun y _ S' => ∃ a o', y = f a ∧ P x a ∧ BagO o' ∧ S' = o' :: T) fun _ _ _ => False)
    (k : ∀ as o', Paired P xs as → BagO o' → Q (as.map f) r (o' :: T)) : wp (compF (bName i) tYesB fe r vs (xs.map g) (o :: T)) Q Z :=
  wp_imp (comp_draws (Z := fun _ _ _ => False) g f P xs hB h) (fun ys r' S' hh => by
    obtain ⟨e1, as, o', e2, h1, h2, e3⟩ := hh
    subst e1 e2 e3
    exact k as o' h1 h2) (fun _ _ _ z => z.elim)
theorem pair_get {α β : Type} {P : α → β → Prop} : ∀ {xs : List α} {ys : List β}, Paired P xs ys → ∀ (i : Nat) (h : i < xs.length) (h' : i < ys.length), P xs[i] ys[i]
  | _, _, .nil, i, h, _ => by simp at h
  | _, _, .cons a t, 0, _, _ => a
  | _, _, .cons a t, i + 1, h, h' => pair_get t i (by simpa using h) (by simpa using h')
theorem pair_mem {α β : Type} {P : α → β → Prop} : ∀ {xs : List α} {ys : List β}, Paired P xs ys → ∀ y ∈ ys, ∃ x ∈ xs, P x y
  | _, _, .nil, y, h => by simp at h
  | _, _, .cons (a := x) (b := z) a t, y, h => by
    rcases List.mem_cons.mp h with rfl | h
    · exact ⟨x, List.mem_cons_self .., a⟩
    · obtain ⟨x', h1, h2⟩ := pair_mem t y h
      exact ⟨x', List.mem_cons_of_mem _ h1, h2⟩
theorem pair_map_eq {α β : Type} {P : α → β → Prop} {f : β → α} (h : ∀ x y, P x y → f y = x) : ∀ {xs : List α} {ys : List β}, Paired P xs ys → ys.map f = xs
  | _, _, .nil => rfl
  | _, _, .cons a t => by rw [List.map_cons, h _ _ a, pair_map_eq h t]
theorem rangeD_map {n : Nat} : rangeD 0 n = (List.range n).map fun i : Nat => .int (i : Int) := by
  unfold rangeD
  refine List.map_congr_left fun i _ => ?_
  rw [Int.zero_add]
theorem range_get {n i : Nat} (h : i < (List.range n).length) : (List.range n)[i] = i := by simp
end L2.U
namespace L2.U
open PySem PySem.Spec PyProof.Rows He

/-- data that == compares, at most so deep -/
def dataB : Nat → D → Bool
  | _, .non => true
  | _, .bl _ => true
  | _, .int _ => true
  | _, .str z => PyData.strOk z
  | k + 1, .tup xs => xs.all (dataB k)
  | k + 1, .lst xs => xs.all (dataB k)
  | k + 1, .fz xs => xs.all (dataB k)
  | _, _ => false
theorem pyDs_data {k : Nat} (ih : ∀ d, dataB k d = true → ∃ p, pyD d = some p ∧ p.canLay0 = true ∧ p.depth ≤ k) : ∀ xs : List D, xs.all (dataB k) = true → ∃ ps, pyDs xs = some ps ∧ PyData.canLayAll0 ps = true ∧ PyData.depthAll ps ≤ k ∧ ps.length = xs.length
  | [], _ => ⟨[], rfl, rfl, by simp [PyData.depthAll], rfl⟩
  | x :: xs, h => by
    simp only [List.all_cons, Bool.and_eq_true] at h
    obtain ⟨p, h1, h2, h3⟩ := ih x h.1
    obtain ⟨ps, h4, h5, h6, h7⟩ := pyDs_data ih xs h.2
    refine ⟨p :: ps, by simp only [pyDs, h1, h4], by simp only [PyData.canLayAll0, h2, h5, Bool.and_self], by simp only [PyData.depthAll]; omega, by simp [h7]⟩
theorem pyD_data : ∀ (k : Nat) (d : D), dataB k d = true → ∃ p, pyD d = some p ∧ p.canLay0 = true ∧ p.depth ≤ k
  | k, .non, _ => ⟨.none, rfl, rfl, by simp [PyData.depth]⟩
  | k, .bl b, _ => ⟨.bool b, rfl, rfl, by simp [PyData.depth]⟩
  | k, .int i, _ => ⟨.int i, rfl, rfl, by simp [PyData.depth]⟩
  | k, .str z, h => ⟨.str z, rfl, by simpa [dataB, PyData.canLay0] using h, by simp [PyData.depth]⟩
  | 0, .tup _, h => by simp [dataB] at h
  | 0, .lst _, h => by simp [dataB] at h
  | 0, .fz _, h => by simp [dataB] at h
  | k + 1, .tup xs, h => by
    obtain ⟨ps, h1, h2, h3, _⟩ := pyDs_data (pyD_data k) xs (by simpa only [dataB] using h)
    exact ⟨.tuple ps, by simp only [pyD, h1, Option.map_some], by simpa only [PyData.canLay0] using h2, by simp only [PyData.depth]; omega⟩
  | k + 1, .lst xs, h => by
    obtain ⟨ps, h1, h2, h3, _⟩ := pyDs_data (pyD_data k) xs (by simpa only [dataB] using h)
    exact ⟨.list ps, by simp only [pyD, h1, Option.map_some], by simpa only [PyData.canLay0] using h2, by simp only [PyData.depth]; omega⟩
  | k + 1, .fz xs, h => by
    obtain ⟨ps, h1, h2, h3, _⟩ := pyDs_data (pyD_data k) xs (by simpa only [dataB] using h)
    exact ⟨.list ps, by simp only [pyD, h1, Option.map_some], by simpa only [PyData.canLay0] using h2, by simp only [PyData.depth]; omega⟩
  | _, .ty _, h => by simp [dataB] at h
  | _, .con _, h => by simp [dataB] at h
  | _, .dic _ _, h => by simp [dataB] at h
  | _, .ins _ _ _, h => by simp [dataB] at h
  | _, .ref _, h => by simp [dataB] at h
theorem shaped_of {p : PyData} (h1 : p.canLay0 = true) (h2 : p.depth ≤ 64) : SeqAt.shaped p = true := by
  unfold SeqAt.shaped
  rw [h1, decide_eq_true h2]; rfl
/-- a list, a tuple and itself -/
theorem eqB_self {S : Sto} {d : D} (h : dataB 60 d = true) (hd : flatD d = none) : eqB S d d = some true := by
  obtain ⟨p, h1, h2, h3⟩ := pyD_data 60 d h
  have hv : pyV S d = some p := by
    cases d <;> first
      | exact h1
      | (simp [dataB] at h)
  have hs := shaped_of h2 (by omega)
  simp only [eqB, orB, eqFB, hd, eqPB, hv, if_pos (And.intro hs hs), SeqAt.eqv_refl_plain p (PyData.plain_of_canLay0 p h2)]
/-- a list and the empty one -/
theorem eqB_empty {S : Sto} {xs : List D} (h : dataB 60 (.lst xs) = true) : eqB S (.lst xs) (.lst []) = some xs.isEmpty := by
  obtain ⟨ps, h1, h2, h3, h4⟩ := pyDs_data (pyD_data 59) xs (by simpa only [dataB] using h)
  have hv : pyV S (.lst xs) = some (.list ps) := by
    show (pyDs xs).map PyData.list = _
    rw [h1]; rfl
  have hs : SeqAt.shaped (.list ps) = true := shaped_of (by simpa only [PyData.canLay0] using h2) (by simp only [PyData.depth]; omega)
  have hn : pyV S (.lst []) = some (.list []) := rfl
  have hs' : SeqAt.shaped (.list []) = true := rfl
  simp only [eqB, orB, eqFB, flatD, eqPB, hv, hn, if_pos (And.intro hs hs')]
  cases xs with
  | nil => cases ps with
    | nil => rfl
    | cons p ps => simp at h4
  | cons x xs => cases ps with
    | nil => simp at h4
    | cons p ps => rfl
theorem txt_ok {l : List Nat} (h : ∀ c ∈ l, c < 128) : PyData.strOk (txt l) = true := by
  unfold PyData.strOk
  rw [Array.all_eq_true']
  intro c hc
  have : c ∈ l := by
    have := Array.mem_toList_iff.mpr hc
    rwa [txt_cps] at this
  exact decide_eq_true (Nat.lt_trans (h c this) (by decide))
theorem oAdd_lst {S : Sto} {a b : List D} (h : a.length + b.length ≤ 4000000) : oAdd S (.lst a) (.lst b) = some (.lst (a ++ b)) := by
  have : oAdd S (.lst a) (.lst b) = oCatL S (.lst a) (.lst b) := rfl
  rw [this]
  simp only [oCatL, lstMOf]
  rw [if_pos (sz_le h)]
/-- a block over any targets whose items leave the store -/
theorem comp_mapb {α : Type} {b : Bn} {fe : EF} {r : Env} {vs : List Nat} {S : Sto} (f : α → D) (ρ : α → Env) (g : α → D) : ∀ {xs : List α}, (∀ x ∈ xs, b (f x) (wipeE r vs) = some (ρ x)) → (∀ x ∈ xs, wp (fe (ρ x) S) (fun y _ S' => y = g x ∧ S' = S) fun _ _ _ => False) → compF b tYesB fe r vs (xs.map f) S = .ok (xs.map g) r S
  | [], _, _ => rfl
  | x :: xs, h0, h => by
    have h1 := h x (List.mem_cons_self ..)
    have h2 := comp_mapb f ρ g (xs := xs) (fun y hy => h0 y (List.mem_cons_of_mem _ hy)) fun y hy => h y (List.mem_cons_of_mem _ hy)
    cases q : fe (ρ x) S with
    | ok y r' S' =>
      rw [q] at h1
      obtain ⟨rfl, rfl⟩ := h1
      simp only [List.map_cons, compF, h0 x (List.mem_cons_self ..), tYesB, R.calm, R.bind, if_true, q, h2]
    | er y r' S' => rw [q] at h1; exact h1.elim
    | no => rw [q] at h1; exact h1.elim
end L2.U
namespace L2.U
open PySem PySem.Spec PyProof.Rows He

/-- a, b, c = x, y, z -/
def sPar3 (i j k : Nat) (fs : AF) : SF := fun r S => (fs r S).bind fun ds r S => match ds with
  | [x, y, z] => .ok .nx (((r.set i (some x)).set j (some y)).set k (some z)) S
  | _ => .no
section
variable {X : Cx} {W : WX} {pos : Pos}
theorem ss_par3 (i j k : Nat) {x y z : Str} {c d e : Expr} {fs : AF} {px py pz pt : Pos} {kt k2 pt2} (hc : X.calm = true) (hN : X.N.Nodup) (ha : SA X W [c, d, e] fs) (hij : i ≠ j := by decide) (hik : i ≠ k := by decide) (hjk : j ≠ k := by decide) (hi : X.N[i]? = some x := by rfl) (hj : X.N[j]? = some y := by rfl) (hk : X.N[k]? = some z := by rfl)
    (hx : X.env.scope.names.lookup x = some .local := by rfl) (hy : X.env.scope.names.lookup y = some .local := by rfl) (hz : X.env.scope.names.lookup z = some .local := by rfl)
    (hw : swappedStores [.Tuple [.Name x px, .Name y py, .Name z pz] kt pt] (.Tuple [c, d, e] k2 pt2) X.env = pure (some [x, y, z]) := by rfl)
    (hs : swapsWithSole [.Tuple [.Name x px, .Name y py, .Name z pz] kt pt] (.Tuple [c, d, e] k2 pt2) pos.line X.env = pure false := by rfl) :
    SS X W (.Assign [.Tuple [.Name x px, .Name y py, .Name z pz] kt pt] (.Tuple [c, d, e] k2 pt2) pos) (sPar3 i j k fs) :=
  ps_imp (ps_par3 hc hN hi hj hk hij hik hjk hx hy hz ha hw hs) fun E σ H h => ts_seq (rel := RelDs X.K) h fun us H' g ds r S l e q p => by
    split at p
    · cases q with
      | cons q1 q2 => cases q2 with
        | cons q2 q3 => cases q3 with
          | cons q3 q4 =>
            cases q4
            exact ⟨_, _, _, rfl, post_nx p l (((e.set i q1).set j q2).set k q3)⟩
    · exact p.elim
variable {Z : D → Env → Sto → Prop} {r : Env} {S : Sto} {fs : AF} {L : Fl → Env → Sto → Prop}
@[simp] def asThree : List D → Option (D × D × D)
  | [x, y, z] => some (x, y, z)
  | _ => none
theorem asThree_three {x y z : D} : asThree [x, y, z] = some (x, y, z) := rfl
@[simp] theorem wp_sPar3 {i j k : Nat} : wp (sPar3 i j k fs r S) L Z = wp (fs r S) (fun ds r S => got (asThree ds) fun q => L .nx (((r.set i (some q.1)).set j (some q.2.1)).set k (some q.2.2)) S) Z := by
  unfold sPar3
  simp only [wp_bind]
  congr; funext ds r S
  match ds with
  | [x, y, z] => rfl
  | [] => rfl
  | [x] => rfl
  | [x, y] => rfl
  | x :: y :: z :: _ :: _ => rfl
end
theorem nil_appD {l : List D} : [] ++ l = l := List.nil_append l
theorem fz_1 {o : AO} {C : Str} {ns : List Str} {ds : List D} (hd : bndL 1 ds = true) : fz 1 ([o] ++ [.ins C ns ds]) 60 (.ref 1) = .ins C ns ds := fz_last (S := [o]) hd
theorem fz_0 {C : Str} {ns : List Str} {ds : List D} (hd : bndL 0 ds = true) : fz 0 ([] ++ [.ins C ns ds]) 60 (.ref 0) = .ins C ns ds := fz_last (S := []) hd
theorem tk_1 {o x : AO} : List.take 1 ([o] ++ [x]) = [o] := rfl
theorem tk_0 {x : AO} : List.take 0 ([] ++ [x]) = [] := rfl
theorem fz_1l {o : AO} {ds : List D} (hd : bndL 1 ds = true) : fz 1 ([o] ++ [.lst ds]) 60 (.ref 1) = .lst ds := by
  have e : fz 1 ([o] ++ [.lst ds]) 60 (.ref 1) = .lst (ds.map (fz 1 ([o] ++ [.lst ds]) 59)) := rfl
  rw [e]
  congr 1
  conv => rhs; rw [← List.map_id ds]
  exact List.map_congr_left fun x hx => fz_id 59 x (bndL_all.mp hd x hx)
end L2.U
namespace L2.U
open PySem PySem.Spec PyProof.Rows He

/-- *e among items -/
def aStar (fe : EF) (fs : AF) : AF := fun r S => (fe r S).bind fun x r S => match seqOf S x with
  | some xs => (fs r S).bind fun ys r S => .ok (xs ++ ys) r S
  | none => .no
section
variable {X : Cx} {W : WX} {e : Expr} {es : List Expr} {fe : EF} {fs : AF} {p : Pos}
theorem sa_star (he : SE X W e fe) (hr : SA X W es fs) (hs : starEach (.Starred e p :: es) X.env = (true, eval e X.env) :: starEach es X.env := by rfl) : SA X W (.Starred e p :: es) (aStar fe fs) :=
  pa_imp (StX.pa_star he hr hs) fun σ H Q h => td_seq (TD.split (rel := RelD X.K) h) fun xv H1 ⟨g, x, r, S, l, e, rx, p⟩ => by
    split at p
    · rename_i xs hx
      obtain ⟨a, vs, rfl, hq, rs⟩ := seq_view l rx hx
      exact ⟨a, vs, rfl, hq.symm, g, r, S, l, e, PostG.imp p.split fun zv H2 ⟨g', z, r2, S', e', l', re, rz, p'⟩ => post_ok p' l' re ((rs.mono e').append rz)⟩
    · exact p.elim
variable {Z : D → Env → Sto → Prop} {r : Env} {S : Sto}
@[simp] theorem wp_aStar {Q : List D → Env → Sto → Prop} : wp (aStar fe fs r S) Q Z = wp (fe r S) (fun x r S => got (seqOf S x) fun xs => wp (fs r S) (fun ys r S => Q (xs ++ ys) r S) Z) Z := by
  unfold aStar
  simp only [wp_bind]
  congr; funext x r S
  cases seqOf S x with
  | none => rfl
  | some xs => simp only [wp_bind, wp_ok, got_some]
end
/-- looks in the dict at D, one behind another, then t' -/
def ChT {α : Type} (D : Addr) : List (Str × Value) → Sem α → Sem α → Prop
  | [], t, t' => t = t'
  | q :: l, t, t' => ∃ (β γ : Type) (k1 : Option Value → Sem β) (k2 : β → Sem γ) (k3 : γ → Sem α) (a : β), t = ((nsGet D q.1 >>= k1) >>= k2) >>= k3 ∧ k1 (some q.2) = pure a ∧ ChT D l (k2 a >>= k3) t'
theorem ChT.run {α : Type} {K : PySem.W.Frag} {M : Model} {A : Around} {s : Shared} {D : Addr} {Q : α → Shared → Prop} {E : Value → Shared → Prop} (inK : K.In s.heap) : ∀ {l : List (Str × Value)} {t t' : Sem α}, (∀ q ∈ l, PySem.W.nsIn K D q.1 = some (some q.2)) → ChT D l t t' → wpAny M A t' Q E s → wpAny M A t Q E s
  | [], _, _, _, e, h => by rw [show _ = _ from e]; exact h
  | q :: l, t, t', hl, c, h => by
    obtain ⟨β, γ, k1, k2, k3, a, e1, e2, e3⟩ := c
    have lk : PySem.W.Looks M s.heap (nsGet D q.1 >>= k1) a := (PySem.W.looks_nsIn inK (hl q (List.mem_cons_self ..))).andThen (PySem.W.Looks.of_pure e2)
    rw [e1, bind_assoc]
    exact wpAny_bind (lk.here (ChT.run inK (fun z hz => hl z (List.mem_cons_of_mem _ hz)) e3 h))
/-- a def with any number of values and keywords -/
def FnRK (P : Program) (w : World) (K : PySem.W.Frag) (mg : Str → Option Value) (base : Heap) (k : Nat) (f : Addr) (j n : Nat) (ks : List Str) (gV : List V → List V → List V) (mm : MF) : Prop :=
  ∀ (A : Around) (outer : List PySem.Env) (s : Shared) (H : Hp) (u1 u2 ws : List Value) (v1 v2 zs : List V) (Q : VK) (E : XK), Room k A → Env0 P w K mg base A outer s H → Vals v1 u1 → Vals v2 u2 → Vals zs ws → v1.length = j + 1 → zs.length = ks.length → v2.length ≤ sizeLine →
    (∀ p, H p = none → spU K n mm (gV v1 zs ++ [V.ref p]) (upd H p (.tup v2)) Q E) → codeAny (model P w) A (.call (.ref f) ⟨u1 ++ u2, ks.zip ws⟩) (CR (L2.CX P w) outer P w H s Q E) s
structure DefRK (P : Program) (w : World) (K : PySem.W.Frag) (mg : Str → Option Value) (base : Heap) (C : Str) (k j n : Nat) (ks : List Str) (gD : List D → List D → List D) (mm : MF) : Prop where
  ex : ∃ f gV, FnRK P w K mg base k f j n ks gV mm ∧ Mk K (ga K C) f ∧ mg C = some (.ref (ga K C)) ∧ ∀ g ds vs zd zs, RelDs K g ds vs → RelDs K g zd zs → RelDs K g (gD ds zd) (gV vs zs)
section
variable {P : Program} {w : World} {K : PySem.W.Frag} {mg : Str → Option Value} {base : Heap} {x qual : Str} {params : Arguments} {body : List Stmt} {scope : Scope} {f : Addr} {fd : FuncData} {N ps : List Str} {k : Nat} {kws : List (Str × V)}
theorem fn_rawSK {pv : Str} (F : FunD K x qual params body scope [] kws f fd) (S : FnScope N (ps ++ [pv]) scope) (fb : SF) (j : Nat) (ks : List Str) (ms : List (Str × V)) (is : List Nat) (hk : kws ≠ []) (hms : ∀ q ∈ ms, q ∈ kws)
    (hb : ∀ (D : Addr) (doc pm : Value) (an : Option Addr) (cdv ct : Value) (u1 u2 mv ws : List Value), u1.length = j + 1 → mv.length = ms.length → ws.length = ks.length →
      ChT D ((ms.map (·.1)).zip mv) (bindArgs (PySem.W.fnOf x qual params body scope .none (.ref D) doc pm an cdv ct) ⟨u1 ++ u2, ks.zip ws⟩) (newTuple u2 >>= fun t => pure (ps.zip (permL is (u1 ++ (mv ++ ws))) ++ [(pv, t)])))
    (hbody : BodyU P w K mg base k N qual scope f body fb) : FnRK P w K mg base (k + 1) f j (ps.length + 1) ks (fun vs zs => permL is (vs ++ (ms.map (·.2) ++ zs))) (rawM N.length fb) := by
  obtain ⟨oc, od, dV, kV, doc, pm, an, cdv, ct, osl, rfl, lk, hcd, hD, hK⟩ := F.ex
  rcases hD with ⟨_, rfl⟩ | ⟨e, _⟩
  · rcases hK with e | ⟨D, rfl, hq⟩
    · exact absurd e hk
    · obtain ⟨mv, hl, rk, hks⟩ := kwd_vals (ms := ms) fun q hm => hq q (hms q hm)
      intro A outer s H u1 u2 ws v1 v2 zs Q E hr e0 r1 r2 rz hl1 hl2 hz says
      have hn : H s.heap.objs.size = none := e0.hok.fresh (Nat.le_refl _)
      have rel : Vals (permL is (v1 ++ (ms.map (·.2) ++ zs))) (permL is (u1 ++ (mv ++ ws))) := paired_perm (paired_app r1 (paired_app rk rz)) is
      have len : (permL is (v1 ++ (ms.map (·.2) ++ zs)) ++ [V.ref s.heap.objs.size]).length = ps.length + 1 := (says _ hn).1
      have len1 : (permL is (u1 ++ (mv ++ ws))).length = ps.length := by
        rw [← rel.length]
        simpa using len
      refine StX.run_bnd lk hcd S hr e0 (G := fun xs H2 => ∃ p, H p = none ∧ xs = permL is (v1 ++ (ms.map (·.2) ++ zs)) ++ [V.ref p] ∧ H2 = upd H p (.tup v2)) (fun A' Ex Q' h => ?_) fun s2 H2 xs ⟨p, hp, ex, eH⟩ hr' => ?_
      · refine ChT.run (e0.mod.kin.keeps fun b o e => (e0.bs b o e).1) hks (hb D doc pm an cdv ct u1 u2 mv ws (by rw [← r1.length]; exact hl1) hl (by rw [← rz.length]; exact hl2)) ?_
        refine wpAny_bind (wpAny_newTuple (wpAny_pure ?_) (by rw [← r2.length]; exact hz))
        have fresh : ObjOk P w (upd H s.heap.objs.size (.tup v2)) (s.heap.push ({ cls := .type "tuple", data := .seq u2.toArray } : Obj)) s.heap.objs.size (.tup v2) := ⟨hz, u2, r2, ⟨_, Heap.get?_push_size _ rfl, rfl, _, rfl⟩⟩
        have un := StX.un_laid (fs := frs outer) (s := s) (o := ({ cls := .type "tuple", data := .seq u2.toArray } : Obj)) (u := .tup v2) hn
        have z := h _ _ (permL is (v1 ++ (ms.map (·.2) ++ zs)) ++ [V.ref s.heap.objs.size]) (permL is (u1 ++ (mv ++ ws)) ++ [Value.ref s.heap.objs.size]) (StX.env0_laid e0 fresh) un rfl (fun e s' => StX.cxUp outer s H _ _ E e s' un (fun b o q => Heap.get?_push_of_some _ q) rfl) (rel.append (.cons rfl .nil))
          (by rw [len, List.length_append]; rfl) ⟨_, hn, rfl, rfl⟩
        rw [List.zip_append len1.symm] at z
        exact z
      · subst ex eH
        refine ⟨TSd K (wOf E) fb, hbody cdv A outer s2 _ E hr' (takes_of rfl rfl rfl rfl) (passes_of rfl), ?_⟩
        obtain ⟨_, g, ds, S, l, rd, p⟩ := says p hp
        refine ⟨g, _, S, l, start_rel rd, ?_⟩
        unfold rawM at p
        cases q : fb (startE N.length ds) S with
        | ok a r S1 =>
          rw [q] at p
          cases a with
          | nx => exact fun g' H' σ' e l' _ => p g' H' .non e l' rfl
          | rt d => exact p
          | bk => exact p.elim
          | ct => exact p.elim
        | er y r S1 =>
          rw [q] at p
          exact fun g' H' σ' cls od e l' _ r' => p g' H' cls od e l' r'
        | no => rw [q] at p; exact p.elim
  · exact absurd rfl e
theorem defRK_of {C : Str} {j n : Nat} {ks : List Str} {mm : MF} {is : List Nat} {ms : List (Str × V)} (msD : List D) (hF : FnRK P w K mg base k (fAd K (C, some "__init__")) j n ks (fun vs zs => permL is (vs ++ (ms.map (·.2) ++ zs))) mm) (hm : (Fa.mkr C).ok K = true) (hg : mg C = some (.ref (ga K C)))
    (hD : ∀ g, RelDs K g msD (ms.map (·.2))) : DefRK P w K mg base C k j n ks (fun ds zs => permL is (ds ++ (msD ++ zs))) mm :=
  ⟨_, _, hF, mkr_ok hm, hg, fun g _ _ _ _ r1 r2 => paired_perm (paired_app r1 (paired_app (hD g) r2)) is⟩
end
def goRK (C : Str) (j n c : Nat) (gD : List D → List D → List D) (mm : MF) (ds zd : List D) : Env → Sto → R D := fun r S =>
  if (j ≤ ds.length ∧ zd.length = c ∧ ds.length ≤ sizeLine) ∧ (gD (.ref S.length :: ds.take j) zd).length + 1 = n then (mm (gD (.ref S.length :: ds.take j) zd ++ [.tup (ds.drop j)]) (S ++ [.ins C [] []])).made r S.length else .no
def eMakeRK (C : Str) (j n c : Nat) (gD : List D → List D → List D) (mm : MF) (fs fk : AF) : EF := fun r S => (fs r S).bind fun ds r S => (fk r S).bind fun zd r S => goRK C j n c gD mm ds zd r S
section
variable {X : Cx} {W : WX} {pins : List (Addr × Obj)} {σ : St} {H : Hp} {s : Shared} {Q : VK} {us ws : List Value} {vs zs : List V} {k j n c : Nat} {mm : MF} {C : Str} {g : Gh} {r : Env} {S : Sto} {ds zd : List D} {ks : List Str} {gD : List D → List D → List D}
theorem run_mkRK (F : DefRK X.prog X.w X.K X.mg X.base C k j n ks gD mm) (room : Room (k + 1) X.A) (tk : Takes X W) (inv : Inv X pins σ H s) (rel : Vals vs us) (rz : Vals zs ws) (l : Rl X.K g S H) (e : REnv X.K g r σ) (rd : RelDs X.K g ds vs) (rzd : RelDs X.K g zd zs) (hc : ks.length = c)
    (p : PostG X.K W (RelD X.K) g σ (goRK C j n c gD mm ds zd r S) Q) : wpAny (model X.prog X.w) X.A (call (.ref (ga X.K C)) us (ks.zip ws)) (EP X pins σ Q) X.xe s := by
  subst hc
  obtain ⟨f, gV, F, M, hm, hrel⟩ := F
  unfold goRK at p
  split at p
  · rename_i hh
    obtain ⟨⟨h1, h2, h3⟩, h4⟩ := hh
    have inv2 := Inv.made (C := ga X.K C) inv
    have hl := rd.length
    have hx := fresh1 inv
    have hdx := fresh0 inv
    have ne : s.heap.objs.size ≠ s.heap.objs.size + 1 := Nat.ne_of_lt (Nat.lt_succ_self _)
    have rel1 : Vals (V.ref (s.heap.objs.size + 1) :: vs.take j) (Value.ref (s.heap.objs.size + 1) :: us.take j) := .cons rfl (rel.take j)
    have x1 := Gh.add_ext (g := g) (p := s.heap.objs.size + 1)
    have cut : (Value.ref (s.heap.objs.size + 1) :: us) = (Value.ref (s.heap.objs.size + 1) :: us.take j) ++ us.drop j := by rw [List.cons_append, List.take_append_drop]
    have out := passAt tk σ
    have says : ∀ q, upd (upd H s.heap.objs.size (.own (s.heap.objs.size + 1))) (s.heap.objs.size + 1) (.ins (ga X.K C) s.heap.objs.size []) q = none → spU X.K n mm (gV (.ref (s.heap.objs.size + 1) :: vs.take j) zs ++ [V.ref q]) (upd (upd (upd H s.heap.objs.size (.own (s.heap.objs.size + 1))) (s.heap.objs.size + 1) (.ins (ga X.K C) s.heap.objs.size [])) q (.tup (vs.drop j))) (fun v H2 => v = .non ∧ Q (.ref (s.heap.objs.size + 1)) H2) (fun cls od H => W cls od σ H) := fun q hq => by
      obtain ⟨g2, x2, l2, r2⟩ := (made_rel (C := C) l hx hdx ne).newTup hq ((rd.drop j).mono x1)
      have ra : RelDs X.K g2 (gD (.ref S.length :: ds.take j) zd ++ [.tup (ds.drop j)]) (gV (.ref (s.heap.objs.size + 1) :: vs.take j) zs ++ [.ref q]) :=
        (hrel g2 _ _ _ _ (.cons ((add_ref l).mono x2) (((rd.take j).mono x1).mono x2)) ((rzd.mono x1).mono x2)).append (.cons r2 .nil)
      refine ⟨by rw [← ra.length, List.length_append]; exact h4, g2, _, _, l2, ra, ?_⟩
      cases qm : mm (gD (.ref S.length :: ds.take j) zd ++ [.tup (ds.drop j)]) (S ++ [.ins C [] []]) with
      | ok d S' =>
        rw [qm] at p
        cases d <;> try (exact p.elim)
        intro g' H' v x' l' r'
        cases r'
        have x3 := x1.trans (x2.trans x')
        refine ⟨rfl, p g' H' _ x3 l' (e.mono x3) ?_⟩
        have hm : g'.m S.length = s.heap.objs.size + 1 := by
          rw [(x2.trans x').m _ (by show S.length < g.sz + 1; rw [l.sz]; exact Nat.lt_succ_self _), ← l.sz, Gh.add_m]
        refine ⟨Nat.lt_of_lt_of_le (by show S.length < g.sz + 1; rw [l.sz]; exact Nat.lt_succ_self _) (x2.trans x').sz, by rw [hm]⟩
      | er d S' =>
        rw [qm] at p
        exact fun g' H' cls od x' l' r' => p g' H' cls od (x1.trans (x2.trans x')) l' (e.mono (x1.trans (x2.trans x'))) r'
      | no => rw [qm] at p; exact p.elim
    have run := F _ X.stack _ _ (Value.ref (s.heap.objs.size + 1) :: us.take j) (us.drop j) ws (V.ref (s.heap.objs.size + 1) :: vs.take j) (vs.drop j) zs _ _ (room.make (ga X.K C) us (ks.zip ws)) (inv2.env0.make (ga X.K C) us (ks.zip ws)) rel1 (rel.drop j) rz
      (by rw [List.length_cons, List.length_take, Nat.min_eq_left (by omega)]) (by rw [← rzd.length]; exact h2) (by rw [List.length_drop]; exact Nat.le_trans (Nat.sub_le _ _) (by rw [← hl]; exact h3)) says
    rw [← cut] at run
    refine wpAny_call (make_map (f := f) inv.kIn M.makes M.init (beq_iff_eq.mp M.fn) (codeAny_mono run fun res t back => ?_))
    match res, back with
    | .error e, back => exact out pins _ _ e t inv2 back
    | .ok (.ret u), back =>
      obtain ⟨v, H3, inv3, ru, hv, hQ⟩ := inv2.after back
      subst hv
      exact ⟨ru, .ref (s.heap.objs.size + 1), H3, inv3, rfl, hQ⟩
  · exact p.elim
end
section
variable {X : Cx} {W : WX} {a : Expr} {es : List Expr} {fs fk : AF} {C : Str} {k j n c : Nat} {mm : MF} {p pos : Pos} {ks : List Str} {gD : List D → List D → List D} {kws : List Keyword}
theorem se_makeRK (F : DefRK X.prog X.w X.K X.mg X.base C k j n ks gD mm) (hr : Room (k + 1) X.A) (tk : Takes X W) (ha : SA X W (a :: es) fs) (hkw : SK X W kws fk) (hc : ks.length = c := by rfl) (hg : Gl X C := by rfl)
    (hall : (backToKw pos (keywordEach kws X.env)).all (·.1.isSome) = true := by rfl) (hks : (backToKw pos (keywordEach kws X.env)).filterMap (·.1) = ks := by rfl) (hdb : (C == ("__debug__" : Str)) = false := by decide)
    (he : starEach (a :: es) X.env = (false, eval a X.env) :: starEach es X.env := by rfl) (hpl : ((backTo pos (starEach (a :: es) X.env)).any (·.1) || (backToKw pos (keywordEach kws X.env)).any (·.1.isNone)) = false := by rfl) :
    SE X W (.Call (.Name C p) (a :: es) kws pos) (eMakeRK C j n c gD mm fs fk) := by
  have M : ∃ f, Mk X.K (ga X.K C) f := let ⟨f, _, _, M, _⟩ := F; ⟨f, M⟩
  obtain ⟨f, M⟩ := M
  have hm : X.mg C = some (.ref (ga X.K C)) := let ⟨_, _, _, _, hm, _⟩ := F; hm
  refine ⟨fun pins s σ H Q I h => ?_⟩
  refine wpAny_Call_Name_kw (ld_glob I hg hm ?_ hdb)
  refine PySem.W.callWith_KW (h₀ := X.base) I.ok.mod.kin M.kp hall (thn (ha.run pos pins s σ H _ I (TD.split (rel := RelDs X.K) h)) fun us s1 ⟨vs, H1, I1, r1, g, ds, r, S, l, e, rd, p⟩ => ?_) hpl he
  refine thn (hkw.run pos pins s1 σ H1 _ I1 ⟨g, r, S, l, e, p.split⟩) fun ws s2 ⟨zs, H2, I2, rz, g2, zd, r2, S2, x2, l2, e2, rzd, p2⟩ => ⟨I2.kIn, ?_⟩
  rw [hks]
  exact run_mkRK F hr tk I2 r1 rz l2 e2 (rd.mono x2) rzd hc p2
/-- the call's node, some items starred, keywords behind -/
theorem callWith_SKW {M : Model} {A : Around} {E : Value → Shared → Prop} {s : Shared} {K : PySem.W.Frag} {env : PySem.Env} {pos : Pos} {f : Value} {Q : Value → Shared → Prop} {e : Expr} {rest : List Expr} {kws : List Keyword} (hk : PySem.W.keepIn K f = true) (hall : (backToKw pos (keywordEach kws env)).all (·.1.isSome) = true)
    (h : wpAny M A (spliced (backTo pos (starEach (e :: rest) env))) (fun vs s₁ => wpAny M A (evalAll ((backToKw pos (keywordEach kws env)).map (·.2)))
      (fun ks s₂ => K.In s₂.heap ∧ wpAny M A (call f vs (((backToKw pos (keywordEach kws env)).filterMap (·.1)).zip ks)) Q E s₂) E s₁) E s)
    (hst : (backTo pos (starEach (e :: rest) env)).any (·.1) = true) (he : starEach (e :: rest) env = (false, eval e env) :: starEach rest env) :
    wpAny M A (callWith pos f [] (backTo pos (starEach (e :: rest) env)) (backToKw pos (keywordEach kws env))) Q E s := by
  have h2 := evalArgs_kw2 (f := f) (Q := fun a s₁ => K.In s₁.heap ∧ wpAny M A (call f ([] ++ a.pos) a.kw) Q E s₁) hall h he
  unfold callWith
  refine wpAny_bind (wpAny_holding (wpAny_mono h2 (fun a s1 h1 => wpAny_bind (wpAny_standAt ?_)) fun _ _ z => z))
  obtain ⟨kk, hkk, L⟩ := PySem.W.keeps_K (M := M) hk _ h1.1
  simp only [hst, Bool.true_or]
  refine wpAny_bind (L.here ?_)
  have fin : ∀ {t : Sem Value}, wpAny M A t Q E s1 → wpAny M A (t >>= fun v => holding [v] point >>= fun _ => pure v) Q E s1 :=
    fun ht => wpAny_bind (wpAny_mono ht (fun v s2 hv => wpAny_bind (wpAny_holding (wpAny_point (wpAny_pure hv)))) fun _ _ z => z)
  have marked (mk : Value) : wpAny M A (callMarked mk f ([] ++ a.pos) a.kw) Q E s1 := by
    unfold callMarked
    exact Calls.wpAny_keep h1.2
  rcases hkk with rfl | rfl | rfl <;> dsimp only <;> first
    | exact fin (marked _)
    | exact fin (wpAny_operating h1.2)
theorem se_makeSK (F : DefRK X.prog X.w X.K X.mg X.base C k j n ks gD mm) (hr : Room (k + 1) X.A) (tk : Takes X W) (ha : SA X W (a :: es) fs) (hkw : SK X W kws fk) (hc : ks.length = c := by rfl) (hg : Gl X C := by rfl)
    (hall : (backToKw pos (keywordEach kws X.env)).all (·.1.isSome) = true := by rfl) (hks : (backToKw pos (keywordEach kws X.env)).filterMap (·.1) = ks := by rfl) (hdb : (C == ("__debug__" : Str)) = false := by decide)
    (he : starEach (a :: es) X.env = (false, eval a X.env) :: starEach es X.env := by rfl) (hst : (backTo pos (starEach (a :: es) X.env)).any (·.1) = true := by rfl) :
    SE X W (.Call (.Name C p) (a :: es) kws pos) (eMakeRK C j n c gD mm fs fk) := by
  have M : ∃ f, Mk X.K (ga X.K C) f := let ⟨f, _, _, M, _⟩ := F; ⟨f, M⟩
  obtain ⟨f, M⟩ := M
  have hm : X.mg C = some (.ref (ga X.K C)) := let ⟨_, _, _, _, hm, _⟩ := F; hm
  refine ⟨fun pins s σ H Q I h => ?_⟩
  refine wpAny_Call_Name_kw (ld_glob I hg hm ?_ hdb)
  refine callWith_SKW (K := X.K) M.kp hall (thn (ha.run pos pins s σ H _ I (TD.split (rel := RelDs X.K) h)) fun us s1 ⟨vs, H1, I1, r1, g, ds, r, S, l, e, rd, p⟩ => ?_) hst he
  refine thn (hkw.run pos pins s1 σ H1 _ I1 ⟨g, r, S, l, e, p.split⟩) fun ws s2 ⟨zs, H2, I2, rz, g2, zd, r2, S2, x2, l2, e2, rzd, p2⟩ => ⟨I2.kIn, ?_⟩
  rw [hks]
  exact run_mkRK F hr tk I2 r1 rz l2 e2 (rd.mono x2) rzd hc p2
variable {Z : D → Env → Sto → Prop} {r : Env} {S : Sto} {Q : D → Env → Sto → Prop}
@[simp] theorem wp_MakeRK : wp (eMakeRK C j n c gD mm fs fk r S) Q Z = wp (fs r S) (fun ds r S => wp (fk r S) (fun zd r S => ((j ≤ ds.length ∧ zd.length = c ∧ ds.length ≤ sizeLine) ∧ (gD (.ref S.length :: ds.take j) zd).length + 1 = n) ∧ wf (mm (gD (.ref S.length :: ds.take j) zd ++ [.tup (ds.drop j)]) (S ++ [.ins C [] []])) (fun d S' => d = .non ∧ Q (.ref S.length) r S') (fun d S' => Z d r S')) Z) Z := by
  unfold eMakeRK goRK
  simp only [wp_bind, wp_ite, wp_made, wp_no, ite_and]
end
end L2.U
namespace L2.U
open PySem PySem.Spec PyProof.Rows He

/-- the default of the keyword-only parameter x of the def at f, if it is an object -/
def kwdAt (f : Str × Option Str) (x : Str) (K : PySem.W.Frag) : Addr := match K.lookup (fAd K f) with
  | some ⟨_, _, .func fd, _⟩ => (match fd.kwdefaults with
    | .ref D => (match PySem.W.nsIn K D x with
      | some (some (.ref a)) => a
      | _ => 0)
    | _ => 0)
  | _ => 0
theorem rel_tup0 {K : PySem.W.Frag} {g : Gh} {a : Addr} (h : kRep K 5 (.tup []) (.ref a) = true) : RelD K g (.tup []) (.ref a) := ⟨rfl, a, rfl, .inr ⟨5, h⟩⟩
end L2.U
namespace L2.U
open PySem PySem.Spec PyProof.Rows He

def isTup : Sto → D → Bool := fun _ x => match x with
  | .tup _ => true
  | _ => false
/-- a constant of the module that is a tuple -/
structure KTup (K : PySem.W.Frag) (mg : Str → Option Value) (x : Str) (d : D) : Prop where
  ex : ∃ a f, mg x = some (.ref a) ∧ kRep K f d (.ref a) = true ∧ ∃ o, K.lookup a = some o ∧ o.cls = .type "tuple" ∧ o.dict = none
def mIndex : Sto → D → List D → Option (D × Sto) := fun S x ds => match x, ds with
  | .tup xs, [.str z] => (strsD xs).bind fun ys => (ys.findIdx? fun y => decide (y = z)).map fun j => (.int (j : Nat), S)
  | _, _ => none
def eIndexC (d : D) (fs : AF) : EF := fun r S => (fs r S).bind fun ds r S => match mIndex S d ds with
  | some (z, S') => .ok z r S'
  | none => .no
section
variable {X : Cx} {W : WX} {e : Expr} {fs : AF} {x : Str} {d : D} {p0 apos cpos : Pos}
theorem se_indexC (h : KTup X.K X.mg x d) (ha : SA X W [e] fs) (hg : Gl X x := by rfl) (hdb : (x == ("__debug__" : Str)) = false := by decide)
    (hbase : attributeBase (.Name x p0) "index" X.env (eval (.Name x p0) X.env) = eval (.Name x p0) X.env := by rfl)
    (hfew : ((backTo cpos (starEach [e] X.env)).all (fun x => !x.1) && (backToKw cpos (keywordEach [] X.env)).all (fun x => x.1.isSome)
      && decide ([e].length + ([] : List Keyword).length + (if ([] : List Keyword).isEmpty then 0 else 1) < 30)) = true := by rfl)
    (hline : (apos.endLine == cpos.line) = true := by rfl) (hs : starEach [e] X.env = (false, eval e X.env) :: starEach [] X.env := by rfl) (hplain : (backTo cpos (starEach [] X.env)).any (·.1) = false := by rfl) :
    SE X W (.Call (.Attribute (.Name x p0) "index" apos) [e] [] cpos) (eIndexC d fs) := by
  obtain ⟨a, f, hm, hk, o, ho1, ho2, ho3⟩ := h
  refine pe_imp (pe_bm F.plainAttrs_tuple F.slot_tuple_index F.type_tuple_index mt_tup_index (pe_glob (v := .ref a) hg hm rfl hdb) ha hbase hfew hline hs hplain) fun σ H Q h => ?_
  refine ⟨.inr (.inl ⟨rfl, o, ho1, ho2, ho3⟩), td_seq (TD.split (rel := RelDs X.K) h) fun vs H1 ⟨g, ds, r, S, l, e1, rd, p⟩ => ?_⟩
  split at p
  · rename_i z S' q
    unfold mIndex at q
    split at q
    · rename_i xs w _
      obtain ⟨ys, h1, q⟩ := Option.bind_eq_some_iff.mp q
      obtain ⟨j, h2, q⟩ := Option.map_eq_some_iff.mp q
      cases q
      obtain ⟨v, r0, q0⟩ := kRep_rel hk
      cases (show v = .ref a from by cases v <;> first | (cases r0; done) | (cases r0; rfl) | (obtain ⟨_, r0⟩ := r0; cases r0; done))
      obtain ⟨b, us, eb, hs', rs⟩ := tup_view l (q0 g)
      cases eb
      cases strsD_ok rs h1
      obtain ⟨hj, h3, h4⟩ := List.findIdx?_eq_some_iff_getElem.mp h2
      refine ⟨a, ys, w, j, rfl, rels_s rd, hs', ?_, fun m hm => ?_, post_ok p l e1 rfl⟩
      · rw [List.getElem?_eq_getElem hj, of_decide_eq_true h3]
      · rw [List.getElem?_eq_getElem (Nat.lt_trans hm hj)]
        intro c
        exact h4 m hm (decide_eq_true (Option.some.inj c))
    · cases q
  · exact p.elim
variable {Z : D → Env → Sto → Prop} {r : Env} {S : Sto} {Q : D → Env → Sto → Prop}
@[simp] theorem wp_IndexC : wp (eIndexC d fs r S) Q Z = wp (fs r S) (fun ds r S => got (mIndex S d ds) fun q => Q q.1 r q.2) Z := by
  unfold eIndexC
  simp only [wp_bind]
  congr; funext ds r S
  cases mIndex S d ds <;> rfl
end
end L2.U
namespace L2.U
open PySem PySem.Spec PyProof.Rows He

def keyOf : D → Option Key
  | .int i => some (.inl i)
  | .str x => some (.inr x)
  | _ => none
theorem keyOf_D (k : Key) : keyOf (keyD k) = some k := by cases k <;> rfl
theorem key_rel {K : PySem.W.Frag} {g : Gh} {y : D} {v : V} {k : Key} (r : RelD K g y v) (h : keyOf y = some k) : v = kV k := by
  cases y <;> simp only [keyOf, reduceCtorEq, Option.some.injEq] at h <;> (subst h; exact r)
def dGet (k : Key) : List D → List D → Option D
  | q :: ks, v :: vs => if keyOf q = some k then some v else dGet k ks vs
  | _, _ => none
def dHas (k : Key) (ks : List D) : Bool := ks.any fun q => decide (keyOf q = some k)
def dPut (k : Key) (d : D) (ks vs : List D) : List D × List D :=
  if dHas k ks = true then (ks, (ks.zip vs).map fun q => if keyOf q.1 = some k then d else q.2) else (ks ++ [keyD k], vs ++ [d])
section
variable {K : PySem.W.Frag} {g : Gh}
theorem dGet_rel {k : Key} : ∀ {kk : List Key} {vs : List D} {ws : List V}, kk.length = ws.length → RelDs K g vs ws →
    (dGet k (kk.map keyD) vs = none ∧ valV (kk.zip ws) k = none) ∨ ∃ d v, dGet k (kk.map keyD) vs = some d ∧ valV (kk.zip ws) k = some v ∧ RelD K g d v
  | [], _, _, _, .nil => .inl ⟨rfl, rfl⟩
  | [], _, _, h, .cons _ _ => by simp at h
  | q :: kk, _, _, h, .nil => by simp at h
  | q :: kk, d :: vs, w :: ws, h, .cons r t => by
    by_cases e : q = k
    · right
      refine ⟨d, w, ?_, ?_, r⟩
      · show (if keyOf (keyD q) = some k then some d else _) = _
        rw [if_pos (by rw [keyOf_D, e])]
      · exact valV_pos (p := (q, w)) e
    · have e1 : dGet k ((q :: kk).map keyD) (d :: vs) = dGet k (kk.map keyD) vs := by
        show (if keyOf (keyD q) = some k then some d else _) = _
        rw [if_neg (by rw [keyOf_D]; exact fun z => e (Option.some.inj z))]
      have e2 : valV ((q :: kk).zip (w :: ws)) k = valV (kk.zip ws) k := valV_neg (p := (q, w)) e
      rw [e1, e2]
      exact dGet_rel (by simpa using h) t
theorem dHas_rel {k : Key} : ∀ {kk : List Key} {ws : List V}, kk.length = ws.length → dHas k (kk.map keyD) = ((kk.zip ws).any fun kv => decide (kv.1 = k))
  | [], [], _ => rfl
  | [], _ :: _, h => by simp at h
  | _ :: _, [], h => by simp at h
  | q :: kk, w :: ws, h => by
    have ih := dHas_rel (k := k) (kk := kk) (ws := ws) (by simpa using h)
    unfold dHas at ih ⊢
    simp only [List.map_cons, List.any_cons, List.zip_cons_cons, ih]
    congr 1
    rw [keyOf_D]
    exact decide_eq_decide.mpr ⟨fun z => Option.some.inj z, fun z => by rw [z]⟩
theorem dRepl_rel {k : Key} {d : D} {v : V} (r0 : RelD K g d v) : ∀ {kk : List Key} {vs : List D} {ws : List V}, kk.length = ws.length → RelDs K g vs ws →
    ∃ us, (kk.zip ws).map (fun kv => if kv.1 = k then (kv.1, v) else kv) = kk.zip us ∧ kk.length = us.length ∧ RelDs K g (((kk.map keyD).zip vs).map fun q => if keyOf q.1 = some k then d else q.2) us
  | [], _, _, _, .nil => ⟨[], rfl, rfl, .nil⟩
  | [], _, _, h, .cons _ _ => by simp at h
  | q :: kk, _, _, h, .nil => by simp at h
  | q :: kk, x :: vs, w :: ws, h, .cons r t => by
    obtain ⟨us, h1, h2, h3⟩ := dRepl_rel (k := k) r0 (kk := kk) (by simpa using h) t
    by_cases e : q = k
    · refine ⟨v :: us, ?_, by simp [h2], ?_⟩
      · simp only [List.zip_cons_cons, List.map_cons, h1]
        rw [if_pos e]
      · simp only [List.map_cons, List.zip_cons_cons]
        rw [if_pos (by rw [keyOf_D, e])]
        exact .cons r0 h3
    · refine ⟨w :: us, ?_, by simp [h2], ?_⟩
      · simp only [List.zip_cons_cons, List.map_cons, h1]
        rw [if_neg e]
      · simp only [List.map_cons, List.zip_cons_cons]
        rw [if_neg (by rw [keyOf_D]; exact fun z => e (Option.some.inj z))]
        exact .cons r h3
theorem dPut_rel {k : Key} {d : D} {v : V} {kk : List Key} {vs : List D} {ws : List V} (r0 : RelD K g d v) (hl : kk.length = ws.length) (rs : RelDs K g vs ws) :
    ∃ (kk' : List Key) (us : List V), (dPut k d (kk.map keyD) vs).1 = kk'.map keyD ∧ putK (kk.zip ws) k v = kk'.zip us ∧ kk'.length = us.length ∧ RelDs K g (dPut k d (kk.map keyD) vs).2 us := by
  have hh := dHas_rel (k := k) hl
  unfold dPut putK
  rw [← hh]
  cases q : dHas k (kk.map keyD) with
  | true =>
    obtain ⟨us, h1, h2, h3⟩ := dRepl_rel (k := k) r0 hl rs
    exact ⟨kk, us, rfl, h1, h2, h3⟩
  | false =>
    refine ⟨kk ++ [k], ws ++ [v], by simp, ?_, by simp [hl], rs.append (.cons r0 .nil)⟩
    simp only [Bool.false_eq_true, if_false]
    rw [List.zip_append hl]
    rfl
end
/-- d[y] -/
def oDGet (S : Sto) (x y : D) : Option D := match x with
  | .ref n => (match S[n]? with
    | some (.dic ks vs) => (keyOf y).bind fun k => dGet k ks vs
    | _ => none)
  | _ => none
/-- y in d -/
def oDHas (S : Sto) (y x : D) : Option Bool := match x with
  | .ref n => (match S[n]? with
    | some (.dic ks vs) => (keyOf y).map fun k => (dGet k ks vs).isSome
    | _ => none)
  | _ => none
/-- d[y] = v -/
def oDPut (S : Sto) (x y d : D) : Option Sto := match x with
  | .ref n => (match S[n]? with
    | some (.dic ks vs) => if ks.length < sizeLine then (keyOf y).map fun k => S.set n (.dic (dPut k d ks vs).1 (dPut k d ks vs).2) else none
    | _ => none)
  | _ => none
def eDGet (fo fi : EF) : EF := fun r S => (fo r S).bind fun x r S => (fi r S).bind fun y r S => match oDGet S x y with
  | some d => .ok d r S
  | none => .no
def eDHas (neg : Bool) (fi fo : EF) : EF := fun r S => (fi r S).bind fun y r S => (fo r S).bind fun x r S => match oDHas S y x with
  | some b => .ok (.bl (b != neg)) r S
  | none => .no
def tDHas (neg : Bool) (fi fo : EF) : TF := fun r S => (fi r S).bind fun y r S => (fo r S).bind fun x r S => match oDHas S y x with
  | some b => .ok (b != neg) r S
  | none => .no
def sDPutU (fv fo fi : EF) : SF := fun r S => (fv r S).bind fun d r S => (fo r S).bind fun x r S => (fi r S).bind fun y r S => match oDPut S x y d with
  | some S' => .ok .nx r S'
  | none => .no
section
variable {X : Cx} {W : WX} {o i v : Expr} {fo fi fv : EF} {pos tpos : Pos}
theorem units1 (h : X.A.units + 64 < cLine) : X.A.units + 1 < cLine := Nat.lt_of_le_of_lt (Nat.add_le_add_left (by decide) _) h
theorem dic_at {K : PySem.W.Frag} {g : Gh} {S : Sto} {H : Hp} {n : Nat} {ks vs : List D} {xv : V} (l : Rl K g S H) (rx : RelD K g (.ref n) xv) (h : S[n]? = some (.dic ks vs)) : ∃ (kk : List Key) (ws : List V), xv = .ref (g.m n) ∧ ks = kk.map keyD ∧ H (g.m n) = some (.dK (kk.zip ws)) ∧ kk.length = ws.length ∧ RelDs K g vs ws := by
  obtain ⟨kk, ws, e1, e2, e3, e4⟩ := (l.sto n _ h (by intro z; cases z)).2
  exact ⟨kk, ws, rx.2, e1, e2, e3, e4⟩
theorem se_dget (hu : X.A.units + 64 < cLine) (ho : SE X W o fo) (hi : SE X W i fi) (hs : NoSl i := by intro _ _; rfl) : SE X W (.Subscript o i pos) (eDGet fo fi) :=
  pe_imp (pe_dget (units1 hu) ho hi hs) fun σ H Q h => td_two h fun g r S H x y xv yv l e rx ry p => by
    split at p
    · rename_i d hd
      cases x <;> simp only [oDGet, reduceCtorEq] at hd
      rename_i n
      split at hd
      · rename_i ks vs hx
        obtain ⟨k, hk, hd⟩ := Option.bind_eq_some_iff.mp hd
        obtain ⟨kk, ws, rfl, rfl, hh, ln, rs⟩ := dic_at l rx hx
        rcases dGet_rel (k := k) ln rs with ⟨h1, _⟩ | ⟨d', v, h1, h2, h3⟩
        · rw [h1] at hd; cases hd
        · rw [h1] at hd
          cases hd
          refine ⟨_, v, rfl, ?_, post_ok p l e h3⟩
          rw [key_rel ry hk, ← h2]
          exact DGet.k hh
      · cases hd
    · exact p.elim
theorem has_core {g : Gh} {S : Sto} {H : Hp} {x y : D} {xv yv : V} {b : Bool} (l : Rl X.K g S H) (rx : RelD X.K g x xv) (ry : RelD X.K g y yv) (hd : oDHas S y x = some b) : ∃ a ov, xv = .ref a ∧ DGet H a yv ov ∧ ov.isSome = b := by
  cases x <;> simp only [oDHas, reduceCtorEq] at hd
  rename_i n
  split at hd
  · rename_i ks vs hx
    obtain ⟨k, hk, rfl⟩ := Option.map_eq_some_iff.mp hd
    obtain ⟨kk, ws, rfl, rfl, hh, ln, rs⟩ := dic_at l rx hx
    refine ⟨_, valV (kk.zip ws) k, rfl, by rw [key_rel ry hk]; exact DGet.k hh, ?_⟩
    rcases dGet_rel (k := k) ln rs with ⟨h1, h2⟩ | ⟨d', v, h1, h2, h3⟩ <;> rw [h1, h2] <;> rfl
  · cases hd
theorem se_din (hu : X.A.units + 64 < cLine) (hi : SE X W i fi) (ho : SE X W o fo) (hm : behindInMarks .In o = false := by first | exact nomark _ | rfl) : SE X W (.Compare i [.In] [o] pos) (eDHas false fi fo) :=
  pe_imp (pe_cmp (pc_din (units1 hu) hi ho) hm) fun σ H Q h => td_two h fun g r S H y x yv xv l e ry rx p => by
    split at p
    · rename_i b hd
      obtain ⟨a, ov, rfl, hg, rfl⟩ := has_core l rx ry hd
      rw [Bool.bne_false] at p
      exact ⟨a, ov, rfl, hg, post_ok p l e rfl⟩
    · exact p.elim
theorem st_din (hu : X.A.units + 64 < cLine) (hi : SE X W i fi) (ho : SE X W o fo) (hm : behindInMarks .In o = false := by first | exact nomark _ | rfl) : ST X W (.Compare i [.In] [o] pos) (tDHas false fi fo) :=
  pt_imp (pt_cmp (pc_din (units1 hu) hi ho) hm) fun σ H Q h => td_two h fun g r S H y x yv xv l e ry rx p => by
    split at p
    · rename_i b hd
      obtain ⟨a, ov, rfl, hg, rfl⟩ := has_core l rx ry hd
      rw [Bool.bne_false] at p
      exact ⟨a, ov, rfl, hg, _, rfl, post_ok p l e rfl⟩
    · exact p.elim
theorem se_dnin (hu : X.A.units + 64 < cLine) (hi : SE X W i fi) (ho : SE X W o fo) (hm : behindInMarks .NotIn o = false := by first | exact nomark _ | rfl) : SE X W (.Compare i [.NotIn] [o] pos) (eDHas true fi fo) :=
  pe_imp (pe_cmp (pc_dnotin (units1 hu) hi ho) hm) fun σ H Q h => td_two h fun g r S H y x yv xv l e ry rx p => by
    split at p
    · rename_i b hd
      obtain ⟨a, ov, rfl, hg, rfl⟩ := has_core l rx ry hd
      rw [Bool.bne_true] at p
      exact ⟨a, ov, rfl, hg, post_ok p l e rfl⟩
    · exact p.elim
theorem st_dnin (hu : X.A.units + 64 < cLine) (hi : SE X W i fi) (ho : SE X W o fo) (hm : behindInMarks .NotIn o = false := by first | exact nomark _ | rfl) : ST X W (.Compare i [.NotIn] [o] pos) (tDHas true fi fo) :=
  pt_imp (pt_cmp (pc_dnotin (units1 hu) hi ho) hm) fun σ H Q h => td_two h fun g r S H y x yv xv l e ry rx p => by
    split at p
    · rename_i b hd
      obtain ⟨a, ov, rfl, hg, rfl⟩ := has_core l rx ry hd
      rw [Bool.bne_true] at p
      exact ⟨a, ov, rfl, hg, _, rfl, post_ok p l e rfl⟩
    · exact p.elim
theorem ss_dput (hu : X.A.units + 64 < cLine) (hv : SE X W v fv) (ho : SE X W o fo) (hi : SE X W i fi) (hs : swapsWith v (some (.Subscript o i tpos)) pos.line X.env = pure false := by rfl) : SS X W (.Assign [.Subscript o i tpos] v pos) (sDPutU fv fo fi) := by
  refine ps_imp (ps_dput (units1 hu) ho hi hv hs) fun E σ H h => ts_seq (rel := RelD X.K) h fun vv H1 g d r S l e q p => ?_
  refine ⟨g, r, S, l, e, PostG.imp (post_s (rel := RelD X.K) p) fun xv H2 ⟨g2, x, r2, S2, e2, l2, re2, rx, p2⟩ => ?_⟩
  refine ⟨g2, r2, S2, l2, re2, PostG.imp (post_s (rel := RelD X.K) p2) fun yv H3 ⟨g3, y, r3, S3, e3, l3, re3, ry, p3⟩ => ?_⟩
  have rx3 := rx.mono e3
  have q3 := q.mono (e2.trans e3)
  split at p3
  · rename_i S' hS
    cases x <;> simp only [oDPut, reduceCtorEq] at hS
    rename_i n
    split at hS
    · rename_i ks vs hx
      split at hS
      · rename_i hz
        obtain ⟨k, hk, rfl⟩ := Option.map_eq_some_iff.mp hS
        obtain ⟨kk, ws, rfl, rfl, hh, ln, rs⟩ := dic_at l3 rx3 hx
        obtain ⟨kk', us, h1, h2, h3, h4⟩ := dPut_rel (k := k) q3 ln rs
        have lw := l3.write (ob' := .dic (dPut k d (kk.map keyD) vs).1 (dPut k d (kk.map keyD) vs).2) (o := .dK (putK (kk.zip ws) k vv)) hx (by intro z; cases z) ⟨kk', us, h1, by rw [upd_same, h2], h3, h4⟩
        have hz' : (kk.zip ws).length < sizeLine := by
          rw [List.length_zip, ← ln, Nat.min_self]
          simpa using hz
        exact ⟨_, _, rfl, by rw [key_rel ry hk]; exact DPut.k hh hz', p3 g3 _ σ (.refl g3) lw re3⟩
      · cases hS
    · cases hS
  · exact p3.elim
end
end L2.U
namespace L2.U
open PySem PySem.Spec PyProof.Rows He

/-- the items that the tests let through, each put under its key -/
def dcF (b : Bn) (tt : TF) (fk fv : EF) (r : Env) (vs : List Nat) : List D → List D → List D → Sto → R (List D × List D)
  | [], ks, ws, S => .ok (ks, ws) r S
  | x :: xs, ks, ws, S => match b x (wipeE r vs) with
    | some r1 => (tt r1 S).calm.bind fun c r2 S2 => if c = true then (fk r2 S2).calm.bind fun y r3 S3 => (fv r3 S3).calm.bind fun z _ S4 => match keyOf y with
      | some k => dcF b tt fk fv r vs xs (dPut k z ks ws).1 (dPut k z ks ws).2 S4
      | none => .no else dcF b tt fk fv r vs xs ks ws S2
    | none => .no
def eDcS (fi : AF) (b : Bn) (vs : List Nat) (tt : TF) (fk fv : EF) : EF := fun r S => (fi r S).bind fun xs r S => if xs.length < sizeLine then (dcF b tt fk fv r vs xs [] [] S).bind fun q r S => .ok (.ref S.length) r (S ++ [.dic q.1 q.2]) else .no
theorem dcF_env {b : Bn} {tt : TF} {fk fv : EF} {r : Env} {vs : List Nat} : ∀ {xs ks ws : List D} {S : Sto} {q : List D × List D} {r' : Env} {S' : Sto}, dcF b tt fk fv r vs xs ks ws S = .ok q r' S' → r' = r
  | [], ks, ws, S, q, r', S', h => by cases h; rfl
  | x :: xs, ks, ws, S, q, r', S', h => by
    unfold dcF at h
    split at h
    · rename_i r1 _
      cases q1 : (tt r1 S).calm with
      | ok c r2 S2 =>
        rw [q1] at h
        simp only [R.bind] at h
        split at h
        · cases q2 : (fk r2 S2).calm with
          | ok y r3 S3 =>
            rw [q2] at h
            simp only at h
            cases q3 : (fv r3 S3).calm with
            | ok z r4 S4 =>
              rw [q3] at h
              simp only at h
              split at h
              · exact dcF_env h
              · cases h
            | er _ _ _ => rw [q3] at h; cases h
            | no => rw [q3] at h; cases h
          | er _ _ _ => rw [q2] at h; cases h
          | no => rw [q2] at h; cases h
        · exact dcF_env h
      | er _ _ _ => rw [q1] at h; cases h
      | no => rw [q1] at h; cases h
    · cases h
theorem dcF_ner {b : Bn} {tt : TF} {fk fv : EF} {r : Env} {vs : List Nat} : ∀ {xs ks ws : List D} {S : Sto} {x : D} {r' : Env} {S' : Sto}, dcF b tt fk fv r vs xs ks ws S ≠ .er x r' S'
  | [], ks, ws, S, x, r', S' => fun h => by cases h
  | y :: xs, ks, ws, S, x, r', S' => fun h => by
    unfold dcF at h
    split at h
    · rename_i r1 _
      cases q1 : tt r1 S with
      | ok c r2 S2 =>
        rw [q1] at h
        simp only [R.calm, R.bind] at h
        split at h
        · cases q2 : fk r2 S2 with
          | ok y r3 S3 =>
            rw [q2] at h
            simp only [R.calm] at h
            cases q3 : fv r3 S3 with
            | ok z r4 S4 =>
              rw [q3] at h
              simp only [R.calm] at h
              split at h
              · exact dcF_ner h
              · cases h
            | er _ _ _ => rw [q3] at h; cases h
            | no => rw [q3] at h; cases h
          | er _ _ _ => rw [q2] at h; cases h
          | no => rw [q2] at h; cases h
        · exact dcF_ner h
      | er _ _ _ => rw [q1] at h; cases h
      | no => rw [q1] at h; cases h
    · cases h
theorem dPut_len {k : Key} {d : D} {ks vs : List D} : (dPut k d ks vs).1.length ≤ ks.length + 1 := by
  unfold dPut
  split <;> simp
section
variable {X : Cx} {W : WX} {tg iter kx vx : Expr} {ifs : List Expr} {pos : Pos} {fi : AF} {b : Bn} {tt : TF} {fk fv : EF} {vs : List Nat} {scope : Scope} {own : List (Str × Nat)}
structure BlkD (X : Cx) (scope : Scope) (own : List (Str × Nat)) (tg : Expr) (ifs : List Expr) (kx vx : Expr) (b : Bn) (tt : TF) (fk fv : EF) : Prop where
  ex : ∃ (t : TG), (∀ s H C cl fp, PG (X.blk s H scope (compEnvC scope cl C X.env) fp) tg t) ∧ GU X.K t b (own.map (·.2)) ∧
    (∀ s H C cl fp, PTs (X.blk s H scope (compEnvC scope cl C X.env) fp) ifs (TD X.K W0 relB tt)) ∧ (∀ s H C cl fp, SE (X.blk s H scope (compEnvC scope cl C X.env) fp) W0 kx fk) ∧ ∀ s H C cl fp, SE (X.blk s H scope (compEnvC scope cl C X.env) fp) W0 vx fv
theorem blkD_mk {t : TG} (h1 : ∀ s H C cl fp, PG (X.blk s H scope (compEnvC scope cl C X.env) fp) tg t) (h2 : GU X.K t b (own.map (·.2)))
    (h3 : ∀ s H C cl fp, PTs (X.blk s H scope (compEnvC scope cl C X.env) fp) ifs (TD X.K W0 relB tt)) (h4 : ∀ s H C cl fp, SE (X.blk s H scope (compEnvC scope cl C X.env) fp) W0 kx fk) (h5 : ∀ s H C cl fp, SE (X.blk s H scope (compEnvC scope cl C X.env) fp) W0 vx fv) : BlkD X scope own tg ifs kx vx b tt fk fv := ⟨t, h1, h2, h3, h4, h5⟩
/-- the block's turns -/
theorem dcomp_core {Q : VK} {σ : St} {H1 : Hp} {g0 : Gh} {r0 : Env} {S0 Se : Sto} {xs : List D} {qs : List D × List D} {J : It} {t : TG} (src : SrcOk X.K g0 xs J) (l : Rl X.K g0 S0 H1) (e : REnv X.K g0 r0 σ) (hl : xs.length < sizeLine) (gu : GU X.K t b vs)
    (hrun : dcF b tt fk fv r0 vs xs [] [] S0 = .ok qs r0 Se) (D0 : Addr) (hD : H1 D0 = none)
    (k : ∀ g H (kk : List Key) zs, ExtW g0 g → g.F = (g0.res D0 (.dK (kk.zip zs))).F → Rl X.K g Se H → qs.1 = kk.map keyD → kk.length = zs.length → RelDs X.K g qs.2 zs → Q (.ref D0) H) :
    ∃ Wl : Nat → Nat → Hp → Prop, (∃ m, Wl 0 m (upd H1 D0 (.dK []))) ∧ ∀ i m H, Wl i m H →
      (J.stop i H ∧ Q (.ref D0) H) ∨ (J.go i H ∧ ∃ Nx : Hp → Prop, (∀ H', Nx H' → ∃ m', m' < m ∧ Wl (i + 1) m' H') ∧ ∀ x H', J.yld i H x H' → t x (wipe σ vs) H' fun σ2 H2 => wipe σ2 vs = wipe σ vs ∧ (TD X.K W0 relB tt) σ2 H2 fun b H3 =>
        if b = true then (TD X.K W0 (RelD X.K) fk) σ2 H3 fun y H4 => (TD X.K W0 (RelD X.K) fv) σ2 H4 fun z H5 => ∃ kvs k, y = kV k ∧ H5 D0 = some (.dK kvs) ∧ kvs.length < sizeLine ∧ Nx (upd H5 D0 (.dK (putK kvs k z))) else Nx H3) := by
  obtain ⟨G, Y, wk, hG, hY⟩ := src
  let Pv : Nat → Hp → Prop := fun i H => ∃ (g : Gh) (S : Sto) (zs : List D) (kk : List Key) (acc : List V), ExtW g0 g ∧ g.F = (g0.res D0 (.dK (kk.zip acc))).F ∧ Rl X.K g S H ∧ kk.length = acc.length ∧ RelDs X.K g zs acc ∧ kk.length ≤ i ∧ dcF b tt fk fv r0 vs (xs.drop i) (kk.map keyD) zs S = .ok qs r0 Se
  refine ⟨fun i m H => m = xs.length - i ∧ i ≤ xs.length ∧ Pv i H, ⟨xs.length, by simp, Nat.zero_le _, g0.res D0 (.dK []), S0, [], [], [], ⟨fun _ _ h => h, Nat.le_refl _, fun _ _ => rfl⟩, rfl, l.res hD, rfl, .nil, Nat.le_refl _, hrun⟩, ?_⟩
  rintro i m H ⟨rfl, hi', p⟩
  obtain ⟨g, S, zs, kk, acc, x0, hF, l', ln, rz, hz, hr⟩ := p
  have hg := hG g S H x0 l'
  by_cases hi : i < xs.length
  · refine .inr ⟨wk.goes i H hi hg, Pv (i + 1), fun H' p' => ⟨xs.length - (i + 1), by omega, rfl, hi, p'⟩, fun x H' y => ?_⟩
    obtain ⟨g2, x2, l2, rx⟩ := hY i xs[i] g S H x H' (by simp [hi]) x0 l' (wk.yields i H x H' hi hg y)
    rw [List.drop_eq_getElem_cons hi] at hr
    unfold dcF at hr
    split at hr
    · rename_i r1 hr1
      refine gu g2 S _ _ H' xs[i] x r1 _ l2 ((wipeE_rel e vs).monoW (x0.trans x2.w)) rx hr1 fun σ2 e2 w2 => ?_
      refine ⟨(w2 vs fun _ h => h).trans (wipe_wipe fun _ h => h), g2, r1, S, l2, e2, ?_⟩
      have accl : (kk.zip acc).length < sizeLine := by
        rw [List.length_zip, ← ln, Nat.min_self]
        omega
      cases q : tt r1 S with
      | ok c r2 S2 =>
        rw [q] at hr
        intro g3 H3 c' x3 l3 e3 rb
        cases rb
        simp only [R.calm, R.bind] at hr
        have xw3 : ExtW g0 g3 := x0.trans (x2.w.trans x3.w)
        have F3 : g3.F = (g0.res D0 (.dK (kk.zip acc))).F := x3.F.trans (x2.F.trans hF)
        split
        · rename_i hc
          rw [if_pos hc] at hr
          refine ⟨g3, r2, S2, l3, e3, ?_⟩
          cases q2 : fk r2 S2 with
          | ok yd r3 S3 =>
            rw [q2] at hr
            intro g4 H4 yv x4 l4 e4 ry
            simp only [R.calm] at hr
            refine ⟨g4, r3, S3, l4, e4, ?_⟩
            cases q3 : fv r3 S3 with
            | ok zd r4 S4 =>
              rw [q3] at hr
              intro g5 H5 zv x5 l5 e5 rzv
              simp only [R.calm] at hr
              split at hr
              · rename_i kq hk
                have F5 : g5.F = (g0.res D0 (.dK (kk.zip acc))).F := x5.F.trans (x4.F.trans F3)
                have FD : g5.F D0 = some (.dK (kk.zip acc)) := by rw [F5]; exact if_pos rfl
                have rz5 := rz.monoW (x2.w.trans (x3.w.trans (x4.w.trans x5.w)))
                obtain ⟨kk', us, h1, h2, h3, h4⟩ := dPut_rel (k := kq) rzv ln rz5
                refine ⟨kk.zip acc, kq, key_rel ry hk, (l5.fr D0 _ FD).1, accl, ?_⟩
                refine ⟨g5.res D0 (.dK (putK (kk.zip acc) kq zv)), S4, (dPut kq zd (kk.map keyD) zs).2, kk', us, ?_, by rw [h2]; exact res_F F5, l5.rewrite FD, h3, ?_, ?_, by rw [← h1]; exact hr⟩
                · have := xw3.trans (x4.w.trans x5.w)
                  exact ⟨this.G, this.sz, this.m⟩
                · exact h4.eqG rfl rfl rfl
                · have := dPut_len (k := kq) (d := zd) (ks := kk.map keyD) (vs := zs)
                  rw [h1, List.length_map, List.length_map] at this
                  omega
              · cases hr
            | er _ _ _ => rw [q3] at hr; cases hr
            | no => rw [q3] at hr; cases hr
          | er _ _ _ => rw [q2] at hr; cases hr
          | no => rw [q2] at hr; cases hr
        · rename_i hc
          rw [if_neg hc] at hr
          exact ⟨g3, S2, zs, kk, acc, xw3, F3, l3, ln, rz.monoW (x2.w.trans x3.w), Nat.le_succ_of_le hz, hr⟩
      | er _ _ _ => rw [q] at hr; cases hr
      | no => rw [q] at hr; cases hr
    · cases hr
  · have en : i = xs.length := by omega
    subst en
    rw [List.drop_length] at hr
    cases hr
    exact .inl ⟨wk.stops H hg, k g H kk acc x0 hF l' rfl ln rz⟩
theorem se_dcS (hc : X.calm = true) (hN : X.N.Nodup) (hi : IterU X W tg iter fi) (ok : BlkOk X.N X.env.scope scope own) (hb : BlkD X scope own tg ifs kx vx b tt fk fv) (hs : ∀ x, foldedSetIterable iter X.env x = pure x := by intro _; rfl) :
    SE X W (.DictComp kx vx [⟨tg, iter, ifs, 0⟩] scope pos) (eDcS fi b (own.map (·.2)) tt fk fv) := by
  obtain ⟨wi, pi, hw⟩ := hi
  obtain ⟨t, h1, gu, h2, h3, h4⟩ := hb
  refine pe_imp (pe_dc (tk := TD X.K W0 (RelD X.K) fk) (tv := TD X.K W0 (RelD X.K) fv) hc hN pi ok h1 h2 h3 h4 hs) fun σ H Q h => hw σ H _ (td_seq (TD.split (rel := fun g xs J => SrcOk X.K g xs J) h) fun J H1 ⟨g0, xs, r0, S0, l, e, src, p⟩ D0 hD => ?_)
  split at p
  · rename_i hl
    cases q : dcF b tt fk fv r0 (own.map (·.2)) xs [] [] S0 with
    | ok qs r1 Se =>
      have e5 := dcF_env q
      subst e5
      rw [q] at p
      refine dcomp_core src l e hl gu q D0 hD fun g H' kk zs x hF l' hk ln rz => ?_
      have FD : g.F D0 = some (.dK (kk.zip zs)) := by rw [hF]; exact if_pos rfl
      have hb := l'.addB (F := g0.F) (ob := .dic qs.1 qs.2) FD (noF l hD) (fun a ha => by
        rw [hF]
        show g0.F a = if a = D0 then _ else g0.F a
        rw [if_neg ha]) ⟨kk, zs, hk, (l'.fr D0 _ FD).1, ln, rz⟩
      have pe := Gh.add_ext (g := g) (p := D0)
      have xx : Ext g0 { g.add D0 with F := g0.F } := ⟨fun a d h => pe.G a d (x.G a d h), Nat.le_trans x.sz pe.sz, fun n hn => (pe.m n (Nat.lt_of_lt_of_le hn x.sz)).trans (x.m n hn), rfl⟩
      refine p _ H' _ xx hb (e.mono xx) ⟨?_, ?_⟩
      · show Se.length < g.sz + 1
        rw [l'.sz]; exact Nat.lt_succ_self _
      · have : (g.add D0).m Se.length = D0 := if_pos l'.sz.symm
        show V.ref D0 = .ref ((g.add D0).m Se.length)
        rw [this]
    | er _ _ _ => exact absurd q dcF_ner
    | no => rw [q] at p; exact p.elim
  · exact p.elim
end
end L2.U
namespace L2.U
open PySem PySem.Spec PyProof.Rows He

/-- x += e, lists; x is a list of the store -/
def oExt (S : Sto) (x y : D) : Option Sto := match x with
  | .ref n => (match S[n]? with
    | some (.lst xs) => (match lstMOf S y with
      | some ys => if xs.length + ys.length ≤ sizeLine then some (S.set n (.lst (xs ++ ys))) else none
      | none => none)
    | _ => none)
  | _ => none
def sAugL (i : Nat) (fa : EF) : SF := fun r S => match r[i]? with
  | some (some x) => (fa r S).bind fun y r S => (match oExt S x y with
    | some S' => .ok .nx (r.set i (some x)) S'
    | none => .no)
  | _ => .no
section
variable {X : Cx} {W : WX} {a : Expr} {fa : EF} {pos : Pos}
theorem ss_augL (i : Nat) {x : Str} {pos' : Pos} (ha : SE X W a fa) (hN : X.N.Nodup) (hi : X.N[i]? = some x := by rfl) (hx : Loc X.env.scope x := by first | exact Or.inl rfl | exact Or.inr rfl)
    (hf : X.fn x = true ∨ X.env.scope.names.lookup x = some .local := by first | exact .inl rfl | exact .inr rfl | assumption) : SS X W (.AugAssign (.Name x pos') .Add a pos) (sAugL i fa) := by
  refine ps_imp (ps_aug hN hi hx ha iop_ext hf) fun E σ H ⟨g, r, S, l, e, p⟩ => ?_
  unfold sAugL at p
  split at p
  · rename_i x' hx'
    obtain ⟨v, h1, h2⟩ := e.2 i x' hx'
    refine ⟨v, h1, g, r, S, l, e, PostG.imp (post_s (rel := RelD X.K) p) fun yv H' ⟨g', y, r', S', e', l', re, ry, p'⟩ => ?_⟩
    split at p'
    · rename_i T hT
      obtain ⟨n, rfl⟩ : ∃ n, x' = .ref n := by
        cases x' <;> simp only [oExt, reduceCtorEq] at hT
        exact ⟨_, rfl⟩
      simp only [oExt] at hT
      split at hT
      · rename_i xs hxs
        split at hT
        · rename_i ys hys
          split at hT
          · rename_i hz
            cases hT
            obtain ⟨m1, us, hu, ru⟩ := l'.sto n _ hxs (by intro z; cases z)
            have hv := (h2.mono e').2
            subst hv
            obtain ⟨b, ws, rfl, hw, rw'⟩ : ∃ b ws, yv = .ref b ∧ H' b = some (.lst ws) ∧ RelDs X.K g' ys ws := by
              cases y <;> simp only [lstMOf, reduceCtorEq, Option.some.injEq] at hys
              · subst hys
                obtain ⟨_, b, rfl, q⟩ := ry
                obtain ⟨ws, hw, rr⟩ := l'.imm b _ q
                exact ⟨b, ws, rfl, hw, rr⟩
              · rename_i k
                split at hys
                · rename_i zs hk
                  cases hys
                  obtain ⟨_, ws, hw, rr⟩ := l'.sto k _ hk (by intro z; cases z)
                  exact ⟨_, ws, ry.2, hw, rr⟩
                · cases hys
            have lw := l'.write (ob' := .lst (xs ++ ys)) (o := .lst (us ++ ws)) hxs (by intro z; cases z) ⟨us ++ ws, upd_same, ru.append rw'⟩
            refine ⟨_, b, us, ws, rfl, rfl, hu, hw, by rw [← ru.length, ← rw'.length]; exact hz, p' g' _ _ (.refl g') lw (re.set i (h2.mono e'))⟩
          · cases hT
        · cases hT
      · cases hT
    · exact p'.elim
  · exact p.elim
variable {Z : D → Env → Sto → Prop} {r : Env} {S : Sto} {L : Fl → Env → Sto → Prop}
@[simp] theorem wp_sAugL {i : Nat} : wp (sAugL i fa r S) L Z = got (rd r i) fun x => wp (fa r S) (fun y r S => got (oExt S x y) fun S' => L .nx (r.set i (some x)) S') Z := by
  unfold sAugL rd
  split
  · rename_i x h
    simp only [h, wp_bind, got_some]
    congr; funext y r S
    cases oExt S _ y <;> rfl
  · simp_all
end
/-- list(d): its keys, kept in the store -/
def eListDS (fs : AF) : EF := fun r S => (fs r S).bind fun ds r S => match ds with
  | [.ref n] => (match S[n]? with
    | some (.dic ks _) => .ok (.ref S.length) r (S ++ [.lst ks])
    | _ => .no)
  | _ => .no
theorem rel_keys {K : PySem.W.Frag} {g : Gh} : ∀ (kk : List Key) (ws : List V), kk.length = ws.length → RelDs K g (kk.map keyD) ((kk.zip ws).map fun kv => kV kv.1)
  | [], [], _ => .nil
  | [], _ :: _, h => by simp at h
  | _ :: _, [], h => by simp at h
  | k :: kk, w :: ws, h => .cons (by cases k <;> rfl) (rel_keys kk ws (by simpa using h))
section
variable {X : Cx} {W : WX} {pos p : Pos} {a : Expr} {es : List Expr} {fs : AF}
theorem se_listDS (hm : X.mg "list" = none) (ha : SA X W (a :: es) fs) (hc : X.calm = true := by rfl) (hg : Gl X "list" := by rfl)
    (he : starEach (a :: es) X.env = (false, eval a X.env) :: starEach es X.env := by rfl) (hpl : (backTo pos (starEach es X.env)).any (·.1) = false := by rfl) : SE X W (.Call (.Name "list" p) (a :: es) [] pos) (eListDS fs) := by
  refine pe_imp (pe_callTy (call_list_dK hc) hg hm (by decide +kernel) ha (by decide) (by decide) he hpl) fun σ H Q h => td_seq (TD.split (rel := RelDs X.K) h) fun vs H1 ⟨g, ds, r, S, l, e, rd, p⟩ => ?_
  split at p
  · rename_i n
    split at p
    · rename_i ks vs' hx
      obtain ⟨v, rfl, rv⟩ := rel1 rd
      obtain ⟨kk, ws, rfl, rfl, hh, ln, rs⟩ := dic_at l rv hx
      refine ⟨_, kk.zip ws, rfl, hh, fun q hq => ?_⟩
      obtain ⟨g', e1, l1, r1⟩ := l.newSto hq (rel_keys (K := X.K) (g := g) kk ws ln)
      exact p g' _ _ e1 l1 (e.mono e1) r1
    · exact p.elim
  · exact p.elim
end
end L2.U
namespace L2.U
open PySem PySem.Spec PyProof.Rows He

section
variable {P : Program} {w : World} {K : PySem.W.Frag} {mg : Str → Option Value} {base : Heap} {x qual : Str} {params : Arguments} {body : List Stmt} {scope : Scope} {f : Addr} {fd : FuncData} {ps : List Str} {k j : Nat} {mm : MF} {C m : Str} {dvs : List V} {kws : List (Str × V)} {dds : List D}
theorem def1_ofD (hF : FnU P w K mg base k f fd ps mm) (F : FunD K x qual params body scope dvs kws f fd) (hm : mg x = some (.ref f)) (hb : ∃ ds, Vals (dvs.drop j) ds ∧ Binds K fd ps ds) (hD : ∀ g, RelDs K g dds (dvs.drop j)) : Def1 P w K mg base x k ps mm dds :=
  let ⟨ds, hv, hb⟩ := hb
  ⟨f, fd, _, ds, hF, hm, F.kp, hb, hv, hD⟩
theorem defC_ofD (hF : FnU P w K mg base k (fAd K (C, some "__init__")) fd ps mm) (hm : (Fa.mkr C).ok K = true) (hg : mg C = some (.ref (ga K C))) (hb : ∃ ds, Vals (dvs.drop j) ds ∧ Binds K fd ps ds) (hD : ∀ g, RelDs K g dds (dvs.drop j)) : DefC P w K mg base C k ps mm dds :=
  let ⟨ds, hv, hb⟩ := hb
  ⟨_, fd, _, ds, hF, mkr_ok hm, hg, hb, hv, hD⟩
theorem defM_ofD (hF : FnU P w K mg base k (fAd K (C, some m)) fd ps mm) (hc : (Fa.cls C).ok K = true) (hm : (Fa.meth C m).ok K = true) (hb : ∃ ds, Vals (dvs.drop j) ds ∧ Binds K fd ps ds) (hD : ∀ g, RelDs K g dds (dvs.drop j)) : DefM P w K mg base C m k ps mm dds :=
  let ⟨ds, hv, hb⟩ := hb
  ⟨_, fd, _, ds, hF, cls_ok hc, meth_ok hm, hb, hv, hD⟩
end
/-- list(text), kept in the store -/
def eListTS (fs : AF) : EF := fun r S => (fs r S).bind fun ds r S => match ds with
  | [.str z] => if z.length ≤ sizeLine then .ok (.ref S.length) r (S ++ [.lst (signsD z)]) else .no
  | _ => .no
section
variable {X : Cx} {W : WX} {pos p : Pos} {a : Expr} {es : List Expr} {fs : AF}
theorem se_listTS (hm : X.mg "list" = none) (ha : SA X W (a :: es) fs) (hc : X.calm = true := by rfl) (hg : Gl X "list" := by rfl)
    (he : starEach (a :: es) X.env = (false, eval a X.env) :: starEach es X.env := by rfl) (hpl : (backTo pos (starEach es X.env)).any (·.1) = false := by rfl) : SE X W (.Call (.Name "list" p) (a :: es) [] pos) (eListTS fs) := by
  refine pe_imp (pe_callTy (call_listT hc) hg hm (by decide +kernel) ha (by decide) (by decide) he hpl) fun σ H Q h => td_seq (TD.split (rel := RelDs X.K) h) fun vs H1 ⟨g, ds, r, S, l, e, rd, p⟩ => ?_
  split at p
  · rename_i z
    split at p
    · rename_i hz
      obtain ⟨v, rfl, rv⟩ := rel1 rd
      cases rv
      refine ⟨z, rfl, hz, fun q hq => ?_⟩
      obtain ⟨g', e1, l1, r1⟩ := l.newSto hq (rel_signs (K := X.K) (g := g) z.cps.toList)
      exact p g' _ _ e1 l1 (e.mono e1) r1
    · exact p.elim
  · exact p.elim
end
/-- the module's constants that are tuples, with what index needs -/
def ktB (K : PySem.W.Frag) (x : Str) (d : D) : Bool := match PySem.W.nsIn K mainGlobals x with
  | some (some (.ref a)) => kRep K 50 d (.ref a) && (match K.lookup a with
    | some o => decide (o.cls = .type "tuple") && decide (o.dict = none)
    | none => false)
  | _ => false
theorem kt_of {K : PySem.W.Frag} {mg : Str → Option Value} (N : Nm K mg) {x : Str} {d : D} (h : ktB K x d = true) : KTup K mg x d := by
  unfold ktB at h
  split at h
  · rename_i a q
    obtain ⟨h1, h2⟩ := ba h
    split at h2
    · rename_i o ho
      obtain ⟨h3, h4⟩ := ba h2
      exact ⟨a, 50, N.v x _ q, h1, o, ho, of_decide_eq_true h3, of_decide_eq_true h4⟩
    · cases h2
  · cases h
end L2.U
namespace L2.U
open PySem PySem.Spec PyProof.Rows He

/-! ### y = {.. for ..} -/
section
variable {X : Cx} {W : WX} {tg iter kx vx : Expr} {ifs : List Expr} {pos : Pos} {fi : AF} {b : Bn} {tt : TF} {fk fv : EF} {vs : List Nat} {scope : Scope} {own : List (Str × Nat)}
theorem sw_trueD {gs : List Comprehension} {py : Pos} {y : Str} {l : Nat} {env : PySem.Env} (hk : env.scope.kind = .function) (hy : env.scope.names.lookup y = some .local) (hl : (py.line == pos.line) = true)
    (ha : (scope.names.any fun (n, k) => n == y && (k == .local || k == .cell)) = false) : swapsWith (.DictComp kx vx gs scope pos) (some (.Name y py)) l env = pure true := by
  have ky : env.kindOf y = some .local := hy
  have hb : env.blockKind = .function := by unfold Env.blockKind; rw [hk]; rfl
  unfold swapsWith
  simp only [hb, ky, ha, Expr.pos, hl]
  rfl
theorem ps_setDc {i : Nat} {y : Str} {py spos : Pos} {wi : TI} {g : TG} {tt : TT} {tk tv : TE} (hc : X.calm = true) (hN : X.N.Nodup) (hy : X.N[i]? = some y) (hyl : X.env.scope.names.lookup y = some .local)
    (hsw : swapsWith (.DictComp kx vx [⟨tg, iter, ifs, 0⟩] scope pos) (some (.Name y py)) spos.line X.env = pure true) (hi : PI X tg iter wi) (ok : BlkOk X.N X.env.scope scope own)
    (hg : ∀ (s : Shared) (H : Hp) (C : Addr) (cl : List (Str × Addr)) (fp : List Addr), PG (X.blk s H scope (compEnvC scope cl C X.env) fp) tg g) (ht : ∀ (s : Shared) (H : Hp) (C : Addr) (cl : List (Str × Addr)) (fp : List Addr), PTs (X.blk s H scope (compEnvC scope cl C X.env) fp) ifs tt)
    (hkx : ∀ (s : Shared) (H : Hp) (C : Addr) (cl : List (Str × Addr)) (fp : List Addr), PE (X.blk s H scope (compEnvC scope cl C X.env) fp) kx tk)
    (he : ∀ (s : Shared) (H : Hp) (C : Addr) (cl : List (Str × Addr)) (fp : List Addr), PE (X.blk s H scope (compEnvC scope cl C X.env) fp) vx tv) (hs : ∀ x, foldedSetIterable iter X.env x = pure x) :
    PS X (.Assign [.Name y py] (.DictComp kx vx [⟨tg, iter, ifs, 0⟩] scope pos) spos) (tAsg (tDc wi g tt tk tv (own.map (·.2))) (gName i)) := by
  refine ⟨fun pins s σ H D I h => ?_⟩
  rw [exec_Assign_Name_used _ _ _ _ hsw]
  refine wpAny_bind (wpAny_standAt (wpAny_bind ?_))
  show wpAny _ X.A (do let _ ← comprehension (.DictComp kx vx [⟨tg, iter, ifs, 0⟩] scope pos) scope X.env (firstIterPos [⟨tg, iter, ifs, 0⟩] pos) newDict false (eval iter X.env) (some (assign (.Name y py) X.env))) _ _ s
  have h : tDc wi g tt tk tv (own.map (·.2)) σ H (fun x H1 => gName i x σ H1 D.nx) := h
  refine wpAny_bind (thn (dc_core (Qf := fun _ s' => SP X pins D .next s') hc hN I hi ok hg ht hkx he hs h fun L C s' m H' I' q hn f => ?_) fun _ s' hq => wpAny_pure (wpAny_pure hq))
  show wpAny _ _ (assign (.Name y py) X.env (.ref L)) _ _ _
  refine wpAny_assign_Name (store_ok2 (v := V.ref L) I' hN hy (.inl hyl) rfl (fun s2 I2 ⟨a, sb, ha⟩ => ?_) (.inr hyl))
  obtain ⟨f0, f1, f2, f3, f4, f5⟩ := f
  have haC : C ≠ a := by
    rcases ha with z | z
    · rw [z]; exact f1
    · exact fun e => f4 y a z e.symm
  refine ⟨m, hn.sameBut sb haC, fun h3 sb3 => ?_⟩
  exact ⟨_, H', I2.turned (t' := s2.toks) (fun b o hb e => (sb3.2 b hb).trans e) f0 f1 f3 f4 f5, q⟩
theorem dcS_td {wi : TI} {t : TG} (hw : ∀ σ H R, TD X.K W (fun g xs J => SrcOk X.K g xs J) fi σ H R → wi σ H R) (gu : GU X.K t b vs) {σ : St} {H : Hp} {Q : VK} (h : TD X.K W (RelD X.K) (eDcS fi b vs tt fk fv) σ H Q) :
    tDc wi t (TD X.K W0 relB tt) (TD X.K W0 (RelD X.K) fk) (TD X.K W0 (RelD X.K) fv) vs σ H Q := by
  refine hw σ H _ (td_seq (TD.split (rel := fun g xs J => SrcOk X.K g xs J) h) fun J H1 ⟨g0, xs, r0, S0, l, e, src, p⟩ D0 hD => ?_)
  split at p
  · rename_i hl
    cases q : dcF b tt fk fv r0 vs xs [] [] S0 with
    | ok qs r1 Se =>
      have e5 := dcF_env q
      subst e5
      rw [q] at p
      refine dcomp_core src l e hl gu q D0 hD fun g H' kk zs x hF l' hk ln rz => ?_
      have FD : g.F D0 = some (.dK (kk.zip zs)) := by rw [hF]; exact if_pos rfl
      have hb := l'.addB (F := g0.F) (ob := .dic qs.1 qs.2) FD (noF l hD) (fun a ha => by
        rw [hF]
        show g0.F a = if a = D0 then _ else g0.F a
        rw [if_neg ha]) ⟨kk, zs, hk, (l'.fr D0 _ FD).1, ln, rz⟩
      have pe := Gh.add_ext (g := g) (p := D0)
      have xx : Ext g0 { g.add D0 with F := g0.F } := ⟨fun a d h => pe.G a d (x.G a d h), Nat.le_trans x.sz pe.sz, fun n hn => (pe.m n (Nat.lt_of_lt_of_le hn x.sz)).trans (x.m n hn), rfl⟩
      refine p _ H' _ xx hb (e.mono xx) ⟨?_, ?_⟩
      · show Se.length < g.sz + 1
        rw [l'.sz]; exact Nat.lt_succ_self _
      · have : (g.add D0).m Se.length = D0 := if_pos l'.sz.symm
        show V.ref D0 = .ref ((g.add D0).m Se.length)
        rw [this]
    | er _ _ _ => exact absurd q dcF_ner
    | no => rw [q] at p; exact p.elim
  · exact p.elim
theorem ss_setDcS (i : Nat) {y : Str} {py spos : Pos} (hc : X.calm = true) (hN : X.N.Nodup) (hi : IterU X W tg iter fi) (ok : BlkOk X.N X.env.scope scope own) (hb : BlkD X scope own tg ifs kx vx b tt fk fv) (hv : own.map (·.2) = vs := by rfl) (hk : X.env.scope.kind = .function := by rfl) (hy : X.N[i]? = some y := by rfl) (hyl : X.env.scope.names.lookup y = some .local := by rfl)
    (hl : (py.line == pos.line) = true := by rfl) (ha : (scope.names.any fun (n, k) => n == y && (k == .local || k == .cell)) = false := by rfl) (hs : ∀ x, foldedSetIterable iter X.env x = pure x := by intro _; rfl) :
    SS X W (.Assign [.Name y py] (.DictComp kx vx [⟨tg, iter, ifs, 0⟩] scope pos) spos) (sAsg (eDcS fi b vs tt fk fv) (bName i)) := by
  subst hv
  obtain ⟨wi, pi, hw⟩ := hi
  obtain ⟨t, h1, gu, h2, h3, h4⟩ := hb
  refine ps_imp (ps_setDc hc hN hy hyl (sw_trueD hk hyl hl ha) pi ok h1 h2 h3 h4 hs) fun E σ H h => dcS_td hw gu (ts_seq h fun v H' g d r S l e q p => ?_)
  exact post_nx p l (e.set i q)
end

/-! ### properties -/
/-- C's property f, whose getter does mm -/
structure DefP (P : Program) (w : World) (K : PySem.W.Frag) (mg : Str → Option Value) (base : Heap) (C f : Str) (k : Nat) (mm : MF) : Prop where
  ex : ∃ p g fd ps, PropOf K (ga K C) f p g ∧ Cls K (ga K C) ∧ FnU P w K mg base k g fd ps mm ∧ ps.length = 1 ∧ Binds K fd ps []
def eProp (C : Str) (mm : MF) (fo : EF) : EF := fun r S => (fo r S).bind fun x r S => match insOf S x with
  | some q => if q.1 = C then (match mm [x] S with
    | .ok d S' => .ok d r S'
    | _ => .no) else .no
  | none => .no
section
variable {X : Cx} {W : WX} {C f : Str} {k : Nat} {mm : MF} {o : Expr} {fo : EF} {pos : Pos}
theorem se_prop (F : DefP X.prog X.w X.K X.mg X.base C f k mm) (hr : Room (k + 1) X.A) (ho : SE X W o fo) (hb : attributeBase o f X.env (eval o X.env) = eval o X.env := by rfl) : SE X W (.Attribute o f pos) (eProp C mm fo) := by
  obtain ⟨p, g, fd, ps, hp, hc, F, hl, hbd⟩ := F
  refine pe_imp (pe_prop (E := noE) ho hc hp F hr hbd .nil (fun _ _ _ _ _ _ _ h => by
    obtain ⟨_, _, _, _, _, _, _, _, _, _, _, _, z⟩ := h
    exact z.elim) hb) fun σ H Q hq => td_seq (TD.split (rel := RelD X.K) hq) fun xv H1 ⟨g, x, r, S, l, e, rx, p⟩ => ?_
  split at p
  · rename_i q hi
    obtain ⟨C', ns, ds⟩ := q
    split at p
    · rename_i hc
      cases hc
      obtain ⟨a, dx, vs, rfl, e1, e2, e3⟩ := ins_view l rx hi
      refine ⟨a, dx, _, rfl, e1, by rw [hl]; rfl, g, [x], S, l, .cons rx .nil, ?_⟩
      cases q : mm [x] S with
      | ok d S' =>
        rw [q] at p
        exact fun g' H' v x' l' r' => p g' H' v x' l' (e.mono x') r'
      | er d S' => rw [q] at p; exact p.elim
      | no => rw [q] at p; exact p.elim
    · exact p.elim
  · exact p.elim
end

/-! ### own != -/
section
variable {prog : Program} {w : World} {A : Around} {E : Value → Shared → Prop} {s : Shared} {K : PySem.W.Frag} {x C f L : Addr} {h₀ : Heap} {m : Str → Option Value} {ox : Obj} {od : Option Obj} {b tb : Value}
theorem ifBound_ne {M : Model} {args : List Value} {Q : Option Value → Shared → Prop} (X : K.In s.heap) (I : PySem.W.InstAt s.heap x ox C od) (hs : PySem.W.findIn K (.ref C) "__ne__" = some (some (.builtin "object.__ne__")))
    (h : wpAny M A (call (.builtin "object.__ne__") (.ref x :: args)) (fun v => Q (some v)) E s) : wpAny M A (callSpecialIfBound? (.ref x) "__ne__" args) Q E s := by
  simp only [callSpecialIfBound?, bindSpecialIfBound?]
  refine wpAny_holding (wpAny_bind (wpAny_bind (wpAny_bind (I.type.here ((PySem.W.looks_findIn X hs).here ?_)))))
  refine wpAny_bind (wpAny_askSetting (wpAny_ite ?_))
  have fin : wpAny M A (call (.builtin "object.__ne__") ([.ref x] ++ args) >>= fun v => pure (some v)) Q E s := wpAny_bind (wpAny_mono h (fun v s' h' => wpAny_pure h') fun _ _ h' => h')
  split
  · exact wpAny_bind (wpAny_of_eq (F.cmp_object.ne.bind _) (wpAny_pure (by exact fin)))
  · exact wpAny_tryCatch (wpAny_bind (wpAny_of_eq (F.cmp_object.ne.bind _) (wpAny_pure (by exact fin))))
theorem ne_K {Q : Value → Shared → Prop} (hu : A.units + 1 < cLine) (F0 : Fr h₀ L s.heap m) (X₀ : K.In h₀) (I : PySem.W.InstAt s.heap x ox C od) (hb : PySem.W.Looks (model prog w) s.heap (typeOf b) tb) (hn : PySem.W.notFirst K C tb = true)
    (hne : PySem.W.findIn K (.ref C) "__ne__" = some (some (.builtin "object.__ne__"))) (hm : PySem.W.mroIn K C (.type "object") = some true) (hs : PySem.W.findIn K (.ref C) "__eq__" = some (some (.ref f))) (hf : PySem.W.isFn K (.ref f) = true)
    (h : wpAny (model prog w) A.in1 (call (.ref f) [.ref x, b]) (fun v s' => ∃ r, v = .bool r ∧ Q (.bool (!r)) s') E s) : wpAny (model prog w) A (richCompare .NotEq (.ref x) b) Q E s := by
  have X := X₀.keeps F0.keep
  have entry : ∀ {R : Fin → Shared → Prop}, (∀ s' v, Q v s' → v ≠ .notImplemented → R (.done (.ret v)) s') → wpAny (model prog w) A.in1 (Builtin.«object.__ne__» ⟨[.ref x, b], []⟩) R E s := fun {R} hR => by
    unfold Builtin.«object.__ne__»
    repeat (first
      | with_reducible refine wpAny_cRoomFor hu ?_
      | (refine wpAny_bind (m := callSpecialIfBound? (.ref x) (Str.ofString "__eq__") [b])
          (PySem.W.ifBound_K X I hs hf (wpAny_mono h (fun r s' hr => by
            obtain ⟨b, rfl, hq⟩ := hr
            have hq' := hR _ _ hq (fun x => nomatch x)
            repeat (first | exact hq' | exact wpAny_pure hq' | exact wpAny_truthy_bool hq' | (refine wpAny_bind (m := truthy (.bool _)) (wpAny_truthy_bool ?_)) | wp_step)) fun _ _ e => e)))
      | wp_step)
  have one : wpAny (model prog w) A (tryCompare (.ref x) "__ne__" b) (fun r s' => ∃ v, r = some v ∧ Q v s') E s := by
    unfold tryCompare
    refine wpAny_bind (ifBound_ne X I hne (wpAny_call (codeAny_call_builtin F.cmp_object.ne.plain F.cmpEntry_ne (PySem.W.check_slot F.cmpKind_ne F.cmpSplit_ne (I.type.andThen (PySem.W.looks_mroIn X hm)) (F.cmpArgs_ne _ _) (entry fun s' v q nv => ?_)))))
    cases v <;> first | exact absurd rfl nv | exact wpAny_pure ⟨_, rfl, q⟩ | exact ⟨_, rfl, q⟩
  unfold richCompare
  simp only [oneThing_ref]
  refine wpAny_holding (wpAny_bind (wpAny_cRoomFor (Nat.lt_of_succ_lt hu) ?_))
  refine wpAny_bind (I.type.here (wpAny_bind (hb.here ?_)))
  split
  · rename_i q
    have e : PySem.W.subIn K tb (.ref C) = some false := by
      rcases Bool.or_eq_true_iff.mp hn with e | e
      · rw [beq_iff_eq.mp e] at q; simp at q
      · exact beq_iff_eq.mp e
    refine wpAny_bind ((PySem.W.looks_subIn X e).here ?_)
    simp only [Bool.false_eq_true, if_false]
    refine wpAny_bind (wpAny_mono one (fun r s' z => ?_) fun _ _ e => e)
    obtain ⟨v, rfl, hq⟩ := z
    exact wpAny_pure hq
  · refine wpAny_bind (wpAny_pure ?_)
    simp only [Bool.false_eq_true, if_false]
    refine wpAny_bind (wpAny_mono one (fun r s' z => ?_) fun _ _ e => e)
    obtain ⟨v, rfl, hq⟩ := z
    exact wpAny_pure hq
end
/-- C has no != of its own -/
def neB (K : PySem.W.Frag) (C : Str) : Bool := eqO (PySem.W.findIn K (.ref (ga K C)) "__ne__") (some (some (.builtin "object.__ne__"))) && decide (PySem.W.mroIn K (ga K C) (.type "object") = some true)
theorem op_neC {X : Cx} {C : Str} {k : Nat} {ps : List Str} {mm : MF} (F : DefS X.prog X.w X.K X.mg X.base C "__eq__" k ps mm) (hn : neB X.K C = true) (hr : Room (k + 1) X.A) : OpR X (compareOp .NotEq) (rEqC X C ps.length mm true) := by
  obtain ⟨f, fd, F, hs, hf, hb⟩ := F
  obtain ⟨n1, n2⟩ := ba hn
  intro pins s σ H x y v u Q I rx ry ⟨a, dx, fs, hx, ha, ht, hsp⟩
  subst hx
  obtain rfl : v = Value.ref a := rx
  obtain ⟨od, J⟩ := ins_at I ha
  obtain ⟨m, hF⟩ := I.fr
  obtain ⟨tb, t1, t2⟩ := ht pins σ s u I ry
  have hu : X.A.units + 1 < cLine := hr.in1.units0
  refine ne_K hu hF I.ok.mod.kin J t1 t2 (eqO_ok n1) (of_decide_eq_true n2) hs hf (wpAny_mono (run_at (vs := [.ref a, y]) (us := [.ref a, u]) F hr.in1 I.env0.in1 hb I (.cons rfl (.cons ry .nil)) hsp) (fun r t back => ?_) fun _ _ z => z)
  obtain ⟨_, H2, I2, r2, b, rfl, q⟩ := back
  cases r2
  rw [Bool.bne_true] at q
  exact ⟨b, rfl, .bl (!b), H2, I2, rfl, q⟩
/-- x != y: by the built-in ways, else x is an instance of C -/
def neCB (C : Str) (mm : MF) (o : Sto → D → D → Option Bool) (x y : D) (r : Env) (S : Sto) : R Bool := match o S x y with
  | some b => .ok b r S
  | none => (match insOf S x with
    | some q => if q.1 = C ∧ tyOk C S y = true then (mm [x, y] S).asBl true r else .no
    | none => .no)
def eNeC (C : Str) (mm : MF) (o : Sto → D → D → Option Bool) (fa fb : EF) : EF := fun r S => (fa r S).bind fun x r S => (fb r S).bind fun y r S => (neCB C mm o x y r S).bind fun b r S => .ok (.bl b) r S
def tNeC (C : Str) (mm : MF) (o : Sto → D → D → Option Bool) (fa fb : EF) : TF := fun r S => (fa r S).bind fun x r S => (fb r S).bind fun y r S => neCB C mm o x y r S
section
variable {X : Cx} {W : WX} {C : Str} {k : Nat} {ps : List Str} {mm : MF} {a b : Expr} {fa fb : EF} {pos : Pos}
theorem ne_two {o : Sto → D → D → Option Bool} {r0 : R2} (hn : notB4 X.K (ga X.K C) = true) (hl : ps.length = 2) (hu : UCmp X.K r0 o) {g : Gh} {r : Env} {S : Sto} {H : Hp} {x y : D} {xv yv : V} {σ : St} {Q : Bool → Hp → Prop} {Q0 : VK} (hQ : ∀ d H', Q d H' → Q0 (.bl d) H') (l : Rl X.K g S H) (e : REnv X.K g r σ) (rx : RelD X.K g x xv) (ry : RelD X.K g y yv)
    (p : PostG X.K W relB g σ (neCB C mm o x y r S) Q) : r0 xv yv H Q0 ∨ rEqC X C ps.length mm true xv yv H Q0 := by
  unfold neCB at p
  split at p
  · rename_i d q
    exact .inl (hu g S H x y d xv yv _ l rx ry q (hQ _ _ (post_ok p l e rfl)))
  · split at p
    · rename_i q hi
      obtain ⟨C', ns, ds⟩ := q
      split at p
      · rename_i hc
        obtain ⟨hc, hy⟩ := hc
        cases hc
        obtain ⟨ad, dx, vs, rfl, e1, _, _⟩ := ins_view l rx hi
        refine .inr ⟨ad, dx, _, rfl, e1, ty_ok hn l ry hy, by rw [hl]; rfl, g, [x, y], S, l, .cons rx (.cons ry .nil), ?_⟩
        cases q : mm [x, y] S with
        | ok d S' =>
          rw [q] at p
          cases d <;> try (exact p.elim)
          rename_i bb
          intro g' H' v x' l' r'
          cases r'
          exact ⟨bb, rfl, hQ _ _ (p g' H' _ x' l' (e.mono x') rfl)⟩
        | er d S' => rw [q] at p; exact p.elim
        | no => rw [q] at p; exact p.elim
      · exact p.elim
    · exact p.elim
theorem se_neC (F : DefS X.prog X.w X.K X.mg X.base C "__eq__" k ps mm) (hn : notB4 X.K (ga X.K C) = true) (hn2 : neB X.K C = true) (hr : Room (k + 1) X.A) (ha : SE X W a fa) (hb : SE X W b fb) (hl : ps.length = 2 := by rfl) (hm : behindInMarks .NotEq b = false := by first | exact nomark _ | rfl) : SE X W (.Compare a [.NotEq] [b] pos) (eNeC C mm (notB eqB) fa fb) := by
  obtain ⟨r0, ho, hu⟩ := c_ne (X := X) hr.units
  exact pe_imp (pe_cmpR (ho.or (op_neC F hn2 hr)) ha hb hm) fun σ H Q h => td_two h fun g r S H x y xv yv l e rx ry p => ne_two hn hl hu (fun _ _ q => q) l e rx ry (post_bl p)
theorem st_neC (F : DefS X.prog X.w X.K X.mg X.base C "__eq__" k ps mm) (hn : notB4 X.K (ga X.K C) = true) (hn2 : neB X.K C = true) (hr : Room (k + 1) X.A) (ha : SE X W a fa) (hb : SE X W b fb) (hl : ps.length = 2 := by rfl) (hm : behindInMarks .NotEq b = false := by first | exact nomark _ | rfl) : ST X W (.Compare a [.NotEq] [b] pos) (tNeC C mm (notB eqB) fa fb) := by
  obtain ⟨r0, ho, hu⟩ := c_ne (X := X) hr.units
  exact pt_imp (pt_cmpR (ho.or (op_neC F hn2 hr)) ha hb hm) fun σ H Q h => td_two h fun g r S H x y xv yv l e rx ry p => ne_two hn hl hu (fun d H' q => ⟨d, rfl, q⟩) l e rx ry p
end
end L2.U
namespace L2.U
open PySem PySem.Spec PyProof.Rows He

section
variable {P : Program} {w : World} {K : PySem.W.Frag} {mg : Str → Option Value} {base : Heap} {x qual : Str} {params : Arguments} {body : List Stmt} {scope : Scope} {fd : FuncData} {ps : List Str} {k j : Nat} {mm : MF} {C m : Str} {kws : List (Str × V)} {dvs : List V}
/-- C(k = v, ..): n values by position, keywords ks, then the defaults behind the first j -/
theorem defCK_ofD (n j : Nat) (ks : List Str) (is : List Nat) (msD : List D) (hF : FnU P w K mg base k (fAd K (C, some "__init__")) fd ps mm) (F : FunD K x qual params body scope dvs kws (fAd K (C, some "__init__")) fd) (hm : (Fa.mkr C).ok K = true) (hg : mg C = some (.ref (ga K C)))
    (hd : dvs ≠ []) (hD : ∀ g, RelDs K g msD (dvs.drop j))
    (h : ∀ (T : Addr) (kV doc pm : Value) (an : Option Addr) (cdv ct : Value) (us its ws : List Value), us.length = n + 1 → its.length = dvs.length → ws.length = ks.length →
      ∃ k, bindArgs (PySem.W.fnOf x qual params body scope (.ref T) kV doc pm an cdv ct) ⟨us, ks.zip ws⟩ = seqItems? (.ref T) >>= k ∧ k (some its.toArray) = pure (ps.zip (permL is (us ++ (ws ++ its.drop j))))) :
    DefCK P w K mg base C k ps mm n ks (fun ds zs => permL is (ds ++ (zs ++ msD))) := by
  obtain ⟨oc, od, dV, kV, doc, pm, an, cdv, ct, osl, rfl, lk, hcd, hDD, hK⟩ := F.ex
  rcases hDD with ⟨e, _⟩ | ⟨_, T, o, its, m, rfl, lT, oT, rT⟩
  · exact absurd e hd
  · refine ⟨_, _, fun us ws => permL is (us ++ (ws ++ its.drop j)), fun vs zs => permL is (vs ++ (zs ++ dvs.drop j)), hF, mkr_ok hm, hg, ⟨fun s us ws X l1 l2 => ?_, fun r1 r2 => paired_perm (paired_app r1 (paired_app r2 (rT.drop j))) is⟩, fun g ds vs zs us r1 r2 => paired_perm (paired_app r1 (paired_app r2 (hD g))) is⟩
    have l3 : its.length = dvs.length := rT.length.symm
    obtain ⟨k, e1, e2⟩ := h T kV doc pm an cdv ct us its ws l1 l3 l2
    refine BindsTo.of_looks fun M => ?_
    rw [e1]
    exact looks_items X lT oT (.of_pure e2)
/-- a method with n values by position behind the object, keywords ks -/
structure DefMK (P : Program) (w : World) (K : PySem.W.Frag) (mg : Str → Option Value) (base : Heap) (C m : Str) (k : Nat) (ps : List Str) (mm : MF) (n : Nat) (ks : List Str) (gD : List D → List D → List D) : Prop where
  ex : ∃ f fd gv gV, FnU P w K mg base k f fd ps mm ∧ Cls K (ga K C) ∧ Meth K (ga K C) m f ∧ KBn K fd ps (n + 1) ks gv gV ∧ ∀ g ds vs zs us, RelDs K g ds vs → RelDs K g zs us → RelDs K g (gD ds zs) (gV vs us)
theorem defMK_of0 (n : Nat) (ks : List Str) (is : List Nat) (hF : FnU P w K mg base k (fAd K (C, some m)) fd ps mm) (F : FunD K x qual params body scope [] [] (fAd K (C, some m)) fd) (hc : (Fa.cls C).ok K = true) (hm : (Fa.meth C m).ok K = true)
    (h : ∀ (kV doc pm : Value) (an : Option Addr) (cdv ct : Value) (us ws : List Value), us.length = n + 1 → ws.length = ks.length → bindArgs (PySem.W.fnOf x qual params body scope .none kV doc pm an cdv ct) ⟨us, ks.zip ws⟩ = pure (ps.zip (permL is (us ++ ws)))) :
    DefMK P w K mg base C m k ps mm n ks (fun ds zs => permL is (ds ++ zs)) := by
  refine ⟨_, fd, fun us ws => permL is (us ++ ws), fun vs zs => permL is (vs ++ zs), hF, cls_ok hc, meth_ok hm, ⟨fun s us ws X l1 l2 => ?_, fun r1 r2 => paired_perm (paired_app r1 r2) is⟩, fun g ds vs zs us r1 r2 => paired_perm (paired_app r1 r2) is⟩
  obtain ⟨oc, od, dV, kV, doc, pm, an, cdv, ct, osl, rfl, lk, hcd, hD, hK⟩ := F.ex
  rcases hD with ⟨_, rfl⟩ | ⟨e, _⟩
  · exact .of_eq (h kV doc pm an cdv ct us ws l1 l2)
  · exact absurd rfl e
end
/-- o.m(k = v, ..) -/
def eMethK (C m : Str) (n c : Nat) (mm : MF) (gD : List D → List D → List D) (fo : EF) (fk : AF) : EF := fun r S => (fo r S).bind fun x r S => match insOf S x with
  | some (C', ns, ds) => if C' = C ∧ (ns.zip ds).lookup m = none then (fk r S).bind fun zs r S => if zs.length = c ∧ (gD [x] zs).length = n then (mm (gD [x] zs) S).run r else .no else .no
  | none => .no
section
variable {X : Cx} {W : WX} {a o : Expr} {es : List Expr} {fk : AF} {fo : EF} {C m : Str} {k n c : Nat} {ps ks : List Str} {mm : MF} {p pos apos : Pos} {gD : List D → List D → List D} {kws : List Keyword}
theorem se_makeK0 (F : DefCK X.prog X.w X.K X.mg X.base C k ps mm 0 ks gD) (hr : Room (k + 1) X.A) (tk : Takes X W) (hkw : SK X W kws fk) (hl : ps.length = n := by rfl) (hc : ks.length = c := by rfl) (hg : Gl X C := by rfl)
    (hall : (backToKw pos (keywordEach kws X.env)).all (·.1.isSome) = true := by rfl) (hks : (backToKw pos (keywordEach kws X.env)).filterMap (·.1) = ks := by rfl) (hdb : (C == ("__debug__" : Str)) = false := by decide)
    (hpl : ((backTo pos (starEach [] X.env)).any (·.1) || (backToKw pos (keywordEach kws X.env)).any (·.1.isNone)) = false := by rfl) :
    SE X W (.Call (.Name C p) [] kws pos) (eMakeK C n 0 c mm gD aNil fk) := by
  subst hl hc
  obtain ⟨f, fd, gv, gV, F, M, hm, hb, hrel⟩ := F
  refine ⟨fun pins s σ H Q I h => ?_⟩
  refine wpAny_Call_Name_kw (ld_glob I hg hm ?_ hdb)
  obtain ⟨g, r, S, l, e, p⟩ := h
  have p' : PostG X.K W (RelD X.K) g σ ((fk r S).bind fun zs r S => if ([] : List D).length = 0 ∧ zs.length = ks.length ∧ (gD (.ref S.length :: []) zs).length = ps.length then (mm (gD (.ref S.length :: []) zs) (S ++ [.ins C [] []])).made r S.length else .no) Q := p
  refine PySem.W.callWith_KW0 (h₀ := X.base) I.ok.mod.kin M.kp hall (thn (hkw.run pos pins s σ H _ I ⟨g, r, S, l, e, p'.split⟩) fun ws s2 ⟨zs, H2, I2, rz, g2, zd, r2, S2, x2, l2, e2, rzd, p2⟩ => ⟨I2.kIn, ?_⟩) hpl
  rw [hks]
  split at p2
  · rename_i hn
    have x1 := Gh.add_ext (g := g2) (p := s2.heap.objs.size + 1)
    have rf : Vals [V.ref (s2.heap.objs.size + 1)] [Value.ref (s2.heap.objs.size + 1)] := .cons rfl .nil
    refine run_mk (us := []) (E := fun cls od H => W cls od σ H) M F hr (passAt tk σ) I2 (fun z hz => hb.to z [Value.ref (s2.heap.objs.size + 1)] ws hz rfl ?_) (hb.rel rf rz) (made_sp l2 e2 (fresh1 I2) (fresh0 I2) (Nat.ne_of_lt (Nat.lt_succ_self _)) (hrel _ _ _ _ _ (.cons (add_ref l2) .nil) (rzd.mono x1)) hn.2.2 p2)
    rw [← rz.length, ← rzd.length]; exact hn.2.1
  · exact p2.elim
theorem run_fnKS {f : Addr} {fd : FuncData} {pins : List (Addr × Obj)} {σ : St} {H : Hp} {s : Shared} {Q : VK} {sp : Sp} {us ws : List Value} {vs zs : List V} {gv : List Value → List Value → List Value} {gV : List V → List V → List V} {j : Nat} {E : XK} (F : FnOk X.prog X.w X.K X.mg X.base (L2.CX X.prog X.w) k f fd ps sp) (hr : Room k X.A) (hb : KBn X.K fd ps j ks gv gV) (hx : PassesAt (L2.CX X.prog X.w) X σ E)
    (I : Inv X pins σ H s) (r : Vals vs us) (rz : Vals zs ws) (l1 : vs.length = j) (l2 : zs.length = ks.length) (h : sp (gV vs zs) H Q E) : wpAny (model X.prog X.w) X.A (call (.ref f) us (ks.zip ws)) (EP X pins σ Q) X.xe s := run_fnND F hr hb hx I r rz l1 l2 h
theorem se_methK {pl : Sem Bool} (F : DefMK X.prog X.w X.K X.mg X.base C m k ps mm 0 ks gD) (hr : Room k X.A) (tk : Takes X W) (ho : SE X W o fo) (hkw : SK X W kws fk) (hl : ps.length = n := by rfl) (hc : ks.length = c := by rfl)
    (hall : (backToKw pos (keywordEach kws X.env)).all (·.1.isSome) = true := by rfl) (hks : (backToKw pos (keywordEach kws X.env)).filterMap (·.1) = ks := by rfl)
    (hpl : ((backTo pos (starEach [] X.env)).any (·.1) || (backToKw pos (keywordEach kws X.env)).any (·.1.isNone)) = false := by rfl)
    (ht : eval (.Call (.Attribute o m apos) [] kws pos) X.env = (do
      let ov ← eval o X.env
      standAt apos.atName
      let (f, first) ← holding [ov] (getMethod ov m pl)
      callWith pos f first (backTo pos (starEach [] X.env)) (backToKw pos (keywordEach kws X.env))) := by rfl) : SE X W (.Call (.Attribute o m apos) [] kws pos) (eMethK C m n c mm gD fo fk) := by
  subst hl hc
  obtain ⟨f, fd, gv, gV, F, hc, hm, hb, hrel⟩ := F
  refine ⟨fun pins s σ H Q I h => ?_⟩
  refine PySem.W.methodCall_KW (pl := pl) (thn (ho.run pins s σ H _ I (TD.split (rel := RelD X.K) h)) fun u s1 ⟨xv, H1, I1, rx, g, x, r, S, l, e, rd, p⟩ => ?_) ht
  split at p
  · rename_i C' ns ds hi
    split at p
    · rename_i hcm
      obtain ⟨rfl, hno⟩ := hcm
      obtain ⟨b, dx, vs, rfl, e1, e2, e3⟩ := ins_view l rd hi
      obtain rfl : u = Value.ref b := rx
      refine getmeth_ok I1 e1 hc hm (zip_none e3 hno) ?_
      refine PySem.W.callWith_KW0 (first := [.ref b]) (h₀ := X.base) I.ok.mod.kin hm.kp hall (thn (hkw.run pos pins s1 σ H1 _ I1 ⟨g, r, S, l, e, p.split⟩) fun ws s2 ⟨zs, H2, I2, rz, g2, zd, r2, S2, x2, l2, e2, rzd, p2⟩ => ⟨I2.kIn, ?_⟩) hpl
      rw [hks]
      split at p2
      · rename_i hn
        have rr := hrel g2 [x] [V.ref b] _ _ (.cons (rd.mono x2) .nil) rzd
        exact run_fnND (us := [.ref b]) (vs := [.ref b]) (E := fun cls od H => W cls od σ H) F hr hb (passAt tk σ) I2 (.cons rfl .nil) rz rfl (by rw [← rzd.length]; exact hn.1) (go_spU l2 e2 rr hn.2 p2)
      · exact p2.elim
    · exact p.elim
  · exact p.elim
end
/-! ### properties' facts -/
def prB (K : PySem.W.Frag) (q : Str × Str) : Bool := eqO (PySem.W.findIn K (.ref (ga K q.1)) q.2) (some (some (.ref (fAd K (q.1, some q.2))))) && (decide (PySem.W.specialIn K (.ref (fAd K (q.1, some q.2))) "__get__" = some (some (.builtin "property.__get__"))) && (decide (PySem.W.takesIn K (.ref (fAd K (q.1, some q.2))) = some true) &&
  (match PySem.W.recIn K (fAd K (q.1, some q.2)) "property" with
  | some (.ref _ :: _) => true
  | _ => false)))
theorem prB_ok {K : PySem.W.Frag} {C f : Str} (h : prB K (C, f) = true) : PropOf K (ga K C) f (fAd K (C, some f)) (fAp K (C, some f)) := by
  obtain ⟨h1, h⟩ := ba h
  obtain ⟨h2, h⟩ := ba h
  obtain ⟨h3, h4⟩ := ba h
  refine ⟨eqO_ok h1, of_decide_eq_true h2, of_decide_eq_true h3, ?_⟩
  split at h4
  · rename_i g rest q
    refine ⟨rest, ?_⟩
    have : fAp K (C, some f) = g := by unfold fAp behA; rw [q]
    rw [this]; exact q
  · cases h4
section
variable {P : Program} {w : World} {K : PySem.W.Frag} {mg : Str → Option Value} {base : Heap} {x qual : Str} {params : Arguments} {body : List Stmt} {scope : Scope} {fd : FuncData} {ps : List Str} {k : Nat} {mm : MF} {C m : Str}
theorem defP_of (hF : FnU P w K mg base k (fAp K (C, some m)) fd ps mm) (F : FunD K x qual params body scope [] [] (fAp K (C, some m)) fd) (hc : (Fa.cls C).ok K = true) (hp : prB K (C, m) = true) (hl : ps.length = 1)
    (h : ∀ (kV doc pm : Value) (an : Option Addr) (cdv ct : Value) (us : List Value), us.length = ps.length → bindArgs (PySem.W.fnOf x qual params body scope .none kV doc pm an cdv ct) ⟨us, []⟩ = pure (ps.zip us)) : DefP P w K mg base C m k mm :=
  ⟨_, _, fd, ps, prB_ok hp, cls_ok hc, hF, hl, F.bindsN h⟩
end
end L2.U
namespace L2.U
open PySem PySem.Spec PyProof.Rows He

section
variable {Z : D → Env → Sto → Prop} {r : Env} {S : Sto} {fa fb fc : EF} {ta tb : TF} {fs ft : AF} {Q : D → Env → Sto → Prop} {T : Bool → Env → Sto → Prop} {L : Fl → Env → Sto → Prop} {C m : Str} {mm : MF} {n c : Nat} {o : Sto → D → D → Option Bool} {neg : Bool}
@[simp] theorem wp_Prop : wp (eProp C mm fa r S) Q Z = wp (fa r S) (fun x r S => got (insOf S x) fun q => q.1 = C ∧ wf (mm [x] S) (fun d S' => Q d r S') (fun _ _ => False)) Z := by
  unfold eProp
  simp only [wp_bind]
  congr; funext x r S
  cases insOf S x with
  | none => rfl
  | some q =>
    simp only [got_some, wp_ite, wp_no, ite_and]
    congr
    cases mm [x] S <;> simp
theorem wp_neCB {x y : D} : wp (neCB C mm o x y r S) T Z = orGot (o S x y) (fun b => T b r S) (got (insOf S x) fun q => (q.1 = C ∧ tyOk C S y = true) ∧ wf (mm [x, y] S) (fun d S' => got (asB d) fun b => T (b != true) r S') (fun _ _ => False)) := by
  unfold neCB
  cases o S x y with
  | some b => simp only [wp_ok, orGot_some]
  | none =>
    cases insOf S x with
    | none => rfl
    | some q => simp only [wp_ite, wp_asBl, wp_no, ite_and, orGot_none, got_some]
@[simp] theorem wp_NeC : wp (eNeC C mm o fa fb r S) Q Z = wp (fa r S) (fun x r S => wp (fb r S) (fun y r S => orGot (o S x y) (fun b => Q (.bl b) r S) (got (insOf S x) fun q => (q.1 = C ∧ tyOk C S y = true) ∧ wf (mm [x, y] S) (fun d S' => got (asB d) fun b => Q (.bl (b != true)) r S') (fun _ _ => False))) Z) Z := by
  unfold eNeC
  simp only [wp_bind, wp_neCB, wp_ok]
@[simp] theorem wp_tNeC : wp (tNeC C mm o fa fb r S) T Z = wp (fa r S) (fun x r S => wp (fb r S) (fun y r S => orGot (o S x y) (fun b => T b r S) (got (insOf S x) fun q => (q.1 = C ∧ tyOk C S y = true) ∧ wf (mm [x, y] S) (fun d S' => got (asB d) fun b => T (b != true) r S') (fun _ _ => False))) Z) Z := by
  unfold tNeC
  simp only [wp_bind, wp_neCB]
@[simp] theorem wp_MethK {gD : List D → List D → List D} : wp (eMethK C m n c mm gD fa ft r S) Q Z = wp (fa r S) (fun x r S => got (insOf S x) fun q => (q.1 = C ∧ (q.2.1.zip q.2.2).lookup m = none) ∧ wp (ft r S) (fun zs r S => (zs.length = c ∧ (gD [x] zs).length = n) ∧ wf (mm (gD [x] zs) S) (fun d S => Q d r S) (fun d S => Z d r S)) Z) Z := by
  unfold eMethK
  simp only [wp_bind]
  congr; funext x r S
  cases insOf S x with
  | none => rfl
  | some q =>
    obtain ⟨C', ns, ds⟩ := q
    simp only [got_some, wp_ite, wp_bind, wp_run, wp_no, ite_and]
@[simp] theorem wp_DGet : wp (eDGet fa fb r S) Q Z = wp (fa r S) (fun x r S => wp (fb r S) (fun y r S => got (oDGet S x y) fun d => Q d r S) Z) Z := by
  unfold eDGet
  simp only [wp_bind]
  congr; funext x r S; congr; funext y r S
  cases oDGet S x y <;> rfl
@[simp] theorem wp_DHas : wp (eDHas neg fa fb r S) Q Z = wp (fa r S) (fun y r S => wp (fb r S) (fun x r S => got (oDHas S y x) fun b => Q (.bl (b != neg)) r S) Z) Z := by
  unfold eDHas
  simp only [wp_bind]
  congr; funext x r S; congr; funext y r S
  cases oDHas S x y <;> rfl
@[simp] theorem wp_tDHas : wp (tDHas neg fa fb r S) T Z = wp (fa r S) (fun y r S => wp (fb r S) (fun x r S => got (oDHas S y x) fun b => T (b != neg) r S) Z) Z := by
  unfold tDHas
  simp only [wp_bind]
  congr; funext x r S; congr; funext y r S
  cases oDHas S x y <;> rfl
@[simp] theorem wp_DPutU : wp (sDPutU fa fb fc r S) L Z = wp (fa r S) (fun d r S => wp (fb r S) (fun x r S => wp (fc r S) (fun y r S => got (oDPut S x y d) fun S' => L .nx r S') Z) Z) Z := by
  unfold sDPutU
  simp only [wp_bind]
  congr; funext d r S; congr; funext x r S; congr; funext y r S
  cases oDPut S x y d <;> rfl
def keysD (S : Sto) : List D → Option (List D)
  | [.ref n] => (match S[n]? with
    | some (.dic ks _) => some ks
    | _ => none)
  | _ => none
@[simp] theorem wp_ListDS : wp (eListDS fs r S) Q Z = wp (fs r S) (fun ds r S => got (keysD S ds) fun ks => Q (.ref S.length) r (S ++ [.lst ks])) Z := by
  unfold eListDS
  simp only [wp_bind]
  congr; funext ds r S
  unfold keysD
  match ds with
  | [] => rfl
  | [x] =>
    cases x <;> try rfl
    rename_i n
    simp only
    cases S[n]? with
    | none => rfl
    | some o => cases o <;> rfl
  | x :: _ :: _ => cases x <;> rfl
def strOne : List D → Option Str
  | [.str z] => if z.length ≤ sizeLine then some z else none
  | _ => none
@[simp] theorem wp_ListTS : wp (eListTS fs r S) Q Z = wp (fs r S) (fun ds r S => got (strOne ds) fun z => Q (.ref S.length) r (S ++ [.lst (signsD z)])) Z := by
  unfold eListTS
  simp only [wp_bind]
  congr; funext ds r S
  unfold strOne
  match ds with
  | [] => rfl
  | [x] =>
    cases x <;> try rfl
    rename_i z
    simp only
    split <;> rfl
  | x :: _ :: _ => cases x <;> rfl
theorem strOne_txt {l : List Nat} (h : l.length ≤ 4000000) : strOne [.str (txt l)] = some (txt l) := by
  show (if (txt l).length ≤ sizeLine then some (txt l) else none) = _
  rw [if_pos (by rw [txt_len]; exact sz_le h)]
/-- the dict block, its result a list of keys and values -/
@[simp] theorem wp_DcS {fi : AF} {b : Bn} {vs : List Nat} {tt : TF} {fk fv : EF} : wp (eDcS fi b vs tt fk fv r S) Q Z = wp (fi r S) (fun xs r S => xs.length < sizeLine ∧ wp (dcF b tt fk fv r vs xs [] [] S) (fun q r S => Q (.ref S.length) r (S ++ [.dic q.1 q.2])) Z) Z := by
  unfold eDcS
  simp only [wp_bind, wp_ite, wp_no, ite_and, wp_ok]
end
/-- while: a state, what it comes to -/
theorem wp_while {Z : D → Env → Sto → Prop} {tc : TF} {fb : SF} {Q : Fl → Env → Sto → Prop} (I : Nat → Env → Sto → Prop) : ∀ (n : Nat) (k : Nat) (r : Env) (S : Sto), I k r S → k < n →
    (∀ k r S, I k r S → wp (tc r S) (fun c r S => if c = true then wp (fb r S) (fun a r S => match a with
      | .nx => ∃ j, j < k ∧ I j r S
      | .ct => ∃ j, j < k ∧ I j r S
      | .bk => Q .nx r S
      | .rt d => Q (.rt d) r S) Z else Q .nx r S) Z) → wp (whileF tc fb n r S) Q Z
  | 0, k, r, S, _, hk, _ => absurd hk (Nat.not_lt_zero _)
  | n + 1, k, r, S, h0, hk, h => by
    unfold whileF
    rw [wp_bind]
    refine wp_imp (h k r S h0) (fun c r S q => ?_) (fun _ _ _ z => z)
    rw [wp_ite]
    split
    · rename_i hc
      rw [if_pos hc] at q
      rw [wp_bind]
      refine wp_imp q (fun a r S q => ?_) (fun _ _ _ z => z)
      cases a with
      | nx =>
        obtain ⟨j, hj, q⟩ := q
        exact wp_while I n j r S q (by omega) h
      | ct =>
        obtain ⟨j, hj, q⟩ := q
        exact wp_while I n j r S q (by omega) h
      | bk => exact q
      | rt d => exact q
    · rename_i hc
      rw [if_neg hc] at q
      exact q
end L2.U
namespace L2.U
open PySem PySem.Spec PyProof.Rows He

def eCatLS (fa fb : EF) : EF := fun r S => (fa r S).bind fun x r S => (fb r S).bind fun y r S => match lstMOf S x, lstMOf S y with
  | some xs, some ys => if xs.length + ys.length ≤ sizeLine then .ok (.ref S.length) r (S ++ [.lst (xs ++ ys)]) else .no
  | _, _ => .no
section
variable {X : Cx} {W : WX} {pos : Pos} {a b : Expr} {fa fb : EF}
theorem se_catLS (ha : SE X W a fa) (hb : SE X W b fb) : SE X W (.BinOp a .Add b pos) (eCatLS fa fb) := by
  refine pe_imp (pe_op op_cat ha hb) fun σ H Q h => td_two h fun g r S H x y xv yv l e rx ry p => ?_
  split at p
  · rename_i xs ys h1 h2
    split at p
    · rename_i hz
      obtain ⟨a, vs, rfl, sa, ra⟩ := lstM_view l rx h1
      obtain ⟨b, us, rfl, sb, rb⟩ := lstM_view l ry h2
      refine ⟨a, b, vs, us, rfl, rfl, sa, sb, by rw [← ra.length, ← rb.length]; exact hz, fun q hq => ?_⟩
      obtain ⟨g', e1, l1, r1⟩ := l.newSto hq (ra.append rb)
      exact p g' _ _ e1 l1 (e.mono e1) r1
    · exact p.elim
  · exact p.elim
variable {Z : D → Env → Sto → Prop} {r : Env} {S : Sto} {Q : D → Env → Sto → Prop}
def lstCat (S : Sto) (x y : D) : Option (List D) := match lstMOf S x, lstMOf S y with
  | some xs, some ys => if xs.length + ys.length ≤ sizeLine then some (xs ++ ys) else none
  | _, _ => none
@[simp] theorem wp_CatLS : wp (eCatLS fa fb r S) Q Z = wp (fa r S) (fun x r S => wp (fb r S) (fun y r S => got (lstCat S x y) fun zs => Q (.ref S.length) r (S ++ [.lst zs])) Z) Z := by
  unfold eCatLS
  simp only [wp_bind]
  congr; funext x r S; congr; funext y r S
  unfold lstCat
  cases lstMOf S x with
  | none => rfl
  | some xs =>
    cases lstMOf S y with
    | none => rfl
    | some ys =>
      simp only
      split
      · rfl
      · rfl
end
end L2.U
namespace L2.U
open PySem PySem.Spec PyProof.Rows He

/-! ### clear -/
def rClear : V → List V → Hp → VK → Prop := fun x vs H Q => ∃ l xs, x = .ref l ∧ vs = [] ∧ H l = some (.lst xs) ∧ Q .non (upd H l (.lst []))
theorem mt_clear {X : Cx} : MtM X "list.clear" rClear := by
  intro pins s σ H x vs v us Q I rx rv h
  obtain ⟨l, xs, rfl, rfl, hH, q⟩ := h
  cases rx
  have hus := rv.zero
  subst hus
  obtain ⟨z, its, n, r, hl, e⟩ := I.lstM hH
  refine call_meets F.slot_list_clear ⟨_, e, rfl⟩ F.entry_list_clear (F.args_list_clear_1 _) (AutoSeq1.list_clear_list_0 l its.toArray n (by rw [List.size_toArray]; omega)) ⟨e, ?_⟩
  exact ⟨.non, _, I.lset (its' := []) hH e rfl .nil (by simp), rfl, q⟩
def mClear : Sto → D → List D → Option (D × Sto) := fun S x ds => match x, ds with
  | .ref n, [] => (match S[n]? with
    | some (.lst _) => some (.non, S.set n (.lst []))
    | _ => none)
  | _, _ => none
theorem mu_clear {X : Cx} : MethU X "list" "list.clear" "clear" isLst mClear := ⟨F.plainAttrs_list, F.slot_list_clear, F.type_list_clear, tr_lst, _, mt_clear, fun g S H x ds d S' xv vs Q l rx rd e k => by
  unfold mClear at e
  split at e
  · rename_i n
    split at e
    · rename_i xs q
      cases e
      obtain ⟨_, rfl⟩ := rx
      cases rd
      obtain ⟨m1, us, hh, rs⟩ := l.sto n _ q (by intro z; cases z)
      refine ⟨g.m n, us, rfl, rfl, hh, ?_⟩
      have lw := l.write (ob' := .lst []) (o := .lst []) q (by intro z; cases z) ⟨[], upd_same, .nil⟩
      exact k g _ _ (.refl g) lw rfl
    · cases e
  · cases e⟩
/-! ### the place of a text in a list of texts -/
def mIndexL : Sto → D → List D → Option (D × Sto) := fun S x ds => match ds with
  | [.str z] => ((lstOf S x).bind strsD).bind fun ys => (ys.findIdx? fun y => decide (y = z)).map fun j => (.int (j : Nat), S)
  | _ => none
theorem flat_strs : ∀ ys : List Str, (ys.map V.str).all flatV = true
  | [] => rfl
  | _ :: ys => by simp only [List.map_cons, List.all_cons, flat_strs ys]; rfl
theorem mu_indexL {X : Cx} : MethU X "list" "list.index" "index" isLst mIndexL := ⟨F.plainAttrs_list, F.slot_list_index, F.type_list_index, tr_lst, _, mt_index, fun g S H x ds d S' xv vs Q l rx rd e k => by
  unfold mIndexL at e
  split at e
  · rename_i z
    obtain ⟨ys, h1, e⟩ := Option.bind_eq_some_iff.mp e
    obtain ⟨xs, h0, h1⟩ := Option.bind_eq_some_iff.mp h1
    obtain ⟨j, h2, e⟩ := Option.map_eq_some_iff.mp e
    cases e
    obtain ⟨a, us, rfl, hs, rs⟩ := lst_view l rx h0
    cases strsD_ok rs h1
    obtain ⟨hj, h3, h4⟩ := List.findIdx?_eq_some_iff_getElem.mp h2
    have ez : ∀ y : Str, eqV (.str y) (.str z) = decide (y = z) := fun y => rfl
    refine ⟨a, _, .str z, j, .str ys[j], rfl, rels_s rd, hs, rfl, flat_strs ys, ?_, ?_, fun m z' hm hz => ?_, k g _ _ (.refl g) l rfl⟩
    · rw [List.getElem?_map, List.getElem?_eq_getElem hj]; rfl
    · rw [ez]; exact h3
    · rw [List.getElem?_map, List.getElem?_eq_getElem (Nat.lt_trans hm hj)] at hz
      cases hz
      rw [ez]
      simpa using h4 m hm
  · cases e⟩
/-! ### a static method, off its class -/
structure DefT (P : Program) (w : World) (K : PySem.W.Frag) (mg : Str → Option Value) (base : Heap) (C m : Str) (k : Nat) (ps : List Str) (mm : MF) (j : Nat) (ks : List Str) (gD : List D → List D → List D) : Prop where
  ex : ∃ f fd p mc gv gV, FnU P w K mg base k f fd ps mm ∧ mg C = some (.ref (ga K C)) ∧ PySem.W.readsIn K (ga K C) mc = true ∧ PySem.W.specialIn K (.ref (ga K C)) "__getattribute__" = some (some (.builtin "type.__getattribute__")) ∧
    PySem.W.findCls K (.ref (ga K C)) mc m = some (.get (.builtin "staticmethod.__get__") (.ref p) .none (.ref (ga K C))) ∧ (∃ rest, PySem.W.recIn K p "staticmethod" = some (.ref f :: rest)) ∧
    PySem.W.keepIn K (.ref f) = true ∧ KBn K fd ps j ks gv gV ∧ ∀ g ds vs zs us, RelDs K g ds vs → RelDs K g zs us → RelDs K g (gD ds zs) (gV vs us)
section
variable {X : Cx} {W : WX} {pos p apos : Pos} {C m : Str} {a : Expr} {es : List Expr} {fs fk : AF} {k n c : Nat} {f : Addr} {fd : FuncData} {ps ks : List Str} {mm : MF} {j : Nat} {gD : List D → List D → List D} {kws : List Keyword}
theorem se_stat {pl : Sem Bool} (F : DefT X.prog X.w X.K X.mg X.base C m k ps mm j ks gD) (hr : Room k X.A) (tk : Takes X W) (ha : SA X W (a :: es) fs) (hkw : SK X W kws fk) (hl : ps.length = n := by rfl) (hc : ks.length = c := by rfl) (hg : Gl X C := by rfl)
    (hall : (backToKw pos (keywordEach kws X.env)).all (·.1.isSome) = true := by rfl) (hks : (backToKw pos (keywordEach kws X.env)).filterMap (·.1) = ks := by rfl)
    (hdb : (C == ("__debug__" : Str)) = false := by decide) (he : starEach (a :: es) X.env = (false, eval a X.env) :: starEach es X.env := by rfl)
    (hpl : ((backTo pos (starEach (a :: es) X.env)).any (·.1) || (backToKw pos (keywordEach kws X.env)).any (·.1.isNone)) = false := by rfl)
    (ht : eval (.Call (.Attribute (.Name C p) m apos) (a :: es) kws pos) X.env = (do
      let ov ← eval (.Name C p) X.env
      standAt apos.atName
      let (f, first) ← holding [ov] (getMethod ov m pl)
      callWith pos f first (backTo pos (starEach (a :: es) X.env)) (backToKw pos (keywordEach kws X.env))) := by rfl) : SE X W (.Call (.Attribute (.Name C p) m apos) (a :: es) kws pos) (eCallK n j c mm gD fs fk) := by
  subst hl hc
  obtain ⟨f, fd, q, mc, gv, gV, F, hm, hr1, hr2, hfc, ⟨rest, hrc⟩, hk, hb, hrel⟩ := F
  refine ⟨fun pins s σ H Q I h => ?_⟩
  refine PySem.W.methodCall_KW (pl := pl) (ld_glob I hg hm ?_ hdb) ht
  refine PySem.W.method_cls I.kIn hr2 (PySem.W.cls_bind I.kIn hr1 hfc (wpAny_call (PySem.W.sm_get (s := { s with toks := s.toks + 1 }) I.kIn hrc (PySem.W.handed_on rfl ?_))))
  have I1 : Inv X pins σ H { s with toks := s.toks + 1 } := I.tok _
  refine PySem.W.callWith_KW (first := []) (h₀ := X.base) I1.ok.mod.kin hk hall (thn (ha.run pos pins _ σ H _ I1 (TD.split (rel := RelDs X.K) h)) fun us s1 ⟨vs, H1, I1, r1, g, ds, r, S, l, e, rd, p⟩ => ?_) hpl he
  refine thn (hkw.run pos pins s1 σ H1 _ I1 ⟨g, r, S, l, e, p.split⟩) fun ws s2 ⟨zs, H2, I2, rz, g2, zd, r2, S2, x2, l2, e2, rzd, p2⟩ => ⟨I2.kIn, ?_⟩
  rw [hks]
  split at p2
  · rename_i hn
    have rr := hrel g2 _ _ _ _ (rd.mono x2) rzd
    exact run_fnND (E := fun cls od H => W cls od σ H) F hr hb (passAt tk σ) I2 r1 rz (by rw [← rd.length]; exact hn.1) (by rw [← rzd.length]; exact hn.2.1) (go_spU l2 e2 rr hn.2.2 p2)
  · exact p2.elim
theorem se_stat0 {pl : Sem Bool} (F : DefT X.prog X.w X.K X.mg X.base C m k ps mm 0 ks gD) (hr : Room k X.A) (tk : Takes X W) (hkw : SK X W kws fk) (hl : ps.length = n := by rfl) (hc : ks.length = c := by rfl) (hg : Gl X C := by rfl)
    (hall : (backToKw pos (keywordEach kws X.env)).all (·.1.isSome) = true := by rfl) (hks : (backToKw pos (keywordEach kws X.env)).filterMap (·.1) = ks := by rfl)
    (hdb : (C == ("__debug__" : Str)) = false := by decide)
    (hpl : ((backTo pos (starEach [] X.env)).any (·.1) || (backToKw pos (keywordEach kws X.env)).any (·.1.isNone)) = false := by rfl)
    (ht : eval (.Call (.Attribute (.Name C p) m apos) [] kws pos) X.env = (do
      let ov ← eval (.Name C p) X.env
      standAt apos.atName
      let (f, first) ← holding [ov] (getMethod ov m pl)
      callWith pos f first (backTo pos (starEach [] X.env)) (backToKw pos (keywordEach kws X.env))) := by rfl) : SE X W (.Call (.Attribute (.Name C p) m apos) [] kws pos) (eCallK n 0 c mm gD aNil fk) := by
  subst hl hc
  obtain ⟨f, fd, q, mc, gv, gV, F, hm, hr1, hr2, hfc, ⟨rest, hrc⟩, hk, hb, hrel⟩ := F
  refine ⟨fun pins s σ H Q I h => ?_⟩
  refine PySem.W.methodCall_KW (pl := pl) (ld_glob I hg hm ?_ hdb) ht
  refine PySem.W.method_cls I.kIn hr2 (PySem.W.cls_bind I.kIn hr1 hfc (wpAny_call (PySem.W.sm_get (s := { s with toks := s.toks + 1 }) I.kIn hrc (PySem.W.handed_on rfl ?_))))
  have I1 : Inv X pins σ H { s with toks := s.toks + 1 } := I.tok _
  obtain ⟨g, r, S, l, e, p⟩ := h
  have p' : PostG X.K W (RelD X.K) g σ ((fk r S).bind fun zs r S => if ([] : List D).length = 0 ∧ zs.length = ks.length ∧ (gD [] zs).length = ps.length then (mm (gD [] zs) S).run r else .no) Q := p
  refine PySem.W.callWith_KW0 (first := []) (h₀ := X.base) I1.ok.mod.kin hk hall (thn (hkw.run pos pins _ σ H _ I1 ⟨g, r, S, l, e, p'.split⟩) fun ws s2 ⟨zs, H2, I2, rz, g2, zd, r2, S2, x2, l2, e2, rzd, p2⟩ => ⟨I2.kIn, ?_⟩) hpl
  rw [hks]
  split at p2
  · rename_i hn
    have rr := hrel g2 _ _ _ _ (.nil : RelDs X.K g2 [] []) rzd
    exact run_fnND (us := []) (vs := []) (E := fun cls od H => W cls od σ H) F hr hb (passAt tk σ) I2 .nil rz rfl (by rw [← rzd.length]; exact hn.2.1) (go_spU l2 e2 rr hn.2.2 p2)
  · exact p2.elim
end
/-! its facts -/
def stF (K : PySem.W.Frag) (C p : Addr) : Option PySem.W.CFound → Bool
  | some (.get (.builtin b) (.ref q) .none (.ref c)) => decide (b = "staticmethod.__get__") && (decide (q = p) && decide (c = C))
  | _ => false
theorem stF_ok {K : PySem.W.Frag} {C p : Addr} {o : Option PySem.W.CFound} (h : stF K C p o = true) : o = some (.get (.builtin "staticmethod.__get__") (.ref p) .none (.ref C)) := by
  unfold stF at h
  split at h
  · obtain ⟨h1, h⟩ := ba h
    obtain ⟨h2, h3⟩ := ba h
    rw [of_decide_eq_true h1, of_decide_eq_true h2, of_decide_eq_true h3]
  · cases h
def stR (K : PySem.W.Frag) (p : Addr) : Bool := (match PySem.W.recIn K p "property" with
  | none => true
  | some _ => false) && (match PySem.W.recIn K p "staticmethod" with
  | some (.ref _ :: _) => true
  | _ => false)
def stB (K : PySem.W.Frag) (q : Str × Str) : Bool := PySem.W.readsIn K (ga K q.1) (.type "type") && (decide (PySem.W.specialIn K (.ref (ga K q.1)) "__getattribute__" = some (some (.builtin "type.__getattribute__"))) &&
  (stF K (ga K q.1) (fAd K (q.1, some q.2)) (PySem.W.findCls K (.ref (ga K q.1)) (.type "type") q.2) && (PySem.W.keepIn K (.ref (fAp K (q.1, some q.2))) && stR K (fAd K (q.1, some q.2)))))
theorem stR_ok {K : PySem.W.Frag} {q : Str × Option Str} (h : stR K (fAd K q) = true) : ∃ rest, PySem.W.recIn K (fAd K q) "staticmethod" = some (.ref (fAp K q) :: rest) := by
  obtain ⟨h1, h2⟩ := ba h
  split at h1
  · rename_i e1
    split at h2
    · rename_i g rest e2
      refine ⟨rest, ?_⟩
      have : fAp K q = g := by unfold fAp behA; rw [e1, e2]
      rw [this]; exact e2
    · cases h2
  · cases h1
section
variable {P : Program} {w : World} {K : PySem.W.Frag} {mg : Str → Option Value} {base : Heap} {x qual : Str} {params : Arguments} {body : List Stmt} {scope : Scope} {fd : FuncData} {ps : List Str} {k : Nat} {mm : MF} {C m : Str} {kws : List (Str × V)}
/-- n values by position, keywords ks; ms: the keyword-only parameters that lack, msD as data -/
theorem defT_of (n : Nat) (ks : List Str) (ms : List (Str × V)) (msD : List D) (is : List Nat) (hF : FnU P w K mg base k (fAp K (C, some m)) fd ps mm) (F : FunD K x qual params body scope [] kws (fAp K (C, some m)) fd) (hm : stB K (C, m) = true) (hg : mg C = some (.ref (ga K C)))
    (hk : kws ≠ []) (hms : ∀ q ∈ ms, q ∈ kws) (hD : ∀ g, RelDs K g msD (ms.map (·.2)))
    (h : ∀ (D : Addr) (doc pm : Value) (an : Option Addr) (cdv ct : Value) (us mv ws : List Value), us.length = n → mv.length = ms.length → ws.length = ks.length →
      KwChain D ((ms.map (·.1)).zip mv) (bindArgs (PySem.W.fnOf x qual params body scope .none (.ref D) doc pm an cdv ct) ⟨us, ks.zip ws⟩) (ps.zip (permL is (us ++ (mv ++ ws))))) :
    DefT P w K mg base C m k ps mm n ks (fun ds zs => permL is (ds ++ (msD ++ zs))) := by
  obtain ⟨h1, hm⟩ := ba hm
  obtain ⟨h2, hm⟩ := ba hm
  obtain ⟨h3, hm⟩ := ba hm
  obtain ⟨h4, h5⟩ := ba hm
  obtain ⟨mv, B⟩ := F.kbinds0 n ks ms (fun us mv ws => permL is (us ++ (mv ++ ws))) hk hms (fun r1 r2 r3 => paired_perm (paired_app r1 (paired_app r2 r3)) is) h
  exact ⟨_, fd, _, _, _, _, hF, hg, h1, of_decide_eq_true h2, stF_ok h3, stR_ok h5, h4, B, fun g ds vs zs us r1 r2 => paired_perm (paired_app r1 (paired_app (hD g) r2)) is⟩
end
end L2.U
namespace L2.U
open PySem PySem.Spec PyProof.Rows He

def oIntStr : Sto → List D → Option D := fun _ ds => match ds with
  | [.str a] => if a.length ≤ 640 then (PySem.intText? a).map .int else none
  | _ => none
theorem cu_intS {X : Cx} : CallU X (.type "int") oIntStr := ⟨_, call_int_str, fun g S H ds d vs Q l rd e k => by
  unfold oIntStr at e
  split at e
  · rename_i a
    split at e
    · rename_i h
      obtain ⟨n, h1, rfl⟩ := Option.map_eq_some_iff.mp e
      rw [rels_s rd]
      exact ⟨a, n, rfl, h1, h, k g H _ (.refl g) l rfl⟩
    · cases e
  · cases e⟩
/-! ### the loop of != -/
section
open GQ PySem.SeqAt MeetsSeq MeetsSeq2 MeetsSeq3 SeqRoads2
open AutoSeq1 (wpAny_loadPart')
variable {prog : Program} {w : World} {A : Around} {R : Result → Shared → Prop}
theorem ne_loopG (l b : Addr) (N : Nat) (I : Nat → Shared → Prop) (hl : ListI prog w A (fun e s' => R (.error e) s') l b N I)
    (fin : ∀ s, I N s → R (.ok (.ret (.bool false))) s) (k : Nat) :
    ∀ i : Nat, N - i = k → i ≤ N → ∀ s, I i s →
      wpAny (model prog w) A.in1 (Builtin.«list.__eq__.loop» ⟨[.ref l, .ref b, rawInt i, rawInt 3], []⟩) (FinOf prog w A R) (fun e s' => R (.error e) s') s := by
  induction k with
  | zero =>
    intro i hk hi s h
    obtain ⟨items, items2, n, n2, hl1, hb1, hs1, hs2, _⟩ := hl _ _ h
    have hi' : i = N := by omega
    have hR : R (.ok (.ret (.bool false))) s := fin s (hi' ▸ h)
    obtain ⟨hp, g, d, tk, os⟩ := s
    wp_walk using wpAny_loadPart' hl1, wpAny_loadPart' hb1
    have hi1 : items[((i : Nat) : Int).toNat]? = none := by simp; omega
    have hi2 : items2[((i : Nat) : Int).toNat]? = none := by simp; omega
    rw [hi1, hi2]
    wp_walk using wpAny_loadPart' hl1, wpAny_loadPart' hb1
    show R (.ok (.ret (.bool (items.size != items2.size)))) _
    rw [hs1, hs2]
    simpa using hR
  | succ k ih =>
    intro i hk hi s h
    obtain ⟨items, items2, n, n2, hl1, hb1, hs1, hs2, turn⟩ := hl _ _ h
    have hlt : i < items.size := by omega
    have hlt2 : i < items2.size := by omega
    have ht := turn hlt hlt2
    obtain ⟨hp, g, d, tk, os⟩ := s
    wp_walk using wpAny_loadPart' hl1, wpAny_loadPart' hb1
    have hi1 : items[((i : Nat) : Int).toNat]? = some items[i] := by simp [hlt]
    have hi2 : items2[((i : Nat) : Int).toNat]? = some items2[i] := by simp [hlt2]
    have hc : ((i : Int) + 1) = ((i + 1 : Nat) : Int) := by omega
    rw [hi1, hi2]
    refine wpAny_bind (wpAny_mono ht (fun r s2 h2 => ?_) fun _ _ x => x)
    obtain ⟨hr, h2⟩ := h2
    subst hr
    have hrec := ih (i + 1) (by omega) (by omega) s2 h2
    obtain ⟨hp2, g2, d2, tk2, os2⟩ := s2
    wp_walk
    rw [hc]
    exact ⟨plainId_quiet plain_eq_loop _, codeAny_builtin entry_eq_loop (by
      rw [Around.under_plainId plain_eq_loop _]
      exact hrec)⟩
theorem list_neG (l b : Addr) (N : Nat) (I : Nat → Shared → Prop) (hl : ListI prog w A (fun e s' => R (.error e) s') l b N I)
    (fin : ∀ s, I N s → R (.ok (.ret (.bool false))) s) {s : Shared} (h : I 0 s) :
    wpAny (model prog w) A.in1 (Builtin.«list.__ne__» ⟨[.ref l, .ref b], []⟩) (FinOf prog w A R) (fun e s' => R (.error e) s') s := by
  obtain ⟨items, items2, n, n2, hl1, hb1, hs1, hs2, _⟩ := hl _ _ h
  have hrec := ne_loopG (A := A) (R := R) l b N I hl fin _ 0 rfl (Nat.zero_le _) s h
  obtain ⟨hp, g, d, tk, os⟩ := s
  have f3 := AutoSeq1.sub_list_list
  have hne : ¬ (items.size != items2.size) = true := by simp [hs1, hs2]
  wp_walk using wpAny_loadPart' hl1, wpAny_loadPart' hb1
  exact ⟨plainId_quiet plain_eq_loop _, codeAny_builtin entry_eq_loop (by
    rw [Around.under_plainId plain_eq_loop _]
    exact hrec)⟩
end
section
open GQ PySem.SeqAt MeetsSeq MeetsSeq2 MeetsSeq3 SeqRoads2
open AutoSeq1 (wpAny_loadPart')
variable {prog : Program} {w : World} {A : Around} {E : Value → Shared → Prop} {s : Shared}
theorem rc_listNe {l b : Addr} {N : Nat} {Q : Value → Shared → Prop} (hu : A.units < cLine) (I : Nat → Shared → Prop) (hl : ListI prog w A E l b N I)
    (fin : ∀ s, I N s → Q (.bool false) s) (h : I 0 s) : wpAny (model prog w) A (richCompare .NotEq (.ref l) (.ref b)) Q E s := by
  obtain ⟨items, items2, n, n2, hl1, hb1, _, _, _⟩ := hl _ _ h
  refine wpAny_richCompare_same_room (op := .NotEq) ⟨_, hl1, rfl⟩ ⟨_, hb1, rfl⟩ F.slot_list_ne (call_here F.slot_list_ne ⟨_, hl1, rfl⟩ F.entry_list_ne (F.args_list_ne_2 _ _) ?_) hu
  exact list_neG (R := wants (fun v s' => v ≠ .notImplemented ∧ Q v s') E) l b N I hl (fun s' q => ⟨(fun x => nomatch x), fin s' q⟩) h
end
/-! ### a turn: two instances, equal by their own == -/
section
variable {X : Cx} {C : Str} {k : Nat} {ps : List Str} {mm : MF}
theorem eqI_turn (F : DefS X.prog X.w X.K X.mg X.base C "__eq__" k ps mm) (hl : ps.length = 2) {A : Around} (rm : Room k A) (hfr : A.frames = X.A.frames) {pins : List (Addr × Obj)} {σ : St} {H : Hp} {s : Shared} (I : Inv X pins σ H s) {g : Gh} {S : Sto} (l : Rl X.K g S H)
    {x y : D} {p q : Addr} (rx : RelD X.K g x (.ref p)) (ry : RelD X.K g y (.ref q)) {nx ny : List Str} {dx dy : List D} (hx : insOf S x = some (C, nx, dx)) (hy : insOf S y = some (C, ny, dy)) (hm : mm [x, y] S = .ok (.bl true) S) :
    wpAny (model X.prog X.w) A (eqBool (.ref p) (.ref q)) (fun r s' => r = true ∧ ∃ H' g', Ext g g' ∧ Rl X.K g' S H' ∧ Inv X pins σ H' s') X.xe s := by
  by_cases hpq : p = q
  · subst hpq
    exact SeqAt.EqAt.same (A := A) (s := s) (.ref p) X.prog X.w X.xe _ ⟨rfl, H, g, .refl g, l, I⟩
  obtain ⟨f, fd, F, hs, hf, hb⟩ := F
  refine GQ.eqBool_refG hpq ?_
  obtain ⟨a, dxa, vs, ea, e1, e2, e3⟩ := ins_view l rx hx
  cases ea
  obtain ⟨b, dxb, ws, eb, f1, f2, f3⟩ := ins_view l ry hy
  cases eb
  obtain ⟨mA, J, _⟩ := ins_get I.hok e1
  obtain ⟨mB, J', _⟩ := ins_get I.hok f1
  obtain ⟨od, J, _⟩ := J.look
  obtain ⟨od', J', _⟩ := J'.look
  obtain ⟨m, hF⟩ := I.fr
  refine PySem.W.cmp_K (op := .Eq) (tb := .ref (ga X.K C)) rm.units0 hF I.ok.mod.kin J J'.type (by simp [PySem.W.notFirst]) hs hf ?_
  have hsp : spU X.K ps.length mm [.ref p, .ref q] H (fun v H' => v = .bl true ∧ ∃ g', Ext g g' ∧ Rl X.K g' S H') (fun _ _ _ => False) := by
    refine ⟨by rw [hl]; rfl, g, [x, y], S, l, .cons rx (.cons ry .nil), ?_⟩
    rw [hm]
    exact fun g' H' v x' l' r' => ⟨r', g', x', l'⟩
  have e0 : Env0 X.prog X.w X.K X.mg X.base A X.stack s H := by
    have e := I.env0
    exact ⟨by rw [hfr]; exact e.frames, e.mod, e.bs, e.bsz, e.funs, e.frf, e.hok, e.bare⟩
  have r2 : Vals [V.ref p, V.ref q] [Value.ref p, Value.ref q] := .cons rfl (.cons rfl .nil)
  refine wpAny_call (codeAny_mono (F.run A X.stack s H ⟨[.ref p, .ref q], []⟩ [.ref p, .ref q] [.ref p, .ref q] _ (fun _ _ _ => False) rm e0 (by
    have := hb s [.ref p, .ref q] I.kIn (by rw [hl]; rfl)
    simpa using this) r2 hsp) fun r s' hq => ?_)
  cases r with
  | error e =>
    obtain ⟨_, _, _, _, _, _, _, _, _, _, _, _, z⟩ := (show L2.CX X.prog X.w X.stack H s (fun _ _ _ => False) e s' from hq)
    exact z.elim
  | ok fl =>
    cases fl with
    | ret u =>
      obtain ⟨z, H', I', rz, ez, g', x', l'⟩ := I.after hq
      subst ez
      cases rz
      exact ⟨true, rfl, rfl, H', g', x', l', I'⟩
    | next => exact False.elim hq
    | brk => exact False.elim hq
    | cont => exact False.elim hq
/-- both lists, item by item -/
def insAllEq (C : Str) (mm : MF) (S : Sto) : List D → List D → Prop
  | [], [] => True
  | x :: xs, y :: ys => (∃ nx dx, insOf S x = some (C, nx, dx)) ∧ (∃ ny dy, insOf S y = some (C, ny, dy)) ∧ mm [x, y] S = .ok (.bl true) S ∧ insAllEq C mm S xs ys
  | _, _ => False
theorem insAllEq_at {S : Sto} : ∀ {xs ys : List D} {i : Nat} {x y : D}, insAllEq C mm S xs ys → xs[i]? = some x → ys[i]? = some y → (∃ nx dx, insOf S x = some (C, nx, dx)) ∧ (∃ ny dy, insOf S y = some (C, ny, dy)) ∧ mm [x, y] S = .ok (.bl true) S
  | [], [], i, x, y, _, h1, _ => by simp at h1
  | x :: xs, y :: ys, 0, a, b, h, h1, h2 => by cases h1; cases h2; exact ⟨h.1, h.2.1, h.2.2.1⟩
  | x :: xs, y :: ys, i + 1, a, b, h, h1, h2 => insAllEq_at (i := i) h.2.2.2 (by simpa using h1) (by simpa using h2)
  | [], _ :: _, _, _, _, h, _, _ => h.elim
  | _ :: _, [], _, _, _, h, _, _ => h.elim
theorem insAllEq_len {S : Sto} : ∀ {xs ys : List D}, insAllEq C mm S xs ys → xs.length = ys.length
  | [], [], _ => rfl
  | x :: xs, y :: ys, h => by simp only [List.length_cons]; rw [insAllEq_len h.2.2.2]
  | [], _ :: _, h => h.elim
  | _ :: _, [], h => h.elim
def rNeL (X : Cx) (C : Str) (mm : MF) : R2 := fun x y H Q => ∃ g S dx dy xs ys, Rl X.K g S H ∧ RelD X.K g dx x ∧ RelD X.K g dy y ∧ lstMOf S dx = some xs ∧ lstMOf S dy = some ys ∧ insAllEq C mm S xs ys ∧ ∀ g' H', Ext g g' → Rl X.K g' S H' → Q (.bl false) H'
theorem op_neL (F : DefS X.prog X.w X.K X.mg X.base C "__eq__" k ps mm) (hl : ps.length = 2) (hr : Room (k + 1) X.A) : OpR X (compareOp .NotEq) (rNeL X C mm) := by
  intro pins s σ H x y v u Q I rx ry ⟨g, S, dx, dy, xs, ys, l, rdx, rdy, hx, hy, ha, hq⟩
  show wpAny (model X.prog X.w) X.A (richCompare .NotEq v u) (EP X pins σ Q) X.xe s
  obtain ⟨a, vs, rfl, ea, ra⟩ := lstM_view l rdx hx
  obtain ⟨b, ws, rfl, eb, rb⟩ := lstM_view l rdy hy
  cases rx
  cases ry
  refine rc_listNe (N := xs.length) (by have := hr.units; omega) (fun _ s' => ∃ H' g', Ext g g' ∧ Rl X.K g' S H' ∧ Inv X pins σ H' s') (fun i s' ⟨H', g', x', l', I'⟩ => ?_) (fun s' ⟨H', g', x', l', I'⟩ => ⟨.bl false, H', I', rfl, hq g' H' x' l'⟩) ⟨H, g, .refl g, l, I⟩
  obtain ⟨a', vs', ea', e1, r1⟩ := lstM_view l' (rdx.mono x') hx
  cases ea'
  obtain ⟨b', ws', eb', e2, r2⟩ := lstM_view l' (rdy.mono x') hy
  cases eb'
  obtain ⟨z, its, n, rv, hlen, he⟩ := I'.lstM e1
  obtain ⟨z2, its2, n2, rv2, hlen2, he2⟩ := I'.lstM e2
  have n1 : its.length = xs.length := by rw [← rv.length, ← r1.length]
  have n2' : its2.length = xs.length := by rw [← rv2.length, ← r2.length, ← insAllEq_len ha]
  refine ⟨its.toArray, its2.toArray, n, n2, he, he2, by simpa using n1, by simpa using n2', fun h1 h2 => ?_⟩
  have i1 : i < xs.length := by simpa [n1] using h1
  have i2 : i < ys.length := by rw [← insAllEq_len ha]; exact i1
  obtain ⟨⟨nx, ddx, hi1⟩, ⟨ny, ddy, hi2⟩, hm⟩ := insAllEq_at ha (List.getElem?_eq_getElem i1) (List.getElem?_eq_getElem i2)
  obtain ⟨w1, hw1, q1⟩ := r1.get (List.getElem?_eq_getElem i1)
  obtain ⟨w2, hw2, q2⟩ := r2.get (List.getElem?_eq_getElem i2)
  obtain ⟨p1, _, _, rfl, _⟩ := ins_view l' q1 hi1
  obtain ⟨p2, _, _, rfl, _⟩ := ins_view l' q2 hi2
  obtain ⟨u1, hu1, ru1⟩ := rv.get hw1
  obtain ⟨u2, hu2, ru2⟩ := rv2.get hw2
  obtain rfl : u1 = Value.ref p1 := ru1
  obtain rfl : u2 = Value.ref p2 := ru2
  have g1 : its.toArray[i] = Value.ref p1 := by
    have : its[i]? = some its[i] := List.getElem?_eq_getElem (by simpa using h1)
    rw [hu1] at this
    simpa using (Option.some.inj this).symm
  have g2 : its2.toArray[i] = Value.ref p2 := by
    have : its2[i]? = some its2[i] := List.getElem?_eq_getElem (by simpa using h2)
    rw [hu2] at this
    simpa using (Option.some.inj this).symm
  rw [g1, g2]
  refine wpAny_mono (eqI_turn F hl hr.in1 rfl I' l' q1 q2 hi1 hi2 hm) (fun r s2 ⟨er, H2, g2', x2, l2, I2⟩ => ⟨er, H2, g2', x'.trans x2, l2, I2⟩) fun _ _ z => z
end
open Classical in
/-- a != b, two lists of instances of C that are equal, one by one -/
noncomputable def tNeLI (C : Str) (mm : MF) (fa fb : EF) : TF := fun r S => (fa r S).bind fun x r S => (fb r S).bind fun y r S => match lstMOf S x, lstMOf S y with
  | some xs, some ys => if insAllEq C mm S xs ys then .ok false r S else .no
  | _, _ => .no
section
variable {X : Cx} {W : WX} {C : Str} {k : Nat} {ps : List Str} {mm : MF} {a b : Expr} {fa fb : EF} {pos : Pos}
theorem st_neLI (F : DefS X.prog X.w X.K X.mg X.base C "__eq__" k ps mm) (hr : Room (k + 1) X.A) (ha : SE X W a fa) (hb : SE X W b fb) (hl : ps.length = 2 := by rfl) (hm : behindInMarks .NotEq b = false := by first | exact nomark _ | rfl) : ST X W (.Compare a [.NotEq] [b] pos) (tNeLI C mm fa fb) :=
  pt_imp (pt_cmpR (op_neL F hl hr) ha hb hm) fun σ H Q h => td_two h fun g r S H x y xv yv l e rx ry p => by
    split at p
    · rename_i xs ys h1 h2
      split at p
      · rename_i hq
        exact ⟨g, S, x, y, xs, ys, l, rx, ry, h1, h2, hq, fun g' H' x' l' => ⟨false, rfl, p g' H' false x' l' (e.mono x') rfl⟩⟩
      · exact p.elim
    · exact p.elim
variable {r : Env} {S : Sto} {Q : Bool → Env → Sto → Prop} {Z : D → Env → Sto → Prop}
theorem wp_tNeLI : wp (tNeLI C mm fa fb r S) Q Z = wp (fa r S) (fun x r S => wp (fb r S) (fun y r S => got (lstMOf S x) fun xs => got (lstMOf S y) fun ys => insAllEq C mm S xs ys ∧ Q false r S) Z) Z := by
  unfold tNeLI
  simp only [wp_bind]
  congr; funext x r S; congr; funext y r S
  cases lstMOf S x with
  | none => rfl
  | some xs =>
    cases lstMOf S y with
    | none => rfl
    | some ys =>
      by_cases h : insAllEq C mm S xs ys
      · simp only [if_pos h, got_some, h, true_and]; rfl
      · simp only [if_neg h, got_some, h, false_and]; rfl
end
end L2.U
namespace L2.U
open PySem PySem.Spec PyProof.Rows He

/-! ### a set that can be walked, with these entries -/
def Wk (w : World) (h : Heap) (a : Addr) (es : Array (Int × Value)) : Prop :=
  ∃ (o : Obj) (ep : Nat) (t : SetTable), (h.get? a = some o ∧ o.ExactSet ∧ o.data = .set es ep t) ∧ t.fits es.size = true ∧ Ris t.place.toList ∧ (w.params.followText "set-order" = true ∨ t.led = true)
theorem Wk.stay {w : World} {h h' : Heap} {a : Addr} {es : Array (Int × Value)} (W : Wk w h a es) (k : ∀ o, h.get? a = some o → h'.get? a = some o) : Wk w h' a es :=
  let ⟨o, ep, t, ⟨e, x⟩, r⟩ := W
  ⟨o, ep, t, ⟨k o e, x⟩, r⟩
section
variable {P : Program} {w : World} {A : Around} {E : Value → Shared → Prop} {s : Shared} {a : Addr}
theorem say_any {M : Model} {b : Bool} {x : String} {s1 : Shared} {Q : Unit → Shared → Prop} (q : Q () s1) : wpAny M A (match b with | true => rule x | false => pure ()) Q E s1 := by
  cases b
  · exact wpAny_pure q
  · exact wpAny_rule q
/-- the entries are stored, the table is laid anew where it is too full -/
theorem wk_store {say : Bool → Sem Unit} (hs : ∀ (b : Bool) (s1 : Shared) (Q : Unit → Shared → Prop), Q () s1 → wpAny (model P w) A (say b) Q E s1) {o : Obj} {es es1 : Array (Int × Value)} {ep : Nat} {t t1 : SetTable}
    (at_ : s.heap.get? a = some o ∧ o.ExactSet ∧ o.data = .set es ep t) (room : es1.size < scanBound) (ok : t1.fits es1.size = true ∧ Ris t1.place.toList ∧ (w.params.followText "set-order" = true ∨ t1.led = true)) {dm : Bool} {R : Option Bool → Shared → Prop}
    (done : ∀ (h' : Heap) (es2 : Array (Int × Value)), Heap.SameBut a s.heap h' → Wk w h' a es2 → es2.toList.Perm es1.toList → R (some true) { s with heap := h' }) :
    wpAny (model P w) A (do
        storeSet a es1 t1
        if (!dm && t1.tooFull) = true then do
            say (relayAll t1 es1 (SetTable.grown es1.size)).2.2
            storeSet a (relayAll t1 es1 (SetTable.grown es1.size)).1 (relayAll t1 es1 (SetTable.grown es1.size)).2.1
            pure (some true)
          else pure (some true)) R E s := by
  obtain ⟨ho, hex, hd⟩ := at_
  obtain ⟨hf, hr, hl⟩ := ok
  have first := store_at (es' := es1) (t' := t1) ho hd
  have moved := Heap.SameBut.update s.heap a (Obj.putSet es1 t1)
  refine wpAny_bind (wpAny_storeSet_of ho hd ?_ (fits_of_scanBound room))
  by_cases full : (!dm && t1.tooFull) = true
  · rw [if_pos full]
    have p2 := relayAll_perm t1 es1 (SetTable.grown es1.size)
    have f2 := relayAll_fits t1 es1 (SetTable.grown es1.size)
    have r2 := relayAll_ris t1 es1 (SetTable.grown es1.size)
    have l2 := relayAll_led t1 es1 (SetTable.grown es1.size)
    generalize relayAll t1 es1 (SetTable.grown es1.size) = z at p2 f2 r2 l2 ⊢
    obtain ⟨es2, t2, gave⟩ := z
    dsimp only at p2 f2 r2 l2 ⊢
    have n2 : es2.size = es1.size := by simpa using p2.length_eq
    refine wpAny_bind (hs _ _ _ (wpAny_bind (wpAny_storeSet_of first rfl ?_ (fits_of_scanBound (by rw [n2]; exact room)))))
    exact wpAny_pure (done _ es2 (moved.trans (Heap.SameBut.update _ a _)) ⟨_, _, t2, ⟨store_at (es' := es2) (t' := t2) first rfl, hex, rfl⟩, f2, r2, hl.imp id fun z => l2.trans z⟩ p2)
  · rw [if_neg full]
    exact wpAny_pure (done _ es1 moved ⟨_, _, t1, ⟨first, hex, rfl⟩, hf, hr, hl⟩ .rfl)
variable {K : Type} [DecidableEq K] {knd : KeyKind P w K}
/-- a key is added -/
theorem wk_add {k : K} {v : Value} {es : Array (Int × Value)} {Q : Bool → Shared → Prop} (hk : knd.is k v = true) (hv : v.scannable = true) (W : Wk w s.heap a es) (hel : ElemsOf knd es.toList) (room : es.size + 1 < scanBound)
    (old : (∃ e ∈ es.toList, knd.is k e.2 = true) → Q false s)
    (new : (∀ e ∈ es.toList, knd.is k e.2 = false) → ∀ (h' : Heap) (es1 : Array (Int × Value)), Heap.SameBut a s.heap h' → Wk w h' a es1 → es1.toList.Perm ((knd.hash k, v) :: es.toList) → Q true { s with heap := h' }) :
    wpAny (model P w) A (setAddHashed a v (knd.hash k)) Q E s := by
  obtain ⟨o, ep, t, ⟨ho, hex, hd⟩, hf, hr, hl⟩ := W
  unfold setAddHashed setAddHashedIn
  refine wpAny_holding (wpAny_bind (wpAny_setState_of ho hd hf ?_))
  dsimp only
  rw [byScan_of hv (by omega) hel]
  simp only [↓reduceIte]
  unfold setAddByScan
  refine wpAny_bind (wpAny_bind (wpAny_rule (wpAny_bind (wpAny_setScan_of hk ho hd hf hel ?_))))
  cases met : List.findIdx? (fun e => knd.is k e.2) es.toList with
  | some j =>
    dsimp only
    obtain ⟨hj, pj, _⟩ := List.findIdx?_eq_some_iff_getElem.mp met
    exact wpAny_pure (wpAny_pure (old ⟨_, List.getElem_mem hj, pj⟩))
  | none =>
    dsimp only
    have fresh := List.findIdx?_eq_none_iff.mp met
    have p1 := layNew_perm t es (knd.hash k) v
    have f1 := layNew_fits t es (knd.hash k) v
    have r1 := layNew_ris t es (knd.hash k) v hr
    have l1 := layNew_led t es (knd.hash k) v
    generalize layNew t es (knd.hash k) v = z at p1 f1 r1 l1 ⊢
    obtain ⟨es1, t1, dm, gave⟩ := z
    dsimp only at p1 f1 r1 l1 ⊢
    rw [Array.toList_push] at p1
    have p2 := p1.trans (List.perm_append_singleton (knd.hash k, v) es.toList)
    have n1 : es1.size < scanBound := by
      have e : es1.size = es.size + 1 := by simpa using p2.length_eq
      omega
    have led1 : w.params.followText "set-order" = true ∨ t1.led = true := hl.imp id fun z => by rw [l1]; exact z
    have fin : ∀ (h' : Heap) (es2 : Array (Int × Value)), Heap.SameBut a s.heap h' → Wk w h' a es2 → es2.toList.Perm es1.toList → Q true { s with heap := h' } := fun h' es2 sb W2 p => new (fun e he => by simpa using fresh e he) h' es2 sb W2 (p.trans p2)
    have say : ∀ (x : String) (b : Bool) (s1 : Shared) (Q' : Unit → Shared → Prop), Q' () s1 → wpAny (model P w) A (match b with | true => rule x | false => pure ()) Q' E s1 := fun x b s1 Q' q => say_any q
    refine wpAny_bind ?_
    refine (show ∀ (b : Bool) {s1 : Shared} {Q' : Unit → Shared → Prop}, Q' () s1 → wpAny (model P w) A (match b with | true => rule "set.scan.the-table-gave-way" | false => pure ()) Q' E s1 from fun b {s1 Q'} q => say_any q) _ ?_
    split
    · rw [hashByValue_scannable 8 hv]
      refine wpAny_bind ?_
      refine wpAny_pure ?_
      refine wk_store (fun b s1 Q' q => ?_) ⟨ho, hex, hd⟩ n1 ⟨?_, ?_, ?_⟩ fun h' es2 sb W2 p => ?_
      · cases b <;> first | exact wpAny_pure q | exact wpAny_rule q
      · first | (split <;> first | exact f1 | exact SetTable.fits_plain_off f1) | exact f1
      · first | (split <;> exact r1) | exact r1
      · first | (split <;> exact led1) | exact led1
      · dsimp only; exact wpAny_pure (fin h' es2 sb W2 p)
    · refine wpAny_bind (wpAny_pure ?_)
      simp only [↓reduceIte]
      refine wk_store (fun b s1 Q' q => ?_) ⟨ho, hex, hd⟩ n1 ⟨f1, r1, led1⟩ fun h' es2 sb W2 p => ?_
      · cases b <;> first | exact wpAny_pure q | exact wpAny_rule q
      · dsimp only; exact wpAny_pure (fin h' es2 sb W2 p)
end
/-! ### sets of texts -/
def kyT (e : Int × Value) : Str := match e.2 with
  | .str k _ => k
  | _ => Str.empty
/-- the entries are these texts, in any order, none twice -/
structure TxE (w : World) (es : Array (Int × Value)) (l : List Str) : Prop where
  good : ∀ e ∈ es.toList, ∃ k t, e = (hashStr w k, Value.str k t)
  nd : (es.toList.map kyT).Nodup
  mem : ∀ k, k ∈ es.toList.map kyT ↔ k ∈ l
section
variable {P : Program} {w : World} {es : Array (Int × Value)} {l : List Str}
theorem TxE.elems (h : TxE w es l) : ElemsOf (strKind P w) es.toList := fun e he => by
  obtain ⟨k, t, rfl⟩ := h.good e he
  exact ⟨⟨k, strKind_is P w k t, rfl⟩, rfl⟩
theorem TxE.is_iff (h : TxE w es l) {e : Int × Value} (he : e ∈ es.toList) (k : Str) : (strKind P w).is k e.2 = true ↔ kyT e = k := by
  obtain ⟨k0, t, rfl⟩ := h.good e he
  show (k0 == k) = true ↔ k0 = k
  exact beq_iff_eq
/-- a text more -/
theorem TxE.more {es1 : Array (Int × Value)} {k : Str} {u : Tok} (h : TxE w es l) (fresh : ∀ e ∈ es.toList, (strKind P w).is k e.2 = false) (p : es1.toList.Perm ((hashStr w k, Value.str k u) :: es.toList)) : TxE w es1 (l ++ [k]) := by
  have nin : k ∉ es.toList.map kyT := fun hm => by
    obtain ⟨e, he, q⟩ := List.mem_map.mp hm
    have := (h.is_iff (P := P) he k).mpr q
    rw [fresh e he] at this
    cases this
  have pk : (es1.toList.map kyT).Perm (k :: es.toList.map kyT) := p.map kyT
  refine ⟨fun e he => ?_, pk.nodup_iff.mpr (List.nodup_cons.mpr ⟨nin, h.nd⟩), fun x => ?_⟩
  · rcases List.mem_cons.mp (p.mem_iff.mp he) with rfl | he
    · exact ⟨k, u, rfl⟩
    · exact h.good e he
  · rw [pk.mem_iff, List.mem_cons, List.mem_append, List.mem_singleton, h.mem x]
    exact Or.comm
/-- .. that is there -/
theorem TxE.same {k : Str} (h : TxE w es l) (old : ∃ e ∈ es.toList, (strKind P w).is k e.2 = true) : TxE w es (l ++ [k]) := by
  obtain ⟨e, he, q⟩ := old
  have hk : k ∈ l := (h.mem k).mp (List.mem_map.mpr ⟨e, he, (h.is_iff (P := P) he k).mp q⟩)
  refine ⟨h.good, h.nd, fun x => ?_⟩
  rw [h.mem x, List.mem_append, List.mem_singleton]
  exact ⟨.inl, fun z => z.elim id fun e => e ▸ hk⟩
theorem TxE.size_le (h : TxE w es l) : es.size ≤ l.length := by
  have := List.Nodup.length_le_of_subset h.nd fun x hx => (h.mem x).mp hx
  simpa using this
end
section
variable {P : Program} {w : World} {A : Around} {E : Value → Shared → Prop} {s : Shared}
/-- the set's update, over texts -/
theorem upd_texts {I : Addr} {fp wr : List Addr} {G : Array GenState → Array GenState → Prop} {n : Nat} {Pv : Nat → Value → Prop} {St : Nat → Shared → Prop} {R : Result → Shared → Prop} {l : List Str} {a : Addr}
    (W : WalksS P w A.in1 I fp wr G n Pv St) (off : a ∉ fp) (hn : l.length = n) (room : n + 1 < scanBound) (val : ∀ i v, Pv i v → ∃ (h : i < l.length) (t : Tok), v = .str l[i] t)
    (done : ∀ s' es, Moved (a :: wr) G s s' → Wk w s'.heap a es → TxE w es l → R (.ok (.ret .none)) s') (m i : Nat) :
    ∀ s1 es, n - i = m → i ≤ n → St i s1 → Moved (a :: wr) G s s1 → Wk w s1.heap a es → TxE w es (l.take i) → codeAny (model P w) A (.builtin "set.update.loop" ⟨[.ref a, .ref I], []⟩) R s1 := by
  have aw : a ∉ wr := fun h => off (W.sub _ h)
  have more : ∀ b ∈ wr, b ∈ a :: wr := fun b hb => List.mem_cons_of_mem _ hb
  induction m generalizing i with
  | zero =>
    intro s1 es hm hi st mv Wa T
    have e : i = n := by omega
    subst e
    rw [show l.take i = l from List.take_of_length_le (by omega)] at T
    refine codeAny_builtin F.entry_set_update_loop ?_
    rw [Around.under_plainId F.plain_set_update_loop _]
    show wpAny _ A.in1 (pyNext (.ref I) >>= _) _ _ s1
    refine wpAny_bind (W.done s1 _ _ st fun s2 mv2 => ?_)
    show wpAny _ A.in1 (ret Value.none) _ _ s2
    exact wpAny_pure (done s2 es (Moved.trans W.gtrans mv (mv2.mono more)) (Wa.stay fun o e => mv2.heap a o aw e) T)
  | succ m ih =>
    intro s1 es hm hi st mv Wa T
    have lt : i < n := by omega
    refine codeAny_builtin F.entry_set_update_loop ?_
    rw [Around.under_plainId F.plain_set_update_loop _]
    show wpAny _ A.in1 (pyNext (.ref I) >>= _) _ _ s1
    refine wpAny_bind (W.item i s1 _ _ lt st fun v s2 hv st2 mv2 => ?_)
    obtain ⟨hl, t, rfl⟩ := val i v hv
    have W2 : Wk w s2.heap a es := Wa.stay fun o e => mv2.heap a o aw e
    have mvs := Moved.trans W.gtrans mv (mv2.mono more)
    have tk : l.take (i + 1) = l.take i ++ [l[i]] := by rw [List.take_add_one, List.getElem?_eq_getElem hl]; rfl
    have sz := T.size_le
    rw [List.length_take] at sz
    show wpAny _ A.in1 (holding [Value.str l[i] t] (setAdd a (.str l[i] t)) >>= _) _ _ s2
    refine wpAny_bind (wpAny_holding ?_)
    unfold setAdd
    refine wpAny_holding (wpAny_bind ((strKind P w).pyHash (strKind_is _ _ _ _) ?_))
    refine wk_add (s := { s2 with toks := s2.toks + 1 }) (strKind_is _ _ _ _) rfl W2 (T.elems (P := P)) (by omega) (fun old => ?_) (fun fresh h' es1 sb W3 p => ?_)
    · refine wpAny_pure ⟨plainId_quiet F.plain_set_update_loop _, ih (i + 1) { s2 with toks := s2.toks + 1 } es (by omega) lt ?_ ?_ W2 (by rw [tk]; exact T.same (P := P) old)⟩
      · exact W.frame _ s2 _ _ st2 (Nat.le_succ _) fun b hb o e => e
      · exact ⟨mvs.heap, mvs.gens, mvs.drawn, mvs.os, Nat.le_succ_of_le mvs.toks⟩
    · refine wpAny_pure ⟨plainId_quiet F.plain_set_update_loop _, ih (i + 1) { s2 with heap := h', toks := s2.toks + 1 } es1 (by omega) lt ?_ ?_ W3 (by rw [tk]; exact T.more (P := P) fresh p)⟩
      · exact W.frame _ s2 _ _ st2 (Nat.le_succ _) fun b hb o e => by rw [sb.2 b (fun z => off (z ▸ hb))]; exact e
      · exact ⟨fun b o hb e => by rw [sb.2 b (fun z => hb (z ▸ List.mem_cons_self ..))]; exact mvs.heap b o hb e, mvs.gens, mvs.drawn, mvs.os, Nat.le_succ_of_le mvs.toks⟩
/-- the empty set, new -/
abbrev set0 (w : World) : Obj := { cls := .type "set", dict := none, data := .set #[] 0 (.fresh 0 0 (!w.params.followText "set-order")) }
theorem wk_new {h : Heap} {b : Addr} (e : h.get? b = some (set0 w)) : Wk w h b #[] := by
  refine ⟨_, 0, _, ⟨e, ⟨rfl, rfl, rfl⟩, rfl⟩, by rfl, List.Pairwise.nil, ?_⟩
  show _ ∨ (!w.params.followText "set-order") = true
  cases w.params.followText "set-order"
  · exact .inr rfl
  · exact .inl rfl
theorem txe_new : TxE w #[] [] := ⟨fun e he => by simp at he, by simp, fun k => by simp⟩
/-- behind set.__init__ -/
abbrev SetEnd (w : World) (s : Shared) (l : List Str) : Value → Shared → Prop := fun v s2 => v = .none ∧ ∃ (h' : Heap) (tk : Nat) (es : Array (Int × Value)), s2 = { s with heap := h', toks := tk } ∧ Wk w h' s.heap.objs.size es ∧ TxE w es l ∧ ∀ b o, s.heap.get? b = some o → h'.get? b = some o
set_option maxHeartbeats 3200000 in
/-- set(x), where the set's own update meets these texts -/
theorem set_core {x : Value} {l : List Str} {Q : Value → Shared → Prop}
    (init : wpAny (model P w) A.in1.in1 (Builtin.«set.__init__» ⟨[.ref s.heap.objs.size] ++ [x], []⟩) (fun fin s' => match fin with
      | .done f => wants (SetEnd w s l) E (.ok f) s'
      | .again c' => c'.quiet = true ∧ codeAny (model P w) A.in1 c' (wants (SetEnd w s l) E) s') (fun e s' => wants (SetEnd w s l) E (.error e) s') { s with heap := s.heap.push (set0 w) })
    (q : ∀ (h' : Heap) (tk : Nat) (es : Array (Int × Value)), Wk w h' s.heap.objs.size es → TxE w es l → (∀ b o, s.heap.get? b = some o → h'.get? b = some o) → Q (.ref s.heap.objs.size) { s with heap := h', toks := tk }) :
    wpAny (model P w) A (call (.type "set") [x]) Q E s := by
  obtain ⟨c, tl, hmro⟩ := F.called_set.mro
  have g1 := F.called_set.made
  have g2 := F.called_set.sub
  have g3 := F.called_set.notType
  have g4 := F.called_set.canCreate
  have g5 := F.typeCall_set_1 x
  refine wpAny_call (codeAny_of_tree ?_)
  show wpAny _ _ (callAny (.type "set") _) _ _ _
  refine wpAny_pure ⟨Code.quiet_builtin _ (by decide +kernel), codeAny_builtin F.entry_type_call ?_⟩
  rw [Around.under_plain (weight_type_call_type "set" [x] []) rfl]
  repeat (any_goals (first | assumption | wp_step))
  refine codeAny_mono (code_set_led1 x (E := E) (Q₁ := fun v s1 => v = .ref s.heap.objs.size ∧ s1 = { s with heap := s.heap.push (set0 w) }) ⟨rfl, rfl⟩) fun r s1 made => ?_
  cases r with
  | error e => exact made
  | ok f =>
    cases f with
    | ret v =>
      obtain ⟨rfl, rfl⟩ := made
      have at_ : (s.heap.push (set0 w)).get? s.heap.objs.size = some (set0 w) := Heap.get?_push_size _ rfl
      have ty : Shared.TypeIs { s with heap := s.heap.push (set0 w) } (.ref s.heap.objs.size) "set" := ⟨_, at_, rfl⟩
      have g6 := F.called_set.init.lookup
      have g7 := F.called_set.init.bind (.ref s.heap.objs.size)
      repeat (any_goals (first | assumption | wp_step))
      refine codeAny_mono (codeAny_call_builtin (R := wants (SetEnd w s l) E) F.called_set.init.plain F.entry_set_init (check_set_init_1 ty init)) fun r s2 out => ?_
      cases r with
      | error e => exact out
      | ok f =>
        cases f with
        | ret v =>
          obtain ⟨rfl, h', tk, es, rfl, W, T, kp⟩ := out
          repeat (any_goals (first | assumption | wp_step))
          exact q _ _ _ W T kp
        | _ => exact out.elim
    | _ => exact made.elim
/-- the update over a walk, to its end -/
theorem upd_end {I : Addr} {fp wr : List Addr} {n : Nat} {Pv : Nat → Value → Prop} {St : Nat → Heap → Prop} {l : List Str} {B : Around} {h1 : Heap}
    (W : Walks P w B.in1 I fp wr n Pv St) (off : s.heap.objs.size ∉ fp) (wrI : ∀ b ∈ wr, s.heap.objs.size < b) (hn : l.length = n) (room : n + 1 < scanBound) (val : ∀ i v, Pv i v → ∃ (h : i < l.length) (t : Tok), v = .str l[i] t)
    (st : St 0 h1) (kp : ∀ b o, (s.heap.push (set0 w)).get? b = some o → h1.get? b = some o) {R : Result → Shared → Prop} (done : ∀ s2, SetEnd w s l .none s2 → R (.ok (.ret .none)) s2) :
    codeAny (model P w) B (.builtin "set.update.loop" ⟨[.ref s.heap.objs.size, .ref I], []⟩) R { s with heap := h1 } := by
  have at_ : (s.heap.push (set0 w)).get? s.heap.objs.size = some (set0 w) := Heap.get?_push_size _ rfl
  refine upd_texts (l := l) W.toS off hn room val (fun s3 es mv Wa T => done _ ?_) n 0 { s with heap := h1 } #[] (by omega) (Nat.zero_le _) st ⟨fun b o _ e => e, rfl, rfl, rfl, Nat.le_refl _⟩ (wk_new (kp _ _ at_)) txe_new
  obtain ⟨h', g', d', tk', os'⟩ := s3
  obtain rfl : g' = s.gens := mv.gens
  obtain rfl : d' = s.drawn := mv.drawn
  obtain rfl : os' = s.os := mv.os
  refine ⟨rfl, h', tk', es, rfl, Wa, T, fun b o e => ?_⟩
  have lb : b < s.heap.objs.size := Heap.lt_size e
  refine mv.heap b o (fun hm => ?_) (kp _ _ (Heap.get?_push_of_some _ e))
  rcases List.mem_cons.mp hm with z | z
  · rw [z] at lb; exact Nat.lt_irrefl _ lb
  · exact Nat.lt_irrefl _ (Nat.lt_trans lb (wrI b z))
/-- set(xs), a list of texts -/
theorem set_list {a : Addr} {its : Array Value} {l : List Str} {Q : Value → Shared → Prop} (hh : A.handled = none) (hl : s.heap.IsList a its) (tx : StrsAre its.toList l) (room : l.length + 1 < scanBound)
    (q : ∀ (h' : Heap) (tk : Nat) (es : Array (Int × Value)), Wk w h' s.heap.objs.size es → TxE w es l → (∀ b o, s.heap.get? b = some o → h'.get? b = some o) → Q (.ref s.heap.objs.size) { s with heap := h', toks := tk }) :
    wpAny (model P w) A (call (.type "set") [.ref a]) Q E s := by
  have size : its.size = l.length := by simpa using StrsAre.len_eq tx
  refine set_core (l := l) ?_ q
  obtain ⟨⟨oc, od, ob, os⟩, ho, e1, n, e2⟩ := hl
  simp only at e1 e2
  subst e1
  subst e2
  have there : (s.heap.push (set0 w)).get? a = some { cls := .type "list", dict := od, data := .seq its n, slots := os } := Heap.get?_push_of_some _ ho
  have isl : (s.heap.push (set0 w)).IsList a its := ⟨_, there, rfl, n, rfl⟩
  have k1 := F.sub_list_set
  have k2 := F.sub_list_frozenset
  have k3 : (Value.type "list" == Value.type "dict") = false := by decide
  have lt : a < s.heap.objs.size := Heap.lt_size ho
  have sz1 : (s.heap.push (set0 w)).objs.size = s.heap.objs.size + 1 := Heap.size_push ..
  have ne : a ≠ (s.heap.push (set0 w)).objs.size := by rw [sz1]; exact Nat.ne_of_lt (Nat.lt_succ_of_lt lt)
  have h3 : A.in1.in1.in1.handled = none := by simp [hh]
  unfold Builtin.«set.__init__» noKeywords Builtin.Frozenset.updateFrom
  generalize hPI : pyIter = PI
  wp_walk
  subst hPI
  refine wpAny_pyIter_list isl ?_
  refine wpAny_bind (wpAny_runValue ?_)
  refine upd_end (l := l) (Walks.list h3 _ a ne its) ?_ (fun b hb => ?_) size.symm (by rw [size]; exact room) (fun i v hv => ?_) ⟨⟨_, Heap.get?_push_size _ rfl, rfl, rfl⟩, isl.push _⟩ (fun b o e => Heap.get?_push_of_some _ e) fun s2 out => ?_
  · rw [sz1]
    simp only [List.mem_cons, List.not_mem_nil, or_false, not_or]
    exact ⟨Nat.ne_of_lt (Nat.lt_succ_self _), Nat.ne_of_gt lt⟩
  · rw [List.mem_singleton.mp hb, sz1]; exact Nat.lt_succ_self _
  · have hi : i < l.length := by rw [← size]; exact (Array.getElem?_eq_some_iff.mp hv).1
    obtain ⟨y, u, rfl, hy⟩ := tx.item i v (by rw [Array.getElem?_toList]; exact hv)
    rw [List.getElem?_eq_getElem hi] at hy
    exact ⟨hi, u, by rw [Option.some.inj hy]⟩
  · show wpAny _ _ _ _ _ _
    refine wpAny_pure ?_
    show wpAny _ _ (ret Value.none) _ _ _
    exact wpAny_pure out
/-- set(x), a text: its signs -/
theorem set_str {x : Str} {t : Tok} {Q : Value → Shared → Prop} (hh : A.handled = none) (room : x.cps.size + 1 < scanBound)
    (q : ∀ (h' : Heap) (tk : Nat) (es : Array (Int × Value)), Wk w h' s.heap.objs.size es → TxE w es (x.cps.toList.map fun c => ⟨#[c]⟩) → (∀ b o, s.heap.get? b = some o → h'.get? b = some o) → Q (.ref s.heap.objs.size) { s with heap := h', toks := tk }) :
    wpAny (model P w) A (call (.type "set") [.str x t]) Q E s := by
  refine set_core (l := x.cps.toList.map fun c => ⟨#[c]⟩) ?_ q
  have k1 := F.sub_str_set
  have k2 := F.sub_str_frozenset
  have k3 : (Value.type "str" == Value.type "dict") = false := by decide
  have sz1 : (s.heap.push (set0 w)).objs.size = s.heap.objs.size + 1 := Heap.size_push ..
  have h3 : A.in1.in1.in1.handled = none := by simp [hh]
  unfold Builtin.«set.__init__» noKeywords Builtin.Frozenset.updateFrom
  generalize hPI : pyIter = PI
  wp_walk
  subst hPI
  refine wpAny_pyIter_str fun o St W st => ?_
  refine wpAny_bind (wpAny_runValue ?_)
  refine upd_end (l := x.cps.toList.map fun c => ⟨#[c]⟩) (W _ h3) ?_ (fun b hb => ?_) (by simp) room (fun i v hv => ?_) st (fun b o e => Heap.get?_push_of_some _ e) fun s2 out => ?_
  · rw [sz1]
    simp only [List.mem_cons, List.not_mem_nil, or_false]
    exact Nat.ne_of_lt (Nat.lt_succ_self _)
  · rw [List.mem_singleton.mp hb, sz1]; exact Nat.lt_succ_self _
  · obtain ⟨c, u, hc, rfl⟩ := hv
    have hi : i < x.cps.size := (Array.getElem?_eq_some_iff.mp hc).1
    refine ⟨by simpa using hi, u, ?_⟩
    have e := (Array.getElem?_eq_some_iff.mp hc).2
    simp [e]
  · show wpAny _ _ _ _ _ _
    refine wpAny_pure ?_
    show wpAny _ _ (ret Value.none) _ _ _
    exact wpAny_pure out
end
end L2.U
namespace L2.U
open PySem PySem.Spec PyProof.Rows He

section
variable {P : Program} {w : World} {A : Around} {E : Value → Shared → Prop} {s : Shared}
/-- sorted of a set of texts -/
theorem sorted_wk {a : Addr} {es : Array (Int × Value)} {l : List Str} {Q : Value → Shared → Prop} (hh : A.handled = none) (W : Wk w s.heap a es) (T : TxE w es l) (room : es.size < scanBound) (ty : ∃ o, s.heap.get? a = some o ∧ o.cls = .type "set")
    (q : ∀ (s' : Shared) (p : Addr) (out : Array Value) (c : Nat) (ys : List Str), (∀ b o, s.heap.get? b = some o → s'.heap.get? b = some o) → s'.gens = s.gens → s'.os = s.os → s.heap.objs.size ≤ p → s'.heap.get? p = some (seqObj "list" out c) → StrsAre out.toList ys →
      sortedS ys = true → ys.Nodup → (∀ k, k ∈ ys ↔ k ∈ l) → Q (.ref p) s') : wpAny (model P w) A (call (.builtin "sorted") [.ref a]) Q E s := by
  obtain ⟨o, ep, t, ⟨ho, hex, hd⟩, hf, hr, hl⟩ := W
  refine Calls.call_function_entry kind_sorted plain_sorted entry_sorted (args_sorted1 _) ?_
  unfold Builtin.«sorted»
  refine wpAny_bind (m := checkCount "sorted" 1 1 _) (wpAny_pure ?_)
  refine wpAny_bind (collect_set (A := A.in1) hh ⟨o, ho, hex.1, hd⟩ hf room hr hl fun s1 vs k1 hz g1 o1 pm => ?_)
  have tx : StrsAre vs (vs.map strOf) := strsAre_map vs fun v hv => by
    obtain ⟨e, he, rfl⟩ := List.mem_map.mp (pm.mem_iff.mp hv)
    obtain ⟨k, t, rfl⟩ := T.good e he
    exact ⟨k, t, rfl⟩
  have pk : (vs.map strOf).Perm (es.toList.map kyT) := by
    have := pm.map strOf
    rw [List.map_map] at this
    refine this.trans (.of_eq (List.map_congr_left fun e he => ?_))
    obtain ⟨k, t, rfl⟩ := T.good e he
    rfl
  have small : vs.length ≤ sizeLine := by
    rw [pm.length_eq, List.length_map, Array.length_toList]
    exact fits_of_scanBound room
  refine wpAny_bind (wpAny_newList ?_ small)
  have at_ : (s1.heap.push (seqObj "list" vs.toArray 0)).get? s1.heap.objs.size = some (seqObj "list" vs.toArray 0) := Heap.get?_push_size _ rfl
  refine wpAny_bind (wpAny_holding (wpAny_call_entry slot_list_sort ⟨_, at_, rfl⟩ entry_list_sort (list_sort_treeKAny strKind_oneLt at_ tx.keysOf (fun v1 v2 r e => keyKind_strs (by rw [← e]; exact tx)) small fun st hp hs => ⟨_, rfl, ?_⟩) (args_list_sort _)))
  obtain ⟨ys, y1, y2, y3⟩ := sorted_out_str tx hp hs
  obtain ⟨c, hc⟩ := sortedHeap_at (vs := vs) (out := (arrOf st).map (·.2)) at_
  have py := y2.trans pk
  refine wpAny_pure ⟨_, rfl, q _ s1.heap.objs.size _ c ys (fun b u e => ?_) g1 o1 hz hc y1 y3 (py.nodup_iff.mpr T.nd) fun k => by rw [py.mem_iff, T.mem k]⟩
  have e1 := k1 b u e
  have lt := Heap.lt_size e1
  show (sortedHeap (s1.heap.push (seqObj "list" vs.toArray 0)) s1.heap.objs.size vs _).get? b = some u
  rw [sortedHeap_old (Nat.ne_of_lt lt) (by rw [size_push']; exact Nat.lt_succ_of_lt lt)]
  exact Heap.get?_push_of_some _ e1
end
/-! ### the sorted texts -/
def ltT (a b : Str) : Bool := decide (a.cps.toList < b.cps.toList)
def insT (x : Str) : List Str → List Str
  | [] => [x]
  | y :: r => if x = y then y :: r else if ltT x y = true then x :: y :: r else y :: insT x r
/-- in order, none twice -/
def sortT (l : List Str) : List Str := l.foldr insT []
theorem insT_mem {x k : Str} : ∀ {l : List Str}, k ∈ insT x l ↔ k = x ∨ k ∈ l
  | [] => by simp [insT]
  | y :: r => by
    unfold insT
    split
    · rename_i e
      subst e
      simp only [List.mem_cons]
      exact ⟨.inr, fun z => z.elim .inl id⟩
    · split
      · simp only [List.mem_cons]
      · simp only [List.mem_cons, insT_mem (l := r)]
        constructor
        · rintro (h | h | h) <;> simp [h]
        · rintro (h | h | h) <;> simp [h]
theorem sortT_mem {k : Str} : ∀ {l : List Str}, k ∈ sortT l ↔ k ∈ l
  | [] => by simp [sortT]
  | x :: l => by
    show k ∈ insT x (sortT l) ↔ _
    rw [insT_mem, sortT_mem (l := l), List.mem_cons]
theorem ltT_trans {a b c : Str} (h : ltT a b = true) (h' : ltT b c = true) : ltT a c = true := decide_eq_true (List.lt_trans (of_decide_eq_true h) (of_decide_eq_true h'))
theorem ltT_total {a b : Str} (ne : a ≠ b) (h : ltT a b = false) : ltT b a = true := by
  have h1 : ¬ a.cps.toList < b.cps.toList := of_decide_eq_false h
  refine decide_eq_true ?_
  by_cases c : b.cps.toList < a.cps.toList
  · exact c
  · exfalso
    have e := List.le_antisymm (List.not_lt.mp c) (List.not_lt.mp h1)
    obtain ⟨⟨x⟩⟩ := a
    obtain ⟨⟨y⟩⟩ := b
    exact ne (by simpa using e)
theorem insT_ord {x : Str} : ∀ {l : List Str}, l.Pairwise (fun a b => ltT a b = true) → (insT x l).Pairwise (fun a b => ltT a b = true)
  | [], _ => by simp [insT]
  | y :: r, h => by
    obtain ⟨h1, h2⟩ := List.pairwise_cons.mp h
    unfold insT
    split
    · exact h
    · rename_i ne
      split
      · rename_i lt
        refine List.pairwise_cons.mpr ⟨fun z hz => ?_, h⟩
        rcases List.mem_cons.mp hz with rfl | hz
        · exact lt
        · exact ltT_trans lt (h1 z hz)
      · rename_i lt
        have yx := ltT_total ne (by simpa using lt)
        refine List.pairwise_cons.mpr ⟨fun z hz => ?_, insT_ord h2⟩
        rcases insT_mem.mp hz with rfl | hz
        · exact yx
        · exact h1 z hz
theorem sortT_ord : ∀ l : List Str, (sortT l).Pairwise (fun a b => ltT a b = true)
  | [] => .nil
  | x :: l => insT_ord (sortT_ord l)
theorem ord_uniq {xs ys : List Str} (hx : xs.Pairwise (fun a b => ltT a b = true)) (hy : ys.Pairwise (fun a b => ltT a b = true)) (h : ∀ k, k ∈ xs ↔ k ∈ ys) : xs = ys := by
  have irr : ∀ a, ltT a a = false := fun a => decide_eq_false (List.lt_irrefl _)
  have nd : ∀ {zs : List Str}, zs.Pairwise (fun a b => ltT a b = true) → zs.Nodup := fun hz => hz.imp fun {a b} q e => by subst e; rw [irr] at q; cases q
  refine List.Perm.eq_of_pairwise (le := fun a b => ltT a b = true) (fun a b _ _ q q' => ?_) hx hy ((List.perm_ext_iff_of_nodup (nd hx) (nd hy)).mpr h)
  have := ltT_trans q q'
  rw [irr] at this; cases this
/-- what the machine sorts, none twice -/
theorem sorted_is {ys l : List Str} (h1 : sortedS ys = true) (h2 : ys.Nodup) (h3 : ∀ k, k ∈ ys ↔ k ∈ l) : ys = sortT l := by
  refine ord_uniq ?_ (sortT_ord l) fun k => (h3 k).trans sortT_mem.symm
  have go : ∀ (r : List Str) (p : Str), risingS p r = true → (p :: r).Nodup → (p :: r).Pairwise (fun a b => ltT a b = true) := by
    intro r
    induction r with
    | nil => intro p _ _; simp
    | cons x r ih =>
      intro p hp nd
      obtain ⟨a1, a2⟩ := Bool.and_eq_true_iff.mp (show (!ltCps x.cps.toList p.cps.toList && risingS x r) = true from hp)
      obtain ⟨n1, n2⟩ := List.nodup_cons.mp nd
      have ih := ih x a2 n2
      have px : ltT p x = true := by
        rw [ltCps_eq] at a1
        have : ltT x p = false := by simpa [ltT] using a1
        exact ltT_total (fun e => n1 (e ▸ List.mem_cons_self ..)) this
      refine List.pairwise_cons.mpr ⟨fun z hz => ?_, ih⟩
      rcases List.mem_cons.mp hz with rfl | hz
      · exact px
      · exact ltT_trans px ((List.pairwise_cons.mp ih).1 z hz)
  cases ys with
  | nil => exact .nil
  | cons y ys => exact go ys y h1 h2
end L2.U
namespace L2.U
open PySem PySem.Spec PyProof.Rows He

/-- the texts of a list; the signs of a text -/
def txtsOf (S : Sto) : D → Option (List Str)
  | .str z => some (z.cps.toList.map fun c => ⟨#[c]⟩)
  | d => (lstOf S d).bind strsD
def eSortSet (fa : EF) : EF := fun r S => (fa r S).bind fun x r S => match txtsOf S x with
  | some l => if l.length < 4000 then .ok (.lst ((sortT l).map .str)) r S else .no
  | none => .no
/-- .. kept in the store -/
def eSortSetS (fa : EF) : EF := fun r S => (fa r S).bind fun x r S => match txtsOf S x with
  | some l => if l.length < 4000 then .ok (.ref S.length) r (S ++ [.lst ((sortT l).map .str)]) else .no
  | none => .no
section
variable {X : Cx} {W : WX} {pos p p2 p3 : Pos} {a : Expr} {fa : EF}
theorem sortSet_run (hm : X.mg "sorted" = none) (hm2 : X.mg "set" = none) (ha : SE X W a fa) (hc : X.calm = true) (hg : Gl X "sorted") (hg2 : Gl X "set") (na : starEach [a] X.env = (false, eval a X.env) :: starEach [] X.env)
    (nb : starEach [.Call (.Name "set" p2) [a] [] p3] X.env = (false, eval (.Call (.Name "set" p2) [a] [] p3) X.env) :: starEach [] X.env) {pins : List (Addr × Obj)} {s : Shared} {σ : St} {H : Hp} {Q : VK} (I : Inv X pins σ H s)
    (h : TD X.K W (RelD X.K) fa σ H fun v H1 => ∃ (g : Gh) (x : D) (S : Sto) (l : List Str), Rl X.K g S H1 ∧ RelD X.K g x v ∧ txtsOf S x = some l ∧ l.length < 4000 ∧ ∀ pp, H1 pp = none → Q (.ref pp) (upd H1 pp (.lst ((sortT l).map V.str)))) :
    wpAny (model X.prog X.w) X.A (eval (.Call (.Name "sorted" p) [.Call (.Name "set" p2) [a] [] p3] [] pos) X.env) (EP X pins σ Q) X.xe s := by
  refine Call_ (ld_blt I hg hm (by decide +kernel : bootBuiltins ("sorted" : Str) = some (.builtin "sorted")) ?_)
  refine callWith_builtin1 (args_cons ?_ nb) nb rfl
  refine Call_ (ld_blt I hg2 hm2 (by decide +kernel : bootBuiltins ("set" : Str) = some (.type "set")) ?_)
  refine callWith_type1 (args_cons (thn (ha.run pins s σ H _ I h) fun v s1 ⟨x, H1, I1, r1, q1⟩ => args_nil ?_) na) na rfl
  obtain ⟨g, d, S, l, lr, rd, ht, hl, q⟩ := q1
  have sb : scanBound = 4096 := rfl
  have fin : ∀ (h' : Heap) (tk : Nat) (es : Array (Int × Value)), Wk X.w h' s1.heap.objs.size es → TxE X.w es l → (∀ b o, s1.heap.get? b = some o → h'.get? b = some o) →
      wpAny (model X.prog X.w) X.A (spliced (backTo pos (starEach [] X.env))) (fun vs s₂ => wpAny (model X.prog X.w) X.A (call (.builtin "sorted") (Value.ref s1.heap.objs.size :: vs)) (EP X pins σ Q) X.xe s₂) X.xe { s1 with heap := h', toks := tk } := fun h' tk es Wa T kp => by
    refine args_nil ?_
    have I2 : Inv X pins σ H1 { s1 with heap := h', toks := tk } := I1.kept kp
    have sz := T.size_le
    refine sorted_wk (I.ok.hd hc) Wa T (by omega) (let ⟨o, _, _, ⟨e, x, _⟩, _⟩ := Wa; ⟨o, e, x.1⟩) fun s3 pp out c ys k gn os hp at_ ts so nd mem => ?_
    obtain rfl := sorted_is so nd mem
    have hn : H1 pp = none := I2.hok.fresh hp
    have hlen : ((sortT l).map V.str).length ≤ sizeLine := by
      have : (sortT l).length ≤ l.length := List.Nodup.length_le_of_subset nd fun x hx => (mem x).mp hx
      rw [List.length_map, sizeLine_eq]; omega
    have J : Inv X pins σ (upd H1 pp (.lst ((sortT l).map V.str))) { ({ s1 with heap := h', toks := tk } : Shared) with heap := s3.heap, gens := s3.gens, drawn := s3.drawn, toks := s3.toks } :=
      I2.call (ch := []) (Un.laid k hp hn) (I2.hok.laid k hp ⟨hlen, out.toList, c, vals_of_strs ts, at_⟩) (by rw [gn]; exact I2.bare) (fun _ z => nomatch z)
    have e : s3 = { s1 with heap := s3.heap, gens := s3.gens, drawn := s3.drawn, toks := s3.toks } := by
      cases s3
      cases s1
      cases os
      rfl
    rw [e]
    exact ⟨.ref pp, _, J, rfl, q pp hn⟩
  have lists : (lstOf S d).bind strsD = some l → wpAny (model X.prog X.w) X.A (call (.type "set") [v]) (fun u s₁ => wpAny (model X.prog X.w) X.A (spliced (backTo pos (starEach [] X.env))) (fun vs s₂ => wpAny (model X.prog X.w) X.A (call (.builtin "sorted") (u :: vs)) (EP X pins σ Q) X.xe s₂) X.xe s₁) X.xe s1 := fun ht => by
    obtain ⟨xs, e1, e2⟩ := Option.bind_eq_some_iff.mp ht
    obtain ⟨b, vs, rfl, hs, rs⟩ := lst_view lr rd e1
    obtain rfl := strsD_ok rs e2
    cases r1
    obtain ⟨its, rv, pl, hz⟩ := I1.list hs
    exact set_list (I.ok.hd hc) pl.isList (by simpa using strsAre_of rv) (by omega) fin
  cases d with
  | str z =>
    cases rd
    obtain ⟨t, rfl⟩ := r1
    have ht : some (z.cps.toList.map fun c => (⟨#[c]⟩ : Str)) = some l := ht
    obtain rfl := Option.some.inj ht
    exact set_str (I.ok.hd hc) (by simp at hl; omega) fin
  | _ => exact lists ht
theorem se_sortSet (hm : X.mg "sorted" = none) (hm2 : X.mg "set" = none) (ha : SE X W a fa) (hc : X.calm = true := by rfl) (hg : Gl X "sorted" := by rfl) (hg2 : Gl X "set" := by rfl) (na : starEach [a] X.env = (false, eval a X.env) :: starEach [] X.env := by rfl)
    (nb : starEach [.Call (.Name "set" p2) [a] [] p3] X.env = (false, eval (.Call (.Name "set" p2) [a] [] p3) X.env) :: starEach [] X.env := by rfl) : SE X W (.Call (.Name "sorted" p) [.Call (.Name "set" p2) [a] [] p3] [] pos) (eSortSet fa) := by
  refine ⟨fun pins s σ H Q I h => sortSet_run hm hm2 ha hc hg hg2 na nb I (td_seq (TD.split (rel := RelD X.K) h) fun v H1 ⟨g, x, r, S, l, e, rx, pp⟩ => ?_)⟩
  split at pp
  · rename_i t ht
    split at pp
    · rename_i hl
      refine ⟨g, x, S, t, l, rx, ht, hl, fun b hb => ?_⟩
      obtain ⟨g', e1, l1, r1⟩ := l.newLst hb (rel_strs (sortT t))
      exact pp g' _ _ e1 l1 (e.mono e1) r1
    · exact pp.elim
  · exact pp.elim
theorem se_sortSetS (hm : X.mg "sorted" = none) (hm2 : X.mg "set" = none) (ha : SE X W a fa) (hc : X.calm = true := by rfl) (hg : Gl X "sorted" := by rfl) (hg2 : Gl X "set" := by rfl) (na : starEach [a] X.env = (false, eval a X.env) :: starEach [] X.env := by rfl)
    (nb : starEach [.Call (.Name "set" p2) [a] [] p3] X.env = (false, eval (.Call (.Name "set" p2) [a] [] p3) X.env) :: starEach [] X.env := by rfl) : SE X W (.Call (.Name "sorted" p) [.Call (.Name "set" p2) [a] [] p3] [] pos) (eSortSetS fa) := by
  refine ⟨fun pins s σ H Q I h => sortSet_run hm hm2 ha hc hg hg2 na nb I (td_seq (TD.split (rel := RelD X.K) h) fun v H1 ⟨g, x, r, S, l, e, rx, pp⟩ => ?_)⟩
  split at pp
  · rename_i t ht
    split at pp
    · rename_i hl
      refine ⟨g, x, S, t, l, rx, ht, hl, fun b hb => ?_⟩
      obtain ⟨g', e1, l1, r1⟩ := l.newSto hb (rel_strs (sortT t))
      exact pp g' _ _ e1 l1 (e.mono e1) r1
    · exact pp.elim
  · exact pp.elim
/-! ### sorted of a list in which none stands twice -/
def oSorted : Sto → List D → Option D := fun S ds => match ds with
  | [d] => ((lstOf S d).bind strsD).bind fun l => if l.Nodup ∧ l.length < 64 then some (.lst ((sortT l).map .str)) else none
  | _ => none
theorem cu_sorted : CallU X (.builtin "sorted") oSorted := ⟨_, cr_sortedS, fun g S H ds d vs Q l rd e k => by
  match ds, e with
  | [x], e =>
    obtain ⟨t, ht, e⟩ := Option.bind_eq_some_iff.mp e
    obtain ⟨xs, e1, e2⟩ := Option.bind_eq_some_iff.mp ht
    split at e
    · rename_i hn
      cases e
      obtain ⟨v, rfl, rx⟩ := rel1 rd
      obtain ⟨b, us, rfl, hs, rs⟩ := lst_view l rx e1
      obtain rfl := strsD_ok rs e2
      refine ⟨b, t, rfl, hs, hn.2, fun ys p py so hp => ?_⟩
      obtain rfl := sorted_is (l := t) so (py.nodup_iff.mpr hn.1) fun k => py.mem_iff
      obtain ⟨g', e1, l1, r1⟩ := l.newLst hp (rel_strs (sortT t))
      exact k g' _ _ e1 l1 r1
    · cases e⟩
variable {Z : D → Env → Sto → Prop} {r : Env} {S : Sto} {Q : D → Env → Sto → Prop}
@[simp] theorem wp_SortSet : wp (eSortSet fa r S) Q Z = wp (fa r S) (fun x r S => got (txtsOf S x) fun l => l.length < 4000 ∧ Q (.lst ((sortT l).map .str)) r S) Z := by
  unfold eSortSet
  simp only [wp_bind]
  congr; funext x r S
  cases txtsOf S x with
  | none => rfl
  | some l =>
    by_cases h : l.length < 4000
    · simp only [got_some, if_pos h, h, true_and]; rfl
    · simp only [got_some, if_neg h, h, false_and]; rfl
@[simp] theorem wp_SortSetS : wp (eSortSetS fa r S) Q Z = wp (fa r S) (fun x r S => got (txtsOf S x) fun l => l.length < 4000 ∧ Q (.ref S.length) r (S ++ [.lst ((sortT l).map .str)])) Z := by
  unfold eSortSetS
  simp only [wp_bind]
  congr; funext x r S
  cases txtsOf S x with
  | none => rfl
  | some l =>
    by_cases h : l.length < 4000
    · simp only [got_some, if_pos h, h, true_and]; rfl
    · simp only [got_some, if_neg h, h, false_and]; rfl
end
end L2.U
namespace L2.U.K12
open PySem PySem.Spec PyProof.Rows He
/-! ### the text (printed by gen2.py) -/
def top (i : Nat) : Stmt := PySem.Challenge.pw_untilnone_k12_whole_chains_of_rules.main.body.getD i (.Pass ⟨0, 0, 0, 0⟩)
abbrev s_wall : Stmt := (top 0)
abbrev N_wall : List Str := ["k"]
abbrev ps_wall : List Str := ["k"]
abbrev s_is_state : Stmt := (top 6)
abbrev N_is_state : List Str := ["value"]
abbrev ps_is_state : List Str := ["value"]
abbrev s_is_rule : Stmt := (top 9)
abbrev N_is_rule : List Str := ["value"]
abbrev ps_is_rule : List Str := ["value"]
abbrev s_rules_init : Stmt := (inClass (top 10) 0)
abbrev N_rules_init : List Str := ["self", "rules", "words", "at", "rule", "start", "target", "moves"]
abbrev ps_rules_init : List Str := ["self", "rules"]
abbrev s_rules_triples : Stmt := (inClass (top 10) 1)
abbrev N_rules_triples : List Str := ["self"]
abbrev ps_rules_triples : List Str := ["self"]
abbrev s_rules_told : Stmt := (inClass (top 10) 2)
abbrev N_rules_told : List Str := ["self"]
abbrev ps_rules_told : List Str := ["self"]
abbrev s_rules_led : Stmt := (inClass (top 10) 3)
abbrev N_rules_led : List Str := ["self", "states", "found", "waiting", "here", "start", "target", "moves"]
abbrev ps_rules_led : List Str := ["self", "states"]
abbrev s_rules_chain : Stmt := (inClass (top 10) 4)
abbrev N_rules_chain : List Str := ["self", "starts", "goals", "ways", "waiting", "at", "here", "letter", "index", "start", "target", "moves"]
abbrev ps_rules_chain : List Str := ["self", "starts", "goals"]
abbrev s_rules_len : Stmt := (inClass (top 10) 5)
abbrev N_rules_len : List Str := ["self"]
abbrev ps_rules_len : List Str := ["self"]
abbrev s_rules_eq : Stmt := (inClass (top 10) 6)
abbrev N_rules_eq : List Str := ["self", "other"]
abbrev ps_rules_eq : List Str := ["self", "other"]
abbrev s_rules_repr : Stmt := (inClass (top 10) 7)
abbrev N_rules_repr : List Str := ["self"]
abbrev ps_rules_repr : List Str := ["self"]
abbrev s_law_bag : Stmt := (top 12)
abbrev N_law_bag : List Str := ["_law_script", "_law_cells"]
abbrev ps_law_bag : List Str := ["_law_script"]
abbrev s_law_draw : Stmt := (top 13)
abbrev N_law_draw : List Str := ["_law_bag_here", "_law_many", "_law_cell", "_law_got"]
abbrev ps_law_draw : List Str := ["_law_bag_here", "_law_many"]
abbrev s_law_alphabet : Stmt := (top 14)
abbrev N_law_alphabet : List Str := []
abbrev ps_law_alphabet : List Str := []
abbrev s_law_states : Stmt := (top 15)
abbrev N_law_states : List Str := ["_law_bag_here", "_law_most", "_law_k", "_law_found", "_law_at"]
abbrev ps_law_states : List Str := ["_law_bag_here", "_law_most"]
abbrev s_law_pick : Stmt := (top 16)
abbrev N_law_pick : List Str := ["_law_bag_here", "_law_some_here"]
abbrev ps_law_pick : List Str := ["_law_bag_here", "_law_some_here"]
abbrev s_law_rules : Stmt := (top 17)
abbrev N_law_rules : List Str := ["_law_some_here"]
abbrev ps_law_rules : List Str := ["_law_some_here"]
abbrev s_law_some : Stmt := (top 18)
abbrev N_law_some : List Str := ["_law_bag_here", "_law_my_states", "_law_found", "_law_letter"]
abbrev ps_law_some : List Str := ["_law_bag_here", "_law_my_states"]
abbrev s_law_same : Stmt := (top 19)
abbrev N_law_same : List Str := ["_law_found", "_law_due", "_law_good", "_law_at"]
abbrev ps_law_same : List Str := ["_law_found", "_law_due"]
abbrev s_law_number : Stmt := (top 20)
abbrev N_law_number : List Str := ["_law_value", "_law_low", "_law_high"]
abbrev ps_law_number : List Str := ["_law_value", "_law_low", "_law_high"]
abbrev s_law_around : Stmt := (top 21)
abbrev N_law_around : List Str := ["_law_some_here", "_law_my_starts", "_law_count", "_law_found", "_law_k", "_law_change"]
abbrev ps_law_around : List Str := ["_law_some_here", "_law_my_starts", "_law_count"]
abbrev s_law : Stmt := (top 22)
abbrev N_law : List Str := ["_law_script", "_law_bag_here", "_law_turn", "_law_letters", "_law_some_here", "_law_every", "_law_found", "_law_least", "_law_made", "_law_my_starts", "_law_my_goals", "_law_here", "_law_at", "_law_k", "_law_count", "_law_letter"]
abbrev ps_law : List Str := ["_law_script"]
abbrev fc_kept_rules : List Str := ["Rules"]
abbrev fc_own_text : List Str := ["Rules"]
abbrev isiL : List Str := ["Rules"]
structure Tp (K : PySem.W.Frag) (mg : Str → Option Value) : Prop where
  zz : True
  f_abs : mg "abs" = none
  f_all : mg "all" = none
  f_bool : mg "bool" = none
  f_enumerate : mg "enumerate" = none
  f_int : mg "int" = none
  f_isinstance : mg "isinstance" = none
  f_len : mg "len" = none
  f_list : mg "list" = none
  f_range : mg "range" = none
  f_set : mg "set" = none
  f_sorted : mg "sorted" = none
  f_str : mg "str" = none
  f_tuple : mg "tuple" = none
  c_LETTERS : KCon K mg "LETTERS" (.str "abcdefghijklmnopqrstuvwxyz")
  c_MOST_RULES : KCon K mg "MOST_RULES" (.int 8)
  c_Rules : KCon K mg "Rules" (.con "Rules")
  fo_kept_rules : FldOk K fc_kept_rules "kept_rules"
  fo_own_text : FldOk K fc_own_text "own_text"
  isi : isiB K isiL = true
def freeL : List Str := ["abs", "all", "bool", "enumerate", "int", "isinstance", "len", "list", "range", "set", "sorted", "str", "tuple"]
def conL : List (Str × D) := ([("LETTERS", (.str "abcdefghijklmnopqrstuvwxyz")), ("MOST_RULES", (.int 8)), ("Rules", (.con "Rules"))] : List (Str × D))
def gloL : List Str := (["_wall", "is_state", "is_rule", "_law_bag", "_law_draw", "_law_alphabet", "_law_states", "_law_pick", "_law_rules", "_law_some", "_law_same", "_law_number", "_law_around", "law", "Rules"] : List Str)
def faL : List Fa := ([.cls "Rules", .noat "Rules" "kept_rules", .noat "Rules" "own_text", .mkr "Rules", .meth "Rules" "led", .meth "Rules" "chain"] : List Fa)
def nbB (K : PySem.W.Frag) : Bool := true
def d_wall : DefD := ⟨("_wall", none), "_wall", "_wall", defArgs s_wall, defBody s_wall, defScope s_wall, [], []⟩
def d_is_state : DefD := ⟨("is_state", none), "is_state", "is_state", defArgs s_is_state, defBody s_is_state, defScope s_is_state, [], []⟩
def d_is_rule : DefD := ⟨("is_rule", none), "is_rule", "is_rule", defArgs s_is_rule, defBody s_is_rule, defScope s_is_rule, [], []⟩
def d_rules_init : DefD := ⟨("Rules", some "__init__"), "__init__", "Rules.__init__", defArgs s_rules_init, defBody s_rules_init, defScope s_rules_init, [], []⟩
def d_rules_triples : DefD := ⟨("Rules", some "triples"), "triples", "Rules.triples", defArgs s_rules_triples, defBody s_rules_triples, defScope s_rules_triples, [], []⟩
def d_rules_told : DefD := ⟨("Rules", some "told"), "told", "Rules.told", defArgs s_rules_told, defBody s_rules_told, defScope s_rules_told, [], []⟩
def d_rules_led : DefD := ⟨("Rules", some "led"), "led", "Rules.led", defArgs s_rules_led, defBody s_rules_led, defScope s_rules_led, [], []⟩
def d_rules_chain : DefD := ⟨("Rules", some "chain"), "chain", "Rules.chain", defArgs s_rules_chain, defBody s_rules_chain, defScope s_rules_chain, [], []⟩
def d_rules_len : DefD := ⟨("Rules", some "__len__"), "__len__", "Rules.__len__", defArgs s_rules_len, defBody s_rules_len, defScope s_rules_len, [], []⟩
def d_rules_eq : DefD := ⟨("Rules", some "__eq__"), "__eq__", "Rules.__eq__", defArgs s_rules_eq, defBody s_rules_eq, defScope s_rules_eq, [], []⟩
def d_rules_repr : DefD := ⟨("Rules", some "__repr__"), "__repr__", "Rules.__repr__", defArgs s_rules_repr, defBody s_rules_repr, defScope s_rules_repr, [], []⟩
def d_law_bag : DefD := ⟨("_law_bag", none), "_law_bag", "_law_bag", defArgs s_law_bag, defBody s_law_bag, defScope s_law_bag, [], []⟩
def d_law_draw : DefD := ⟨("_law_draw", none), "_law_draw", "_law_draw", defArgs s_law_draw, defBody s_law_draw, defScope s_law_draw, [], []⟩
def d_law_alphabet : DefD := ⟨("_law_alphabet", none), "_law_alphabet", "_law_alphabet", defArgs s_law_alphabet, defBody s_law_alphabet, defScope s_law_alphabet, [], []⟩
def d_law_states : DefD := ⟨("_law_states", none), "_law_states", "_law_states", defArgs s_law_states, defBody s_law_states, defScope s_law_states, [], []⟩
def d_law_pick : DefD := ⟨("_law_pick", none), "_law_pick", "_law_pick", defArgs s_law_pick, defBody s_law_pick, defScope s_law_pick, [], []⟩
def d_law_rules : DefD := ⟨("_law_rules", none), "_law_rules", "_law_rules", defArgs s_law_rules, defBody s_law_rules, defScope s_law_rules, [], []⟩
def d_law_some : DefD := ⟨("_law_some", none), "_law_some", "_law_some", defArgs s_law_some, defBody s_law_some, defScope s_law_some, [], []⟩
def d_law_same : DefD := ⟨("_law_same", none), "_law_same", "_law_same", defArgs s_law_same, defBody s_law_same, defScope s_law_same, [], []⟩
def d_law_number : DefD := ⟨("_law_number", none), "_law_number", "_law_number", defArgs s_law_number, defBody s_law_number, defScope s_law_number, [], []⟩
def d_law_around : DefD := ⟨("_law_around", none), "_law_around", "_law_around", defArgs s_law_around, defBody s_law_around, defScope s_law_around, [], []⟩
def d_law : DefD := ⟨("law", none), "law", "law", defArgs s_law, defBody s_law, defScope s_law, [], []⟩
def fnL : List DefD := ([d_wall, d_is_state, d_is_rule, d_rules_init, d_rules_triples, d_rules_told, d_rules_led, d_rules_chain, d_rules_len, d_rules_eq, d_rules_repr, d_law_bag, d_law_draw, d_law_alphabet, d_law_states, d_law_pick, d_law_rules, d_law_some, d_law_same, d_law_number, d_law_around, d_law] : List DefD)
def pnL : List DefD := []
def chk (K : PySem.W.Frag) : Bool := freeB K freeL && (conB K conL && (gloB K gloL && (faB K faL && (isiB K isiL && nbB K))))
theorem gl_of {K : PySem.W.Frag} (c : chk K = true) : gloB K gloL = true := (ba (ba (ba c).2).2).1
theorem fa_of {K : PySem.W.Frag} (c : chk K = true) : faB K faL = true := (ba (ba (ba (ba c).2).2).2).1
theorem tp_of {K : PySem.W.Frag} {mg : Str → Option Value} (N : Nm K mg) (c : chk K = true) : Tp K mg := by
  have cf := fa_of c
  obtain ⟨c1, c2⟩ := ba c
  obtain ⟨c2, c3⟩ := ba c2
  obtain ⟨c3, c4⟩ := ba c3
  obtain ⟨c4, c5⟩ := ba c4
  obtain ⟨c5, c6⟩ := ba c5
  exact ⟨trivial, free_at N c1 0, free_at N c1 1, free_at N c1 2, free_at N c1 3, free_at N c1 4, free_at N c1 5, free_at N c1 6, free_at N c1 7, free_at N c1 8, free_at N c1 9, free_at N c1 10, free_at N c1 11, free_at N c1 12, con_at N c2 0, con_at N c2 1, con_at N c2 2, fldOk_cons (fa_at cf 0) (fa_at cf 1) (fldOk_nil), fldOk_cons (fa_at cf 0) (fa_at cf 2) (fldOk_nil), c5⟩
theorem sc_wall : FnScope N_wall ps_wall (defScope s_wall) := ⟨rfl, rfl, rfl, by decide +kernel, rfl, by decide +kernel, by decide +kernel⟩
theorem sc_is_state : FnScope N_is_state ps_is_state (defScope s_is_state) := ⟨rfl, rfl, rfl, by decide +kernel, rfl, by decide +kernel, by decide +kernel⟩
theorem sc_is_rule : FnScope N_is_rule ps_is_rule (defScope s_is_rule) := ⟨rfl, rfl, rfl, by decide +kernel, rfl, by decide +kernel, by decide +kernel⟩
theorem sc_rules_init : FnScope N_rules_init ps_rules_init (defScope s_rules_init) := ⟨rfl, rfl, rfl, by decide +kernel, rfl, by decide +kernel, by decide +kernel⟩
theorem sc_rules_triples : FnScope N_rules_triples ps_rules_triples (defScope s_rules_triples) := ⟨rfl, rfl, rfl, by decide +kernel, rfl, by decide +kernel, by decide +kernel⟩
theorem sc_rules_told : FnScope N_rules_told ps_rules_told (defScope s_rules_told) := ⟨rfl, rfl, rfl, by decide +kernel, rfl, by decide +kernel, by decide +kernel⟩
theorem sc_rules_led : FnScope N_rules_led ps_rules_led (defScope s_rules_led) := ⟨rfl, rfl, rfl, by decide +kernel, rfl, by decide +kernel, by decide +kernel⟩
theorem sc_rules_chain : FnScope N_rules_chain ps_rules_chain (defScope s_rules_chain) := ⟨rfl, rfl, rfl, by decide +kernel, rfl, by decide +kernel, by decide +kernel⟩
theorem sc_rules_len : FnScope N_rules_len ps_rules_len (defScope s_rules_len) := ⟨rfl, rfl, rfl, by decide +kernel, rfl, by decide +kernel, by decide +kernel⟩
theorem sc_rules_eq : FnScope N_rules_eq ps_rules_eq (defScope s_rules_eq) := ⟨rfl, rfl, rfl, by decide +kernel, rfl, by decide +kernel, by decide +kernel⟩
theorem sc_rules_repr : FnScope N_rules_repr ps_rules_repr (defScope s_rules_repr) := ⟨rfl, rfl, rfl, by decide +kernel, rfl, by decide +kernel, by decide +kernel⟩
theorem sc_law_bag : FnScope N_law_bag ps_law_bag (defScope s_law_bag) := ⟨rfl, rfl, rfl, by decide +kernel, rfl, by decide +kernel, by decide +kernel⟩
theorem sc_law_draw : FnScope N_law_draw ps_law_draw (defScope s_law_draw) := ⟨rfl, rfl, rfl, by decide +kernel, rfl, by decide +kernel, by decide +kernel⟩
theorem sc_law_alphabet : FnScope N_law_alphabet ps_law_alphabet (defScope s_law_alphabet) := ⟨rfl, rfl, rfl, by decide +kernel, rfl, by decide +kernel, by decide +kernel⟩
theorem sc_law_states : FnScope N_law_states ps_law_states (defScope s_law_states) := ⟨rfl, rfl, rfl, by decide +kernel, rfl, by decide +kernel, by decide +kernel⟩
theorem sc_law_pick : FnScope N_law_pick ps_law_pick (defScope s_law_pick) := ⟨rfl, rfl, rfl, by decide +kernel, rfl, by decide +kernel, by decide +kernel⟩
theorem sc_law_rules : FnScope N_law_rules ps_law_rules (defScope s_law_rules) := ⟨rfl, rfl, rfl, by decide +kernel, rfl, by decide +kernel, by decide +kernel⟩
theorem sc_law_some : FnScope N_law_some ps_law_some (defScope s_law_some) := ⟨rfl, rfl, rfl, by decide +kernel, rfl, by decide +kernel, by decide +kernel⟩
theorem sc_law_same : FnScope N_law_same ps_law_same (defScope s_law_same) := ⟨rfl, rfl, rfl, by decide +kernel, rfl, by decide +kernel, by decide +kernel⟩
theorem sc_law_number : FnScope N_law_number ps_law_number (defScope s_law_number) := ⟨rfl, rfl, rfl, by decide +kernel, rfl, by decide +kernel, by decide +kernel⟩
theorem sc_law_around : FnScope N_law_around ps_law_around (defScope s_law_around) := ⟨rfl, rfl, rfl, by decide +kernel, rfl, by decide +kernel, by decide +kernel⟩
theorem sc_law : FnScope N_law ps_law (defScope s_law) := ⟨rfl, rfl, rfl, by decide +kernel, rfl, by decide +kernel, by decide +kernel⟩
abbrev Rw : PySem.W.OpenRow := PySem.W.OpenLaw.row PySem.Challenge.rw_untilnone_k12_whole_chains_of_rules
abbrev hk : PySem.W.Hook := hookU 4 chk fnL pnL
def ob (s : PySem.W.SharedT) : AlD := obsUG 4 chk fnL pnL (HandSHeadRun.getT s)
theorem ob_eq (s : PySem.W.SharedT) : ob s = hk.obs s.abs := obsUG_eq (HandSHeadRun.getT_eq s)
abbrev loose : List Str := (["_wall", "RunError", "InvalidRules", "LETTERS", "is_state", "MOST_RULES", "is_rule", "Rules", "_law_bag", "_law_draw", "_law_alphabet", "_law_states", "_law_pick", "_law_rules", "_law_some", "_law_same", "_law_number", "_law_around"] : List Str)
theorem run (w : World) : HandSHeadRun.RunEq Rw (PySem.W.view Rw.prog [22]) hk ob 12000 loose w := by
  intro os
  kernel_rfl
abbrev kc_rules_led_0_states : List D → List D → List D := fun ds zs => permL [0, 1] (ds ++ zs)
abbrev kc_rules_chain_0_goals_starts : List D → List D → List D := fun ds zs => permL [0, 2, 1] (ds ++ zs)

def fb_wall : SF := (whileF (tVal (eC (.bl true))) (sNext) 1000000)
theorem okb_wall {P : Program} {w : World} {K : PySem.W.Frag} {mg : Str → Option Value} {base : Heap} {f : Addr} {cdv : Value} {A : Around} {outer : List PySem.Env} {s : Shared} {H : Hp} {E : XK} (T : Tp K mg)
    (hr : Room 0 (A.deeper (envOfC "_wall" (defScope s_wall) s.heap.objs.size f cdv))) (tk : Takes (bodyCx P w K mg base N_wall "_wall" (defScope s_wall) f cdv A outer s H E) (wOf E)) (hp : PassesOwn (model P w) (A.deeper (envOfC "_wall" (defScope s_wall) s.heap.objs.size f cdv)) (envOfC "_wall" (defScope s_wall) s.heap.objs.size f cdv) (bodyCx P w K mg base N_wall "_wall" (defScope s_wall) f cdv A outer s H E).xe) :
    SSs (bodyCx P w K mg base N_wall "_wall" (defScope s_wall) f cdv A outer s H E) (wOf E) (defBody s_wall) (fb_wall) :=
  (sss_one (ss_while 1000000 hp (st_val (se_bl)) (sss_one (ss_pass))))
def m_wall : MF := purM 1 fb_wall
theorem fn_wall {P : Program} {w : World} {K : PySem.W.Frag} {mg : Str → Option Value} {base : Heap} (C : SaysU chk fnL pnL K) (N : Nm K mg) {fd : FuncData} (F : FunD K "_wall" "_wall" (defArgs s_wall) (defBody s_wall) (defScope s_wall) [] [] (fAd K (d_wall).at_) fd) : FnU P w K mg base 1 (fAd K (d_wall).at_) fd ps_wall m_wall :=
  fn_pur F sc_wall fb_wall fun cdv A outer s H E hr tk hp => okb_wall (tp_of N C.chk)  hr tk hp
theorem def_wall {P : Program} {w : World} {K : PySem.W.Frag} {mg : Str → Option Value} {base : Heap} (C : SaysU chk fnL pnL K) (N : Nm K mg) : Def1 P w K mg base "_wall" 1 ps_wall m_wall [] := by
  obtain ⟨fd, F⟩ := C.def_ 0
  exact def1_of (fn_wall C N F) F (glo_at N (gl_of C.chk) 0) (fun _ _ _ _ _ _ us h => by match us, h with | [_], _ => rfl)

def fb_is_state : SF := (sRet (eAnd (eCallB oIsi0 (aCons (eVar 0) (aCons (eC (.ty "str")) aNil))) (eAnd (eCmp eqB (eCallB oLen (aCons (eVar 0) aNil)) (eC (.int 1))) (eCmp inB (eVar 0) (eC (.str "abcdefghijklmnopqrstuvwxyz"))))))
theorem okb_is_state {P : Program} {w : World} {K : PySem.W.Frag} {mg : Str → Option Value} {base : Heap} {f : Addr} {cdv : Value} {A : Around} {outer : List PySem.Env} {s : Shared} {H : Hp} {E : XK} (T : Tp K mg)
    (hr : Room 0 (A.deeper (envOfC "is_state" (defScope s_is_state) s.heap.objs.size f cdv))) (tk : Takes (bodyCx P w K mg base N_is_state "is_state" (defScope s_is_state) f cdv A outer s H E) (wOf E)) (hp : PassesOwn (model P w) (A.deeper (envOfC "is_state" (defScope s_is_state) s.heap.objs.size f cdv)) (envOfC "is_state" (defScope s_is_state) s.heap.objs.size f cdv) (bodyCx P w K mg base N_is_state "is_state" (defScope s_is_state) f cdv A outer s H E).xe) :
    SSs (bodyCx P w K mg base N_is_state "is_state" (defScope s_is_state) f cdv A outer s H E) (wOf E) (defBody s_is_state) (fb_is_state) :=
  (sss_one (ss_ret (se_and (se_callB cu_isi0 T.f_isinstance (sa_cons (se_var 0) (sa_cons (se_ty T.f_str) sa_nil))) (se_and (se_cmp (c_eq hr.units) (se_callB cu_len T.f_len (sa_cons (se_var 0) sa_nil)) (se_int)) (se_one (se_cmp c_in (se_var 0) (se_gc T.c_LETTERS)))))))
def m_is_state : MF := purM 1 fb_is_state
theorem fn_is_state {P : Program} {w : World} {K : PySem.W.Frag} {mg : Str → Option Value} {base : Heap} (C : SaysU chk fnL pnL K) (N : Nm K mg) {fd : FuncData} (F : FunD K "is_state" "is_state" (defArgs s_is_state) (defBody s_is_state) (defScope s_is_state) [] [] (fAd K (d_is_state).at_) fd) : FnU P w K mg base 1 (fAd K (d_is_state).at_) fd ps_is_state m_is_state :=
  fn_pur F sc_is_state fb_is_state fun cdv A outer s H E hr tk hp => okb_is_state (tp_of N C.chk)  hr tk hp
theorem def_is_state {P : Program} {w : World} {K : PySem.W.Frag} {mg : Str → Option Value} {base : Heap} (C : SaysU chk fnL pnL K) (N : Nm K mg) : Def1 P w K mg base "is_state" 1 ps_is_state m_is_state [] := by
  obtain ⟨fd, F⟩ := C.def_ 1
  exact def1_of (fn_is_state C N F) F (glo_at N (gl_of C.chk) 1) (fun _ _ _ _ _ _ us h => by match us, h with | [_], _ => rfl)

def fb_is_rule : SF := (sSeq (sIf (tOrB (tNotB (tVal (eCallB oIsi0 (aCons (eVar 0) (aCons (eC (.ty "tuple")) aNil))))) (tCmp (notB eqB) (eCallB oLen (aCons (eVar 0) aNil)) (eC (.int 3)))) (sRet (eC (.bl false))) sNext)
    (sRet (eAnd (eCallF 1 m_is_state [] (aCons (eIx (eVar 0) (eC (.int 0))) aNil)) (eAnd (eCallF 1 m_is_state [] (aCons (eIx (eVar 0) (eC (.int 1))) aNil)) (eCallB oIsi0 (aCons (eIx (eVar 0) (eC (.int 2))) (aCons (eC (.ty "bool")) aNil)))))))
theorem okb_is_rule {P : Program} {w : World} {K : PySem.W.Frag} {mg : Str → Option Value} {base : Heap} {f : Addr} {cdv : Value} {A : Around} {outer : List PySem.Env} {s : Shared} {H : Hp} {E : XK} (T : Tp K mg) (h_is_state : Def1 P w K mg base "is_state" 1 ps_is_state m_is_state [])
    (hr : Room 1 (A.deeper (envOfC "is_rule" (defScope s_is_rule) s.heap.objs.size f cdv))) (tk : Takes (bodyCx P w K mg base N_is_rule "is_rule" (defScope s_is_rule) f cdv A outer s H E) (wOf E)) (hp : PassesOwn (model P w) (A.deeper (envOfC "is_rule" (defScope s_is_rule) s.heap.objs.size f cdv)) (envOfC "is_rule" (defScope s_is_rule) s.heap.objs.size f cdv) (bodyCx P w K mg base N_is_rule "is_rule" (defScope s_is_rule) f cdv A outer s H E).xe) :
    SSs (bodyCx P w K mg base N_is_rule "is_rule" (defScope s_is_rule) f cdv A outer s H E) (wOf E) (defBody s_is_rule) (fb_is_rule) :=
  (sss_cons (ss_if (st_w (st_or (st_not (st_val (se_callB cu_isi0 T.f_isinstance (sa_cons (se_var 0) (sa_cons (se_ty T.f_tuple) sa_nil))))) (st_or1 (st_cmp (c_ne hr.units) (se_callB cu_len T.f_len (sa_cons (se_var 0) sa_nil)) (se_int))))) (sss_one (ss_ret (se_bl))) sss_nil)
    (sss_one (ss_ret (se_and (sf_fn h_is_state (hr.mono (by decide)) tk (sa_cons (se_ix (se_var 0) (se_int)) sa_nil)) (se_and (sf_fn h_is_state (hr.mono (by decide)) tk (sa_cons (se_ix (se_var 0) (se_int)) sa_nil)) (se_one (se_callB cu_isi0 T.f_isinstance (sa_cons (se_ix (se_var 0) (se_int)) (sa_cons (se_ty T.f_bool) sa_nil)))))))))
def m_is_rule : MF := purM 1 fb_is_rule
theorem fn_is_rule {P : Program} {w : World} {K : PySem.W.Frag} {mg : Str → Option Value} {base : Heap} (C : SaysU chk fnL pnL K) (N : Nm K mg) {fd : FuncData} (F : FunD K "is_rule" "is_rule" (defArgs s_is_rule) (defBody s_is_rule) (defScope s_is_rule) [] [] (fAd K (d_is_rule).at_) fd) : FnU P w K mg base 2 (fAd K (d_is_rule).at_) fd ps_is_rule m_is_rule :=
  fn_pur F sc_is_rule fb_is_rule fun cdv A outer s H E hr tk hp => okb_is_rule (tp_of N C.chk) (def_is_state C N) hr tk hp
theorem def_is_rule {P : Program} {w : World} {K : PySem.W.Frag} {mg : Str → Option Value} {base : Heap} (C : SaysU chk fnL pnL K) (N : Nm K mg) : Def1 P w K mg base "is_rule" 2 ps_is_rule m_is_rule [] := by
  obtain ⟨fd, F⟩ := C.def_ 2
  exact def1_of (fn_is_rule C N F) F (glo_at N (gl_of C.chk) 2) (fun _ _ _ _ _ _ us h => by match us, h with | [_], _ => rfl)

def fb_rules_init : SF := (sSeq (sFor (iEnumU (aCons (eVar 1) aNil)) (bTup 2 (bCons (bName 3) (bCons (bName 4) bNil))) (sIf (tNotB (tVal (eCallF 1 m_is_rule [] (aCons (eVar 4) aNil)))) (sNo) sNext))
    (sSeq (sIf (tCmp (swapB ltB) (eCallB oLen (aCons (eVar 1) aNil)) (eC (.int 8))) (sNo) sNext)
    (sSeq (sFldS fc_kept_rules "kept_rules" (eCallB (orL oListOf oListOfT) (aCons (eVar 1) aNil)) (eVar 0))
    (sSeq (sAsg (eComp (iSeq (eVar 1)) (bTup 3 (bCons (bName 5) (bCons (bName 6) (bCons (bName 7) bNil)))) [5, 6, 7] tYesB (eBin oAdd (eJoined (jCons (eFmt (eVar 5)) (jCons (eC (.str ">")) (jCons (eFmt (eVar 6)) jNil)))) (eIf (tVal (eVar 7)) (eC (.str "!")) (eC (.str ""))))) (bName 2))
    (sFldS fc_own_text "own_text" (eMeth isStr mJoin (eC (.str " ")) (aCons (eBin oAdd (eLst (aCons (eC (.str "others")) aNil)) (eVar 2)) aNil)) (eVar 0))))))
theorem okb_rules_init {P : Program} {w : World} {K : PySem.W.Frag} {mg : Str → Option Value} {base : Heap} {f : Addr} {cdv : Value} {A : Around} {outer : List PySem.Env} {s : Shared} {H : Hp} {E : XK} (T : Tp K mg) (h_is_rule : Def1 P w K mg base "is_rule" 2 ps_is_rule m_is_rule [])
    (hr : Room 2 (A.deeper (envOfC "Rules.__init__" (defScope s_rules_init) s.heap.objs.size f cdv))) (tk : Takes (bodyCx P w K mg base N_rules_init "Rules.__init__" (defScope s_rules_init) f cdv A outer s H E) (wOf E)) (hp : PassesOwn (model P w) (A.deeper (envOfC "Rules.__init__" (defScope s_rules_init) s.heap.objs.size f cdv)) (envOfC "Rules.__init__" (defScope s_rules_init) s.heap.objs.size f cdv) (bodyCx P w K mg base N_rules_init "Rules.__init__" (defScope s_rules_init) f cdv A outer s H E).xe) :
    SSs (bodyCx P w K mg base N_rules_init "Rules.__init__" (defScope s_rules_init) f cdv A outer s H E) (wOf E) (defBody s_rules_init) (fb_rules_init) :=
  (sss_cons (ss_for hp rfl (it_enum T.f_enumerate (sa_cons (se_var 1) sa_nil)) (bu_tup rfl (bus_cons (bu_name 3 sc_rules_init.nd) (bus_cons (bu_name 4 sc_rules_init.nd) bus_nil))) (sss_one (ss_if (st_not (st_val (sf_fn h_is_rule (hr.mono (by decide)) tk (sa_cons (se_var 4) sa_nil)))) (sss_one (ss_no)) sss_nil)))
    (sss_cons (ss_if (st_cmp c_gt (se_callB cu_len T.f_len (sa_cons (se_var 1) sa_nil)) (se_gc T.c_MOST_RULES)) (sss_one (ss_no)) sss_nil)
    (sss_cons (ss_fld T.fo_kept_rules (se_callTy (cu_list.or (cu_listT rfl)) T.f_list (sa_cons (se_var 1) sa_nil)) (se_var 0))
    (sss_cons (ss_setLc 2 (own := [("start", 5), ("target", 6), ("moves", 7)]) rfl sc_rules_init.nd (by exact it_seq (se_var 1)) (blkOk_by (N := N_rules_init) (sc := defScope s_rules_init) (by decide +kernel)) (by exact blk_mk (t := gTup _ 3 (gCons (gName 5) (gCons (gName 6) (gCons (gName 7) gNil)))) (fun _ _ _ _ _ => by exact pg_tup rfl (by exact pgs_cons (by exact pg_name (i := 5) sc_rules_init.nd rfl (by first | exact Or.inl rfl | exact Or.inr rfl)) (by exact pgs_cons (by exact pg_name (i := 6) sc_rules_init.nd rfl (by first | exact Or.inl rfl | exact Or.inr rfl)) (by exact pgs_cons (by exact pg_name (i := 7) sc_rules_init.nd rfl (by first | exact Or.inl rfl | exact Or.inr rfl)) pgs_nil)))) (by exact gu_tup (n := 3) (gus_cons (gu_name 5) (gus_cons (gu_name 6) (gus_cons (gu_name 7) gus_nil)))) (fun _ _ _ _ _ => by exact ts_nil) (fun _ _ _ _ _ => by exact se_bin b_add (se_joined (sj_cons (se_fmt (se_var 5)) (sj_cons (se_str) (sj_cons (se_fmt (se_var 6)) sj_nil)))) (se_if (st_val (se_var 7)) (se_str) (se_str)))))
    (sss_one (ss_fld T.fo_own_text (se_meth mu_join (se_str) (sa_cons (se_bin b_add (se_lst (sa_cons (se_str) sa_nil)) (se_var 2)) sa_nil)) (se_var 0)))))))
def m_rules_init : MF := rawM 8 fb_rules_init
theorem fnr_rules_init {P : Program} {w : World} {K : PySem.W.Frag} {mg : Str → Option Value} {base : Heap} (C : SaysU chk fnL pnL K) (N : Nm K mg) {fd : FuncData} (F : FunD K "__init__" "Rules.__init__" (defArgs s_rules_init) (defBody s_rules_init) (defScope s_rules_init) [] [] (fAd K (d_rules_init).at_) fd) : FnR P w K mg base (L2.CX P w) 3 (fAd K (d_rules_init).at_) (spStar K 1 m_rules_init) :=
  fn_rawS (ps := ["self"]) (pv := "rules") F sc_rules_init fb_rules_init (fun kV doc pm an cdv ct => StX.bind_star1 (B := fun as => bindArgs (PySem.W.fnOf "__init__" "Rules.__init__" (defArgs s_rules_init) (defBody s_rules_init) (defScope s_rules_init) .none kV doc pm an cdv ct) ⟨as, []⟩) (fun _ => rfl) (fun _ _ _ => rfl)) fun cdv A outer s H E hr tk hp => okb_rules_init (tp_of N C.chk) (def_is_rule C N) hr tk hp
theorem defr_rules_init {P : Program} {w : World} {K : PySem.W.Frag} {mg : Str → Option Value} {base : Heap} (C : SaysU chk fnL pnL K) (N : Nm K mg) : DefR P w K mg base "Rules" 3 0 m_rules_init := by
  obtain ⟨fd, F⟩ := C.def_ 3
  exact defR_of (fnr_rules_init C N F) (fa_at (fa_of C.chk) 3) (glo_at N (gl_of C.chk) 14)

def fb_rules_triples : SF := (sExpr (eCallF 1 m_wall [] (aCons (eC (.int 0)) aNil)))
theorem okb_rules_triples {P : Program} {w : World} {K : PySem.W.Frag} {mg : Str → Option Value} {base : Heap} {f : Addr} {cdv : Value} {A : Around} {outer : List PySem.Env} {s : Shared} {H : Hp} {E : XK} (T : Tp K mg) (h_wall : Def1 P w K mg base "_wall" 1 ps_wall m_wall [])
    (hr : Room 1 (A.deeper (envOfC "Rules.triples" (defScope s_rules_triples) s.heap.objs.size f cdv))) (tk : Takes (bodyCx P w K mg base N_rules_triples "Rules.triples" (defScope s_rules_triples) f cdv A outer s H E) (wOf E)) (hp : PassesOwn (model P w) (A.deeper (envOfC "Rules.triples" (defScope s_rules_triples) s.heap.objs.size f cdv)) (envOfC "Rules.triples" (defScope s_rules_triples) s.heap.objs.size f cdv) (bodyCx P w K mg base N_rules_triples "Rules.triples" (defScope s_rules_triples) f cdv A outer s H E).xe) :
    SSs (bodyCx P w K mg base N_rules_triples "Rules.triples" (defScope s_rules_triples) f cdv A outer s H E) (wOf E) (defBody s_rules_triples) (fb_rules_triples) :=
  (sss_one (ss_expr (sf_fn h_wall (hr.mono (by decide)) tk (sa_cons (se_int) sa_nil))))
def m_rules_triples : MF := purM 1 fb_rules_triples
theorem fn_rules_triples {P : Program} {w : World} {K : PySem.W.Frag} {mg : Str → Option Value} {base : Heap} (C : SaysU chk fnL pnL K) (N : Nm K mg) {fd : FuncData} (F : FunD K "triples" "Rules.triples" (defArgs s_rules_triples) (defBody s_rules_triples) (defScope s_rules_triples) [] [] (fAd K (d_rules_triples).at_) fd) : FnU P w K mg base 2 (fAd K (d_rules_triples).at_) fd ps_rules_triples m_rules_triples :=
  fn_pur F sc_rules_triples fb_rules_triples fun cdv A outer s H E hr tk hp => okb_rules_triples (tp_of N C.chk) (def_wall C N) hr tk hp

def fb_rules_told : SF := (sExpr (eCallF 1 m_wall [] (aCons (eC (.int 1)) aNil)))
theorem okb_rules_told {P : Program} {w : World} {K : PySem.W.Frag} {mg : Str → Option Value} {base : Heap} {f : Addr} {cdv : Value} {A : Around} {outer : List PySem.Env} {s : Shared} {H : Hp} {E : XK} (T : Tp K mg) (h_wall : Def1 P w K mg base "_wall" 1 ps_wall m_wall [])
    (hr : Room 1 (A.deeper (envOfC "Rules.told" (defScope s_rules_told) s.heap.objs.size f cdv))) (tk : Takes (bodyCx P w K mg base N_rules_told "Rules.told" (defScope s_rules_told) f cdv A outer s H E) (wOf E)) (hp : PassesOwn (model P w) (A.deeper (envOfC "Rules.told" (defScope s_rules_told) s.heap.objs.size f cdv)) (envOfC "Rules.told" (defScope s_rules_told) s.heap.objs.size f cdv) (bodyCx P w K mg base N_rules_told "Rules.told" (defScope s_rules_told) f cdv A outer s H E).xe) :
    SSs (bodyCx P w K mg base N_rules_told "Rules.told" (defScope s_rules_told) f cdv A outer s H E) (wOf E) (defBody s_rules_told) (fb_rules_told) :=
  (sss_one (ss_expr (sf_fn h_wall (hr.mono (by decide)) tk (sa_cons (se_int) sa_nil))))
def m_rules_told : MF := purM 1 fb_rules_told
theorem fn_rules_told {P : Program} {w : World} {K : PySem.W.Frag} {mg : Str → Option Value} {base : Heap} (C : SaysU chk fnL pnL K) (N : Nm K mg) {fd : FuncData} (F : FunD K "told" "Rules.told" (defArgs s_rules_told) (defBody s_rules_told) (defScope s_rules_told) [] [] (fAd K (d_rules_told).at_) fd) : FnU P w K mg base 2 (fAd K (d_rules_told).at_) fd ps_rules_told m_rules_told :=
  fn_pur F sc_rules_told fb_rules_told fun cdv A outer s H E hr tk hp => okb_rules_told (tp_of N C.chk) (def_wall C N) hr tk hp

def fb_rules_led : SF := (sSeq (sAsg (eSortSetS (eCallB (orL oListOf oListOfT) (aCons (eVar 1) aNil))) (bName 2))
    (sSeq (sAsg (eListS (aCons (eVar 2) aNil)) (bName 3))
    (sSeq (whileF (tCmp (notB eqB) (eVar 3) (eLst aNil)) (sSeq (sAsg (eMeth isLst mPop (eVar 3) aNil) (bName 4))
    (sFor (iSeq (eFld fc_kept_rules "kept_rules" (eVar 0))) (bTup 3 (bCons (bName 5) (bCons (bName 6) (bCons (bName 7) bNil)))) (sIf (tAndB (tCmp eqB (eVar 5) (eVar 4)) (tCmp (notB inB) (eVar 6) (eVar 2))) (sSeq (sExpr (eMeth isLst mAppend (eVar 2) (aCons (eVar 6) aNil)))
    (sExpr (eMeth isLst mAppend (eVar 3) (aCons (eVar 6) aNil)))) sNext))) 1000000)
    (sRet (eMeth isStr mJoin (eC (.str "")) (aCons (eCallB oSorted (aCons (eVar 2) aNil)) aNil))))))
theorem okb_rules_led {P : Program} {w : World} {K : PySem.W.Frag} {mg : Str → Option Value} {base : Heap} {f : Addr} {cdv : Value} {A : Around} {outer : List PySem.Env} {s : Shared} {H : Hp} {E : XK} (T : Tp K mg)
    (hr : Room 0 (A.deeper (envOfC "Rules.led" (defScope s_rules_led) s.heap.objs.size f cdv))) (tk : Takes (bodyCx P w K mg base N_rules_led "Rules.led" (defScope s_rules_led) f cdv A outer s H E) (wOf E)) (hp : PassesOwn (model P w) (A.deeper (envOfC "Rules.led" (defScope s_rules_led) s.heap.objs.size f cdv)) (envOfC "Rules.led" (defScope s_rules_led) s.heap.objs.size f cdv) (bodyCx P w K mg base N_rules_led "Rules.led" (defScope s_rules_led) f cdv A outer s H E).xe) :
    SSs (bodyCx P w K mg base N_rules_led "Rules.led" (defScope s_rules_led) f cdv A outer s H E) (wOf E) (defBody s_rules_led) (fb_rules_led) :=
  (sss_cons (ss_set 2 (se_sortSetS T.f_sorted T.f_set (se_callTy (cu_list.or (cu_listT rfl)) T.f_list (sa_cons (se_var 1) sa_nil))) sc_rules_led.nd)
    (sss_cons (ss_set 3 (se_listS T.f_list (sa_cons (se_var 2) sa_nil)) sc_rules_led.nd)
    (sss_cons (ss_while 1000000 hp (st_cmp (c_ne hr.units) (se_var 3) (se_lst sa_nil)) (sss_cons (ss_set 4 (se_meth0 mu_pop (se_var 3)) sc_rules_led.nd)
    (sss_one (ss_for hp rfl (it_seq (se_fld T.fo_kept_rules (se_var 0))) (bu_tup rfl (bus_cons (bu_name 5 sc_rules_led.nd) (bus_cons (bu_name 6 sc_rules_led.nd) (bus_cons (bu_name 7 sc_rules_led.nd) bus_nil)))) (sss_one (ss_if (st_w (st_and (st_cmp (c_eq hr.units) (se_var 5) (se_var 4)) (st_and1 (st_cmp c_notin (se_var 6) (se_var 2))))) (sss_cons (ss_expr (se_meth mu_append (se_var 2) (sa_cons (se_var 6) sa_nil)))
    (sss_one (ss_expr (se_meth mu_append (se_var 3) (sa_cons (se_var 6) sa_nil))))) sss_nil))))))
    (sss_one (ss_ret (se_meth mu_join (se_str) (sa_cons (se_callB cu_sorted T.f_sorted (sa_cons (se_var 2) sa_nil)) sa_nil)))))))
def m_rules_led : MF := purM 8 fb_rules_led
theorem fn_rules_led {P : Program} {w : World} {K : PySem.W.Frag} {mg : Str → Option Value} {base : Heap} (C : SaysU chk fnL pnL K) (N : Nm K mg) {fd : FuncData} (F : FunD K "led" "Rules.led" (defArgs s_rules_led) (defBody s_rules_led) (defScope s_rules_led) [] [] (fAd K (d_rules_led).at_) fd) : FnU P w K mg base 1 (fAd K (d_rules_led).at_) fd ps_rules_led m_rules_led :=
  fn_pur F sc_rules_led fb_rules_led fun cdv A outer s H E hr tk hp => okb_rules_led (tp_of N C.chk)  hr tk hp
theorem defm_rules_led {P : Program} {w : World} {K : PySem.W.Frag} {mg : Str → Option Value} {base : Heap} (C : SaysU chk fnL pnL K) (N : Nm K mg) : DefM P w K mg base "Rules" "led" 1 ps_rules_led m_rules_led [] := by
  obtain ⟨fd, F⟩ := C.def_ 6
  exact defM_of (fn_rules_led C N F) F (fa_at (fa_of C.chk) 0) (fa_at (fa_of C.chk) 4) (fun _ _ _ _ _ _ us h => by match us, h with | [_, _], _ => rfl)
theorem defmk_rules_led_0_states {P : Program} {w : World} {K : PySem.W.Frag} {mg : Str → Option Value} {base : Heap} (C : SaysU chk fnL pnL K) (N : Nm K mg) : DefMK P w K mg base "Rules" "led" 1 ps_rules_led m_rules_led 0 ["states"] kc_rules_led_0_states := by
  obtain ⟨fd, F⟩ := C.def_ 6
  exact defMK_of0 0 ["states"] [0, 1] (fn_rules_led C N F) F (fa_at (fa_of C.chk) 0) (fa_at (fa_of C.chk) 4) (fun _ _ _ _ _ _ us ws h1 h2 => by match us, ws, h1, h2 with | [_], [_], _, _ => rfl)

def fb_rules_chain : SF := (sSeq (sAsg (eDcS (iSeq (eVar 1)) (bName 7) [7] tYesB (eVar 7) (eLst aNil)) (bName 3))
    (sSeq (sPar 4 5 (aCons (eListDS (aCons (eVar 3) aNil)) (aCons (eC (.int 0)) aNil)))
    (sSeq (whileF (tCmp ltB (eVar 5) (eCallB oLen (aCons (eVar 4) aNil))) (sSeq (sAsg (eIx (eVar 4) (eVar 5)) (bName 6))
    (sSeq (sAug 5 (orO (oInt0 fun i j => i + j) oCatS) (eC (.int 1)))
    (sSeq (sIf (tCmp inB (eVar 6) (eVar 2)) (sRet (eCallB (orL oListOf oListOfT) (aCons (eDGet (eVar 3) (eVar 6)) aNil))) sNext)
    (sFor (iEnumU (aCons (eFld fc_kept_rules "kept_rules" (eVar 0)) aNil)) (bTup 2 (bCons (bName 8) (bCons (bTup 3 (bCons (bName 9) (bCons (bName 10) (bCons (bName 11) bNil)))) bNil))) (sIf (tAndB (tCmp eqB (eVar 9) (eVar 6)) (tDHas true (eVar 10) (eVar 3))) (sSeq (sDPutU (eBin oAdd (eDGet (eVar 3) (eVar 6)) (eLst (aCons (eVar 8) aNil))) (eVar 3) (eVar 10))
    (sExpr (eMeth isLst mAppend (eVar 4) (aCons (eVar 10) aNil)))) sNext))))) 1000000)
    (sRet (eC .non)))))
theorem okb_rules_chain {P : Program} {w : World} {K : PySem.W.Frag} {mg : Str → Option Value} {base : Heap} {f : Addr} {cdv : Value} {A : Around} {outer : List PySem.Env} {s : Shared} {H : Hp} {E : XK} (T : Tp K mg)
    (hr : Room 0 (A.deeper (envOfC "Rules.chain" (defScope s_rules_chain) s.heap.objs.size f cdv))) (tk : Takes (bodyCx P w K mg base N_rules_chain "Rules.chain" (defScope s_rules_chain) f cdv A outer s H E) (wOf E)) (hp : PassesOwn (model P w) (A.deeper (envOfC "Rules.chain" (defScope s_rules_chain) s.heap.objs.size f cdv)) (envOfC "Rules.chain" (defScope s_rules_chain) s.heap.objs.size f cdv) (bodyCx P w K mg base N_rules_chain "Rules.chain" (defScope s_rules_chain) f cdv A outer s H E).xe) :
    SSs (bodyCx P w K mg base N_rules_chain "Rules.chain" (defScope s_rules_chain) f cdv A outer s H E) (wOf E) (defBody s_rules_chain) (fb_rules_chain) :=
  (sss_cons (ss_setDcS 3 (own := [("letter", 7)]) rfl sc_rules_chain.nd (by exact it_seq (se_var 1)) (blkOk_by (N := N_rules_chain) (sc := defScope s_rules_chain) (by decide +kernel)) (by exact blkD_mk (t := gName 7) (fun _ _ _ _ _ => by exact pg_name (i := 7) sc_rules_chain.nd rfl (by first | exact Or.inl rfl | exact Or.inr rfl)) (by exact gu_name 7) (fun _ _ _ _ _ => by exact ts_nil) (fun _ _ _ _ _ => by exact se_var 7) (fun _ _ _ _ _ => by exact se_lst sa_nil)))
    (sss_cons (ss_par 4 5 rfl sc_rules_chain.nd (sa_cons (se_listDS T.f_list (sa_cons (se_var 3) sa_nil)) (sa_cons (se_int) sa_nil)))
    (sss_cons (ss_while 1000000 hp (st_cmp c_lt (se_var 5) (se_callB cu_len T.f_len (sa_cons (se_var 4) sa_nil))) (sss_cons (ss_set 6 (se_ix (se_var 4) (se_var 5)) sc_rules_chain.nd)
    (sss_cons (ss_aug 5 a_add (se_int) sc_rules_chain.nd)
    (sss_cons (ss_if (st_cmp c_in (se_var 6) (se_var 2)) (sss_one (ss_ret (se_callTy (cu_list.or (cu_listT rfl)) T.f_list (sa_cons (se_dget hr.units (se_var 3) (se_var 6)) sa_nil)))) sss_nil)
    (sss_one (ss_for hp rfl (it_enum T.f_enumerate (sa_cons (se_fld T.fo_kept_rules (se_var 0)) sa_nil)) (bu_tup rfl (bus_cons (bu_name 8 sc_rules_chain.nd) (bus_cons (bu_tup rfl (bus_cons (bu_name 9 sc_rules_chain.nd) (bus_cons (bu_name 10 sc_rules_chain.nd) (bus_cons (bu_name 11 sc_rules_chain.nd) bus_nil)))) bus_nil))) (sss_one (ss_if (st_w (st_and (st_cmp (c_eq hr.units) (se_var 9) (se_var 6)) (st_and1 (st_dnin hr.units (se_var 10) (se_var 3))))) (sss_cons (ss_dput hr.units (se_bin b_add (se_dget hr.units (se_var 3) (se_var 6)) (se_lst (sa_cons (se_var 8) sa_nil))) (se_var 3) (se_var 10))
    (sss_one (ss_expr (se_meth mu_append (se_var 4) (sa_cons (se_var 10) sa_nil))))) sss_nil))))))))
    (sss_one (ss_ret (se_non))))))
def m_rules_chain : MF := purM 12 fb_rules_chain
theorem fn_rules_chain {P : Program} {w : World} {K : PySem.W.Frag} {mg : Str → Option Value} {base : Heap} (C : SaysU chk fnL pnL K) (N : Nm K mg) {fd : FuncData} (F : FunD K "chain" "Rules.chain" (defArgs s_rules_chain) (defBody s_rules_chain) (defScope s_rules_chain) [] [] (fAd K (d_rules_chain).at_) fd) : FnU P w K mg base 1 (fAd K (d_rules_chain).at_) fd ps_rules_chain m_rules_chain :=
  fn_pur F sc_rules_chain fb_rules_chain fun cdv A outer s H E hr tk hp => okb_rules_chain (tp_of N C.chk)  hr tk hp
theorem defm_rules_chain {P : Program} {w : World} {K : PySem.W.Frag} {mg : Str → Option Value} {base : Heap} (C : SaysU chk fnL pnL K) (N : Nm K mg) : DefM P w K mg base "Rules" "chain" 1 ps_rules_chain m_rules_chain [] := by
  obtain ⟨fd, F⟩ := C.def_ 7
  exact defM_of (fn_rules_chain C N F) F (fa_at (fa_of C.chk) 0) (fa_at (fa_of C.chk) 5) (fun _ _ _ _ _ _ us h => by match us, h with | [_, _, _], _ => rfl)
theorem defmk_rules_chain_0_goals_starts {P : Program} {w : World} {K : PySem.W.Frag} {mg : Str → Option Value} {base : Heap} (C : SaysU chk fnL pnL K) (N : Nm K mg) : DefMK P w K mg base "Rules" "chain" 1 ps_rules_chain m_rules_chain 0 ["goals", "starts"] kc_rules_chain_0_goals_starts := by
  obtain ⟨fd, F⟩ := C.def_ 7
  exact defMK_of0 0 ["goals", "starts"] [0, 2, 1] (fn_rules_chain C N F) F (fa_at (fa_of C.chk) 0) (fa_at (fa_of C.chk) 5) (fun _ _ _ _ _ _ us ws h1 h2 => by match us, ws, h1, h2 with | [_], [_, _], _, _ => rfl)

def fb_rules_len : SF := (sRet (eCallB oLen (aCons (eFld fc_kept_rules "kept_rules" (eVar 0)) aNil)))
theorem okb_rules_len {P : Program} {w : World} {K : PySem.W.Frag} {mg : Str → Option Value} {base : Heap} {f : Addr} {cdv : Value} {A : Around} {outer : List PySem.Env} {s : Shared} {H : Hp} {E : XK} (T : Tp K mg)
    (hr : Room 0 (A.deeper (envOfC "Rules.__len__" (defScope s_rules_len) s.heap.objs.size f cdv))) (tk : Takes (bodyCx P w K mg base N_rules_len "Rules.__len__" (defScope s_rules_len) f cdv A outer s H E) (wOf E)) (hp : PassesOwn (model P w) (A.deeper (envOfC "Rules.__len__" (defScope s_rules_len) s.heap.objs.size f cdv)) (envOfC "Rules.__len__" (defScope s_rules_len) s.heap.objs.size f cdv) (bodyCx P w K mg base N_rules_len "Rules.__len__" (defScope s_rules_len) f cdv A outer s H E).xe) :
    SSs (bodyCx P w K mg base N_rules_len "Rules.__len__" (defScope s_rules_len) f cdv A outer s H E) (wOf E) (defBody s_rules_len) (fb_rules_len) :=
  (sss_one (ss_ret (se_callB cu_len T.f_len (sa_cons (se_fld T.fo_kept_rules (se_var 0)) sa_nil))))
def m_rules_len : MF := purM 1 fb_rules_len
theorem fn_rules_len {P : Program} {w : World} {K : PySem.W.Frag} {mg : Str → Option Value} {base : Heap} (C : SaysU chk fnL pnL K) (N : Nm K mg) {fd : FuncData} (F : FunD K "__len__" "Rules.__len__" (defArgs s_rules_len) (defBody s_rules_len) (defScope s_rules_len) [] [] (fAd K (d_rules_len).at_) fd) : FnU P w K mg base 1 (fAd K (d_rules_len).at_) fd ps_rules_len m_rules_len :=
  fn_pur F sc_rules_len fb_rules_len fun cdv A outer s H E hr tk hp => okb_rules_len (tp_of N C.chk)  hr tk hp

def fb_rules_eq : SF := (sRet (eAnd (eCallB (orL oIsi0 (oIsiC isiL)) (aCons (eVar 1) (aCons (eC (.con "Rules")) aNil))) (eCmp eqB (eFld fc_own_text "own_text" (eVar 0)) (eFld fc_own_text "own_text" (eVar 1)))))
theorem okb_rules_eq {P : Program} {w : World} {K : PySem.W.Frag} {mg : Str → Option Value} {base : Heap} {f : Addr} {cdv : Value} {A : Around} {outer : List PySem.Env} {s : Shared} {H : Hp} {E : XK} (T : Tp K mg)
    (hr : Room 0 (A.deeper (envOfC "Rules.__eq__" (defScope s_rules_eq) s.heap.objs.size f cdv))) (tk : Takes (bodyCx P w K mg base N_rules_eq "Rules.__eq__" (defScope s_rules_eq) f cdv A outer s H E) (wOf E)) (hp : PassesOwn (model P w) (A.deeper (envOfC "Rules.__eq__" (defScope s_rules_eq) s.heap.objs.size f cdv)) (envOfC "Rules.__eq__" (defScope s_rules_eq) s.heap.objs.size f cdv) (bodyCx P w K mg base N_rules_eq "Rules.__eq__" (defScope s_rules_eq) f cdv A outer s H E).xe) :
    SSs (bodyCx P w K mg base N_rules_eq "Rules.__eq__" (defScope s_rules_eq) f cdv A outer s H E) (wOf E) (defBody s_rules_eq) (fb_rules_eq) :=
  (sss_one (ss_ret (se_and (se_callB (cu_isiC T.isi) T.f_isinstance (sa_cons (se_var 1) (sa_cons (se_gc T.c_Rules) sa_nil))) (se_one (se_cmp (c_eq hr.units) (se_fld T.fo_own_text (se_var 0)) (se_fld T.fo_own_text (se_var 1)))))))
def m_rules_eq : MF := purM 2 fb_rules_eq
theorem fn_rules_eq {P : Program} {w : World} {K : PySem.W.Frag} {mg : Str → Option Value} {base : Heap} (C : SaysU chk fnL pnL K) (N : Nm K mg) {fd : FuncData} (F : FunD K "__eq__" "Rules.__eq__" (defArgs s_rules_eq) (defBody s_rules_eq) (defScope s_rules_eq) [] [] (fAd K (d_rules_eq).at_) fd) : FnU P w K mg base 1 (fAd K (d_rules_eq).at_) fd ps_rules_eq m_rules_eq :=
  fn_pur F sc_rules_eq fb_rules_eq fun cdv A outer s H E hr tk hp => okb_rules_eq (tp_of N C.chk)  hr tk hp

def fb_rules_repr : SF := (sRet (eJoined (jCons (eC (.str "Rules(")) (jCons (eFmt (eFld fc_own_text "own_text" (eVar 0))) (jCons (eC (.str ")")) jNil)))))
theorem okb_rules_repr {P : Program} {w : World} {K : PySem.W.Frag} {mg : Str → Option Value} {base : Heap} {f : Addr} {cdv : Value} {A : Around} {outer : List PySem.Env} {s : Shared} {H : Hp} {E : XK} (T : Tp K mg)
    (hr : Room 0 (A.deeper (envOfC "Rules.__repr__" (defScope s_rules_repr) s.heap.objs.size f cdv))) (tk : Takes (bodyCx P w K mg base N_rules_repr "Rules.__repr__" (defScope s_rules_repr) f cdv A outer s H E) (wOf E)) (hp : PassesOwn (model P w) (A.deeper (envOfC "Rules.__repr__" (defScope s_rules_repr) s.heap.objs.size f cdv)) (envOfC "Rules.__repr__" (defScope s_rules_repr) s.heap.objs.size f cdv) (bodyCx P w K mg base N_rules_repr "Rules.__repr__" (defScope s_rules_repr) f cdv A outer s H E).xe) :
    SSs (bodyCx P w K mg base N_rules_repr "Rules.__repr__" (defScope s_rules_repr) f cdv A outer s H E) (wOf E) (defBody s_rules_repr) (fb_rules_repr) :=
  (sss_one (ss_ret (se_joined (sj_cons (se_str) (sj_cons (se_fmt (se_fld T.fo_own_text (se_var 0))) (sj_cons (se_str) sj_nil))))))
def m_rules_repr : MF := purM 1 fb_rules_repr
theorem fn_rules_repr {P : Program} {w : World} {K : PySem.W.Frag} {mg : Str → Option Value} {base : Heap} (C : SaysU chk fnL pnL K) (N : Nm K mg) {fd : FuncData} (F : FunD K "__repr__" "Rules.__repr__" (defArgs s_rules_repr) (defBody s_rules_repr) (defScope s_rules_repr) [] [] (fAd K (d_rules_repr).at_) fd) : FnU P w K mg base 1 (fAd K (d_rules_repr).at_) fd ps_rules_repr m_rules_repr :=
  fn_pur F sc_rules_repr fb_rules_repr fun cdv A outer s H E hr tk hp => okb_rules_repr (tp_of N C.chk)  hr tk hp

abbrev fb_law_bag : SF := fbBag 5784
theorem okb_law_bag {P : Program} {w : World} {K : PySem.W.Frag} {mg : Str → Option Value} {base : Heap} {f : Addr} {cdv : Value} {A : Around} {outer : List PySem.Env} {s : Shared} {H : Hp} {E : XK} (T : Tp K mg)
    (hr : Room 0 (A.deeper (envOfC "_law_bag" (defScope s_law_bag) s.heap.objs.size f cdv))) (tk : Takes (bodyCx P w K mg base N_law_bag "_law_bag" (defScope s_law_bag) f cdv A outer s H E) (wOf E)) (hp : PassesOwn (model P w) (A.deeper (envOfC "_law_bag" (defScope s_law_bag) s.heap.objs.size f cdv)) (envOfC "_law_bag" (defScope s_law_bag) s.heap.objs.size f cdv) (bodyCx P w K mg base N_law_bag "_law_bag" (defScope s_law_bag) f cdv A outer s H E).xe) :
    SSs (bodyCx P w K mg base N_law_bag "_law_bag" (defScope s_law_bag) f cdv A outer s H E) (wOf E) (defBody s_law_bag) (fb_law_bag) :=
  (sss_cons (ss_set 1 (se_callTy cu_list T.f_list (sa_cons (se_sl (se_var 0) so_none (so_some (se_int))) sa_nil)) sc_law_bag.nd)
    (sss_one (ss_ret (se_lstS (sa_cons (se_var 1) (sa_cons (se_int) (sa_cons (se_int) (sa_cons (se_bin b_add (se_int) (se_callB cu_len T.f_len (sa_cons (se_var 1) sa_nil))) sa_nil))))))))
def m_law_bag : MF := rawM 2 fb_law_bag
theorem fn_law_bag {P : Program} {w : World} {K : PySem.W.Frag} {mg : Str → Option Value} {base : Heap} (C : SaysU chk fnL pnL K) (N : Nm K mg) {fd : FuncData} (F : FunD K "_law_bag" "_law_bag" (defArgs s_law_bag) (defBody s_law_bag) (defScope s_law_bag) [] [] (fAd K (d_law_bag).at_) fd) : FnU P w K mg base 1 (fAd K (d_law_bag).at_) fd ps_law_bag m_law_bag :=
  fn_raw F sc_law_bag fb_law_bag fun cdv A outer s H E hr tk hp => okb_law_bag (tp_of N C.chk)  hr tk hp
theorem def_law_bag {P : Program} {w : World} {K : PySem.W.Frag} {mg : Str → Option Value} {base : Heap} (C : SaysU chk fnL pnL K) (N : Nm K mg) : Def1 P w K mg base "_law_bag" 1 ps_law_bag m_law_bag [] := by
  obtain ⟨fd, F⟩ := C.def_ 11
  exact def1_of (fn_law_bag C N F) F (glo_at N (gl_of C.chk) 3) (fun _ _ _ _ _ _ us h => by match us, h with | [_], _ => rfl)

abbrev fb_law_draw : SF := fbDraw
theorem okb_law_draw {P : Program} {w : World} {K : PySem.W.Frag} {mg : Str → Option Value} {base : Heap} {f : Addr} {cdv : Value} {A : Around} {outer : List PySem.Env} {s : Shared} {H : Hp} {E : XK} (T : Tp K mg)
    (hr : Room 0 (A.deeper (envOfC "_law_draw" (defScope s_law_draw) s.heap.objs.size f cdv))) (tk : Takes (bodyCx P w K mg base N_law_draw "_law_draw" (defScope s_law_draw) f cdv A outer s H E) (wOf E)) (hp : PassesOwn (model P w) (A.deeper (envOfC "_law_draw" (defScope s_law_draw) s.heap.objs.size f cdv)) (envOfC "_law_draw" (defScope s_law_draw) s.heap.objs.size f cdv) (bodyCx P w K mg base N_law_draw "_law_draw" (defScope s_law_draw) f cdv A outer s H E).xe) :
    SSs (bodyCx P w K mg base N_law_draw "_law_draw" (defScope s_law_draw) f cdv A outer s H E) (wOf E) (defBody s_law_draw) (fb_law_draw) :=
  (sss_cons (ss_if (st_w (st_and (st_cmp (c_eq hr.units) (se_ix (se_var 0) (se_int)) (se_int)) (st_and1 (st_cmp c_lt (se_ix (se_var 0) (se_int)) (se_callB cu_len T.f_len (sa_cons (se_ix (se_var 0) (se_int)) sa_nil)))))) (sss_cons (ss_set 2 (se_ix (se_ix (se_var 0) (se_int)) (se_ix (se_var 0) (se_int))) sc_law_draw.nd)
    (sss_cons (ss_sub (se_bin b_add (se_ix (se_var 0) (se_int)) (se_int)) (se_var 0) (se_int))
    (sss_one (ss_if (st_cmp c_ge (se_callB cu_abs T.f_abs (sa_cons (se_var 2) sa_nil)) (se_bin b_pow (se_int) (se_int))) (sss_one (ss_sub (se_callB cu_abs T.f_abs (sa_cons (se_var 2) sa_nil)) (se_var 0) (se_int))) (sss_one (ss_sub (se_bin b_mod (se_callTy cu_int T.f_int (sa_cons (se_bin b_add (se_bin b_add (se_bin b_mul (se_ix (se_var 0) (se_int)) (se_int)) (se_bin b_mul (se_bin b_mod (se_callTy cu_int T.f_int (sa_cons (se_var 2) sa_nil)) (se_int)) (se_int))) (se_int)) sa_nil)) (se_int)) (se_var 0) (se_int))))))) sss_nil)
    (sss_cons (ss_if (st_cmp c_gt (se_ix (se_var 0) (se_int)) (se_int)) (sss_cons (ss_set 3 (se_bin b_mod (se_callTy cu_int T.f_int (sa_cons (se_ix (se_var 0) (se_int)) sa_nil)) (se_var 1)) sc_law_draw.nd)
    (sss_cons (ss_sub (se_bin b_div (se_ix (se_var 0) (se_int)) (se_var 1)) (se_var 0) (se_int))
    (sss_one (ss_ret (se_var 3))))) sss_nil)
    (sss_cons (ss_sub (se_bin b_mod (se_callTy cu_int T.f_int (sa_cons (se_bin b_add (se_bin b_add (se_bin b_mul (se_ix (se_var 0) (se_int)) (se_ix (se_var 0) (se_int))) (se_bin b_mul (se_ix (se_var 0) (se_int)) (se_int))) (se_int)) sa_nil)) (se_int)) (se_var 0) (se_int))
    (sss_one (ss_ret (se_bin b_mod (se_callTy cu_int T.f_int (sa_cons (se_bin b_div (se_ix (se_var 0) (se_int)) (se_int)) sa_nil)) (se_var 1)))))))
def m_law_draw : MF := rawM 4 fb_law_draw
theorem fn_law_draw {P : Program} {w : World} {K : PySem.W.Frag} {mg : Str → Option Value} {base : Heap} (C : SaysU chk fnL pnL K) (N : Nm K mg) {fd : FuncData} (F : FunD K "_law_draw" "_law_draw" (defArgs s_law_draw) (defBody s_law_draw) (defScope s_law_draw) [] [] (fAd K (d_law_draw).at_) fd) : FnU P w K mg base 1 (fAd K (d_law_draw).at_) fd ps_law_draw m_law_draw :=
  fn_raw F sc_law_draw fb_law_draw fun cdv A outer s H E hr tk hp => okb_law_draw (tp_of N C.chk)  hr tk hp
theorem def_law_draw {P : Program} {w : World} {K : PySem.W.Frag} {mg : Str → Option Value} {base : Heap} (C : SaysU chk fnL pnL K) (N : Nm K mg) : Def1 P w K mg base "_law_draw" 1 ps_law_draw m_law_draw [] := by
  obtain ⟨fd, F⟩ := C.def_ 12
  exact def1_of (fn_law_draw C N F) F (glo_at N (gl_of C.chk) 4) (fun _ _ _ _ _ _ us h => by match us, h with | [_, _], _ => rfl)

def fb_law_alphabet : SF := (sRet (eC (.str "abcdefghijklmnopqrstuvwxyz")))
theorem okb_law_alphabet {P : Program} {w : World} {K : PySem.W.Frag} {mg : Str → Option Value} {base : Heap} {f : Addr} {cdv : Value} {A : Around} {outer : List PySem.Env} {s : Shared} {H : Hp} {E : XK} (T : Tp K mg)
    (hr : Room 0 (A.deeper (envOfC "_law_alphabet" (defScope s_law_alphabet) s.heap.objs.size f cdv))) (tk : Takes (bodyCx P w K mg base N_law_alphabet "_law_alphabet" (defScope s_law_alphabet) f cdv A outer s H E) (wOf E)) (hp : PassesOwn (model P w) (A.deeper (envOfC "_law_alphabet" (defScope s_law_alphabet) s.heap.objs.size f cdv)) (envOfC "_law_alphabet" (defScope s_law_alphabet) s.heap.objs.size f cdv) (bodyCx P w K mg base N_law_alphabet "_law_alphabet" (defScope s_law_alphabet) f cdv A outer s H E).xe) :
    SSs (bodyCx P w K mg base N_law_alphabet "_law_alphabet" (defScope s_law_alphabet) f cdv A outer s H E) (wOf E) (defBody s_law_alphabet) (fb_law_alphabet) :=
  (sss_one (ss_ret (se_str)))
def m_law_alphabet : MF := purM 0 fb_law_alphabet
theorem fn_law_alphabet {P : Program} {w : World} {K : PySem.W.Frag} {mg : Str → Option Value} {base : Heap} (C : SaysU chk fnL pnL K) (N : Nm K mg) {fd : FuncData} (F : FunD K "_law_alphabet" "_law_alphabet" (defArgs s_law_alphabet) (defBody s_law_alphabet) (defScope s_law_alphabet) [] [] (fAd K (d_law_alphabet).at_) fd) : FnU P w K mg base 1 (fAd K (d_law_alphabet).at_) fd ps_law_alphabet m_law_alphabet :=
  fn_pur F sc_law_alphabet fb_law_alphabet fun cdv A outer s H E hr tk hp => okb_law_alphabet (tp_of N C.chk)  hr tk hp
theorem def_law_alphabet {P : Program} {w : World} {K : PySem.W.Frag} {mg : Str → Option Value} {base : Heap} (C : SaysU chk fnL pnL K) (N : Nm K mg) : Def1 P w K mg base "_law_alphabet" 1 ps_law_alphabet m_law_alphabet [] := by
  obtain ⟨fd, F⟩ := C.def_ 13
  exact def1_of (fn_law_alphabet C N F) F (glo_at N (gl_of C.chk) 5) (fun _ _ _ _ _ _ us h => by match us, h with | [], _ => rfl)

def fb_law_states : SF := (sSeq (sPar 3 4 (aCons (eC (.str "")) (aCons (eCallF 2 m_law_draw [] (aCons (eVar 0) (aCons (eC (.int 8)) aNil))) aNil)))
    (sSeq (sFor (iRange1 (aCons (eBin oAdd (eC (.int 1)) (eCallF 2 m_law_draw [] (aCons (eVar 0) (aCons (eVar 1) aNil)))) aNil)) (bName 2) (sSeq (sAsg (eBin oAdd (eVar 3) (eIx (eCallF 0 m_law_alphabet [] aNil) (eVar 4))) (bName 3))
    (sAsg (eBin oAdd (eBin oAdd (eVar 4) (eC (.int 1))) (eCallF 2 m_law_draw [] (aCons (eVar 0) (aCons (eC (.int 3)) aNil)))) (bName 4))))
    (sRet (eVar 3))))
theorem okb_law_states {P : Program} {w : World} {K : PySem.W.Frag} {mg : Str → Option Value} {base : Heap} {f : Addr} {cdv : Value} {A : Around} {outer : List PySem.Env} {s : Shared} {H : Hp} {E : XK} (T : Tp K mg) (h_law_draw : Def1 P w K mg base "_law_draw" 1 ps_law_draw m_law_draw []) (h_law_alphabet : Def1 P w K mg base "_law_alphabet" 1 ps_law_alphabet m_law_alphabet [])
    (hr : Room 1 (A.deeper (envOfC "_law_states" (defScope s_law_states) s.heap.objs.size f cdv))) (tk : Takes (bodyCx P w K mg base N_law_states "_law_states" (defScope s_law_states) f cdv A outer s H E) (wOf E)) (hp : PassesOwn (model P w) (A.deeper (envOfC "_law_states" (defScope s_law_states) s.heap.objs.size f cdv)) (envOfC "_law_states" (defScope s_law_states) s.heap.objs.size f cdv) (bodyCx P w K mg base N_law_states "_law_states" (defScope s_law_states) f cdv A outer s H E).xe) :
    SSs (bodyCx P w K mg base N_law_states "_law_states" (defScope s_law_states) f cdv A outer s H E) (wOf E) (defBody s_law_states) (fb_law_states) :=
  (sss_cons (ss_par 3 4 rfl sc_law_states.nd (sa_cons (se_str) (sa_cons (sf_fn h_law_draw (hr.mono (by decide)) tk (sa_cons (se_var 0) (sa_cons (se_int) sa_nil))) sa_nil)))
    (sss_cons (ss_for hp rfl (it_range1 T.f_range (sa_cons (se_bin b_add (se_int) (sf_fn h_law_draw (hr.mono (by decide)) tk (sa_cons (se_var 0) (sa_cons (se_var 1) sa_nil)))) sa_nil)) (bu_name 2 sc_law_states.nd) (sss_cons (ss_set 3 (se_bin b_add (se_var 3) (se_ix (sf_fn0 h_law_alphabet (hr.mono (by decide)) tk) (se_var 4))) sc_law_states.nd)
    (sss_one (ss_set 4 (se_bin b_add (se_bin b_add (se_var 4) (se_int)) (sf_fn h_law_draw (hr.mono (by decide)) tk (sa_cons (se_var 0) (sa_cons (se_int) sa_nil)))) sc_law_states.nd))))
    (sss_one (ss_ret (se_var 3)))))
def m_law_states : MF := rawM 5 fb_law_states
theorem fn_law_states {P : Program} {w : World} {K : PySem.W.Frag} {mg : Str → Option Value} {base : Heap} (C : SaysU chk fnL pnL K) (N : Nm K mg) {fd : FuncData} (F : FunD K "_law_states" "_law_states" (defArgs s_law_states) (defBody s_law_states) (defScope s_law_states) [] [] (fAd K (d_law_states).at_) fd) : FnU P w K mg base 2 (fAd K (d_law_states).at_) fd ps_law_states m_law_states :=
  fn_raw F sc_law_states fb_law_states fun cdv A outer s H E hr tk hp => okb_law_states (tp_of N C.chk) (def_law_draw C N) (def_law_alphabet C N) hr tk hp
theorem def_law_states {P : Program} {w : World} {K : PySem.W.Frag} {mg : Str → Option Value} {base : Heap} (C : SaysU chk fnL pnL K) (N : Nm K mg) : Def1 P w K mg base "_law_states" 2 ps_law_states m_law_states [] := by
  obtain ⟨fd, F⟩ := C.def_ 14
  exact def1_of (fn_law_states C N F) F (glo_at N (gl_of C.chk) 6) (fun _ _ _ _ _ _ us h => by match us, h with | [_, _], _ => rfl)

abbrev fb_law_pick : SF := fbPick m_law_draw
theorem okb_law_pick {P : Program} {w : World} {K : PySem.W.Frag} {mg : Str → Option Value} {base : Heap} {f : Addr} {cdv : Value} {A : Around} {outer : List PySem.Env} {s : Shared} {H : Hp} {E : XK} (T : Tp K mg) (h_law_draw : Def1 P w K mg base "_law_draw" 1 ps_law_draw m_law_draw [])
    (hr : Room 1 (A.deeper (envOfC "_law_pick" (defScope s_law_pick) s.heap.objs.size f cdv))) (tk : Takes (bodyCx P w K mg base N_law_pick "_law_pick" (defScope s_law_pick) f cdv A outer s H E) (wOf E)) (hp : PassesOwn (model P w) (A.deeper (envOfC "_law_pick" (defScope s_law_pick) s.heap.objs.size f cdv)) (envOfC "_law_pick" (defScope s_law_pick) s.heap.objs.size f cdv) (bodyCx P w K mg base N_law_pick "_law_pick" (defScope s_law_pick) f cdv A outer s H E).xe) :
    SSs (bodyCx P w K mg base N_law_pick "_law_pick" (defScope s_law_pick) f cdv A outer s H E) (wOf E) (defBody s_law_pick) (fb_law_pick) :=
  (sss_one (ss_ret (se_ix (se_var 1) (sf_fn h_law_draw (hr.mono (by decide)) tk (sa_cons (se_var 0) (sa_cons (se_callB cu_len T.f_len (sa_cons (se_var 1) sa_nil)) sa_nil))))))
def m_law_pick : MF := rawM 2 fb_law_pick
theorem fn_law_pick {P : Program} {w : World} {K : PySem.W.Frag} {mg : Str → Option Value} {base : Heap} (C : SaysU chk fnL pnL K) (N : Nm K mg) {fd : FuncData} (F : FunD K "_law_pick" "_law_pick" (defArgs s_law_pick) (defBody s_law_pick) (defScope s_law_pick) [] [] (fAd K (d_law_pick).at_) fd) : FnU P w K mg base 2 (fAd K (d_law_pick).at_) fd ps_law_pick m_law_pick :=
  fn_raw F sc_law_pick fb_law_pick fun cdv A outer s H E hr tk hp => okb_law_pick (tp_of N C.chk) (def_law_draw C N) hr tk hp
theorem def_law_pick {P : Program} {w : World} {K : PySem.W.Frag} {mg : Str → Option Value} {base : Heap} (C : SaysU chk fnL pnL K) (N : Nm K mg) : Def1 P w K mg base "_law_pick" 2 ps_law_pick m_law_pick [] := by
  obtain ⟨fd, F⟩ := C.def_ 15
  exact def1_of (fn_law_pick C N F) F (glo_at N (gl_of C.chk) 7) (fun _ _ _ _ _ _ us h => by match us, h with | [_, _], _ => rfl)

def fb_law_rules : SF := (sSeq (sIf (tCmp eqB (eCallB oLen (aCons (eVar 0) aNil)) (eC (.int 0))) (sRet (eSettle (eMakeR "Rules" 0 m_rules_init aNil))) sNext)
    (sSeq (sIf (tCmp eqB (eCallB oLen (aCons (eVar 0) aNil)) (eC (.int 1))) (sRet (eSettle (eMakeR "Rules" 0 m_rules_init (aCons (eIx (eVar 0) (eC (.int 0))) aNil)))) sNext)
    (sSeq (sIf (tCmp eqB (eCallB oLen (aCons (eVar 0) aNil)) (eC (.int 2))) (sRet (eSettle (eMakeR "Rules" 0 m_rules_init (aCons (eIx (eVar 0) (eC (.int 0))) (aCons (eIx (eVar 0) (eC (.int 1))) aNil))))) sNext)
    (sRet (eIf (tCmp eqB (eCallB oLen (aCons (eVar 0) aNil)) (eC (.int 3))) (eSettle (eMakeR "Rules" 0 m_rules_init (aCons (eIx (eVar 0) (eC (.int 0))) (aCons (eIx (eVar 0) (eC (.int 1))) (aCons (eIx (eVar 0) (eC (.int 2))) aNil))))) (eSettle (eMakeR "Rules" 0 m_rules_init (aCons (eIx (eVar 0) (eC (.int 0))) (aCons (eIx (eVar 0) (eC (.int 1))) (aCons (eIx (eVar 0) (eC (.int 2))) (aCons (eIx (eVar 0) (eC (.int 3))) aNil)))))))))))
theorem okb_law_rules {P : Program} {w : World} {K : PySem.W.Frag} {mg : Str → Option Value} {base : Heap} {f : Addr} {cdv : Value} {A : Around} {outer : List PySem.Env} {s : Shared} {H : Hp} {E : XK} (T : Tp K mg) (hr_rules_init : DefR P w K mg base "Rules" 3 0 m_rules_init)
    (hr : Room 4 (A.deeper (envOfC "_law_rules" (defScope s_law_rules) s.heap.objs.size f cdv))) (tk : Takes (bodyCx P w K mg base N_law_rules "_law_rules" (defScope s_law_rules) f cdv A outer s H E) (wOf E)) (hp : PassesOwn (model P w) (A.deeper (envOfC "_law_rules" (defScope s_law_rules) s.heap.objs.size f cdv)) (envOfC "_law_rules" (defScope s_law_rules) s.heap.objs.size f cdv) (bodyCx P w K mg base N_law_rules "_law_rules" (defScope s_law_rules) f cdv A outer s H E).xe) :
    SSs (bodyCx P w K mg base N_law_rules "_law_rules" (defScope s_law_rules) f cdv A outer s H E) (wOf E) (defBody s_law_rules) (fb_law_rules) :=
  (sss_cons (ss_if (st_cmp (c_eq hr.units) (se_callB cu_len T.f_len (sa_cons (se_var 0) sa_nil)) (se_int)) (sss_one (ss_ret (se_settle (se_makeR0 hr_rules_init (hr.mono (by decide)) tk)))) sss_nil)
    (sss_cons (ss_if (st_cmp (c_eq hr.units) (se_callB cu_len T.f_len (sa_cons (se_var 0) sa_nil)) (se_int)) (sss_one (ss_ret (se_settle (se_makeR hr_rules_init (hr.mono (by decide)) tk (sa_cons (se_ix (se_var 0) (se_int)) sa_nil))))) sss_nil)
    (sss_cons (ss_if (st_cmp (c_eq hr.units) (se_callB cu_len T.f_len (sa_cons (se_var 0) sa_nil)) (se_int)) (sss_one (ss_ret (se_settle (se_makeR hr_rules_init (hr.mono (by decide)) tk (sa_cons (se_ix (se_var 0) (se_int)) (sa_cons (se_ix (se_var 0) (se_int)) sa_nil)))))) sss_nil)
    (sss_one (ss_ret (se_if (st_cmp (c_eq hr.units) (se_callB cu_len T.f_len (sa_cons (se_var 0) sa_nil)) (se_int)) (se_settle (se_makeR hr_rules_init (hr.mono (by decide)) tk (sa_cons (se_ix (se_var 0) (se_int)) (sa_cons (se_ix (se_var 0) (se_int)) (sa_cons (se_ix (se_var 0) (se_int)) sa_nil))))) (se_settle (se_makeR hr_rules_init (hr.mono (by decide)) tk (sa_cons (se_ix (se_var 0) (se_int)) (sa_cons (se_ix (se_var 0) (se_int)) (sa_cons (se_ix (se_var 0) (se_int)) (sa_cons (se_ix (se_var 0) (se_int)) sa_nil))))))))))))
def m_law_rules : MF := purM 1 fb_law_rules
theorem fn_law_rules {P : Program} {w : World} {K : PySem.W.Frag} {mg : Str → Option Value} {base : Heap} (C : SaysU chk fnL pnL K) (N : Nm K mg) {fd : FuncData} (F : FunD K "_law_rules" "_law_rules" (defArgs s_law_rules) (defBody s_law_rules) (defScope s_law_rules) [] [] (fAd K (d_law_rules).at_) fd) : FnU P w K mg base 5 (fAd K (d_law_rules).at_) fd ps_law_rules m_law_rules :=
  fn_pur F sc_law_rules fb_law_rules fun cdv A outer s H E hr tk hp => okb_law_rules (tp_of N C.chk) (defr_rules_init C N) hr tk hp
theorem def_law_rules {P : Program} {w : World} {K : PySem.W.Frag} {mg : Str → Option Value} {base : Heap} (C : SaysU chk fnL pnL K) (N : Nm K mg) : Def1 P w K mg base "_law_rules" 5 ps_law_rules m_law_rules [] := by
  obtain ⟨fd, F⟩ := C.def_ 16
  exact def1_of (fn_law_rules C N F) F (glo_at N (gl_of C.chk) 8) (fun _ _ _ _ _ _ us h => by match us, h with | [_], _ => rfl)

def fb_law_some : SF := (sSeq (sAsg (eMeth isStr mJoin (eC (.str "")) (aCons (eComp (iSeq (eVar 1)) (bName 3) [3] (tCmp eqB (eCallF 2 m_law_draw [] (aCons (eVar 0) (aCons (eC (.int 2)) aNil))) (eC (.int 0))) (eVar 3)) aNil)) (bName 2))
    (sRet (eIf (tCmp (notB eqB) (eVar 2) (eC (.str ""))) (eVar 2) (eCallF 2 m_law_pick [] (aCons (eVar 0) (aCons (eVar 1) aNil))))))
theorem okb_law_some {P : Program} {w : World} {K : PySem.W.Frag} {mg : Str → Option Value} {base : Heap} {f : Addr} {cdv : Value} {A : Around} {outer : List PySem.Env} {s : Shared} {H : Hp} {E : XK} (T : Tp K mg) (h_law_draw : Def1 P w K mg base "_law_draw" 1 ps_law_draw m_law_draw []) (h_law_pick : Def1 P w K mg base "_law_pick" 2 ps_law_pick m_law_pick [])
    (hr : Room 2 (A.deeper (envOfC "_law_some" (defScope s_law_some) s.heap.objs.size f cdv))) (tk : Takes (bodyCx P w K mg base N_law_some "_law_some" (defScope s_law_some) f cdv A outer s H E) (wOf E)) (hp : PassesOwn (model P w) (A.deeper (envOfC "_law_some" (defScope s_law_some) s.heap.objs.size f cdv)) (envOfC "_law_some" (defScope s_law_some) s.heap.objs.size f cdv) (bodyCx P w K mg base N_law_some "_law_some" (defScope s_law_some) f cdv A outer s H E).xe) :
    SSs (bodyCx P w K mg base N_law_some "_law_some" (defScope s_law_some) f cdv A outer s H E) (wOf E) (defBody s_law_some) (fb_law_some) :=
  (sss_cons (ss_set 2 (se_meth mu_join (se_str) (sa_cons (by exact se_comp (own := [("_law_letter", 3)]) rfl sc_law_some.nd (by exact it_seq (se_var 1)) (blkOk_by (N := N_law_some) (sc := defScope s_law_some) (by decide +kernel)) (by exact blk_mk (t := gName 3) (fun _ _ _ _ _ => by exact pg_name (i := 3) sc_law_some.nd rfl (by first | exact Or.inl rfl | exact Or.inr rfl)) (by exact gu_name 3) (fun _ _ _ _ _ => by exact ts_one (st_cmp (c_eq hr.units) (sf_fn h_law_draw (hr.mono (by decide)) takes0 (sa_cons (se_var 0) (sa_cons (se_int) sa_nil))) (se_int))) (fun _ _ _ _ _ => by exact se_var 3))) sa_nil)) sc_law_some.nd)
    (sss_one (ss_ret (se_if (st_cmp (c_ne hr.units) (se_var 2) (se_str)) (se_var 2) (sf_fn h_law_pick (hr.mono (by decide)) tk (sa_cons (se_var 0) (sa_cons (se_var 1) sa_nil)))))))
def m_law_some : MF := rawM 4 fb_law_some
theorem fn_law_some {P : Program} {w : World} {K : PySem.W.Frag} {mg : Str → Option Value} {base : Heap} (C : SaysU chk fnL pnL K) (N : Nm K mg) {fd : FuncData} (F : FunD K "_law_some" "_law_some" (defArgs s_law_some) (defBody s_law_some) (defScope s_law_some) [] [] (fAd K (d_law_some).at_) fd) : FnU P w K mg base 3 (fAd K (d_law_some).at_) fd ps_law_some m_law_some :=
  fn_raw F sc_law_some fb_law_some fun cdv A outer s H E hr tk hp => okb_law_some (tp_of N C.chk) (def_law_draw C N) (def_law_pick C N) hr tk hp
theorem def_law_some {P : Program} {w : World} {K : PySem.W.Frag} {mg : Str → Option Value} {base : Heap} (C : SaysU chk fnL pnL K) (N : Nm K mg) : Def1 P w K mg base "_law_some" 3 ps_law_some m_law_some [] := by
  obtain ⟨fd, F⟩ := C.def_ 17
  exact def1_of (fn_law_some C N F) F (glo_at N (gl_of C.chk) 9) (fun _ _ _ _ _ _ us h => by match us, h with | [_, _], _ => rfl)

abbrev fb_law_same (mself : MF) : SF := fbSame mself
theorem okb_law_same {P : Program} {w : World} {K : PySem.W.Frag} {mg : Str → Option Value} {base : Heap} {f : Addr} {cdv : Value} {A : Around} {outer : List PySem.Env} {s : Shared} {H : Hp} {E : XK} {k : Nat} (T : Tp K mg) (mself : MF) (h_law_same : Def1 P w K mg base "_law_same" (k + 1) ps_law_same mself [])
    (hr : Room (k + 1) (A.deeper (envOfC "_law_same" (defScope s_law_same) s.heap.objs.size f cdv))) (tk : Takes (bodyCx P w K mg base N_law_same "_law_same" (defScope s_law_same) f cdv A outer s H E) (wOf E)) (hp : PassesOwn (model P w) (A.deeper (envOfC "_law_same" (defScope s_law_same) s.heap.objs.size f cdv)) (envOfC "_law_same" (defScope s_law_same) s.heap.objs.size f cdv) (bodyCx P w K mg base N_law_same "_law_same" (defScope s_law_same) f cdv A outer s H E).xe) :
    SSs (bodyCx P w K mg base N_law_same "_law_same" (defScope s_law_same) f cdv A outer s H E) (wOf E) (defBody s_law_same) (fb_law_same mself) :=
  (sss_cons (ss_if (st_w (st_and (st_val (se_callB cu_isi0 T.f_isinstance (sa_cons (se_var 1) (sa_cons (se_tup (sa_cons (se_ty T.f_list) (sa_cons (se_ty T.f_tuple) sa_nil))) sa_nil)))) (st_and1 (st_val (se_callB cu_isi0 T.f_isinstance (sa_cons (se_var 0) (sa_cons (se_tup (sa_cons (se_ty T.f_list) (sa_cons (se_ty T.f_tuple) sa_nil))) sa_nil))))))) (sss_cons (ss_set 2 (se_and (se_cmp (c_eq hr.units) (se_callB cu_isi0 T.f_isinstance (sa_cons (se_var 1) (sa_cons (se_ty T.f_list) sa_nil))) (se_callB cu_isi0 T.f_isinstance (sa_cons (se_var 0) (sa_cons (se_ty T.f_list) sa_nil)))) (se_one (se_cmp (c_eq hr.units) (se_callB cu_len T.f_len (sa_cons (se_var 0) sa_nil)) (se_callB cu_len T.f_len (sa_cons (se_var 1) sa_nil))))) sc_law_same.nd)
    (sss_one (ss_ret (se_and (se_var 2) (se_one (se_callB (cu_all rfl) T.f_all (sa_cons (by exact se_comp (own := [("_law_at", 3)]) rfl sc_law_same.nd (by exact it_range1 T.f_range (sa_cons (se_callB cu_len T.f_len (sa_cons (se_var 1) sa_nil)) sa_nil)) (blkOk_by (N := N_law_same) (sc := defScope s_law_same) (by decide +kernel)) (by exact blk_mk (t := gName 3) (fun _ _ _ _ _ => by exact pg_name (i := 3) sc_law_same.nd rfl (by first | exact Or.inl rfl | exact Or.inr rfl)) (by exact gu_name 3) (fun _ _ _ _ _ => by exact ts_nil) (fun _ _ _ _ _ => by exact sf_fn h_law_same hr takes0 (sa_cons (se_ix (se_var 0) (se_var 3)) (sa_cons (se_ix (se_var 1) (se_var 3)) sa_nil))))) sa_nil))))))) sss_nil)
    (sss_cons (ss_if (st_w (st_or (st_val (se_callB cu_isi0 T.f_isinstance (sa_cons (se_var 1) (sa_cons (se_tup (sa_cons (se_ty T.f_list) (sa_cons (se_ty T.f_tuple) sa_nil))) sa_nil)))) (st_or (st_val (se_callB cu_isi0 T.f_isinstance (sa_cons (se_var 0) (sa_cons (se_tup (sa_cons (se_ty T.f_list) (sa_cons (se_ty T.f_tuple) sa_nil))) sa_nil)))) (st_or1 (st_cmp (c_ne hr.units) (se_cmp c_is (se_var 1) (se_non)) (se_cmp c_is (se_var 0) (se_non))))))) (sss_one (ss_ret (se_bl))) sss_nil)
    (sss_cons (ss_set 2 (se_and (se_cmp (c_eq hr.units) (se_callB cu_isi0 T.f_isinstance (sa_cons (se_var 1) (sa_cons (se_ty T.f_bool) sa_nil))) (se_callB cu_isi0 T.f_isinstance (sa_cons (se_var 0) (sa_cons (se_ty T.f_bool) sa_nil)))) (se_one (se_cmp (c_eq hr.units) (se_callB cu_isi0 T.f_isinstance (sa_cons (se_var 1) (sa_cons (se_ty T.f_int) sa_nil))) (se_callB cu_isi0 T.f_isinstance (sa_cons (se_var 0) (sa_cons (se_ty T.f_int) sa_nil)))))) sc_law_same.nd)
    (sss_one (ss_ret (se_and (se_var 2) (se_and (se_cmp (c_eq hr.units) (se_callB cu_isi0 T.f_isinstance (sa_cons (se_var 1) (sa_cons (se_ty T.f_str) sa_nil))) (se_callB cu_isi0 T.f_isinstance (sa_cons (se_var 0) (sa_cons (se_ty T.f_str) sa_nil)))) (se_one (se_cmp (c_eq hr.units) (se_var 0) (se_var 1))))))))))
abbrev m_law_same : Nat → MF := sameM
theorem fn_law_same {P : Program} {w : World} {K : PySem.W.Frag} {mg : Str → Option Value} {base : Heap} (C : SaysU chk fnL pnL K) (N : Nm K mg) {fd : FuncData} (F : FunD K "_law_same" "_law_same" (defArgs s_law_same) (defBody s_law_same) (defScope s_law_same) [] [] (fAd K (d_law_same).at_) fd) : ∀ k : Nat, FnU P w K mg base (k + 1) (fAd K (d_law_same).at_) fd ps_law_same (m_law_same k)
  | 0 => fn_no F sc_law_same
  | k + 1 => by
    have ih : Def1 P w K mg base "_law_same" (k + 1) ps_law_same (m_law_same k) [] := def1_of (fn_law_same C N F k) F (glo_at N (gl_of C.chk) 10) (fun _ _ _ _ _ _ us h => by match us, h with | [_, _], _ => rfl)
    exact fn_pur F sc_law_same (fb_law_same (m_law_same k)) fun cdv A outer s H E hr tk hp => okb_law_same (tp_of N C.chk) (m_law_same k) ih hr tk hp
theorem def_law_same {P : Program} {w : World} {K : PySem.W.Frag} {mg : Str → Option Value} {base : Heap} (C : SaysU chk fnL pnL K) (N : Nm K mg) (k : Nat) : Def1 P w K mg base "_law_same" (k + 1) ps_law_same (m_law_same k) [] := by
  obtain ⟨fd, F⟩ := C.def_ 18
  exact def1_of (fn_law_same C N F k) F (glo_at N (gl_of C.chk) 10) (fun _ _ _ _ _ _ us h => by match us, h with | [_, _], _ => rfl)

def fb_law_number : SF := (sRet (eAnd (eCallB oIsi0 (aCons (eVar 0) (aCons (eC (.ty "int")) aNil))) (eAnd (eNot (eCallB oIsi0 (aCons (eVar 0) (aCons (eC (.ty "bool")) aNil)))) (eChain (notB (swapB ltB)) (notB (swapB ltB)) (eVar 1) (eVar 0) (eVar 2)))))
theorem okb_law_number {P : Program} {w : World} {K : PySem.W.Frag} {mg : Str → Option Value} {base : Heap} {f : Addr} {cdv : Value} {A : Around} {outer : List PySem.Env} {s : Shared} {H : Hp} {E : XK} (T : Tp K mg)
    (hr : Room 0 (A.deeper (envOfC "_law_number" (defScope s_law_number) s.heap.objs.size f cdv))) (tk : Takes (bodyCx P w K mg base N_law_number "_law_number" (defScope s_law_number) f cdv A outer s H E) (wOf E)) (hp : PassesOwn (model P w) (A.deeper (envOfC "_law_number" (defScope s_law_number) s.heap.objs.size f cdv)) (envOfC "_law_number" (defScope s_law_number) s.heap.objs.size f cdv) (bodyCx P w K mg base N_law_number "_law_number" (defScope s_law_number) f cdv A outer s H E).xe) :
    SSs (bodyCx P w K mg base N_law_number "_law_number" (defScope s_law_number) f cdv A outer s H E) (wOf E) (defBody s_law_number) (fb_law_number) :=
  (sss_one (ss_ret (se_and (se_callB cu_isi0 T.f_isinstance (sa_cons (se_var 0) (sa_cons (se_ty T.f_int) sa_nil))) (se_and (se_not (se_callB cu_isi0 T.f_isinstance (sa_cons (se_var 0) (sa_cons (se_ty T.f_bool) sa_nil)))) (se_one (se_chain c_le c_le (se_var 1) (se_var 0) (se_var 2)))))))
def m_law_number : MF := purM 3 fb_law_number
theorem fn_law_number {P : Program} {w : World} {K : PySem.W.Frag} {mg : Str → Option Value} {base : Heap} (C : SaysU chk fnL pnL K) (N : Nm K mg) {fd : FuncData} (F : FunD K "_law_number" "_law_number" (defArgs s_law_number) (defBody s_law_number) (defScope s_law_number) [] [] (fAd K (d_law_number).at_) fd) : FnU P w K mg base 1 (fAd K (d_law_number).at_) fd ps_law_number m_law_number :=
  fn_pur F sc_law_number fb_law_number fun cdv A outer s H E hr tk hp => okb_law_number (tp_of N C.chk)  hr tk hp
theorem def_law_number {P : Program} {w : World} {K : PySem.W.Frag} {mg : Str → Option Value} {base : Heap} (C : SaysU chk fnL pnL K) (N : Nm K mg) : Def1 P w K mg base "_law_number" 1 ps_law_number m_law_number [] := by
  obtain ⟨fd, F⟩ := C.def_ 19
  exact def1_of (fn_law_number C N F) F (glo_at N (gl_of C.chk) 11) (fun _ _ _ _ _ _ us h => by match us, h with | [_, _, _], _ => rfl)

def fb_law_around : SF := (sSeq (sAsg (eSortSet (eVar 1)) (bName 3))
    (sSeq (sFor (iRange1 (aCons (eVar 2) aNil)) (bName 4) (sAsg (eSortSet (eBin oAdd (eVar 3) (eComp (iSeq (eVar 0)) (bName 5) [5] (tCmp inB (eIx (eVar 5) (eC (.int 0))) (eVar 3)) (eIx (eVar 5) (eC (.int 1)))))) (bName 3)))
    (sRet (eVar 3))))
theorem okb_law_around {P : Program} {w : World} {K : PySem.W.Frag} {mg : Str → Option Value} {base : Heap} {f : Addr} {cdv : Value} {A : Around} {outer : List PySem.Env} {s : Shared} {H : Hp} {E : XK} (T : Tp K mg)
    (hr : Room 0 (A.deeper (envOfC "_law_around" (defScope s_law_around) s.heap.objs.size f cdv))) (tk : Takes (bodyCx P w K mg base N_law_around "_law_around" (defScope s_law_around) f cdv A outer s H E) (wOf E)) (hp : PassesOwn (model P w) (A.deeper (envOfC "_law_around" (defScope s_law_around) s.heap.objs.size f cdv)) (envOfC "_law_around" (defScope s_law_around) s.heap.objs.size f cdv) (bodyCx P w K mg base N_law_around "_law_around" (defScope s_law_around) f cdv A outer s H E).xe) :
    SSs (bodyCx P w K mg base N_law_around "_law_around" (defScope s_law_around) f cdv A outer s H E) (wOf E) (defBody s_law_around) (fb_law_around) :=
  (sss_cons (ss_set 3 (se_sortSet T.f_sorted T.f_set (se_var 1)) sc_law_around.nd)
    (sss_cons (ss_for hp rfl (it_range1 T.f_range (sa_cons (se_var 2) sa_nil)) (bu_name 4 sc_law_around.nd) (sss_one (ss_set 3 (se_sortSet T.f_sorted T.f_set (se_bin b_add (se_var 3) (by exact se_comp (own := [("_law_change", 5)]) rfl sc_law_around.nd (by exact it_seq (se_var 0)) (blkOk_by (N := N_law_around) (sc := defScope s_law_around) (by decide +kernel)) (by exact blk_mk (t := gName 5) (fun _ _ _ _ _ => by exact pg_name (i := 5) sc_law_around.nd rfl (by first | exact Or.inl rfl | exact Or.inr rfl)) (by exact gu_name 5) (fun _ _ _ _ _ => by exact ts_one (st_cmp c_in (se_ix (se_var 5) (se_int)) (se_var 3))) (fun _ _ _ _ _ => by exact se_ix (se_var 5) (se_int)))))) sc_law_around.nd)))
    (sss_one (ss_ret (se_var 3)))))
def m_law_around : MF := purM 6 fb_law_around
theorem fn_law_around {P : Program} {w : World} {K : PySem.W.Frag} {mg : Str → Option Value} {base : Heap} (C : SaysU chk fnL pnL K) (N : Nm K mg) {fd : FuncData} (F : FunD K "_law_around" "_law_around" (defArgs s_law_around) (defBody s_law_around) (defScope s_law_around) [] [] (fAd K (d_law_around).at_) fd) : FnU P w K mg base 1 (fAd K (d_law_around).at_) fd ps_law_around m_law_around :=
  fn_pur F sc_law_around fb_law_around fun cdv A outer s H E hr tk hp => okb_law_around (tp_of N C.chk)  hr tk hp
theorem def_law_around {P : Program} {w : World} {K : PySem.W.Frag} {mg : Str → Option Value} {base : Heap} (C : SaysU chk fnL pnL K) (N : Nm K mg) : Def1 P w K mg base "_law_around" 1 ps_law_around m_law_around [] := by
  obtain ⟨fd, F⟩ := C.def_ 20
  exact def1_of (fn_law_around C N F) F (glo_at N (gl_of C.chk) 12) (fun _ _ _ _ _ _ us h => by match us, h with | [_, _, _], _ => rfl)

def fb_law : SF := (sSeq (sAsg (eCallF 1 m_law_bag [] (aCons (eVar 0) aNil)) (bName 1))
    (sSeq (sFor (iRange1 (aCons (eC (.int 6)) aNil)) (bName 2) (sSeq (sAsg (eCallF 2 m_law_states [] (aCons (eVar 1) (aCons (eC (.int 5)) aNil))) (bName 3))
    (sSeq (sAsg (eComp (iRange1 (aCons (eCallF 2 m_law_draw [] (aCons (eVar 1) (aCons (eC (.int 5)) aNil))) aNil)) (bName 13) [13] tYesB (eTup (aCons (eCallF 2 m_law_pick [] (aCons (eVar 1) (aCons (eVar 3) aNil))) (aCons (eCallF 2 m_law_pick [] (aCons (eVar 1) (aCons (eVar 3) aNil))) (aCons (eCmp eqB (eCallF 2 m_law_draw [] (aCons (eVar 1) (aCons (eC (.int 2)) aNil))) (eC (.int 0))) aNil))))) (bName 4))
    (sSeq (sAsg (eTup (aCons (eCallF 1 m_law_rules [] (aCons (eVar 4) aNil)) (aCons (eCallF 2 m_law_some [] (aCons (eVar 1) (aCons (eVar 3) aNil))) (aCons (eCallF 2 m_law_some [] (aCons (eVar 1) (aCons (eVar 3) aNil))) aNil)))) (bTup 3 (bCons (bName 8) (bCons (bName 9) (bCons (bName 10) bNil)))))
    (sSeq (sAsg (eMeth isStr mJoin (eC (.str "")) (aCons (eCallF 3 m_law_around [] (aCons (eVar 4) (aCons (eVar 9) (aCons (eC (.int 6)) aNil)))) aNil)) (bName 5))
    (sSeq (sIf (tNotB (tVal (eCallF 2 (m_law_same 6) [] (aCons (eLst (aCons (eMethC "Rules" "led" 2 m_rules_led [] (eVar 8) (aCons (eVar 9) aNil)) (aCons (eMethK "Rules" "led" 2 1 m_rules_led kc_rules_led_0_states (eVar 8) (aCons (eVar 9) aNil)) (aCons (eMethC "Rules" "led" 2 m_rules_led [] (eVar 8) (aCons (eC (.str "")) aNil)) aNil)))) (aCons (eLst (aCons (eVar 5) (aCons (eVar 5) (aCons (eC (.str "")) aNil)))) aNil))))) (sRet (eC (.bl false))) sNext)
    (sSeq (sAsg (eMethC "Rules" "chain" 3 m_rules_chain [] (eVar 8) (aCons (eVar 9) (aCons (eVar 10) aNil))) (bName 6))
    (sSeq (sAsg (eComp (iRange1 (aCons (eC (.int 7)) aNil)) (bName 14) [14] (tCmp (notB eqB) (eComp (iSeq (eCallF 3 m_law_around [] (aCons (eVar 4) (aCons (eVar 9) (aCons (eVar 14) aNil))))) (bName 15) [15] (tCmp inB (eVar 15) (eVar 10)) (eVar 15)) (eLst aNil)) (eVar 14)) (bName 7))
    (sSeq (sIf (tOrB (tCmp (notB eqB) (eCmp isB (eVar 6) (eC .non)) (eCmp eqB (eVar 7) (eLst aNil))) (tCmp (notB eqB) (eVar 6) (eMethK "Rules" "chain" 3 2 m_rules_chain kc_rules_chain_0_goals_starts (eVar 8) (aCons (eVar 10) (aCons (eVar 9) aNil))))) (sRet (eC (.bl false))) sNext)
    (sIf (tCmp (notB isB) (eVar 6) (eC .non)) (sSeq (sIf (tOrB (tNotB (tVal (eCallB oIsi0 (aCons (eVar 6) (aCons (eC (.ty "list")) aNil))))) (tCmp (notB eqB) (eCallB oLen (aCons (eVar 6) aNil)) (eIx (eVar 7) (eC (.int 0))))) (sRet (eC (.bl false))) sNext)
    (sSeq (sAsg (eCallB (orL oListOf oListOfT) (aCons (eVar 9) aNil)) (bName 11))
    (sSeq (sFor (iSeq (eVar 6)) (bName 12) (sSeq (sIf (tOrB (tNotB (tVal (eCallF 3 m_law_number [] (aCons (eVar 12) (aCons (eC (.int 0)) (aCons (eBin oSub (eCallB oLen (aCons (eVar 4) aNil)) (eC (.int 1))) aNil)))))) (tCmp (notB inB) (eIx (eIx (eVar 4) (eVar 12)) (eC (.int 0))) (eVar 11))) (sRet (eC (.bl false))) sNext)
    (sAsg (eLst (aCons (eIx (eIx (eVar 4) (eVar 12)) (eC (.int 1))) aNil)) (bName 11))))
    (sIf (tCmp eqB (eComp (iSeq (eVar 11)) (bName 15) [15] (tCmp inB (eVar 15) (eVar 10)) (eVar 15)) (eLst aNil)) (sRet (eC (.bl false))) sNext)))) sNext))))))))))
    (sRet (eAnd (eCmp eqB (eMethC "Rules" "chain" 3 m_rules_chain [] (eSettle (eMakeR "Rules" 0 m_rules_init (aCons (eTup (aCons (eC (.str "a")) (aCons (eC (.str "b")) (aCons (eC (.bl true)) aNil)))) (aCons (eTup (aCons (eC (.str "b")) (aCons (eC (.str "c")) (aCons (eC (.bl false)) aNil)))) aNil)))) (aCons (eC (.str "a")) (aCons (eC (.str "c")) aNil))) (eLst (aCons (eC (.int 0)) (aCons (eC (.int 1)) aNil)))) (eCmp isB (eMethC "Rules" "chain" 3 m_rules_chain [] (eSettle (eMakeR "Rules" 0 m_rules_init aNil)) (aCons (eC (.str "a")) (aCons (eC (.str "b")) aNil))) (eC .non))))))
theorem okb_law {P : Program} {w : World} {K : PySem.W.Frag} {mg : Str → Option Value} {base : Heap} {f : Addr} {cdv : Value} {A : Around} {outer : List PySem.Env} {s : Shared} {H : Hp} {E : XK} (T : Tp K mg) (h_law_bag : Def1 P w K mg base "_law_bag" 1 ps_law_bag m_law_bag []) (h_law_states : Def1 P w K mg base "_law_states" 2 ps_law_states m_law_states []) (h_law_draw : Def1 P w K mg base "_law_draw" 1 ps_law_draw m_law_draw []) (h_law_pick : Def1 P w K mg base "_law_pick" 2 ps_law_pick m_law_pick []) (h_law_rules : Def1 P w K mg base "_law_rules" 5 ps_law_rules m_law_rules []) (h_law_some : Def1 P w K mg base "_law_some" 3 ps_law_some m_law_some []) (h_law_around : Def1 P w K mg base "_law_around" 1 ps_law_around m_law_around []) (hm_rules_led : DefM P w K mg base "Rules" "led" 1 ps_rules_led m_rules_led []) (hmk_rules_led_0_states : DefMK P w K mg base "Rules" "led" 1 ps_rules_led m_rules_led 0 ["states"] kc_rules_led_0_states) (h_law_same : Def1 P w K mg base "_law_same" 7 ps_law_same (m_law_same 6) []) (hm_rules_chain : DefM P w K mg base "Rules" "chain" 1 ps_rules_chain m_rules_chain []) (hmk_rules_chain_0_goals_starts : DefMK P w K mg base "Rules" "chain" 1 ps_rules_chain m_rules_chain 0 ["goals", "starts"] kc_rules_chain_0_goals_starts) (h_law_number : Def1 P w K mg base "_law_number" 1 ps_law_number m_law_number []) (hr_rules_init : DefR P w K mg base "Rules" 3 0 m_rules_init)
    (hr : Room 7 (A.deeper (envOfC "law" (defScope s_law) s.heap.objs.size f cdv))) (tk : Takes (bodyCx P w K mg base N_law "law" (defScope s_law) f cdv A outer s H E) (wOf E)) (hp : PassesOwn (model P w) (A.deeper (envOfC "law" (defScope s_law) s.heap.objs.size f cdv)) (envOfC "law" (defScope s_law) s.heap.objs.size f cdv) (bodyCx P w K mg base N_law "law" (defScope s_law) f cdv A outer s H E).xe) :
    SSs (bodyCx P w K mg base N_law "law" (defScope s_law) f cdv A outer s H E) (wOf E) (defBody s_law) (fb_law) :=
  (sss_cons (ss_set 1 (sf_fn h_law_bag (hr.mono (by decide)) tk (sa_cons (se_var 0) sa_nil)) sc_law.nd)
    (sss_cons (ss_for hp rfl (it_range1 T.f_range (sa_cons (se_int) sa_nil)) (bu_name 2 sc_law.nd) (sss_cons (ss_set 3 (sf_fn h_law_states (hr.mono (by decide)) tk (sa_cons (se_var 1) (sa_cons (se_int) sa_nil))) sc_law.nd)
    (sss_cons (ss_set 4 (by exact se_comp (own := [("_law_k", 13)]) rfl sc_law.nd (by exact it_range1 T.f_range (sa_cons (sf_fn h_law_draw (hr.mono (by decide)) tk (sa_cons (se_var 1) (sa_cons (se_int) sa_nil))) sa_nil)) (blkOk_by (N := N_law) (sc := defScope s_law) (by decide +kernel)) (by exact blk_mk (t := gName 13) (fun _ _ _ _ _ => by exact pg_name (i := 13) sc_law.nd rfl (by first | exact Or.inl rfl | exact Or.inr rfl)) (by exact gu_name 13) (fun _ _ _ _ _ => by exact ts_nil) (fun _ _ _ _ _ => by exact se_tup (sa_cons (sf_fn h_law_pick (hr.mono (by decide)) takes0 (sa_cons (se_var 1) (sa_cons (se_var 3) sa_nil))) (sa_cons (sf_fn h_law_pick (hr.mono (by decide)) takes0 (sa_cons (se_var 1) (sa_cons (se_var 3) sa_nil))) (sa_cons (se_cmp (c_eq hr.units) (sf_fn h_law_draw (hr.mono (by decide)) takes0 (sa_cons (se_var 1) (sa_cons (se_int) sa_nil))) (se_int)) sa_nil)))))) sc_law.nd)
    (sss_cons (ss_asg (se_tup (sa_cons (sf_fn h_law_rules (hr.mono (by decide)) tk (sa_cons (se_var 4) sa_nil)) (sa_cons (sf_fn h_law_some (hr.mono (by decide)) tk (sa_cons (se_var 1) (sa_cons (se_var 3) sa_nil))) (sa_cons (sf_fn h_law_some (hr.mono (by decide)) tk (sa_cons (se_var 1) (sa_cons (se_var 3) sa_nil))) sa_nil)))) (bu_tup rfl (bus_cons (bu_name 8 sc_law.nd) (bus_cons (bu_name 9 sc_law.nd) (bus_cons (bu_name 10 sc_law.nd) bus_nil)))))
    (sss_cons (ss_set 5 (se_meth mu_join (se_str) (sa_cons (sf_fn h_law_around (hr.mono (by decide)) tk (sa_cons (se_var 4) (sa_cons (se_var 9) (sa_cons (se_int) sa_nil)))) sa_nil)) sc_law.nd)
    (sss_cons (ss_if (st_not (st_val (sf_fn h_law_same (hr.mono (by decide)) tk (sa_cons (se_lst (sa_cons (se_methC hm_rules_led (hr.mono (by decide)) tk (se_var 8) (sa_cons (se_var 9) sa_nil)) (sa_cons (se_methK hmk_rules_led_0_states (hr.mono (by decide)) tk (se_var 8) (sk_cons (se_var 9) sk_nil)) (sa_cons (se_methC hm_rules_led (hr.mono (by decide)) tk (se_var 8) (sa_cons (se_str) sa_nil)) sa_nil)))) (sa_cons (se_lst (sa_cons (se_var 5) (sa_cons (se_var 5) (sa_cons (se_str) sa_nil)))) sa_nil))))) (sss_one (ss_ret (se_bl))) sss_nil)
    (sss_cons (ss_set 6 (se_methC hm_rules_chain (hr.mono (by decide)) tk (se_var 8) (sa_cons (se_var 9) (sa_cons (se_var 10) sa_nil))) sc_law.nd)
    (sss_cons (ss_setLc 7 (own := [("_law_count", 14)]) rfl sc_law.nd (by exact it_range1 T.f_range (sa_cons (se_int) sa_nil)) (blkOk_by (N := N_law) (sc := defScope s_law) (by decide +kernel)) (by exact blk_mk (t := gName 14) (fun _ _ _ _ _ => by exact pg_name (i := 14) sc_law.nd rfl (by first | exact Or.inl rfl | exact Or.inr rfl)) (by exact gu_name 14) (fun _ _ _ _ _ => by exact ts_one (st_cmp (c_ne hr.units) (by exact se_comp (own := [("_law_letter", 15)]) rfl sc_law.nd (by exact it_seq (sf_fn h_law_around (hr.mono (by decide)) takes0 (sa_cons (se_var 4) (sa_cons (se_var 9) (sa_cons (se_var 14) sa_nil))))) (by exact blkOk_by (N := N_law) (by kernel_rfl)) (by exact blk_mk (t := gName 15) (fun _ _ _ _ _ => by exact pg_name (i := 15) sc_law.nd rfl (by first | exact Or.inl rfl | exact Or.inr rfl)) (by exact gu_name 15) (fun _ _ _ _ _ => by exact ts_one (st_cmp c_in (se_var 15) (se_var 10))) (fun _ _ _ _ _ => by exact se_var 15))) (se_lst sa_nil))) (fun _ _ _ _ _ => by exact se_var 14)))
    (sss_cons (ss_if (st_w (st_or (st_cmp (c_ne hr.units) (se_cmp c_is (se_var 6) (se_non)) (se_cmp (c_eq hr.units) (se_var 7) (se_lst sa_nil))) (st_or1 (st_cmp (c_ne hr.units) (se_var 6) (se_methK hmk_rules_chain_0_goals_starts (hr.mono (by decide)) tk (se_var 8) (sk_cons (se_var 10) (sk_cons (se_var 9) sk_nil))))))) (sss_one (ss_ret (se_bl))) sss_nil)
    (sss_one (ss_if (st_cmp c_isnot (se_var 6) (se_non)) (sss_cons (ss_if (st_w (st_or (st_not (st_val (se_callB cu_isi0 T.f_isinstance (sa_cons (se_var 6) (sa_cons (se_ty T.f_list) sa_nil))))) (st_or1 (st_cmp (c_ne hr.units) (se_callB cu_len T.f_len (sa_cons (se_var 6) sa_nil)) (se_ix (se_var 7) (se_int)))))) (sss_one (ss_ret (se_bl))) sss_nil)
    (sss_cons (ss_set 11 (se_callTy (cu_list.or (cu_listT rfl)) T.f_list (sa_cons (se_var 9) sa_nil)) sc_law.nd)
    (sss_cons (ss_for hp rfl (it_seq (se_var 6)) (bu_name 12 sc_law.nd) (sss_cons (ss_if (st_w (st_or (st_not (st_val (sf_fn h_law_number (hr.mono (by decide)) tk (sa_cons (se_var 12) (sa_cons (se_int) (sa_cons (se_bin b_sub (se_callB cu_len T.f_len (sa_cons (se_var 4) sa_nil)) (se_int)) sa_nil)))))) (st_or1 (st_cmp c_notin (se_ix (se_ix (se_var 4) (se_var 12)) (se_int)) (se_var 11))))) (sss_one (ss_ret (se_bl))) sss_nil)
    (sss_one (ss_set 11 (se_lst (sa_cons (se_ix (se_ix (se_var 4) (se_var 12)) (se_int)) sa_nil)) sc_law.nd))))
    (sss_one (ss_if (st_cmp (c_eq hr.units) (by exact se_comp (own := [("_law_letter", 15)]) rfl sc_law.nd (by exact it_seq (se_var 11)) (blkOk_by (N := N_law) (sc := defScope s_law) (by decide +kernel)) (by exact blk_mk (t := gName 15) (fun _ _ _ _ _ => by exact pg_name (i := 15) sc_law.nd rfl (by first | exact Or.inl rfl | exact Or.inr rfl)) (by exact gu_name 15) (fun _ _ _ _ _ => by exact ts_one (st_cmp c_in (se_var 15) (se_var 10))) (fun _ _ _ _ _ => by exact se_var 15))) (se_lst sa_nil)) (sss_one (ss_ret (se_bl))) sss_nil))))) sss_nil)))))))))))
    (sss_one (ss_ret (se_and (se_cmp (c_eq hr.units) (se_methC hm_rules_chain (hr.mono (by decide)) tk (se_settle (se_makeR hr_rules_init (hr.mono (by decide)) tk (sa_cons (se_tup (sa_cons (se_str) (sa_cons (se_str) (sa_cons (se_bl) sa_nil)))) (sa_cons (se_tup (sa_cons (se_str) (sa_cons (se_str) (sa_cons (se_bl) sa_nil)))) sa_nil)))) (sa_cons (se_str) (sa_cons (se_str) sa_nil))) (se_lst (sa_cons (se_int) (sa_cons (se_int) sa_nil)))) (se_one (se_cmp c_is (se_methC hm_rules_chain (hr.mono (by decide)) tk (se_settle (se_makeR0 hr_rules_init (hr.mono (by decide)) tk)) (sa_cons (se_str) (sa_cons (se_str) sa_nil))) (se_non))))))))
def m_law : MF := rawM 16 fb_law
theorem fn_law {P : Program} {w : World} {K : PySem.W.Frag} {mg : Str → Option Value} {base : Heap} (C : SaysU chk fnL pnL K) (N : Nm K mg) {fd : FuncData} (F : FunD K "law" "law" (defArgs s_law) (defBody s_law) (defScope s_law) [] [] (fAd K (d_law).at_) fd) : FnU P w K mg base 8 (fAd K (d_law).at_) fd ps_law m_law :=
  fn_raw F sc_law fb_law fun cdv A outer s H E hr tk hp => okb_law (tp_of N C.chk) (def_law_bag C N) (def_law_states C N) (def_law_draw C N) (def_law_pick C N) (def_law_rules C N) (def_law_some C N) (def_law_around C N) (defm_rules_led C N) (defmk_rules_led_0_states C N) (def_law_same C N 6) (defm_rules_chain C N) (defmk_rules_chain_0_goals_starts C N) (def_law_number C N) (defr_rules_init C N) hr tk hp
theorem def_law {P : Program} {w : World} {K : PySem.W.Frag} {mg : Str → Option Value} {base : Heap} (C : SaysU chk fnL pnL K) (N : Nm K mg) : Def1 P w K mg base "law" 8 ps_law m_law [] := by
  obtain ⟨fd, F⟩ := C.def_ 21
  exact def1_of (fn_law C N F) F (glo_at N (gl_of C.chk) 13) (fun _ _ _ _ _ _ us h => by match us, h with | [_], _ => rfl)
/-! ### small rules -/
theorem pur_nx {n : Nat} {fb : SF} {ds : List D} {S : Sto} (hb : bndL 0 ds = true) (h : wp (fb (startE n ds) []) (fun a _ _ => a = .nx) fun _ _ _ => False) : purM n fb ds S = .ok .non S := by
  unfold purM pureM purF
  rw [if_pos hb]
  cases q : fb (startE n ds) [] with
  | ok a r S1 =>
    rw [q] at h
    cases (show a = .nx from h)
    simp only [endOf, cleanF]
    have e : fz 0 S1 60 .non = .non := rfl
    rw [e]
    rfl
  | er x r S1 => rw [q] at h; exact h.elim
  | no => rw [q] at h; exact h.elim
theorem allT_map {α : Type} {xs : List α} {S : Sto} : oAll S [.lst (xs.map fun _ => D.bl true)] = some (.bl true) := by
  rw [List.map_const']; exact oAll_true
theorem lt_big {n : Nat} (h : n ≤ 1000000) : n < sizeLine := Nat.lt_of_lt_of_le (m := 4000000) (by omega) sz_big
theorem sum_le {m : Nat} : ∀ {xs : List (List Nat)}, (∀ x ∈ xs, x.length ≤ m) → (xs.map (·.length)).sum ≤ xs.length * m
  | [], _ => by simp
  | x :: xs, h => by
    have h1 := h x (List.mem_cons_self ..)
    have h2 := sum_le (xs := xs) fun z hz => h z (List.mem_cons_of_mem _ hz)
    simp only [List.map_cons, List.sum_cons, List.length_cons, Nat.add_mul]
    omega
/-- few short texts are joined -/
theorem join_small {S : Sto} {s : List Nat} {xs : List (List Nat)} {d : D} (hd : seqOf S d = some (xs.map fun x => .str (txt x))) (h : ∀ x ∈ xs, x.length ≤ 1000) (hx : xs.length ≤ 1000) (hs : s.length ≤ 10) : mJoin S (.str (txt s)) [d] = some (.str (txt (joinL s xs)), S) := by
  refine mJoin_txt hd ?_
  have h1 := sum_le h
  have h2 : xs.length * s.length ≤ xs.length * 10 := Nat.mul_le_mul_left _ hs
  omega
theorem anyT_map {α : Type} {xs : List α} {S : Sto} {f : α → Bool} : oAny S [.lst (xs.map fun a => D.bl (f a))] = some (.bl (xs.any f)) := by
  have : blsD (xs.map fun a => D.bl (f a)) = some (xs.map f) := by
    induction xs with
    | nil => rfl
    | cons x xs ih => simp only [List.map_cons, blsD, ih, Option.map_some]
  show ((some (xs.map fun a => D.bl (f a))).bind blsD).map (fun bs => D.bl (bs.any id)) = _
  simp only [Option.bind_some, this, Option.map_some, List.any_map]
  rfl
theorem any_false {α : Type} {xs : List α} {f : α → Bool} (h : ∀ x ∈ xs, f x = false) : xs.any f = false := by
  rw [List.any_eq_false]
  intro x hx
  rw [h x hx]
  decide
/-- a number's text -/
def numS (n : Nat) : Str := toString (n : Int)
def numL (n : Nat) : List Nat := (numS n).cps.toList
theorem numS_eq {n : Nat} : numS n = txt (numL n) := txt_eta _
theorem num100 : ∀ n : Fin 101, (numL n.val).length ≤ 3 ∧ (numL n.val).all (fun c => decide (48 ≤ c) && decide (c < 58)) = true := by decide +kernel
theorem num_len {n : Nat} (h : n ≤ 100) : (numL n).length ≤ 3 := (num100 ⟨n, by omega⟩).1
theorem oStr_num {S : Sto} {n : Nat} (h : n ≤ 1000000) : oStrOf S [.int n] = some (.str (txt (numL n))) := by
  rw [← numS_eq]
  have : ((n : Int).natAbs.log2 < 1920) := log2_lt (i := (n : Int)) (k := 1920) (by omega) (by
    have : (2 : Int) ^ 20 ≤ 2 ^ 1920 := by decide +kernel
    omega)
  show (if (n : Int).natAbs.log2 < 1920 then some (D.str (toString (n : Int))) else none) = _
  rw [if_pos this]
  rfl
theorem join_len {s : List Nat} {m : Nat} : ∀ {xs : List (List Nat)}, (∀ x ∈ xs, x.length ≤ m) → (joinL s xs).length ≤ xs.length * (m + s.length)
  | [], _ => by simp [joinL]
  | [x], h => by
    have := h x (List.mem_cons_self ..)
    simp [joinL]; omega
  | x :: y :: r, h => by
    have h1 := h x (List.mem_cons_self ..)
    have h2 := join_len (s := s) (m := m) (xs := y :: r) fun z hz => h z (List.mem_cons_of_mem _ hz)
    show (x ++ s ++ joinL s (y :: r)).length ≤ ((y :: r).length + 1) * (m + s.length)
    rw [Nat.add_mul]
    simp only [List.length_append]
    omega
/-- what it gives was made in the call -/
theorem pur_fz {n : Nat} {fb : SF} {ds : List D} {S : Sto} {d : D} (hd : bnd 0 d = true) (hb : bndL 0 ds = true) (h : wp (fb (startE n ds) []) (fun a _ T => ∃ x, a = .rt x ∧ fz 0 T 60 x = d) fun _ _ _ => False) : purM n fb ds S = .ok d S := by
  unfold purM pureM purF
  rw [if_pos hb]
  cases q : fb (startE n ds) [] with
  | ok a r S1 =>
    rw [q] at h
    obtain ⟨x, rfl, e⟩ := (show ∃ x, a = .rt x ∧ fz 0 S1 60 x = d from h)
    simp only [endOf, cleanF]
    rw [e]
    simp [hd, outF]
  | er x r S1 => rw [q] at h; exact h.elim
  | no => rw [q] at h; exact h.elim
theorem fz_list0 {xs : List D} (h : bndL 0 xs = true) : fz 0 [.lst xs] 60 (.ref 0) = .lst xs := by
  have e : fz 0 [AO.lst xs] 60 (.ref 0) = .lst (xs.map (fz 0 [AO.lst xs] 59)) := by
    simp only [fz, Nat.lt_irrefl, if_false]
    rfl
  rw [e]
  congr 1
  conv => rhs; rw [← List.map_id xs]
  exact List.map_congr_left fun x hx => fz_id 59 x (bndL_all.mp h x hx)
theorem flat_len {α β : Type} {f : α → List β} {m : Nat} : ∀ {l : List α}, (∀ x ∈ l, (f x).length ≤ m) → (l.flatMap f).length ≤ l.length * m
  | [], _ => by simp
  | x :: l, h => by
    have h1 := h x (List.mem_cons_self ..)
    have h2 := flat_len (l := l) fun y hy => h y (List.mem_cons_of_mem _ hy)
    simp only [List.flatMap_cons, List.length_append, List.length_cons, Nat.add_mul]
    omega
theorem mem_joinL {s : List Nat} {c : Nat} : ∀ {xs : List (List Nat)}, c ∈ joinL s xs → c ∈ s ∨ ∃ x ∈ xs, c ∈ x
  | [], h => by simp [joinL] at h
  | [x], h => .inr ⟨x, by simp, h⟩
  | x :: y :: r, h => by
    have h' : c ∈ x ++ s ++ joinL s (y :: r) := h
    rcases List.mem_append.mp h' with h' | h'
    · rcases List.mem_append.mp h' with h' | h'
      · exact .inr ⟨x, by simp, h'⟩
      · exact .inl h'
    · rcases mem_joinL h' with h' | ⟨z, hz, h'⟩
      · exact .inl h'
      · exact .inr ⟨z, List.mem_cons_of_mem _ hz, h'⟩
/-! ### == of data -/
mutual
def eqvD : D → D → Bool
  | .non, y => (match y with
    | .non => true
    | _ => false)
  | .bl a, y => (match y with
    | .bl b => a == b
    | .int j => (if a then 1 else 0) == j
    | _ => false)
  | .int i, y => (match y with
    | .bl b => i == (if b then 1 else 0)
    | .int j => i == j
    | _ => false)
  | .str a, y => (match y with
    | .str b => a == b
    | _ => false)
  | .tup xs, y => (match y with
    | .tup ys => eqvDs xs ys
    | _ => false)
  | .lst xs, y => (match y with
    | .lst ys => eqvDs xs ys
    | .fz ys => eqvDs xs ys
    | _ => false)
  | .fz xs, y => (match y with
    | .lst ys => eqvDs xs ys
    | .fz ys => eqvDs xs ys
    | _ => false)
  | _, _ => false
def eqvDs : List D → List D → Bool
  | [], ys => ys.isEmpty
  | x :: xs, ys => (match ys with
    | y :: ys => eqvD x y && eqvDs xs ys
    | [] => false)
end
theorem eqv_pys {k : Nat} (ih : ∀ x y p q, dataB k x = true → dataB k y = true → pyD x = some p → pyD y = some q → PyData.eqv p q = eqvD x y) : ∀ (xs ys : List D) (ps qs : List PyData), xs.all (dataB k) = true → ys.all (dataB k) = true → pyDs xs = some ps → pyDs ys = some qs → PyData.eqvAll ps qs = eqvDs xs ys
  | [], [], ps, qs, _, _, h1, h2 => by cases h1; cases h2; simp [PyData.eqvAll, eqvDs]
  | [], y :: ys, ps, qs, _, _, h1, h2 => by
    cases h1
    simp only [pyDs] at h2
    split at h2
    · cases h2; simp [PyData.eqvAll, eqvDs]
    · cases h2
  | x :: xs, [], ps, qs, _, _, h1, h2 => by
    cases h2
    simp only [pyDs] at h1
    split at h1
    · cases h1; simp [PyData.eqvAll, eqvDs]
    · cases h1
  | x :: xs, y :: ys, ps, qs, d1, d2, h1, h2 => by
    simp only [List.all_cons, Bool.and_eq_true] at d1 d2
    simp only [pyDs] at h1 h2
    split at h1
    · split at h2
      · rename_i a b e1 e2 _ _ c d e3 e4
        cases h1; cases h2
        simp only [PyData.eqvAll, eqvDs, ih x y a c d1.1 d2.1 e1 e3, eqv_pys ih xs ys b d d1.2 d2.2 e2 e4]
      · cases h2
    · cases h1
theorem eqv_py : ∀ (k : Nat) (x y : D) (p q : PyData), dataB k x = true → dataB k y = true → pyD x = some p → pyD y = some q → PyData.eqv p q = eqvD x y := by
  intro k
  induction k with
  | zero =>
    intro x y p q h1 h2 e1 e2
    cases x <;> (try (simp [dataB] at h1; done)) <;> cases y <;> (try (simp [dataB] at h2; done)) <;> (cases e1; cases e2; simp [PyData.eqv, eqvD])
  | succ k ih =>
    intro x y p q h1 h2 e1 e2
    cases x <;> (try (simp [dataB] at h1; done)) <;> cases y <;> (try (simp [dataB] at h2; done)) <;> simp only [pyD, Option.map_eq_some_iff, Option.some.injEq] at e1 e2
    all_goals first
      | (subst e1; subst e2; simp [PyData.eqv, eqvD]; done)
      | (obtain ⟨ps, f1, rfl⟩ := e1; subst e2; simp [PyData.eqv, eqvD]; done)
      | (subst e1; obtain ⟨ps, f1, rfl⟩ := e2; simp [PyData.eqv, eqvD]; done)
      | (obtain ⟨ps, f1, rfl⟩ := e1; obtain ⟨qs, f2, rfl⟩ := e2; simp only [dataB] at h1 h2; first | (simp only [PyData.eqv, eqvD]; exact eqv_pys ih _ _ _ _ h1 h2 f1 f2) | (simp only [PyData.eqv, eqvD]; done))
theorem pyV_data {S : Sto} {x : D} (h : dataB 60 x = true) : pyV S x = pyD x := by
  cases x <;> first
    | rfl
    | (simp [dataB] at h)
/-- == of data -/
theorem eqB_data {S : Sto} {x y : D} (hx : dataB 60 x = true) (hy : dataB 60 y = true) : eqB S x y = some (eqvD x y) := by
  obtain ⟨p, a1, a2, a3⟩ := pyD_data 60 x hx
  obtain ⟨q, b1, b2, b3⟩ := pyD_data 60 y hy
  have key : eqPB S x y = some (eqvD x y) := by
    simp only [eqPB, pyV_data hx, pyV_data hy, a1, b1, if_pos (And.intro (shaped_of a2 (by omega)) (shaped_of b2 (by omega))), eqv_py 60 x y p q hx hy a1 b1]
  unfold eqB orB
  cases e : eqFB S x y with
  | none => exact key
  | some b =>
    simp only
    congr 1
    unfold eqFB at e
    cases x <;> simp only [flatD, reduceCtorEq] at e <;> cases y <;> simp only [flatD, reduceCtorEq] at e
    all_goals (split at e <;> simp only [Option.some.injEq, reduceCtorEq] at e)
    all_goals first
      | (subst e; simp [eqvD]; done)
      | (subst e; simp [eqvD]; rename_i a b h; first | (cases a <;> cases b <;> rfl) | (by_cases q : a = b <;> simp [q]))
      | (rename_i h; simp [scal] at h)
theorem neB_data {S : Sto} {x y : D} (hx : dataB 60 x = true) (hy : dataB 60 y = true) : notB eqB S x y = some (!eqvD x y) := by
  unfold notB
  rw [eqB_data hx hy]; rfl
mutual
/-- no truth value where the other one has a number -/
def nmix : D → D → Bool
  | .bl _, y => (match y with
    | .int _ => false
    | _ => true)
  | .int _, y => (match y with
    | .bl _ => false
    | _ => true)
  | .tup xs, y => (match y with
    | .tup ys => nmixs xs ys
    | _ => true)
  | .lst xs, y => (match y with
    | .lst ys => nmixs xs ys
    | .fz ys => nmixs xs ys
    | _ => true)
  | .fz xs, y => (match y with
    | .lst ys => nmixs xs ys
    | .fz ys => nmixs xs ys
    | _ => true)
  | _, _ => true
def nmixs : List D → List D → Bool
  | [], _ => true
  | x :: xs, ys => (match ys with
    | y :: ys => nmix x y && nmixs xs ys
    | [] => true)
end
theorem eqvs_iff {k : Nat} (ih : ∀ x y, dataB k x = true → dataB k y = true → nmix x y = true → (eqvD x y = true ↔ lz x = lz y)) : ∀ xs ys : List D, xs.all (dataB k) = true → ys.all (dataB k) = true → nmixs xs ys = true → (eqvDs xs ys = true ↔ xs.map lz = ys.map lz)
  | [], [], _, _, _ => by simp [eqvDs]
  | [], y :: ys, _, _, _ => by simp [eqvDs]
  | x :: xs, [], _, _, _ => by simp [eqvDs]
  | x :: xs, y :: ys, d1, d2, m => by
    simp only [List.all_cons, Bool.and_eq_true] at d1 d2
    simp only [nmixs, Bool.and_eq_true] at m
    simp only [eqvDs, Bool.and_eq_true, ih x y d1.1 d2.1 m.1, eqvs_iff ih xs ys d1.2 d2.2 m.2, List.map_cons, List.cons.injEq]
theorem eqv_iff : ∀ (k : Nat) (x y : D), dataB k x = true → dataB k y = true → nmix x y = true → (eqvD x y = true ↔ lz x = lz y) := by
  intro k
  induction k with
  | zero =>
    intro x y h1 h2 m
    cases x <;> (try (simp [dataB] at h1; done)) <;> cases y <;> (try (simp [dataB] at h2; done)) <;> (try (simp [nmix] at m; done)) <;> simp [eqvD, lz]
  | succ k ih =>
    intro x y h1 h2 m
    cases x <;> (try (simp [dataB] at h1; done)) <;> cases y <;> (try (simp [dataB] at h2; done)) <;> (try (simp [nmix] at m; done))
    all_goals first
      | (simp [eqvD, lz]; done)
      | (simp only [dataB] at h1 h2; simp only [nmix] at m; simp only [eqvD, lz, D.tup.injEq, D.lst.injEq]; exact eqvs_iff ih _ _ h1 h2 m)
theorem eqB_iff {S : Sto} {x y : D} (hx : dataB 60 x = true) (hy : dataB 60 y = true) (hm : nmix x y = true) : ∃ b, eqB S x y = some b ∧ (b = true ↔ lz x = lz y) := ⟨_, eqB_data hx hy, eqv_iff 60 x y hx hy hm⟩
/-! ### letters -/
theorem is_state_ok {c : Nat} {S : Sto} (h1 : 97 ≤ c) (h2 : c < 123) : m_is_state [.str (txt [c])] S = .ok (.bl true) S := by
  refine pur_flat rfl rfl ?_
  have e0 : startE 1 [D.str (txt [c])] = [some (.str (txt [c]))] := rfl
  rw [e0]
  unfold fb_is_state
  have i1 : oIsi0 [] [.str (txt [c]), .ty "str"] = some (.bl true) := rfl
  have i2 : oLen [] [.str (txt [c])] = some (.int 1) := oLen_txt (by simp)
  have i3 : inB [] (.str (txt [c])) (.str "abcdefghijklmnopqrstuvwxyz") = some true := by
    rw [lit_abc, in_sgt, decide_eq_true (mem_abc.mpr ⟨h1, h2⟩)]
  simp only [wp_Seq, wp_C, wp_Var, wp_Bin, wp_Cmp, wp_Un, wp_CallB, wp_Sl, wp_oNone, wp_oSome, wp_aNil, wp_aCons, wp_Tup, wp_Lst, wp_LstS, wp_And, wp_Or, wp_Not, wp_If, wp_CallF, wp_CallK, wp_tVal, wp_tCmp, wp_tAnd, wp_tOr, wp_tNot, wp_Chain, wp_tChain, wp_Next, wp_Brk, wp_Cont, wp_RetN, wp_Ret, wp_Expr, wp_sIf, wp_Asg, wp_sSub, wp_sPar, wp_sAug, wp_For, wp_Comp, wp_Settle, wp_Make, wp_MakeK, wp_Fld, wp_FldS, wp_MethC, wp_InC, wp_tInC, wp_EqC, wp_tEqC, wp_LenC, wp_TxtC, wp_jNil, wp_jCons, wp_Joined, wp_Fmt, wp_Calm, wp_Cval, wp_Meth, wp_Ix, wp_MakeR, wp_MakeRK, wp_aStar, wp_MakeS, wp_EnumU, wp_ListS, wp_iSeq, wp_Range1, wp_Range2, wp_tYes, wf_ok, rd_cons0, rd_cons, got_some, orGot_some, orGot_none, asB_bl, asI_int, asS_str, asOne_one, asTwo_two, wp_sPar3, asThree_three, wp_Prop, wp_NeC, wp_tNeC, wp_MethK, wp_DGet, wp_DHas, wp_tDHas, wp_DPutU, wp_ListDS, wp_ListTS, wp_DcS, wp_IndexC, wp_sAugL, wp_CatLS, wp_SortSet, wp_SortSetS, bName, List.set_cons_succ, List.set_cons_zero, List.append_nil, List.length_cons, List.length_nil, Nat.zero_add, Nat.reduceAdd, true_and, and_true, if_true, if_false, Bool.false_eq_true, Bool.not_true, Bool.not_false, List.take_zero, List.drop_zero, nil_appD, i1, i2, i3, eqB_int, decide_true]
/-- ascending letters -/
structure LetL (l : List Nat) : Prop where
  asc : l.Pairwise (· < ·)
  abc : ∀ c ∈ l, 97 ≤ c ∧ c < 123
theorem LetL.sub {l l' : List Nat} (h : LetL l) (s : l'.Sublist l) : LetL l' := ⟨h.asc.sublist s, fun c hc => h.abc c (s.subset hc)⟩
/-! ### drawn states -/
theorem alpha_ok {S : Sto} : m_law_alphabet [] S = .ok (.str "abcdefghijklmnopqrstuvwxyz") S := pur_eq rfl (by kernel_rfl)
theorem states_ok {o : AO} {T : Sto} {most : Nat} {Z : D → Sto → Prop} (hB : BagO o) (hm : 1 ≤ most) (hm' : most ≤ 6) :
    wf (m_law_states [.ref 0, .int most] (o :: T)) (fun d S' => ∃ l o', d = .str (txt l) ∧ LetL l ∧ 1 ≤ l.length ∧ l.length ≤ most ∧ BagO o' ∧ S' = o' :: T) Z := by
  refine wf_end ?_
  have e0 : startE 5 [.ref 0, .int most] = [some (.ref 0), some (.int most), none, none, none] := rfl
  rw [e0]
  unfold fb_law_states
  refine wp_seq ?_
  simp only [wp_Seq, wp_C, wp_Var, wp_Bin, wp_Cmp, wp_Un, wp_CallB, wp_Sl, wp_oNone, wp_oSome, wp_aNil, wp_aCons, wp_Tup, wp_Lst, wp_LstS, wp_And, wp_Or, wp_Not, wp_If, wp_CallF, wp_CallK, wp_tVal, wp_tCmp, wp_tAnd, wp_tOr, wp_tNot, wp_Chain, wp_tChain, wp_Next, wp_Brk, wp_Cont, wp_RetN, wp_Ret, wp_Expr, wp_sIf, wp_Asg, wp_sSub, wp_sPar, wp_sAug, wp_For, wp_Comp, wp_Settle, wp_Make, wp_MakeK, wp_Fld, wp_FldS, wp_MethC, wp_InC, wp_tInC, wp_EqC, wp_tEqC, wp_LenC, wp_TxtC, wp_jNil, wp_jCons, wp_Joined, wp_Fmt, wp_Calm, wp_Cval, wp_Meth, wp_Ix, wp_MakeR, wp_MakeRK, wp_aStar, wp_MakeS, wp_EnumU, wp_ListS, wp_iSeq, wp_Range1, wp_Range2, wp_tYes, wf_ok, rd_cons0, rd_cons, got_some, orGot_some, orGot_none, asB_bl, asI_int, asS_str, asOne_one, asTwo_two, wp_sPar3, asThree_three, wp_Prop, wp_NeC, wp_tNeC, wp_MethK, wp_DGet, wp_DHas, wp_tDHas, wp_DPutU, wp_ListDS, wp_ListTS, wp_DcS, wp_IndexC, wp_sAugL, wp_CatLS, wp_SortSet, wp_SortSetS, bName, List.set_cons_succ, List.set_cons_zero, List.append_nil, List.length_cons, List.length_nil, Nat.zero_add, Nat.reduceAdd, true_and, and_true, if_true, if_false, Bool.false_eq_true, Bool.not_true, Bool.not_false, List.take_zero, List.drop_zero, nil_appD]
  refine wf_imp (draw_c (Z := fun _ _ => False) hB (by decide) (by decide +kernel)) ?_ (fun _ _ z => z.elim)
  rintro d S ⟨v, o, rfl, hv0, hv1, hB, rfl⟩
  refine wf_imp (draw_c (Z := fun _ _ => False) hB (by omega) (by
    have := log2_lt (i := (most : Int)) (k := 30) (by omega) (by decide)
    omega)) ?_ (fun _ _ z => z.elim)
  rintro d S ⟨w, o, rfl, hw0, hw1, hB, rfl⟩
  have rv : rng1 [.int (1 + w)] = some (rangeD 0 (1 + w).toNat) := rng1_int (by omega) (by omega)
  have rl : (rangeD 0 (1 + w).toNat).length = (1 + w).toNat := by simp [rangeD]
  simp only [wp_Seq, wp_C, wp_Var, wp_Bin, wp_Cmp, wp_Un, wp_CallB, wp_Sl, wp_oNone, wp_oSome, wp_aNil, wp_aCons, wp_Tup, wp_Lst, wp_LstS, wp_And, wp_Or, wp_Not, wp_If, wp_CallF, wp_CallK, wp_tVal, wp_tCmp, wp_tAnd, wp_tOr, wp_tNot, wp_Chain, wp_tChain, wp_Next, wp_Brk, wp_Cont, wp_RetN, wp_Ret, wp_Expr, wp_sIf, wp_Asg, wp_sSub, wp_sPar, wp_sAug, wp_For, wp_Comp, wp_Settle, wp_Make, wp_MakeK, wp_Fld, wp_FldS, wp_MethC, wp_InC, wp_tInC, wp_EqC, wp_tEqC, wp_LenC, wp_TxtC, wp_jNil, wp_jCons, wp_Joined, wp_Fmt, wp_Calm, wp_Cval, wp_Meth, wp_Ix, wp_MakeR, wp_MakeRK, wp_aStar, wp_MakeS, wp_EnumU, wp_ListS, wp_iSeq, wp_Range1, wp_Range2, wp_tYes, wf_ok, rd_cons0, rd_cons, got_some, orGot_some, orGot_none, asB_bl, asI_int, asS_str, asOne_one, asTwo_two, wp_sPar3, asThree_three, wp_Prop, wp_NeC, wp_tNeC, wp_MethK, wp_DGet, wp_DHas, wp_tDHas, wp_DPutU, wp_ListDS, wp_ListTS, wp_DcS, wp_IndexC, wp_sAugL, wp_CatLS, wp_SortSet, wp_SortSetS, bName, List.set_cons_succ, List.set_cons_zero, List.append_nil, List.length_cons, List.length_nil, Nat.zero_add, Nat.reduceAdd, true_and, and_true, if_true, if_false, Bool.false_eq_true, Bool.not_true, Bool.not_false, List.take_zero, List.drop_zero, nil_appD, oAdd_int, rv]
  refine wp_loop (fun xs r S => ∃ l x2 o a, r = [some (.ref 0), some (.int most), x2, some (.str (txt l)), some (.int a)] ∧ S = o :: T ∧ BagO o ∧ LetL l ∧ (∀ c ∈ l, (c : Int) < 97 + a) ∧ 0 ≤ a ∧ a ≤ 7 + 3 * l.length ∧ l.length + xs.length = (1 + w).toNat) _ _ _ ⟨[], none, o, v, by rw [lit_nil], rfl, hB, ⟨.nil, by simp⟩, by simp, hv0, by simp; omega, by rw [rl]; simp⟩ ?_ ?_
  · rintro r S ⟨l, x2, o, a, rfl, rfl, hB, hl, hc, ha, ha', hn⟩
    simp only [wp_Seq, wp_C, wp_Var, wp_Bin, wp_Cmp, wp_Un, wp_CallB, wp_Sl, wp_oNone, wp_oSome, wp_aNil, wp_aCons, wp_Tup, wp_Lst, wp_LstS, wp_And, wp_Or, wp_Not, wp_If, wp_CallF, wp_CallK, wp_tVal, wp_tCmp, wp_tAnd, wp_tOr, wp_tNot, wp_Chain, wp_tChain, wp_Next, wp_Brk, wp_Cont, wp_RetN, wp_Ret, wp_Expr, wp_sIf, wp_Asg, wp_sSub, wp_sPar, wp_sAug, wp_For, wp_Comp, wp_Settle, wp_Make, wp_MakeK, wp_Fld, wp_FldS, wp_MethC, wp_InC, wp_tInC, wp_EqC, wp_tEqC, wp_LenC, wp_TxtC, wp_jNil, wp_jCons, wp_Joined, wp_Fmt, wp_Calm, wp_Cval, wp_Meth, wp_Ix, wp_MakeR, wp_MakeRK, wp_aStar, wp_MakeS, wp_EnumU, wp_ListS, wp_iSeq, wp_Range1, wp_Range2, wp_tYes, wf_ok, rd_cons0, rd_cons, got_some, orGot_some, orGot_none, asB_bl, asI_int, asS_str, asOne_one, asTwo_two, wp_sPar3, asThree_three, wp_Prop, wp_NeC, wp_tNeC, wp_MethK, wp_DGet, wp_DHas, wp_tDHas, wp_DPutU, wp_ListDS, wp_ListTS, wp_DcS, wp_IndexC, wp_sAugL, wp_CatLS, wp_SortSet, wp_SortSetS, bName, List.set_cons_succ, List.set_cons_zero, List.append_nil, List.length_cons, List.length_nil, Nat.zero_add, Nat.reduceAdd, true_and, and_true, if_true, if_false, Bool.false_eq_true, Bool.not_true, Bool.not_false, List.take_zero, List.drop_zero, nil_appD]
    simp at hn
    exact ⟨l, o, rfl, hl, by omega, by omega, hB, rfl⟩
  rintro x xs r S ⟨l, x2, o, a, rfl, rfl, hB, hl, hc, ha, ha', hn⟩
  refine ⟨_, rfl, ?_⟩
  simp at hn
  obtain ⟨n, rfl⟩ : ∃ n : Nat, a = (n : Int) := ⟨a.toNat, by omega⟩
  have hn' : n < (List.range' 97 26).length := by rw [List.length_range']; omega
  have i1 : ∀ S : Sto, oIx S (.str "abcdefghijklmnopqrstuvwxyz") (.int (n : Int)) = some (.str (txt [97 + n])) := fun S => by
    rw [lit_abc, oIx_txt (by rw [List.length_range']; omega) hn', get_abc hn']
  have i2 : ∀ S : Sto, oAdd S (.str (txt l)) (.str (txt [97 + n])) = some (.str (txt (l ++ [97 + n]))) := fun S => oAdd_txt (by simp; omega)
  simp only [wp_Seq, wp_C, wp_Var, wp_Bin, wp_Cmp, wp_Un, wp_CallB, wp_Sl, wp_oNone, wp_oSome, wp_aNil, wp_aCons, wp_Tup, wp_Lst, wp_LstS, wp_And, wp_Or, wp_Not, wp_If, wp_CallF, wp_CallK, wp_tVal, wp_tCmp, wp_tAnd, wp_tOr, wp_tNot, wp_Chain, wp_tChain, wp_Next, wp_Brk, wp_Cont, wp_RetN, wp_Ret, wp_Expr, wp_sIf, wp_Asg, wp_sSub, wp_sPar, wp_sAug, wp_For, wp_Comp, wp_Settle, wp_Make, wp_MakeK, wp_Fld, wp_FldS, wp_MethC, wp_InC, wp_tInC, wp_EqC, wp_tEqC, wp_LenC, wp_TxtC, wp_jNil, wp_jCons, wp_Joined, wp_Fmt, wp_Calm, wp_Cval, wp_Meth, wp_Ix, wp_MakeR, wp_MakeRK, wp_aStar, wp_MakeS, wp_EnumU, wp_ListS, wp_iSeq, wp_Range1, wp_Range2, wp_tYes, wf_ok, rd_cons0, rd_cons, got_some, orGot_some, orGot_none, asB_bl, asI_int, asS_str, asOne_one, asTwo_two, wp_sPar3, asThree_three, wp_Prop, wp_NeC, wp_tNeC, wp_MethK, wp_DGet, wp_DHas, wp_tDHas, wp_DPutU, wp_ListDS, wp_ListTS, wp_DcS, wp_IndexC, wp_sAugL, wp_CatLS, wp_SortSet, wp_SortSetS, bName, List.set_cons_succ, List.set_cons_zero, List.append_nil, List.length_cons, List.length_nil, Nat.zero_add, Nat.reduceAdd, true_and, and_true, if_true, if_false, Bool.false_eq_true, Bool.not_true, Bool.not_false, List.take_zero, List.drop_zero, nil_appD, alpha_ok, i1, i2, oAdd_int]
  refine wf_imp (draw_c (Z := fun _ _ => False) hB (by decide) (by decide +kernel)) ?_ (fun _ _ z => z.elim)
  rintro d S ⟨v, o, rfl, hv0, hv1, hB, rfl⟩
  simp only [wp_Seq, wp_C, wp_Var, wp_Bin, wp_Cmp, wp_Un, wp_CallB, wp_Sl, wp_oNone, wp_oSome, wp_aNil, wp_aCons, wp_Tup, wp_Lst, wp_LstS, wp_And, wp_Or, wp_Not, wp_If, wp_CallF, wp_CallK, wp_tVal, wp_tCmp, wp_tAnd, wp_tOr, wp_tNot, wp_Chain, wp_tChain, wp_Next, wp_Brk, wp_Cont, wp_RetN, wp_Ret, wp_Expr, wp_sIf, wp_Asg, wp_sSub, wp_sPar, wp_sAug, wp_For, wp_Comp, wp_Settle, wp_Make, wp_MakeK, wp_Fld, wp_FldS, wp_MethC, wp_InC, wp_tInC, wp_EqC, wp_tEqC, wp_LenC, wp_TxtC, wp_jNil, wp_jCons, wp_Joined, wp_Fmt, wp_Calm, wp_Cval, wp_Meth, wp_Ix, wp_MakeR, wp_MakeRK, wp_aStar, wp_MakeS, wp_EnumU, wp_ListS, wp_iSeq, wp_Range1, wp_Range2, wp_tYes, wf_ok, rd_cons0, rd_cons, got_some, orGot_some, orGot_none, asB_bl, asI_int, asS_str, asOne_one, asTwo_two, wp_sPar3, asThree_three, wp_Prop, wp_NeC, wp_tNeC, wp_MethK, wp_DGet, wp_DHas, wp_tDHas, wp_DPutU, wp_ListDS, wp_ListTS, wp_DcS, wp_IndexC, wp_sAugL, wp_CatLS, wp_SortSet, wp_SortSetS, bName, List.set_cons_succ, List.set_cons_zero, List.append_nil, List.length_cons, List.length_nil, Nat.zero_add, Nat.reduceAdd, true_and, and_true, if_true, if_false, Bool.false_eq_true, Bool.not_true, Bool.not_false, List.take_zero, List.drop_zero, nil_appD, oAdd_int]
  rw [List.length_range'] at hn'
  refine ⟨l ++ [97 + n], _, o, _, rfl, rfl, hB, ⟨?_, ?_⟩, ?_, by omega, by simp; omega, by simp; omega⟩
  · refine List.pairwise_append.mpr ⟨hl.asc, by simp, fun c hcl d hd => ?_⟩
    have := hc c hcl
    simp at hd
    omega
  · intro c h
    rcases List.mem_append.mp h with h | h
    · exact hl.abc c h
    · simp at h; omega
  · intro c h
    rcases List.mem_append.mp h with h | h
    · have := hc c h; omega
    · simp at h; omega
/-- a pick of a text -/
theorem pick_txt {T : Sto} {o : AO} {l : List Nat} {Z : D → Sto → Prop} (hB : BagO o) (h0 : 0 < l.length) (hl : l.length < 4000000) :
    wf (m_law_pick [.ref 0, .str (txt l)] (o :: T)) (fun y S' => ∃ c ∈ l, y = .str (txt [c]) ∧ ∃ o', BagO o' ∧ S' = o' :: T) Z := by
  refine wf_end ?_
  have e0 : startE 2 [.ref 0, .str (txt l)] = [some (.ref 0), some (.str (txt l))] := rfl
  rw [e0]
  unfold fb_law_pick fbPick
  have i2 : ∀ S : Sto, oLen S [.str (txt l)] = some (.int l.length) := fun S => oLen_txt (by omega)
  simp only [wp_Seq, wp_C, wp_Var, wp_Bin, wp_Cmp, wp_Un, wp_CallB, wp_Sl, wp_oNone, wp_oSome, wp_aNil, wp_aCons, wp_Tup, wp_Lst, wp_LstS, wp_And, wp_Or, wp_Not, wp_If, wp_CallF, wp_CallK, wp_tVal, wp_tCmp, wp_tAnd, wp_tOr, wp_tNot, wp_Chain, wp_tChain, wp_Next, wp_Brk, wp_Cont, wp_RetN, wp_Ret, wp_Expr, wp_sIf, wp_Asg, wp_sSub, wp_sPar, wp_sAug, wp_For, wp_Comp, wp_Settle, wp_Make, wp_MakeK, wp_Fld, wp_FldS, wp_MethC, wp_InC, wp_tInC, wp_EqC, wp_tEqC, wp_LenC, wp_TxtC, wp_jNil, wp_jCons, wp_Joined, wp_Fmt, wp_Calm, wp_Cval, wp_Meth, wp_Ix, wp_MakeR, wp_MakeRK, wp_aStar, wp_MakeS, wp_EnumU, wp_ListS, wp_iSeq, wp_Range1, wp_Range2, wp_tYes, wf_ok, rd_cons0, rd_cons, got_some, orGot_some, orGot_none, asB_bl, asI_int, asS_str, asOne_one, asTwo_two, wp_sPar3, asThree_three, wp_Prop, wp_NeC, wp_tNeC, wp_MethK, wp_DGet, wp_DHas, wp_tDHas, wp_DPutU, wp_ListDS, wp_ListTS, wp_DcS, wp_IndexC, wp_sAugL, wp_CatLS, wp_SortSet, wp_SortSetS, bName, List.set_cons_succ, List.set_cons_zero, List.append_nil, List.length_cons, List.length_nil, Nat.zero_add, Nat.reduceAdd, true_and, and_true, if_true, if_false, Bool.false_eq_true, Bool.not_true, Bool.not_false, List.take_zero, List.drop_zero, nil_appD, i2]
  refine wf_imp (draw_c (Z := fun _ _ => False) hB (by omega) (by
    have := log2_lt (i := (l.length : Int)) (k := 30) (by omega) (by decide)
    omega)) ?_ (fun _ _ z => z.elim)
  rintro d S ⟨v, o, rfl, hv0, hv1, hB, rfl⟩
  obtain ⟨n, rfl⟩ : ∃ n : Nat, v = (n : Int) := ⟨v.toNat, by omega⟩
  have hn : n < l.length := by omega
  rw [oIx_txt (by omega) hn]
  simp only [wp_Seq, wp_C, wp_Var, wp_Bin, wp_Cmp, wp_Un, wp_CallB, wp_Sl, wp_oNone, wp_oSome, wp_aNil, wp_aCons, wp_Tup, wp_Lst, wp_LstS, wp_And, wp_Or, wp_Not, wp_If, wp_CallF, wp_CallK, wp_tVal, wp_tCmp, wp_tAnd, wp_tOr, wp_tNot, wp_Chain, wp_tChain, wp_Next, wp_Brk, wp_Cont, wp_RetN, wp_Ret, wp_Expr, wp_sIf, wp_Asg, wp_sSub, wp_sPar, wp_sAug, wp_For, wp_Comp, wp_Settle, wp_Make, wp_MakeK, wp_Fld, wp_FldS, wp_MethC, wp_InC, wp_tInC, wp_EqC, wp_tEqC, wp_LenC, wp_TxtC, wp_jNil, wp_jCons, wp_Joined, wp_Fmt, wp_Calm, wp_Cval, wp_Meth, wp_Ix, wp_MakeR, wp_MakeRK, wp_aStar, wp_MakeS, wp_EnumU, wp_ListS, wp_iSeq, wp_Range1, wp_Range2, wp_tYes, wf_ok, rd_cons0, rd_cons, got_some, orGot_some, orGot_none, asB_bl, asI_int, asS_str, asOne_one, asTwo_two, wp_sPar3, asThree_three, wp_Prop, wp_NeC, wp_tNeC, wp_MethK, wp_DGet, wp_DHas, wp_tDHas, wp_DPutU, wp_ListDS, wp_ListTS, wp_DcS, wp_IndexC, wp_sAugL, wp_CatLS, wp_SortSet, wp_SortSetS, bName, List.set_cons_succ, List.set_cons_zero, List.append_nil, List.length_cons, List.length_nil, Nat.zero_add, Nat.reduceAdd, true_and, and_true, if_true, if_false, Bool.false_eq_true, Bool.not_true, Bool.not_false, List.take_zero, List.drop_zero, nil_appD]
  exact ⟨l[n], List.getElem_mem hn, rfl, o, hB, rfl⟩
theorem some_ok {o : AO} {T : Sto} {l : List Nat} {Z : D → Sto → Prop} (hB : BagO o) (h1 : 1 ≤ l.length) (h2 : l.length ≤ 100) :
    wf (m_law_some [.ref 0, .str (txt l)] (o :: T)) (fun d S' => ∃ l' o', d = .str (txt l') ∧ l'.Sublist l ∧ 1 ≤ l'.length ∧ BagO o' ∧ S' = o' :: T) Z := by
  refine wf_end ?_
  have e0 : startE 4 [.ref 0, .str (txt l)] = [some (.ref 0), some (.str (txt l)), none, none] := rfl
  rw [e0]
  unfold fb_law_some
  refine wp_seq ?_
  simp only [wp_Seq, wp_C, wp_Var, wp_Bin, wp_Cmp, wp_Un, wp_CallB, wp_Sl, wp_oNone, wp_oSome, wp_aNil, wp_aCons, wp_Tup, wp_Lst, wp_LstS, wp_And, wp_Or, wp_Not, wp_If, wp_CallF, wp_CallK, wp_tVal, wp_tCmp, wp_tAnd, wp_tOr, wp_tNot, wp_Chain, wp_tChain, wp_Next, wp_Brk, wp_Cont, wp_RetN, wp_Ret, wp_Expr, wp_sIf, wp_Asg, wp_sSub, wp_sPar, wp_sAug, wp_For, wp_Comp, wp_Settle, wp_Make, wp_MakeK, wp_Fld, wp_FldS, wp_MethC, wp_InC, wp_tInC, wp_EqC, wp_tEqC, wp_LenC, wp_TxtC, wp_jNil, wp_jCons, wp_Joined, wp_Fmt, wp_Calm, wp_Cval, wp_Meth, wp_Ix, wp_MakeR, wp_MakeRK, wp_aStar, wp_MakeS, wp_EnumU, wp_ListS, wp_iSeq, wp_Range1, wp_Range2, wp_tYes, wf_ok, rd_cons0, rd_cons, got_some, orGot_some, orGot_none, asB_bl, asI_int, asS_str, asOne_one, asTwo_two, wp_sPar3, asThree_three, wp_Prop, wp_NeC, wp_tNeC, wp_MethK, wp_DGet, wp_DHas, wp_tDHas, wp_DPutU, wp_ListDS, wp_ListTS, wp_DcS, wp_IndexC, wp_sAugL, wp_CatLS, wp_SortSet, wp_SortSetS, bName, List.set_cons_succ, List.set_cons_zero, List.append_nil, List.length_cons, List.length_nil, Nat.zero_add, Nat.reduceAdd, true_and, and_true, if_true, if_false, Bool.false_eq_true, Bool.not_true, Bool.not_false, List.take_zero, List.drop_zero, nil_appD, items_txt, isStr]
  refine ⟨by rw [List.length_map]; exact Nat.lt_of_lt_of_le (m := 4000000) (by omega) sz_big, ?_⟩
  refine wp_imp (wp_comp (Z := fun _ _ _ => False) (fun (xs ys : List D) (S : Sto) => ∃ (p q l1 : List Nat) (o : AO), l = p ++ q ∧ xs = q.map (fun c => D.str (txt [c])) ∧ ys = l1.map (fun c => D.str (txt [c])) ∧ l1.Sublist p ∧ BagO o ∧ S = o :: T) (Q := fun ys r S => r = [some (.ref 0), some (.str (txt l)), none, none] ∧ ∃ (l1 : List Nat) (o : AO), ys = l1.map (fun c => D.str (txt [c])) ∧ l1.Sublist l ∧ BagO o ∧ S = o :: T) (l.map fun c => D.str (txt [c])) [] (o :: T) ⟨[], l, [], o, rfl, rfl, rfl, .slnil, hB, rfl⟩ ?_ ?_) ?_ (fun _ _ _ z => z.elim)
  · rintro ys S ⟨p, q, l1, o, rfl, hx, rfl, hs, hB, rfl⟩
    have : q = [] := by simpa using hx
    subst this
    exact ⟨rfl, l1, o, rfl, by simpa using hs, hB, rfl⟩
  · rintro x xs ys S ⟨p, q, l1, o, rfl, hx, rfl, hs, hB, rfl⟩
    cases q with
    | nil => simp at hx
    | cons c q =>
      simp only [List.map_cons, List.cons.injEq] at hx
      obtain ⟨rfl, rfl⟩ := hx
      refine ⟨_, rfl, ?_⟩
      simp only [wp_Seq, wp_C, wp_Var, wp_Bin, wp_Cmp, wp_Un, wp_CallB, wp_Sl, wp_oNone, wp_oSome, wp_aNil, wp_aCons, wp_Tup, wp_Lst, wp_LstS, wp_And, wp_Or, wp_Not, wp_If, wp_CallF, wp_CallK, wp_tVal, wp_tCmp, wp_tAnd, wp_tOr, wp_tNot, wp_Chain, wp_tChain, wp_Next, wp_Brk, wp_Cont, wp_RetN, wp_Ret, wp_Expr, wp_sIf, wp_Asg, wp_sSub, wp_sPar, wp_sAug, wp_For, wp_Comp, wp_Settle, wp_Make, wp_MakeK, wp_Fld, wp_FldS, wp_MethC, wp_InC, wp_tInC, wp_EqC, wp_tEqC, wp_LenC, wp_TxtC, wp_jNil, wp_jCons, wp_Joined, wp_Fmt, wp_Calm, wp_Cval, wp_Meth, wp_Ix, wp_MakeR, wp_MakeRK, wp_aStar, wp_MakeS, wp_EnumU, wp_ListS, wp_iSeq, wp_Range1, wp_Range2, wp_tYes, wf_ok, rd_cons0, rd_cons, got_some, orGot_some, orGot_none, asB_bl, asI_int, asS_str, asOne_one, asTwo_two, wp_sPar3, asThree_three, wp_Prop, wp_NeC, wp_tNeC, wp_MethK, wp_DGet, wp_DHas, wp_tDHas, wp_DPutU, wp_ListDS, wp_ListTS, wp_DcS, wp_IndexC, wp_sAugL, wp_CatLS, wp_SortSet, wp_SortSetS, bName, List.set_cons_succ, List.set_cons_zero, List.append_nil, List.length_cons, List.length_nil, Nat.zero_add, Nat.reduceAdd, true_and, and_true, if_true, if_false, Bool.false_eq_true, Bool.not_true, Bool.not_false, List.take_zero, List.drop_zero, nil_appD, wipeE]
      refine wf_imp (draw_c (Z := fun _ _ => False) hB (by decide) (by decide +kernel)) ?_ (fun _ _ z => z.elim)
      rintro d S ⟨v, o, rfl, hv0, hv1, hB, rfl⟩
      simp only [wp_Seq, wp_C, wp_Var, wp_Bin, wp_Cmp, wp_Un, wp_CallB, wp_Sl, wp_oNone, wp_oSome, wp_aNil, wp_aCons, wp_Tup, wp_Lst, wp_LstS, wp_And, wp_Or, wp_Not, wp_If, wp_CallF, wp_CallK, wp_tVal, wp_tCmp, wp_tAnd, wp_tOr, wp_tNot, wp_Chain, wp_tChain, wp_Next, wp_Brk, wp_Cont, wp_RetN, wp_Ret, wp_Expr, wp_sIf, wp_Asg, wp_sSub, wp_sPar, wp_sAug, wp_For, wp_Comp, wp_Settle, wp_Make, wp_MakeK, wp_Fld, wp_FldS, wp_MethC, wp_InC, wp_tInC, wp_EqC, wp_tEqC, wp_LenC, wp_TxtC, wp_jNil, wp_jCons, wp_Joined, wp_Fmt, wp_Calm, wp_Cval, wp_Meth, wp_Ix, wp_MakeR, wp_MakeRK, wp_aStar, wp_MakeS, wp_EnumU, wp_ListS, wp_iSeq, wp_Range1, wp_Range2, wp_tYes, wf_ok, rd_cons0, rd_cons, got_some, orGot_some, orGot_none, asB_bl, asI_int, asS_str, asOne_one, asTwo_two, wp_sPar3, asThree_three, wp_Prop, wp_NeC, wp_tNeC, wp_MethK, wp_DGet, wp_DHas, wp_tDHas, wp_DPutU, wp_ListDS, wp_ListTS, wp_DcS, wp_IndexC, wp_sAugL, wp_CatLS, wp_SortSet, wp_SortSetS, bName, List.set_cons_succ, List.set_cons_zero, List.append_nil, List.length_cons, List.length_nil, Nat.zero_add, Nat.reduceAdd, true_and, and_true, if_true, if_false, Bool.false_eq_true, Bool.not_true, Bool.not_false, List.take_zero, List.drop_zero, nil_appD, eqB_int]
      split
      · refine ⟨p ++ [c], q, l1 ++ [c], o, by simp, rfl, by simp, hs.append (.refl _), hB, rfl⟩
      · refine ⟨p ++ [c], q, l1, o, by simp, rfl, rfl, hs.trans (List.sublist_append_left _ _), hB, rfl⟩
  · rintro ys r S ⟨rfl, l1, o, rfl, hs, hB, rfl⟩
    have hle := hs.length_le
    have mj : mJoin (o :: T) (.str (txt [])) [.lst (l1.map fun c => D.str (txt [c]))] = some (.str (txt l1), o :: T) := by
      have := mJoin_txt (S := o :: T) (s := []) (xs := l1.map fun c => [c]) (d := .lst (l1.map fun c => D.str (txt [c]))) (by simp [seqOf, lstOf]) (by
        have : ∀ l : List Nat, ((l.map fun c => [c]).map (·.length)).sum = l.length := fun l => by
          induction l with
          | nil => rfl
          | cons a l ih => simp at ih ⊢; omega
        rw [this]
        simp
        omega)
      rw [joinL_sg] at this
      exact this
    simp only [wp_Seq, wp_C, wp_Var, wp_Bin, wp_Cmp, wp_Un, wp_CallB, wp_Sl, wp_oNone, wp_oSome, wp_aNil, wp_aCons, wp_Tup, wp_Lst, wp_LstS, wp_And, wp_Or, wp_Not, wp_If, wp_CallF, wp_CallK, wp_tVal, wp_tCmp, wp_tAnd, wp_tOr, wp_tNot, wp_Chain, wp_tChain, wp_Next, wp_Brk, wp_Cont, wp_RetN, wp_Ret, wp_Expr, wp_sIf, wp_Asg, wp_sSub, wp_sPar, wp_sAug, wp_For, wp_Comp, wp_Settle, wp_Make, wp_MakeK, wp_Fld, wp_FldS, wp_MethC, wp_InC, wp_tInC, wp_EqC, wp_tEqC, wp_LenC, wp_TxtC, wp_jNil, wp_jCons, wp_Joined, wp_Fmt, wp_Calm, wp_Cval, wp_Meth, wp_Ix, wp_MakeR, wp_MakeRK, wp_aStar, wp_MakeS, wp_EnumU, wp_ListS, wp_iSeq, wp_Range1, wp_Range2, wp_tYes, wf_ok, rd_cons0, rd_cons, got_some, orGot_some, orGot_none, asB_bl, asI_int, asS_str, asOne_one, asTwo_two, wp_sPar3, asThree_three, wp_Prop, wp_NeC, wp_tNeC, wp_MethK, wp_DGet, wp_DHas, wp_tDHas, wp_DPutU, wp_ListDS, wp_ListTS, wp_DcS, wp_IndexC, wp_sAugL, wp_CatLS, wp_SortSet, wp_SortSetS, bName, List.set_cons_succ, List.set_cons_zero, List.append_nil, List.length_cons, List.length_nil, Nat.zero_add, Nat.reduceAdd, true_and, and_true, if_true, if_false, Bool.false_eq_true, Bool.not_true, Bool.not_false, List.take_zero, List.drop_zero, nil_appD, lit_nil, mj, neB_txt]
    split
    · rename_i hne
      refine ⟨l1, o, rfl, hs, ?_, hB, rfl⟩
      simp at hne
      exact List.length_pos_iff.mpr hne
    · refine wf_imp (pick_txt (Z := fun _ _ => False) hB (by omega) (by omega)) ?_ (fun _ _ z => z.elim)
      rintro y S ⟨c, hc, rfl, o, hB, rfl⟩
      exact ⟨[c], o, rfl, List.singleton_sublist.mpr hc, by simp, hB, rfl⟩
/-! ### rules as data -/
abbrev Ch := Nat × Nat × Bool
def chD (c : Ch) : D := .tup [.str (txt [c.1]), .str (txt [c.2.1]), .bl c.2.2]
theorem chD_bnd {c : Ch} {n : Nat} : bnd n (chD c) = true := by simp [chD, bnd, bndL]
theorem rulesL_bnd {cs : List Ch} {n : Nat} : bndL n (cs.map chD) = true := bndL_of fun x hx => by
  obtain ⟨c, _, rfl⟩ := List.mem_map.mp hx
  exact chD_bnd
/-! ### rules -/
abbrev lOthers : List Nat := [111, 116, 104, 101, 114, 115]
theorem lit_others : ("others" : Str) = txt lOthers := by kernel_rfl
theorem lit_to : (">" : Str) = txt [62] := by kernel_rfl
theorem lit_bang : ("!" : Str) = txt [33] := by kernel_rfl
def bangL (b : Bool) : List Nat := if b = true then [33] else []
def chT (c : Ch) : List Nat := [c.1, 62, c.2.1] ++ bangL c.2.2
def rulesT (cs : List Ch) : List Nat := joinL [32] (lOthers :: cs.map chT)
abbrev rulesN : List Str := ["kept_rules", "own_text"]
abbrev rulesV (cs : List Ch) : List D := [.lst (cs.map chD), .str (txt (rulesT cs))]
def rulesO (cs : List Ch) : AO := .ins "Rules" rulesN (rulesV cs)
def rulesD (cs : List Ch) : D := .ins "Rules" rulesN (rulesV cs)
structure ChO (c : Ch) : Prop where
  a1 : 97 ≤ c.1
  a2 : c.1 < 123
  b1 : 97 ≤ c.2.1
  b2 : c.2.1 < 123
structure RulesO (cs : List Ch) : Prop where
  n8 : cs.length ≤ 8
  ok : ∀ c ∈ cs, ChO c
theorem chT_len {c : Ch} : (chT c).length ≤ 4 := by
  unfold chT bangL
  split <;> simp
theorem rules_bnd {cs : List Ch} {n : Nat} : bndL n (rulesV cs) = true := by simp [bndL, bnd, rulesL_bnd]
theorem rules_bndD {cs : List Ch} {n : Nat} : bnd n (rulesD cs) = true := by simp [rulesD, bnd, bndL, rulesL_bnd]
theorem joinL_len {s : List Nat} {m : Nat} : ∀ {xs : List (List Nat)}, (∀ x ∈ xs, x.length ≤ m) → (joinL s xs).length ≤ xs.length * (m + s.length)
  | [], _ => by simp [joinL]
  | [x], h => by
    have := h x (List.mem_cons_self ..)
    simp [joinL]; omega
  | x :: y :: r, h => by
    have h1 := h x (List.mem_cons_self ..)
    have h2 := joinL_len (s := s) (m := m) (xs := y :: r) fun z hz => h z (List.mem_cons_of_mem _ hz)
    show (x ++ s ++ joinL s (y :: r)).length ≤ ((y :: r).length + 1) * (m + s.length)
    rw [Nat.add_mul]
    simp only [List.length_append]
    omega
theorem rulesT_len {cs : List Ch} (h : RulesO cs) : (rulesT cs).length ≤ 100 := by
  have := joinL_len (s := [32]) (m := 6) (xs := lOthers :: cs.map chT) (fun x hx => by
    rcases List.mem_cons.mp hx with rfl | hx
    · simp
    · obtain ⟨c, _, rfl⟩ := List.mem_map.mp hx
      exact Nat.le_trans chT_len (by decide))
  have h8 := h.n8
  simp only [List.length_cons, List.length_map, List.length_nil] at this
  show (joinL [32] (lOthers :: cs.map chT)).length ≤ 100
  omega
theorem is_rule_ok {c : Ch} {S : Sto} (h : ChO c) : m_is_rule [chD c] S = .ok (.bl true) S := by
  refine pur_flat rfl (by simp [bndL, chD_bnd]) ?_
  have e0 : startE 1 [chD c] = [some (chD c)] := rfl
  rw [e0]
  unfold fb_is_rule
  have i1 : oIsi0 [] [chD c, .ty "tuple"] = some (.bl true) := rfl
  have i2 : oLen [] [chD c] = some (.int 3) := rfl
  have i3 : notB eqB [] (.int 3) (.int 3) = some false := by kernel_rfl
  have x0 : oIx [] (chD c) (.int 0) = some (.str (txt [c.1])) := rfl
  have x1 : oIx [] (chD c) (.int 1) = some (.str (txt [c.2.1])) := rfl
  have x2 : oIx [] (chD c) (.int 2) = some (.bl c.2.2) := rfl
  have i4 : oIsi0 [] [.bl c.2.2, .ty "bool"] = some (.bl true) := rfl
  simp only [wp_Seq, wp_C, wp_Var, wp_Bin, wp_Cmp, wp_Un, wp_CallB, wp_Sl, wp_oNone, wp_oSome, wp_aNil, wp_aCons, wp_Tup, wp_Lst, wp_LstS, wp_And, wp_Or, wp_Not, wp_If, wp_CallF, wp_CallK, wp_tVal, wp_tCmp, wp_tAnd, wp_tOr, wp_tNot, wp_Chain, wp_tChain, wp_Next, wp_Brk, wp_Cont, wp_RetN, wp_Ret, wp_Expr, wp_sIf, wp_Asg, wp_sSub, wp_sPar, wp_sAug, wp_For, wp_Comp, wp_Settle, wp_Make, wp_MakeK, wp_Fld, wp_FldS, wp_MethC, wp_InC, wp_tInC, wp_EqC, wp_tEqC, wp_LenC, wp_TxtC, wp_jNil, wp_jCons, wp_Joined, wp_Fmt, wp_Calm, wp_Cval, wp_Meth, wp_Ix, wp_MakeR, wp_MakeRK, wp_aStar, wp_MakeS, wp_EnumU, wp_ListS, wp_iSeq, wp_Range1, wp_Range2, wp_tYes, wf_ok, rd_cons0, rd_cons, got_some, orGot_some, orGot_none, asB_bl, asI_int, asS_str, asOne_one, asTwo_two, wp_sPar3, asThree_three, wp_Prop, wp_NeC, wp_tNeC, wp_MethK, wp_DGet, wp_DHas, wp_tDHas, wp_DPutU, wp_ListDS, wp_ListTS, wp_DcS, wp_IndexC, wp_sAugL, wp_CatLS, wp_SortSet, wp_SortSetS, bName, List.set_cons_succ, List.set_cons_zero, List.append_nil, List.length_cons, List.length_nil, Nat.zero_add, Nat.reduceAdd, true_and, and_true, if_true, if_false, Bool.false_eq_true, Bool.not_true, Bool.not_false, List.take_zero, List.drop_zero, nil_appD, i1, i2, i3, x0, x1, x2, i4, is_state_ok h.a1 h.a2, is_state_ok h.b1 h.b2]
theorem bangD {b : Bool} : (if b = true then txt [33] else txt []) = txt (bangL b) := by cases b <;> rfl
theorem join_rules {S : Sto} {cs : List Ch} (h : RulesO cs) : mJoin S (.str (txt [32])) [.lst (.str (txt lOthers) :: cs.map fun c => .str (txt (chT c)))] = some (.str (txt (rulesT cs)), S) := by
  refine mJoin_txt (xs := lOthers :: cs.map chT) (by simp [seqOf, lstOf, Function.comp_def]) ?_
  have : ∀ cs : List Ch, ((cs.map chT).map (·.length)).sum ≤ 4 * cs.length := fun cs => by
    induction cs with
    | nil => simp
    | cons c cs ih =>
      have := chT_len (c := c)
      simp at ih ⊢
      omega
  have := this cs
  have h8 := h.n8
  simp at this ⊢
  omega
theorem rules_init_ok {cs : List Ch} {S : Sto} (h : RulesO cs) : m_rules_init [.ref S.length, .tup (cs.map chD)] (S ++ [.ins "Rules" [] []]) = .ok .non (S ++ [rulesO cs]) := by
  refine wf_eq (wf_end ?_)
  have e0 : startE 8 [.ref S.length, .tup (cs.map chD)] = [some (.ref S.length), some (.tup (cs.map chD)), none, none, none, none, none, none] := rfl
  rw [e0]
  unfold fb_rules_init
  refine wp_seq ?_
  simp only [wp_C, wp_Var, wp_Bin, wp_Cmp, wp_Un, wp_CallB, wp_Sl, wp_oNone, wp_oSome, wp_aNil, wp_aCons, wp_Tup, wp_Lst, wp_LstS, wp_And, wp_Or, wp_Not, wp_If, wp_CallF, wp_CallK, wp_tVal, wp_tCmp, wp_tAnd, wp_tOr, wp_tNot, wp_Chain, wp_tChain, wp_Next, wp_Brk, wp_Cont, wp_RetN, wp_Ret, wp_Expr, wp_sIf, wp_Asg, wp_sSub, wp_sPar, wp_sAug, wp_For, wp_Comp, wp_Settle, wp_Make, wp_MakeK, wp_Fld, wp_FldS, wp_MethC, wp_InC, wp_tInC, wp_EqC, wp_tEqC, wp_LenC, wp_TxtC, wp_jNil, wp_jCons, wp_Joined, wp_Fmt, wp_Calm, wp_Cval, wp_Meth, wp_Ix, wp_MakeR, wp_MakeRK, wp_aStar, wp_MakeS, wp_EnumU, wp_ListS, wp_iSeq, wp_Range1, wp_Range2, wp_tYes, wf_ok, rd_cons0, rd_cons, got_some, orGot_some, orGot_none, asB_bl, asI_int, asS_str, asOne_one, asTwo_two, wp_sPar3, asThree_three, wp_Prop, wp_NeC, wp_tNeC, wp_MethK, wp_DGet, wp_DHas, wp_tDHas, wp_DPutU, wp_ListDS, wp_ListTS, wp_DcS, wp_IndexC, wp_sAugL, wp_CatLS, wp_SortSet, wp_SortSetS, bName, List.set_cons_succ, List.set_cons_zero, List.append_nil, List.length_cons, List.length_nil, Nat.zero_add, Nat.reduceAdd, true_and, and_true, if_true, if_false, Bool.false_eq_true, Bool.not_true, Bool.not_false, List.take_zero, List.drop_zero, nil_appD, Option.bind_some]
  refine wp_loop (fun xs r T => (∃ x3 x4, r = [some (.ref S.length), some (.tup (cs.map chD)), none, x3, x4, none, none, none]) ∧ T = S ++ [.ins "Rules" [] []] ∧ ∀ x ∈ xs, ∃ (i : Nat) (c : Ch), c ∈ cs ∧ x = .tup [.int i, chD c]) _ _ _ ⟨⟨none, none, rfl⟩, rfl, fun x hx => ?_⟩ ?_ ?_
  · obtain ⟨i, hi, rfl⟩ := List.getElem_of_mem hx
    obtain ⟨y, hy, e⟩ := enumD_get (List.getElem?_eq_getElem hi)
    rw [e]
    rw [List.getElem?_map] at hy
    obtain ⟨c, hc, rfl⟩ := Option.map_eq_some_iff.mp hy
    exact ⟨i, c, List.mem_of_getElem? hc, rfl⟩
  · rintro r T ⟨⟨x3, x4, rfl⟩, rfl, _⟩
    have h8 := h.n8
    have ln : ∀ S : Sto, oLen S [.tup (cs.map chD)] = some (.int cs.length) := fun S => by
      show some (D.int (cs.map chD).length) = _
      rw [List.length_map]
    have g8 : ∀ S : Sto, swapB ltB S (.int cs.length) (.int 8) = some false := fun S => by
      rw [gtB_int]
      congr 1
      exact decide_eq_false (by omega)
    have lo : ∀ S : Sto, orL oListOf oListOfT S [.tup (cs.map chD)] = some (.lst (cs.map chD)) := fun S => rfl
    have it : itemsOf (.tup (cs.map chD)) = some (cs.map chD) := rfl
    have p1 : ∀ d, putD fc_kept_rules "kept_rules" (S ++ [.ins "Rules" [] []]) (.ref S.length) d = some (S ++ [.ins "Rules" ["kept_rules"] [d]]) := fun d => (putD_last (by kernel_rfl)).trans (by kernel_rfl)
    have p2 : ∀ x d, putD fc_own_text "own_text" (S ++ [.ins "Rules" ["kept_rules"] [x]]) (.ref S.length) d = some (S ++ [.ins "Rules" rulesN [x, d]]) := fun x d => (putD_last (by kernel_rfl)).trans (by kernel_rfl)
    refine wp_seq ?_
    simp only [wp_C, wp_Var, wp_Bin, wp_Cmp, wp_Un, wp_CallB, wp_Sl, wp_oNone, wp_oSome, wp_aNil, wp_aCons, wp_Tup, wp_Lst, wp_LstS, wp_And, wp_Or, wp_Not, wp_If, wp_CallF, wp_CallK, wp_tVal, wp_tCmp, wp_tAnd, wp_tOr, wp_tNot, wp_Chain, wp_tChain, wp_Next, wp_Brk, wp_Cont, wp_RetN, wp_Ret, wp_Expr, wp_sIf, wp_Asg, wp_sSub, wp_sPar, wp_sAug, wp_For, wp_Comp, wp_Settle, wp_Make, wp_MakeK, wp_Fld, wp_FldS, wp_MethC, wp_InC, wp_tInC, wp_EqC, wp_tEqC, wp_LenC, wp_TxtC, wp_jNil, wp_jCons, wp_Joined, wp_Fmt, wp_Calm, wp_Cval, wp_Meth, wp_Ix, wp_MakeR, wp_MakeRK, wp_aStar, wp_MakeS, wp_EnumU, wp_ListS, wp_iSeq, wp_Range1, wp_Range2, wp_tYes, wf_ok, rd_cons0, rd_cons, got_some, orGot_some, orGot_none, asB_bl, asI_int, asS_str, asOne_one, asTwo_two, wp_sPar3, asThree_three, wp_Prop, wp_NeC, wp_tNeC, wp_MethK, wp_DGet, wp_DHas, wp_tDHas, wp_DPutU, wp_ListDS, wp_ListTS, wp_DcS, wp_IndexC, wp_sAugL, wp_CatLS, wp_SortSet, wp_SortSetS, bName, List.set_cons_succ, List.set_cons_zero, List.append_nil, List.length_cons, List.length_nil, Nat.zero_add, Nat.reduceAdd, true_and, and_true, if_true, if_false, Bool.false_eq_true, Bool.not_true, Bool.not_false, List.take_zero, List.drop_zero, nil_appD, ln, g8]
    refine wp_seq ?_
    simp only [wp_C, wp_Var, wp_Bin, wp_Cmp, wp_Un, wp_CallB, wp_Sl, wp_oNone, wp_oSome, wp_aNil, wp_aCons, wp_Tup, wp_Lst, wp_LstS, wp_And, wp_Or, wp_Not, wp_If, wp_CallF, wp_CallK, wp_tVal, wp_tCmp, wp_tAnd, wp_tOr, wp_tNot, wp_Chain, wp_tChain, wp_Next, wp_Brk, wp_Cont, wp_RetN, wp_Ret, wp_Expr, wp_sIf, wp_Asg, wp_sSub, wp_sPar, wp_sAug, wp_For, wp_Comp, wp_Settle, wp_Make, wp_MakeK, wp_Fld, wp_FldS, wp_MethC, wp_InC, wp_tInC, wp_EqC, wp_tEqC, wp_LenC, wp_TxtC, wp_jNil, wp_jCons, wp_Joined, wp_Fmt, wp_Calm, wp_Cval, wp_Meth, wp_Ix, wp_MakeR, wp_MakeRK, wp_aStar, wp_MakeS, wp_EnumU, wp_ListS, wp_iSeq, wp_Range1, wp_Range2, wp_tYes, wf_ok, rd_cons0, rd_cons, got_some, orGot_some, orGot_none, asB_bl, asI_int, asS_str, asOne_one, asTwo_two, wp_sPar3, asThree_three, wp_Prop, wp_NeC, wp_tNeC, wp_MethK, wp_DGet, wp_DHas, wp_tDHas, wp_DPutU, wp_ListDS, wp_ListTS, wp_DcS, wp_IndexC, wp_sAugL, wp_CatLS, wp_SortSet, wp_SortSetS, bName, List.set_cons_succ, List.set_cons_zero, List.append_nil, List.length_cons, List.length_nil, Nat.zero_add, Nat.reduceAdd, true_and, and_true, if_true, if_false, Bool.false_eq_true, Bool.not_true, Bool.not_false, List.take_zero, List.drop_zero, nil_appD, lo, p1]
    refine wp_seq ?_
    have cm := comp_mapb (b := bTup 3 (bCons (bName 5) (bCons (bName 6) (bCons (bName 7) bNil)))) (fe := eBin oAdd (eJoined (jCons (eFmt (eVar 5)) (jCons (eC (.str ">")) (jCons (eFmt (eVar 6)) jNil)))) (eIf (tVal (eVar 7)) (eC (.str "!")) (eC (.str "")))) (r := [some (.ref S.length), some (.tup (cs.map chD)), none, x3, x4, none, none, none]) (vs := [5, 6, 7]) (S := S ++ [.ins "Rules" ["kept_rules"] [.lst (cs.map chD)]])
      chD (fun c => [some (.ref S.length), some (.tup (cs.map chD)), none, x3, x4, some (.str (txt [c.1])), some (.str (txt [c.2.1])), some (.bl c.2.2)]) (fun c => .str (txt (chT c))) (xs := cs) (fun c _ => rfl) (fun c hc => by
        have f1 : ∀ a : Nat, fmtD (.str (txt [a])) = some (txt [a]) := fun a => fmt_txt (by simp)
        simp only [wp_C, wp_Var, wp_Bin, wp_Cmp, wp_Un, wp_CallB, wp_Sl, wp_oNone, wp_oSome, wp_aNil, wp_aCons, wp_Tup, wp_Lst, wp_LstS, wp_And, wp_Or, wp_Not, wp_If, wp_CallF, wp_CallK, wp_tVal, wp_tCmp, wp_tAnd, wp_tOr, wp_tNot, wp_Chain, wp_tChain, wp_Next, wp_Brk, wp_Cont, wp_RetN, wp_Ret, wp_Expr, wp_sIf, wp_Asg, wp_sSub, wp_sPar, wp_sAug, wp_For, wp_Comp, wp_Settle, wp_Make, wp_MakeK, wp_Fld, wp_FldS, wp_MethC, wp_InC, wp_tInC, wp_EqC, wp_tEqC, wp_LenC, wp_TxtC, wp_jNil, wp_jCons, wp_Joined, wp_Fmt, wp_Calm, wp_Cval, wp_Meth, wp_Ix, wp_MakeR, wp_MakeRK, wp_aStar, wp_MakeS, wp_EnumU, wp_ListS, wp_iSeq, wp_Range1, wp_Range2, wp_tYes, wf_ok, rd_cons0, rd_cons, got_some, orGot_some, orGot_none, asB_bl, asI_int, asS_str, asOne_one, asTwo_two, wp_sPar3, asThree_three, wp_Prop, wp_NeC, wp_tNeC, wp_MethK, wp_DGet, wp_DHas, wp_tDHas, wp_DPutU, wp_ListDS, wp_ListTS, wp_DcS, wp_IndexC, wp_sAugL, wp_CatLS, wp_SortSet, wp_SortSetS, bName, List.set_cons_succ, List.set_cons_zero, List.append_nil, List.length_cons, List.length_nil, Nat.zero_add, Nat.reduceAdd, true_and, and_true, if_true, if_false, Bool.false_eq_true, Bool.not_true, Bool.not_false, List.take_zero, List.drop_zero, nil_appD, f1, lit_to, lit_bang, lit_nil, empty_txt, txt_app, List.nil_append]
        refine ⟨sz_le (by simp), sz_le (by simp), sz_le (by simp), ?_⟩
        cases hb : c.2.2
        · simp only [wp_C, wp_Var, wp_Bin, wp_Cmp, wp_Un, wp_CallB, wp_Sl, wp_oNone, wp_oSome, wp_aNil, wp_aCons, wp_Tup, wp_Lst, wp_LstS, wp_And, wp_Or, wp_Not, wp_If, wp_CallF, wp_CallK, wp_tVal, wp_tCmp, wp_tAnd, wp_tOr, wp_tNot, wp_Chain, wp_tChain, wp_Next, wp_Brk, wp_Cont, wp_RetN, wp_Ret, wp_Expr, wp_sIf, wp_Asg, wp_sSub, wp_sPar, wp_sAug, wp_For, wp_Comp, wp_Settle, wp_Make, wp_MakeK, wp_Fld, wp_FldS, wp_MethC, wp_InC, wp_tInC, wp_EqC, wp_tEqC, wp_LenC, wp_TxtC, wp_jNil, wp_jCons, wp_Joined, wp_Fmt, wp_Calm, wp_Cval, wp_Meth, wp_Ix, wp_MakeR, wp_MakeRK, wp_aStar, wp_MakeS, wp_EnumU, wp_ListS, wp_iSeq, wp_Range1, wp_Range2, wp_tYes, wf_ok, rd_cons0, rd_cons, got_some, orGot_some, orGot_none, asB_bl, asI_int, asS_str, asOne_one, asTwo_two, wp_sPar3, asThree_three, wp_Prop, wp_NeC, wp_tNeC, wp_MethK, wp_DGet, wp_DHas, wp_tDHas, wp_DPutU, wp_ListDS, wp_ListTS, wp_DcS, wp_IndexC, wp_sAugL, wp_CatLS, wp_SortSet, wp_SortSetS, bName, List.set_cons_succ, List.set_cons_zero, List.append_nil, List.length_cons, List.length_nil, Nat.zero_add, Nat.reduceAdd, true_and, and_true, if_true, if_false, Bool.false_eq_true, Bool.not_true, Bool.not_false, List.take_zero, List.drop_zero, nil_appD]
          rw [oAdd_txt (by simp)]
          simp [chT, bangL, hb]
        · simp only [wp_C, wp_Var, wp_Bin, wp_Cmp, wp_Un, wp_CallB, wp_Sl, wp_oNone, wp_oSome, wp_aNil, wp_aCons, wp_Tup, wp_Lst, wp_LstS, wp_And, wp_Or, wp_Not, wp_If, wp_CallF, wp_CallK, wp_tVal, wp_tCmp, wp_tAnd, wp_tOr, wp_tNot, wp_Chain, wp_tChain, wp_Next, wp_Brk, wp_Cont, wp_RetN, wp_Ret, wp_Expr, wp_sIf, wp_Asg, wp_sSub, wp_sPar, wp_sAug, wp_For, wp_Comp, wp_Settle, wp_Make, wp_MakeK, wp_Fld, wp_FldS, wp_MethC, wp_InC, wp_tInC, wp_EqC, wp_tEqC, wp_LenC, wp_TxtC, wp_jNil, wp_jCons, wp_Joined, wp_Fmt, wp_Calm, wp_Cval, wp_Meth, wp_Ix, wp_MakeR, wp_MakeRK, wp_aStar, wp_MakeS, wp_EnumU, wp_ListS, wp_iSeq, wp_Range1, wp_Range2, wp_tYes, wf_ok, rd_cons0, rd_cons, got_some, orGot_some, orGot_none, asB_bl, asI_int, asS_str, asOne_one, asTwo_two, wp_sPar3, asThree_three, wp_Prop, wp_NeC, wp_tNeC, wp_MethK, wp_DGet, wp_DHas, wp_tDHas, wp_DPutU, wp_ListDS, wp_ListTS, wp_DcS, wp_IndexC, wp_sAugL, wp_CatLS, wp_SortSet, wp_SortSetS, bName, List.set_cons_succ, List.set_cons_zero, List.append_nil, List.length_cons, List.length_nil, Nat.zero_add, Nat.reduceAdd, true_and, and_true, if_true, if_false, Bool.false_eq_true, Bool.not_true, Bool.not_false, List.take_zero, List.drop_zero, nil_appD]
          rw [oAdd_txt (by simp)]
          simp [chT, bangL, hb])
    simp only [wp_C, wp_Var, wp_Bin, wp_Cmp, wp_Un, wp_CallB, wp_Sl, wp_oNone, wp_oSome, wp_aNil, wp_aCons, wp_Tup, wp_Lst, wp_LstS, wp_And, wp_Or, wp_Not, wp_If, wp_CallF, wp_CallK, wp_tVal, wp_tCmp, wp_tAnd, wp_tOr, wp_tNot, wp_Chain, wp_tChain, wp_Next, wp_Brk, wp_Cont, wp_RetN, wp_Ret, wp_Expr, wp_sIf, wp_Asg, wp_sSub, wp_sPar, wp_sAug, wp_For, wp_Comp, wp_Settle, wp_Make, wp_MakeK, wp_Fld, wp_FldS, wp_MethC, wp_InC, wp_tInC, wp_EqC, wp_tEqC, wp_LenC, wp_TxtC, wp_jNil, wp_jCons, wp_Joined, wp_Fmt, wp_Calm, wp_Cval, wp_Meth, wp_Ix, wp_MakeR, wp_MakeRK, wp_aStar, wp_MakeS, wp_EnumU, wp_ListS, wp_iSeq, wp_Range1, wp_Range2, wp_tYes, wf_ok, rd_cons0, rd_cons, got_some, orGot_some, orGot_none, asB_bl, asI_int, asS_str, asOne_one, asTwo_two, wp_sPar3, asThree_three, wp_Prop, wp_NeC, wp_tNeC, wp_MethK, wp_DGet, wp_DHas, wp_tDHas, wp_DPutU, wp_ListDS, wp_ListTS, wp_DcS, wp_IndexC, wp_sAugL, wp_CatLS, wp_SortSet, wp_SortSetS, bName, List.set_cons_succ, List.set_cons_zero, List.append_nil, List.length_cons, List.length_nil, Nat.zero_add, Nat.reduceAdd, true_and, and_true, if_true, if_false, Bool.false_eq_true, Bool.not_true, Bool.not_false, List.take_zero, List.drop_zero, nil_appD, it, cm, wp_ok]
    refine ⟨by rw [List.length_map]; exact Nat.lt_of_lt_of_le (m := 4000000) (by omega) sz_big, ?_⟩
    have ad : ∀ S : Sto, oAdd S (.lst [.str (txt lOthers)]) (.lst (cs.map fun c => .str (txt (chT c)))) = some (.lst (.str (txt lOthers) :: cs.map fun c => .str (txt (chT c)))) := fun S => oAdd_lst (by simp; omega)
    simp only [wp_C, wp_Var, wp_Bin, wp_Cmp, wp_Un, wp_CallB, wp_Sl, wp_oNone, wp_oSome, wp_aNil, wp_aCons, wp_Tup, wp_Lst, wp_LstS, wp_And, wp_Or, wp_Not, wp_If, wp_CallF, wp_CallK, wp_tVal, wp_tCmp, wp_tAnd, wp_tOr, wp_tNot, wp_Chain, wp_tChain, wp_Next, wp_Brk, wp_Cont, wp_RetN, wp_Ret, wp_Expr, wp_sIf, wp_Asg, wp_sSub, wp_sPar, wp_sAug, wp_For, wp_Comp, wp_Settle, wp_Make, wp_MakeK, wp_Fld, wp_FldS, wp_MethC, wp_InC, wp_tInC, wp_EqC, wp_tEqC, wp_LenC, wp_TxtC, wp_jNil, wp_jCons, wp_Joined, wp_Fmt, wp_Calm, wp_Cval, wp_Meth, wp_Ix, wp_MakeR, wp_MakeRK, wp_aStar, wp_MakeS, wp_EnumU, wp_ListS, wp_iSeq, wp_Range1, wp_Range2, wp_tYes, wf_ok, rd_cons0, rd_cons, got_some, orGot_some, orGot_none, asB_bl, asI_int, asS_str, asOne_one, asTwo_two, wp_sPar3, asThree_three, wp_Prop, wp_NeC, wp_tNeC, wp_MethK, wp_DGet, wp_DHas, wp_tDHas, wp_DPutU, wp_ListDS, wp_ListTS, wp_DcS, wp_IndexC, wp_sAugL, wp_CatLS, wp_SortSet, wp_SortSetS, bName, List.set_cons_succ, List.set_cons_zero, List.append_nil, List.length_cons, List.length_nil, Nat.zero_add, Nat.reduceAdd, true_and, and_true, if_true, if_false, Bool.false_eq_true, Bool.not_true, Bool.not_false, List.take_zero, List.drop_zero, nil_appD, lit_sp, lit_others, isStr, ad, join_rules h, p2]
    exact ⟨sz_le (by simp), rfl⟩
  · rintro x xs r T ⟨⟨x3, x4, rfl⟩, rfl, hx⟩
    obtain ⟨i, c, hc, rfl⟩ := hx x (List.mem_cons_self ..)
    refine ⟨_, rfl, ?_⟩
    simp only [wp_C, wp_Var, wp_Bin, wp_Cmp, wp_Un, wp_CallB, wp_Sl, wp_oNone, wp_oSome, wp_aNil, wp_aCons, wp_Tup, wp_Lst, wp_LstS, wp_And, wp_Or, wp_Not, wp_If, wp_CallF, wp_CallK, wp_tVal, wp_tCmp, wp_tAnd, wp_tOr, wp_tNot, wp_Chain, wp_tChain, wp_Next, wp_Brk, wp_Cont, wp_RetN, wp_Ret, wp_Expr, wp_sIf, wp_Asg, wp_sSub, wp_sPar, wp_sAug, wp_For, wp_Comp, wp_Settle, wp_Make, wp_MakeK, wp_Fld, wp_FldS, wp_MethC, wp_InC, wp_tInC, wp_EqC, wp_tEqC, wp_LenC, wp_TxtC, wp_jNil, wp_jCons, wp_Joined, wp_Fmt, wp_Calm, wp_Cval, wp_Meth, wp_Ix, wp_MakeR, wp_MakeRK, wp_aStar, wp_MakeS, wp_EnumU, wp_ListS, wp_iSeq, wp_Range1, wp_Range2, wp_tYes, wf_ok, rd_cons0, rd_cons, got_some, orGot_some, orGot_none, asB_bl, asI_int, asS_str, asOne_one, asTwo_two, wp_sPar3, asThree_three, wp_Prop, wp_NeC, wp_tNeC, wp_MethK, wp_DGet, wp_DHas, wp_tDHas, wp_DPutU, wp_ListDS, wp_ListTS, wp_DcS, wp_IndexC, wp_sAugL, wp_CatLS, wp_SortSet, wp_SortSetS, bName, List.set_cons_succ, List.set_cons_zero, List.append_nil, List.length_cons, List.length_nil, Nat.zero_add, Nat.reduceAdd, true_and, and_true, if_true, if_false, Bool.false_eq_true, Bool.not_true, Bool.not_false, List.take_zero, List.drop_zero, nil_appD, is_rule_ok (h.ok c hc)]
    exact ⟨⟨_, _, rfl⟩, fun y hy => hx y (List.mem_cons_of_mem _ hy)⟩
section
variable {cs : List Ch} {S : Sto}
theorem rules_fld_kept : fldD fc_kept_rules "kept_rules" S (rulesD cs) = some (.lst (cs.map chD)) := by kernel_rfl
theorem rules_fld_text : fldD fc_own_text "own_text" S (rulesD cs) = some (.str (txt (rulesT cs))) := by kernel_rfl
theorem rules_ins : insOf S (rulesD cs) = some (("Rules" : Str), rulesN, rulesV cs) := rfl
end
/-! ### the law's own rules -/
theorem law_rules_ok {cs : List Ch} {S : Sto} (h : RulesO cs) (h4 : cs.length ≤ 4) : m_law_rules [.lst (cs.map chD)] S = .ok (rulesD cs) S := by
  refine pur_flat rules_bndD (by simp [bndL, bnd, rulesL_bnd]) ?_
  have e0 : startE 1 [.lst (cs.map chD)] = [some (.lst (cs.map chD))] := rfl
  rw [e0]
  unfold fb_law_rules
  have ln : oLen [] [.lst (cs.map chD)] = some (.int cs.length) := by
    show some (D.int (cs.map chD).length) = _
    rw [List.length_map]
  have ri : m_rules_init [.ref 0, .tup (cs.map chD)] ([] ++ [.ins "Rules" [] []]) = .ok .non ([] ++ [rulesO cs]) := rules_init_ok (S := []) h
  have f1 : fz 0 ([] ++ [rulesO cs]) 60 (.ref 0) = rulesD cs := fz_0 rules_bnd
  have f2 : List.take 0 ([] ++ [rulesO cs]) = [] := rfl
  have z : ∀ n : Nat, n ≤ 4 → n ≤ sizeLine := fun n hn => sz_le (by omega)
  match cs, h4, ln, ri, f1, f2 with
  | [], _, ln, ri, f1, f2 =>
    simp only [List.length_nil, List.map_nil] at ln ri
    simp only [wp_Seq, wp_C, wp_Var, wp_Bin, wp_Cmp, wp_Un, wp_CallB, wp_Sl, wp_oNone, wp_oSome, wp_aNil, wp_aCons, wp_Tup, wp_Lst, wp_LstS, wp_And, wp_Or, wp_Not, wp_If, wp_CallF, wp_CallK, wp_tVal, wp_tCmp, wp_tAnd, wp_tOr, wp_tNot, wp_Chain, wp_tChain, wp_Next, wp_Brk, wp_Cont, wp_RetN, wp_Ret, wp_Expr, wp_sIf, wp_Asg, wp_sSub, wp_sPar, wp_sAug, wp_For, wp_Comp, wp_Settle, wp_Make, wp_MakeK, wp_Fld, wp_FldS, wp_MethC, wp_InC, wp_tInC, wp_EqC, wp_tEqC, wp_LenC, wp_TxtC, wp_jNil, wp_jCons, wp_Joined, wp_Fmt, wp_Calm, wp_Cval, wp_Meth, wp_Ix, wp_MakeR, wp_MakeRK, wp_aStar, wp_MakeS, wp_EnumU, wp_ListS, wp_iSeq, wp_Range1, wp_Range2, wp_tYes, wf_ok, rd_cons0, rd_cons, got_some, orGot_some, orGot_none, asB_bl, asI_int, asS_str, asOne_one, asTwo_two, wp_sPar3, asThree_three, wp_Prop, wp_NeC, wp_tNeC, wp_MethK, wp_DGet, wp_DHas, wp_tDHas, wp_DPutU, wp_ListDS, wp_ListTS, wp_DcS, wp_IndexC, wp_sAugL, wp_CatLS, wp_SortSet, wp_SortSetS, bName, List.set_cons_succ, List.set_cons_zero, List.append_nil, List.length_cons, List.length_nil, Nat.zero_add, Nat.reduceAdd, true_and, and_true, if_true, if_false, Bool.false_eq_true, Bool.not_true, Bool.not_false, List.take_zero, List.drop_zero, nil_appD, ln, eqB_int, List.map_nil, ri, f1, f2, rules_bndD]
    simp [z]
  | [a], _, ln, ri, f1, f2 =>
    have x0 : oIx [] (.lst [chD a]) (.int 0) = some (chD a) := rfl
    simp only [List.length_cons, List.length_nil, List.map_cons, List.map_nil] at ln ri
    simp only [wp_Seq, wp_C, wp_Var, wp_Bin, wp_Cmp, wp_Un, wp_CallB, wp_Sl, wp_oNone, wp_oSome, wp_aNil, wp_aCons, wp_Tup, wp_Lst, wp_LstS, wp_And, wp_Or, wp_Not, wp_If, wp_CallF, wp_CallK, wp_tVal, wp_tCmp, wp_tAnd, wp_tOr, wp_tNot, wp_Chain, wp_tChain, wp_Next, wp_Brk, wp_Cont, wp_RetN, wp_Ret, wp_Expr, wp_sIf, wp_Asg, wp_sSub, wp_sPar, wp_sAug, wp_For, wp_Comp, wp_Settle, wp_Make, wp_MakeK, wp_Fld, wp_FldS, wp_MethC, wp_InC, wp_tInC, wp_EqC, wp_tEqC, wp_LenC, wp_TxtC, wp_jNil, wp_jCons, wp_Joined, wp_Fmt, wp_Calm, wp_Cval, wp_Meth, wp_Ix, wp_MakeR, wp_MakeRK, wp_aStar, wp_MakeS, wp_EnumU, wp_ListS, wp_iSeq, wp_Range1, wp_Range2, wp_tYes, wf_ok, rd_cons0, rd_cons, got_some, orGot_some, orGot_none, asB_bl, asI_int, asS_str, asOne_one, asTwo_two, wp_sPar3, asThree_three, wp_Prop, wp_NeC, wp_tNeC, wp_MethK, wp_DGet, wp_DHas, wp_tDHas, wp_DPutU, wp_ListDS, wp_ListTS, wp_DcS, wp_IndexC, wp_sAugL, wp_CatLS, wp_SortSet, wp_SortSetS, bName, List.set_cons_succ, List.set_cons_zero, List.append_nil, List.length_cons, List.length_nil, Nat.zero_add, Nat.reduceAdd, true_and, and_true, if_true, if_false, Bool.false_eq_true, Bool.not_true, Bool.not_false, List.take_zero, List.drop_zero, nil_appD, ln, eqB_int, List.map_cons, List.map_nil, x0, ri, f1, f2, rules_bndD]
    simp [z]
  | [a, b], _, ln, ri, f1, f2 =>
    have x0 : oIx [] (.lst [chD a, chD b]) (.int 0) = some (chD a) := rfl
    have x1 : oIx [] (.lst [chD a, chD b]) (.int 1) = some (chD b) := rfl
    simp only [List.length_cons, List.length_nil, List.map_cons, List.map_nil] at ln ri
    simp only [wp_Seq, wp_C, wp_Var, wp_Bin, wp_Cmp, wp_Un, wp_CallB, wp_Sl, wp_oNone, wp_oSome, wp_aNil, wp_aCons, wp_Tup, wp_Lst, wp_LstS, wp_And, wp_Or, wp_Not, wp_If, wp_CallF, wp_CallK, wp_tVal, wp_tCmp, wp_tAnd, wp_tOr, wp_tNot, wp_Chain, wp_tChain, wp_Next, wp_Brk, wp_Cont, wp_RetN, wp_Ret, wp_Expr, wp_sIf, wp_Asg, wp_sSub, wp_sPar, wp_sAug, wp_For, wp_Comp, wp_Settle, wp_Make, wp_MakeK, wp_Fld, wp_FldS, wp_MethC, wp_InC, wp_tInC, wp_EqC, wp_tEqC, wp_LenC, wp_TxtC, wp_jNil, wp_jCons, wp_Joined, wp_Fmt, wp_Calm, wp_Cval, wp_Meth, wp_Ix, wp_MakeR, wp_MakeRK, wp_aStar, wp_MakeS, wp_EnumU, wp_ListS, wp_iSeq, wp_Range1, wp_Range2, wp_tYes, wf_ok, rd_cons0, rd_cons, got_some, orGot_some, orGot_none, asB_bl, asI_int, asS_str, asOne_one, asTwo_two, wp_sPar3, asThree_three, wp_Prop, wp_NeC, wp_tNeC, wp_MethK, wp_DGet, wp_DHas, wp_tDHas, wp_DPutU, wp_ListDS, wp_ListTS, wp_DcS, wp_IndexC, wp_sAugL, wp_CatLS, wp_SortSet, wp_SortSetS, bName, List.set_cons_succ, List.set_cons_zero, List.append_nil, List.length_cons, List.length_nil, Nat.zero_add, Nat.reduceAdd, true_and, and_true, if_true, if_false, Bool.false_eq_true, Bool.not_true, Bool.not_false, List.take_zero, List.drop_zero, nil_appD, ln, eqB_int, List.map_cons, List.map_nil, x0, x1, ri, f1, f2, rules_bndD]
    simp [z]
  | [a, b, c], _, ln, ri, f1, f2 =>
    have x0 : oIx [] (.lst [chD a, chD b, chD c]) (.int 0) = some (chD a) := rfl
    have x1 : oIx [] (.lst [chD a, chD b, chD c]) (.int 1) = some (chD b) := rfl
    have x2 : oIx [] (.lst [chD a, chD b, chD c]) (.int 2) = some (chD c) := rfl
    simp only [List.length_cons, List.length_nil, List.map_cons, List.map_nil] at ln ri
    simp only [wp_Seq, wp_C, wp_Var, wp_Bin, wp_Cmp, wp_Un, wp_CallB, wp_Sl, wp_oNone, wp_oSome, wp_aNil, wp_aCons, wp_Tup, wp_Lst, wp_LstS, wp_And, wp_Or, wp_Not, wp_If, wp_CallF, wp_CallK, wp_tVal, wp_tCmp, wp_tAnd, wp_tOr, wp_tNot, wp_Chain, wp_tChain, wp_Next, wp_Brk, wp_Cont, wp_RetN, wp_Ret, wp_Expr, wp_sIf, wp_Asg, wp_sSub, wp_sPar, wp_sAug, wp_For, wp_Comp, wp_Settle, wp_Make, wp_MakeK, wp_Fld, wp_FldS, wp_MethC, wp_InC, wp_tInC, wp_EqC, wp_tEqC, wp_LenC, wp_TxtC, wp_jNil, wp_jCons, wp_Joined, wp_Fmt, wp_Calm, wp_Cval, wp_Meth, wp_Ix, wp_MakeR, wp_MakeRK, wp_aStar, wp_MakeS, wp_EnumU, wp_ListS, wp_iSeq, wp_Range1, wp_Range2, wp_tYes, wf_ok, rd_cons0, rd_cons, got_some, orGot_some, orGot_none, asB_bl, asI_int, asS_str, asOne_one, asTwo_two, wp_sPar3, asThree_three, wp_Prop, wp_NeC, wp_tNeC, wp_MethK, wp_DGet, wp_DHas, wp_tDHas, wp_DPutU, wp_ListDS, wp_ListTS, wp_DcS, wp_IndexC, wp_sAugL, wp_CatLS, wp_SortSet, wp_SortSetS, bName, List.set_cons_succ, List.set_cons_zero, List.append_nil, List.length_cons, List.length_nil, Nat.zero_add, Nat.reduceAdd, true_and, and_true, if_true, if_false, Bool.false_eq_true, Bool.not_true, Bool.not_false, List.take_zero, List.drop_zero, nil_appD, ln, eqB_int, List.map_cons, List.map_nil, x0, x1, x2, ri, f1, f2, rules_bndD]
    simp [z]
  | [a, b, c, d], _, ln, ri, f1, f2 =>
    have x0 : oIx [] (.lst [chD a, chD b, chD c, chD d]) (.int 0) = some (chD a) := rfl
    have x1 : oIx [] (.lst [chD a, chD b, chD c, chD d]) (.int 1) = some (chD b) := rfl
    have x2 : oIx [] (.lst [chD a, chD b, chD c, chD d]) (.int 2) = some (chD c) := rfl
    have x3 : oIx [] (.lst [chD a, chD b, chD c, chD d]) (.int 3) = some (chD d) := rfl
    simp only [List.length_cons, List.length_nil, List.map_cons, List.map_nil] at ln ri
    simp only [wp_Seq, wp_C, wp_Var, wp_Bin, wp_Cmp, wp_Un, wp_CallB, wp_Sl, wp_oNone, wp_oSome, wp_aNil, wp_aCons, wp_Tup, wp_Lst, wp_LstS, wp_And, wp_Or, wp_Not, wp_If, wp_CallF, wp_CallK, wp_tVal, wp_tCmp, wp_tAnd, wp_tOr, wp_tNot, wp_Chain, wp_tChain, wp_Next, wp_Brk, wp_Cont, wp_RetN, wp_Ret, wp_Expr, wp_sIf, wp_Asg, wp_sSub, wp_sPar, wp_sAug, wp_For, wp_Comp, wp_Settle, wp_Make, wp_MakeK, wp_Fld, wp_FldS, wp_MethC, wp_InC, wp_tInC, wp_EqC, wp_tEqC, wp_LenC, wp_TxtC, wp_jNil, wp_jCons, wp_Joined, wp_Fmt, wp_Calm, wp_Cval, wp_Meth, wp_Ix, wp_MakeR, wp_MakeRK, wp_aStar, wp_MakeS, wp_EnumU, wp_ListS, wp_iSeq, wp_Range1, wp_Range2, wp_tYes, wf_ok, rd_cons0, rd_cons, got_some, orGot_some, orGot_none, asB_bl, asI_int, asS_str, asOne_one, asTwo_two, wp_sPar3, asThree_three, wp_Prop, wp_NeC, wp_tNeC, wp_MethK, wp_DGet, wp_DHas, wp_tDHas, wp_DPutU, wp_ListDS, wp_ListTS, wp_DcS, wp_IndexC, wp_sAugL, wp_CatLS, wp_SortSet, wp_SortSetS, bName, List.set_cons_succ, List.set_cons_zero, List.append_nil, List.length_cons, List.length_nil, Nat.zero_add, Nat.reduceAdd, true_and, and_true, if_true, if_false, Bool.false_eq_true, Bool.not_true, Bool.not_false, List.take_zero, List.drop_zero, nil_appD, ln, eqB_int, List.map_cons, List.map_nil, x0, x1, x2, x3, ri, f1, f2, rules_bndD]
    simp [z]
  | _ :: _ :: _ :: _ :: _ :: _, h4, _, _, _, _ => simp at h4
/-! ### shortest chains: plain -/
/-- a chain of rules, by their places, from a letter to a letter -/
def isCh (cs : List Ch) : Nat → List Nat → Nat → Prop
  | s, [], e => s = e
  | s, i :: p, e => ∃ r, cs[i]? = some r ∧ r.1 = s ∧ isCh cs r.2.1 p e
theorem isCh_snoc {cs : List Ch} {i : Nat} {r : Ch} (hr : cs[i]? = some r) : ∀ {s : Nat} {p : List Nat}, isCh cs s p r.1 → isCh cs s (p ++ [i]) r.2.1
  | s, [], h => ⟨r, hr, Eq.symm h, rfl⟩
  | s, j :: p, h => by
    obtain ⟨q, h1, h2, h3⟩ := h
    exact ⟨q, h1, h2, isCh_snoc hr h3⟩
/-- reached by at most so many rules -/
def rchW (cs : List Ch) (st : List Nat) : Nat → Nat → Prop
  | 0, c => c ∈ st
  | k + 1, c => rchW cs st k c ∨ ∃ r ∈ cs, rchW cs st k r.1 ∧ r.2.1 = c
theorem rchW_mono {cs : List Ch} {st : List Nat} {c j k : Nat} (h : j ≤ k) (q : rchW cs st j c) : rchW cs st k c := by
  induction h with
  | refl => exact q
  | step _ ih => exact .inl ih
/-- the least number of rules -/
structure DistO (cs : List Ch) (st goal : List Nat) (k : Nat) : Prop where
  at_ : ∃ g ∈ goal, rchW cs st k g
  no : ∀ j, j < k → ∀ g ∈ goal, ¬ rchW cs st j g
theorem DistO.uniq {cs : List Ch} {st goal : List Nat} {k j : Nat} (h : DistO cs st goal k) (h' : DistO cs st goal j) : k = j := by
  obtain ⟨g, hg, hk⟩ := h.at_
  obtain ⟨g', hg', hj⟩ := h'.at_
  by_cases c : k < j
  · exact absurd hk (h'.no k c g hg)
  · by_cases c' : j < k
    · exact absurd hj (h.no j c' g' hg')
    · omega
abbrev BQ := List (Nat × List Nat)
/-- the search's state: the letters that were met with their chains, in order -/
structure BfI (cs : List Ch) (st : List Nat) (q : BQ) : Prop where
  nd : (q.map (·.1)).Nodup
  ch : ∀ x ∈ q, ∃ s ∈ st, isCh cs s x.2 x.1
  rw : ∀ x ∈ q, rchW cs st x.2.length x.1
  mono : q.Pairwise fun x y => x.2.length ≤ y.2.length
  st0 : ∀ c ∈ st, ∃ x ∈ q, x.1 = c ∧ x.2 = []
  split : ∃ q', q = st.map (fun c => (c, [])) ++ q' ∧ (∀ (i : Nat) (x : Nat × List Nat), q'[i]? = some x → x.2.length ≤ i + 1) ∧ ∀ x ∈ q', ∃ r ∈ cs, r.2.1 = x.1
/-- those before n are done -/
def doneB (cs : List Ch) (goal : List Nat) (q : BQ) (n : Nat) : Prop := ∀ (i : Nat) (x : Nat × List Nat), i < n → q[i]? = some x → x.1 ∉ goal ∧ ∀ r ∈ cs, r.1 = x.1 → ∃ y ∈ q, y.1 = r.2.1 ∧ y.2.length ≤ x.2.length + 1
theorem bf_level {cs : List Ch} {st goal : List Nat} {q : BQ} {n : Nat} (h : BfI cs st q) (d : doneB cs goal q n) {L : Nat} (hL : ∀ (i : Nat) (x : Nat × List Nat), q[i]? = some x → x.2.length < L → i < n) : ∀ (k c : Nat), k ≤ L → rchW cs st k c → ∃ x ∈ q, x.1 = c ∧ x.2.length ≤ k
  | 0, c, _, hc => by
    obtain ⟨x, hx, h1, h2⟩ := h.st0 c hc
    exact ⟨x, hx, h1, by rw [h2]; simp⟩
  | k + 1, c, hk, hc => by
    rcases hc with hc | ⟨r, hr, hc, rfl⟩
    · obtain ⟨x, hx, h1, h2⟩ := bf_level h d hL k c (by omega) hc
      exact ⟨x, hx, h1, by omega⟩
    · obtain ⟨x, hx, h1, h2⟩ := bf_level h d hL k r.1 (by omega) hc
      obtain ⟨i, hi, e⟩ := List.getElem_of_mem hx
      have hi' : q[i]? = some x := by rw [List.getElem?_eq_getElem hi, e]
      obtain ⟨_, d2⟩ := d i x (hL i x hi' (by omega)) hi'
      obtain ⟨y, hy, e1, e2⟩ := d2 r hr h1.symm
      exact ⟨y, hy, e1, by omega⟩
theorem bf_lt {cs : List Ch} {st : List Nat} {q : BQ} {n : Nat} {x : Nat × List Nat} (h : BfI cs st q) (hx : q[n]? = some x) (i : Nat) (y : Nat × List Nat) (hy : q[i]? = some y) (hl : y.2.length < x.2.length) : i < n := by
  by_cases c : i < n
  · exact c
  · by_cases e : i = n
    · subst e; rw [hx] at hy; cases hy; omega
    · obtain ⟨h1, e1⟩ := List.getElem?_eq_some_iff.mp hx
      obtain ⟨h2, e2⟩ := List.getElem?_eq_some_iff.mp hy
      have := List.pairwise_iff_getElem.mp h.mono n i h1 h2 (by omega)
      rw [e1, e2] at this
      omega
/-- a goal is met: none is nearer -/
theorem bf_found {cs : List Ch} {st goal : List Nat} {q : BQ} {n : Nat} {x : Nat × List Nat} (h : BfI cs st q) (d : doneB cs goal q n) (hx : q[n]? = some x) (hg : x.1 ∈ goal) : DistO cs st goal x.2.length := ⟨⟨x.1, hg, h.rw x (List.mem_of_getElem? hx)⟩, fun j hj g hg' hr => by
  obtain ⟨y, hy, e1, e2⟩ := bf_level h d (fun i y hy hl => bf_lt h hx i y hy hl) j g (by omega) hr
  obtain ⟨i, hi, e⟩ := List.getElem_of_mem hy
  have hi' : q[i]? = some y := by rw [List.getElem?_eq_getElem hi, e]
  have := (d i y (bf_lt h hx i y hi' (by omega)) hi').1
  rw [e1] at this
  exact this hg'⟩
theorem bf_none {cs : List Ch} {st goal : List Nat} {q : BQ} (h : BfI cs st q) (d : doneB cs goal q q.length) (k g : Nat) (hg : g ∈ goal) : ¬ rchW cs st k g := fun hr => by
  obtain ⟨y, hy, e1, e2⟩ := bf_level (L := k) h d (fun i y hy _ => (List.getElem?_eq_some_iff.mp hy).1) k g (Nat.le_refl _) hr
  obtain ⟨i, hi, e⟩ := List.getElem_of_mem hy
  have := (d i y hi (by rw [List.getElem?_eq_getElem hi, e])).1
  rw [e1] at this
  exact this hg
theorem nd_len : ∀ {l m : List Nat}, l.Nodup → (∀ x ∈ l, x ∈ m) → l.length ≤ m.length
  | [], m, _, _ => Nat.zero_le _
  | x :: l, m, h, s => by
    obtain ⟨h1, h2⟩ := List.nodup_cons.mp h
    have hx : x ∈ m := s x (List.mem_cons_self ..)
    have := nd_len (l := l) (m := m.erase x) h2 fun y hy => (List.mem_erase_of_ne (fun e : y = x => h1 (e ▸ hy))).mpr (s y (List.mem_cons_of_mem _ hy))
    rw [List.length_erase_of_mem hx] at this
    have : 0 < m.length := List.length_pos_of_mem hx
    simp only [List.length_cons]
    omega
theorem bf_size {cs : List Ch} {st : List Nat} {q : BQ} (h : BfI cs st q) : q.length ≤ st.length + cs.length ∧ ∀ x ∈ q, x.2.length ≤ cs.length := by
  obtain ⟨q', e, h1, h2⟩ := h.split
  have nd : (q'.map (·.1)).Nodup := by
    have := h.nd
    rw [e, List.map_append] at this
    exact (List.nodup_append.mp this).2.1
  have hl : q'.length ≤ cs.length := by
    have := nd_len (m := cs.map fun r => r.2.1) nd fun x hx => by
      obtain ⟨y, hy, rfl⟩ := List.mem_map.mp hx
      obtain ⟨r, hr, e⟩ := h2 y hy
      exact List.mem_map.mpr ⟨r, hr, e⟩
    simpa using this
  constructor
  · rw [e, List.length_append, List.length_map]; omega
  · intro x hx
    rw [e] at hx
    rcases List.mem_append.mp hx with hx | hx
    · obtain ⟨c, _, rfl⟩ := List.mem_map.mp hx
      exact Nat.zero_le _
    · obtain ⟨i, hi, rfl⟩ := List.getElem_of_mem hx
      have := h1 i q'[i] (List.getElem?_eq_getElem hi)
      omega
theorem bf_start {cs : List Ch} {st : List Nat} (h : st.Nodup) : BfI cs st (st.map fun c => (c, [])) where
  nd := by rw [List.map_map]; simpa [Function.comp_def] using h
  ch := fun x hx => by
    obtain ⟨c, hc, rfl⟩ := List.mem_map.mp hx
    exact ⟨c, hc, rfl⟩
  rw := fun x hx => by
    obtain ⟨c, hc, rfl⟩ := List.mem_map.mp hx
    exact hc
  mono := by
    refine List.pairwise_map.mpr (List.pairwise_of_forall fun _ _ => Nat.le_refl _)
  st0 := fun c hc => ⟨(c, []), List.mem_map.mpr ⟨c, hc, rfl⟩, rfl, rfl⟩
  split := ⟨[], by simp, fun i x h => by simp at h, fun x h => by cases h⟩
/-- a new letter -/
theorem bf_add {cs : List Ch} {st : List Nat} {q : BQ} {n : Nat} {x : Nat × List Nat} {i : Nat} {r : Ch} (h : BfI cs st q) (hx : q[n]? = some x) (hr : cs[i]? = some r) (e : r.1 = x.1) (hn : r.2.1 ∉ q.map (·.1)) (top : ∀ y ∈ q, y.2.length ≤ x.2.length + 1) : BfI cs st (q ++ [(r.2.1, x.2 ++ [i])]) where
  nd := by
    rw [List.map_append]
    refine List.nodup_append.mpr ⟨h.nd, by simp, fun a ha b hb e => ?_⟩
    simp at hb
    subst hb
    exact hn (e ▸ ha)
  ch := fun y hy => by
    rcases List.mem_append.mp hy with hy | hy
    · exact h.ch y hy
    · cases List.mem_singleton.mp hy
      obtain ⟨s, hs, hc⟩ := h.ch x (List.mem_of_getElem? hx)
      exact ⟨s, hs, isCh_snoc hr (by rw [e]; exact hc)⟩
  rw := fun y hy => by
    rcases List.mem_append.mp hy with hy | hy
    · exact h.rw y hy
    · cases List.mem_singleton.mp hy
      have := h.rw x (List.mem_of_getElem? hx)
      simp only [List.length_append, List.length_cons, List.length_nil]
      exact .inr ⟨r, List.mem_of_getElem? hr, by rw [e]; exact this, rfl⟩
  mono := by
    refine List.pairwise_append.mpr ⟨h.mono, by simp, fun a ha b hb => ?_⟩
    cases List.mem_singleton.mp hb
    have := top a ha
    simpa using this
  st0 := fun c hc => by
    obtain ⟨y, hy, e⟩ := h.st0 c hc
    exact ⟨y, List.mem_append_left _ hy, e⟩
  split := by
    obtain ⟨q', e', h1, h2⟩ := h.split
    refine ⟨q' ++ [(r.2.1, x.2 ++ [i])], by rw [e', List.append_assoc], fun j y hy => ?_, fun y hy => ?_⟩
    · by_cases c : j < q'.length
      · rw [List.getElem?_append_left c] at hy; exact h1 j y hy
      · rw [List.getElem?_append_right (by omega)] at hy
        have hj : j - q'.length = 0 := by
          have := (List.getElem?_eq_some_iff.mp hy).1
          simp at this; omega
        rw [hj] at hy
        simp at hy
        subst hy
        simp only [List.length_append, List.length_cons, List.length_nil]
        -- x is a start or one of q'
        have hx' := List.mem_of_getElem? hx
        rw [e'] at hx'
        rcases List.mem_append.mp hx' with hx' | hx'
        · obtain ⟨c, _, rfl⟩ := List.mem_map.mp hx'
          simp
        · obtain ⟨m, hm, rfl⟩ := List.getElem_of_mem hx'
          have := h1 m q'[m] (List.getElem?_eq_getElem hm)
          omega
    · rcases List.mem_append.mp hy with hy | hy
      · exact h2 y hy
      · cases List.mem_singleton.mp hy
        exact ⟨r, List.mem_of_getElem? hr, rfl⟩
/-! ### the walk -/
def wayD (p : List Nat) : D := .lst (p.map fun i : Nat => .int (i : Int))
def keyT (c : Nat) : D := .str (txt [c])
def dicQ (q : BQ) : AO := .dic (q.map fun x => keyT x.1) (q.map fun x => wayD x.2)
def lstQ (q : BQ) : AO := .lst (q.map fun x => keyT x.1)
theorem keyT_inj {a b : Nat} : keyOf (keyT a) = some (.inr (txt [b])) ↔ a = b := by
  show some (Sum.inr (txt [a]) : Key) = some (.inr (txt [b])) ↔ _
  simp [txt_inj]
theorem dGet_q {c : Nat} : ∀ q : BQ, dGet (.inr (txt [c])) (q.map fun x => keyT x.1) (q.map fun x => wayD x.2) = (q.find? fun x => decide (x.1 = c)).map fun x => wayD x.2
  | [] => rfl
  | x :: q => by
    simp only [List.map_cons, dGet, keyT_inj]
    by_cases e : x.1 = c
    · rw [if_pos e, List.find?_cons_of_pos (by simpa using e)]; rfl
    · rw [if_neg e, List.find?_cons_of_neg (by simpa using e), dGet_q q]
theorem find_nd {q : BQ} (h : (q.map (·.1)).Nodup) {n : Nat} {x : Nat × List Nat} (hx : q[n]? = some x) : q.find? (fun y => decide (y.1 = x.1)) = some x := by
  induction q generalizing n with
  | nil => simp at hx
  | cons y q ih =>
    simp only [List.map_cons, List.nodup_cons] at h
    cases n with
    | zero =>
      simp at hx; subst hx
      rw [List.find?_cons_of_pos (by simp)]
    | succ n =>
      have hx' : q[n]? = some x := by simpa using hx
      have : y.1 ≠ x.1 := fun e => h.1 (e ▸ List.mem_map.mpr ⟨x, List.mem_of_getElem? hx', rfl⟩)
      rw [List.find?_cons_of_neg (by simpa using this), ih h.2 hx']
theorem find_none {q : BQ} {c : Nat} : (q.find? fun y => decide (y.1 = c)).isSome = decide (c ∈ q.map (·.1)) := by
  induction q with
  | nil => rfl
  | cons y q ih =>
    by_cases e : y.1 = c
    · rw [List.find?_cons_of_pos (by simpa using e)]
      simp [e]
    · rw [List.find?_cons_of_neg (by simpa using e), ih]
      have : ¬ c = y.1 := fun h => e h.symm
      simp [this]
theorem dPut_new {q : BQ} {c : Nat} {p : List Nat} (h : c ∉ q.map (·.1)) : dPut (.inr (txt [c])) (wayD p) (q.map fun x => keyT x.1) (q.map fun x => wayD x.2) = ((q ++ [(c, p)]).map (fun x => keyT x.1), (q ++ [(c, p)]).map fun x => wayD x.2) := by
  have : dHas (.inr (txt [c])) (q.map fun x => keyT x.1) = false := by
    induction q with
    | nil => rfl
    | cons y q ih =>
      simp only [List.map_cons, List.mem_cons, not_or] at h
      have e : ¬ keyOf (keyT y.1) = some (.inr (txt [c])) := fun z => h.1 (keyT_inj.mp z).symm
      have := ih h.2
      simp only [List.map_cons, dHas, List.any_cons] at this ⊢
      rw [decide_eq_false e, Bool.false_or]
      exact this
  unfold dPut
  rw [this, if_neg (by decide)]
  simp only [List.map_append, List.map_cons, List.map_nil]
  rfl
theorem dcF_start {r : Env} {S : Sto} (hr : ∀ x, ((wipeE r [7]).set 7 (some x))[7]? = some (some x)) : ∀ (xs : List Nat) (q : BQ), (∀ c ∈ xs, c ∉ q.map (·.1)) → xs.Nodup → dcF (bName 7) tYesB (eVar 7) (eLst aNil) r [7] (xs.map keyT) (q.map fun x => keyT x.1) (q.map fun x => wayD x.2) S = .ok ((q ++ xs.map fun c => ((c, []) : Nat × List Nat)).map (fun x => keyT x.1), (q ++ xs.map fun c => ((c, []) : Nat × List Nat)).map fun x => wayD x.2) r S
  | [], q, _, _ => by simp [dcF]
  | c :: xs, q, h, nd => by
    obtain ⟨n1, n2⟩ := List.nodup_cons.mp nd
    have hc := h c (List.mem_cons_self ..)
    have ih := dcF_start (S := S) hr xs (q ++ [(c, [])]) (fun d hd => by
      simp only [List.map_append, List.map_cons, List.map_nil, List.mem_append, List.mem_singleton, not_or]
      exact ⟨h d (List.mem_cons_of_mem _ hd), fun e => n1 (e ▸ hd)⟩) n2
    have z : (0 : Nat) ≤ sizeLine := sz_le (by omega)
    have ev : eVar 7 ((wipeE r [7]).set 7 (some (keyT c))) S = .ok (keyT c) ((wipeE r [7]).set 7 (some (keyT c))) S := by
      simp only [eVar, hr]
    have el : eLst aNil ((wipeE r [7]).set 7 (some (keyT c))) S = .ok (wayD []) ((wipeE r [7]).set 7 (some (keyT c))) S := by
      simp only [eLst, aNil, R.bind, List.length_nil, if_pos z]; rfl
    simp only [List.map_cons, dcF, bName, tYesB, R.calm, R.bind, if_true, ev, el]
    have ko : keyOf (keyT c) = some (.inr (txt [c])) := rfl
    rw [ko]
    simp only [dPut_new hc]
    rw [ih]
    simp only [List.append_assoc, List.cons_append, List.nil_append]
theorem enumD_mem {xs : List D} {x : D} (h : x ∈ enumD xs) : ∃ (i : Nat) (y : D), xs[i]? = some y ∧ x = .tup [.int i, y] := by
  obtain ⟨i, hi, rfl⟩ := List.getElem_of_mem h
  obtain ⟨y, hy, e⟩ := enumD_get (List.getElem?_eq_getElem hi)
  exact ⟨i, y, hy, e⟩
/-- what chain gives -/
def chainR : Option (List Nat) → D
  | some p => wayD p
  | none => .non
structure ChainO (cs : List Ch) (st goal : List Nat) (o : Option (List Nat)) : Prop where
  ok : ∀ p, o = some p → DistO cs st goal p.length ∧ p.length ≤ cs.length ∧ ∃ s ∈ st, ∃ g ∈ goal, isCh cs s p g
  no : o = none → ∀ k, ∀ g ∈ goal, ¬ rchW cs st k g
theorem way_bnd {p : List Nat} {n : Nat} : bnd n (wayD p) = true := by
  simp only [wayD, bnd]
  exact bndL_of fun x hx => by
    obtain ⟨i, _, rfl⟩ := List.mem_map.mp hx; rfl
theorem chain_ok {cs : List Ch} {st goal : List Nat} {S : Sto} (h : RulesO cs) (hs : st.Nodup) (h6 : st.length ≤ 26) (hg : goal.length ≤ 1000) : ∃ o, ChainO cs st goal o ∧ m_rules_chain [rulesD cs, .str (txt st), .str (txt goal)] S = .ok (chainR o) S := by
  have n8 := h.n8
  have key : wp (fb_rules_chain (startE 12 [rulesD cs, .str (txt st), .str (txt goal)]) []) (fun a _ _ => ∃ o, ChainO cs st goal o ∧ a = .rt (chainR o)) fun _ _ _ => False := by
    have e0 : startE 12 [rulesD cs, .str (txt st), .str (txt goal)] = [some (rulesD cs), some (.str (txt st)), some (.str (txt goal)), none, none, none, none, none, none, none, none, none] := rfl
    rw [e0]
    unfold fb_rules_chain
    have ni : [rulesD cs] = [rulesD cs] := rfl
    have dc := dcF_start (r := [some (rulesD cs), some (.str (txt st)), some (.str (txt goal)), none, none, none, none, none, none, none, none, none]) (S := []) (fun _ => rfl) st [] (fun _ _ h => by cases h) hs
    simp only [List.map_nil, List.nil_append] at dc
    have mk : ∀ l : List Nat, (l.map fun c => D.str (txt [c])) = l.map keyT := fun _ => rfl
    rw [wp_Seq]
    simp only [wp_C, wp_Var, wp_Bin, wp_Cmp, wp_Un, wp_CallB, wp_Sl, wp_oNone, wp_oSome, wp_aNil, wp_aCons, wp_Tup, wp_Lst, wp_LstS, wp_And, wp_Or, wp_Not, wp_If, wp_CallF, wp_CallK, wp_tVal, wp_tCmp, wp_tAnd, wp_tOr, wp_tNot, wp_Chain, wp_tChain, wp_Next, wp_Brk, wp_Cont, wp_RetN, wp_Ret, wp_Expr, wp_sIf, wp_Asg, wp_sSub, wp_sPar, wp_sAug, wp_For, wp_Comp, wp_Settle, wp_Make, wp_MakeK, wp_Fld, wp_FldS, wp_MethC, wp_InC, wp_tInC, wp_EqC, wp_tEqC, wp_LenC, wp_TxtC, wp_jNil, wp_jCons, wp_Joined, wp_Fmt, wp_Calm, wp_Cval, wp_Meth, wp_Ix, wp_MakeR, wp_MakeRK, wp_aStar, wp_MakeS, wp_EnumU, wp_ListS, wp_iSeq, wp_Range1, wp_Range2, wp_tYes, wf_ok, rd_cons0, rd_cons, got_some, orGot_some, orGot_none, asB_bl, asI_int, asS_str, asOne_one, asTwo_two, wp_sPar3, asThree_three, wp_Prop, wp_NeC, wp_tNeC, wp_MethK, wp_DGet, wp_DHas, wp_tDHas, wp_DPutU, wp_ListDS, wp_ListTS, wp_DcS, wp_IndexC, wp_sAugL, wp_CatLS, wp_SortSet, wp_SortSetS, bName, List.set_cons_succ, List.set_cons_zero, List.append_nil, List.length_cons, List.length_nil, Nat.zero_add, Nat.reduceAdd, true_and, and_true, if_true, if_false, Bool.false_eq_true, Bool.not_true, Bool.not_false, List.take_zero, List.drop_zero, nil_appD, items_txt, mk, dc, wp_ok, List.length_map]
    refine ⟨lt_big (by omega), ?_⟩
    rw [wp_Seq]
    have kd : keysD ([] ++ [dicQ (st.map fun c => (c, []))]) [.ref 0] = some ((st.map fun c => ((c, []) : Nat × List Nat)).map fun x => keyT x.1) := rfl
    simp only [dicQ] at kd
    simp only [wp_C, wp_Var, wp_Bin, wp_Cmp, wp_Un, wp_CallB, wp_Sl, wp_oNone, wp_oSome, wp_aNil, wp_aCons, wp_Tup, wp_Lst, wp_LstS, wp_And, wp_Or, wp_Not, wp_If, wp_CallF, wp_CallK, wp_tVal, wp_tCmp, wp_tAnd, wp_tOr, wp_tNot, wp_Chain, wp_tChain, wp_Next, wp_Brk, wp_Cont, wp_RetN, wp_Ret, wp_Expr, wp_sIf, wp_Asg, wp_sSub, wp_sPar, wp_sAug, wp_For, wp_Comp, wp_Settle, wp_Make, wp_MakeK, wp_Fld, wp_FldS, wp_MethC, wp_InC, wp_tInC, wp_EqC, wp_tEqC, wp_LenC, wp_TxtC, wp_jNil, wp_jCons, wp_Joined, wp_Fmt, wp_Calm, wp_Cval, wp_Meth, wp_Ix, wp_MakeR, wp_MakeRK, wp_aStar, wp_MakeS, wp_EnumU, wp_ListS, wp_iSeq, wp_Range1, wp_Range2, wp_tYes, wf_ok, rd_cons0, rd_cons, got_some, orGot_some, orGot_none, asB_bl, asI_int, asS_str, asOne_one, asTwo_two, wp_sPar3, asThree_three, wp_Prop, wp_NeC, wp_tNeC, wp_MethK, wp_DGet, wp_DHas, wp_tDHas, wp_DPutU, wp_ListDS, wp_ListTS, wp_DcS, wp_IndexC, wp_sAugL, wp_CatLS, wp_SortSet, wp_SortSetS, bName, List.set_cons_succ, List.set_cons_zero, List.append_nil, List.length_cons, List.length_nil, Nat.zero_add, Nat.reduceAdd, true_and, and_true, if_true, if_false, Bool.false_eq_true, Bool.not_true, Bool.not_false, List.take_zero, List.drop_zero, nil_appD, kd]
    rw [wp_Seq]
    have q0 := bf_start (cs := cs) hs
    refine wp_while (fun k r T => ∃ (q : BQ) (n : Nat) (x6 x8 x9 x10 x11 : Option D), r = [some (rulesD cs), some (.str (txt st)), some (.str (txt goal)), some (.ref 0), some (.ref 1), some (.int n), x6, none, x8, x9, x10, x11] ∧ T = [dicQ q, lstQ q] ∧ BfI cs st q ∧ doneB cs goal q n ∧ n ≤ q.length ∧ (∀ x, q[n]? = some x → ∀ y ∈ q, y.2.length ≤ x.2.length + 1) ∧ k = 100 - n) 1000000 100 _ _ ⟨_, 0, none, none, none, none, none, rfl, rfl, q0, fun i x hi => absurd hi (Nat.not_lt_zero _), Nat.zero_le _, fun x hx y hy => by
      obtain ⟨c, _, rfl⟩ := List.mem_map.mp hy
      exact Nat.zero_le _, rfl⟩ (by decide) ?_
    rintro k r T ⟨q, n, x6, x8, x9, x10, x11, rfl, rfl, hq, hd, hn, ht, rfl⟩
    obtain ⟨z1, z2⟩ := bf_size hq
    have ln : oLen [dicQ q, lstQ q] [.ref 1] = some (.int q.length) := by
      show some (D.int (q.map fun x => keyT x.1).length) = _
      rw [List.length_map]
    simp only [wp_C, wp_Var, wp_Bin, wp_Cmp, wp_Un, wp_CallB, wp_Sl, wp_oNone, wp_oSome, wp_aNil, wp_aCons, wp_Tup, wp_Lst, wp_LstS, wp_And, wp_Or, wp_Not, wp_If, wp_CallF, wp_CallK, wp_tVal, wp_tCmp, wp_tAnd, wp_tOr, wp_tNot, wp_Chain, wp_tChain, wp_Next, wp_Brk, wp_Cont, wp_RetN, wp_Ret, wp_Expr, wp_sIf, wp_Asg, wp_sSub, wp_sPar, wp_sAug, wp_For, wp_Comp, wp_Settle, wp_Make, wp_MakeK, wp_Fld, wp_FldS, wp_MethC, wp_InC, wp_tInC, wp_EqC, wp_tEqC, wp_LenC, wp_TxtC, wp_jNil, wp_jCons, wp_Joined, wp_Fmt, wp_Calm, wp_Cval, wp_Meth, wp_Ix, wp_MakeR, wp_MakeRK, wp_aStar, wp_MakeS, wp_EnumU, wp_ListS, wp_iSeq, wp_Range1, wp_Range2, wp_tYes, wf_ok, rd_cons0, rd_cons, got_some, orGot_some, orGot_none, asB_bl, asI_int, asS_str, asOne_one, asTwo_two, wp_sPar3, asThree_three, wp_Prop, wp_NeC, wp_tNeC, wp_MethK, wp_DGet, wp_DHas, wp_tDHas, wp_DPutU, wp_ListDS, wp_ListTS, wp_DcS, wp_IndexC, wp_sAugL, wp_CatLS, wp_SortSet, wp_SortSetS, bName, List.set_cons_succ, List.set_cons_zero, List.append_nil, List.length_cons, List.length_nil, Nat.zero_add, Nat.reduceAdd, true_and, and_true, if_true, if_false, Bool.false_eq_true, Bool.not_true, Bool.not_false, List.take_zero, List.drop_zero, nil_appD, ln, ltB_int]
    by_cases c : (n : Int) < (q.length : Int)
    · rw [if_pos (decide_eq_true c)]
      have cn : n < q.length := by omega
      obtain ⟨x, hx⟩ : ∃ x, q[n]? = some x := ⟨q[n], List.getElem?_eq_getElem cn⟩
      have ix : oIx [dicQ q, lstQ q] (.ref 1) (.int (n : Int)) = some (keyT x.1) := by
        have : oIx [dicQ q, lstQ q] (.ref 1) (.int (n : Int)) = atI (q.map fun x => keyT x.1) (n : Int) := rfl
        rw [this, atI_nat (by rw [List.length_map]; exact cn), List.getElem_map]
        have hqx : q[n] = x := Option.some.inj (by rw [← List.getElem?_eq_getElem cn, hx])
        rw [hqx]
      rw [wp_Seq]
      simp only [wp_C, wp_Var, wp_Bin, wp_Cmp, wp_Un, wp_CallB, wp_Sl, wp_oNone, wp_oSome, wp_aNil, wp_aCons, wp_Tup, wp_Lst, wp_LstS, wp_And, wp_Or, wp_Not, wp_If, wp_CallF, wp_CallK, wp_tVal, wp_tCmp, wp_tAnd, wp_tOr, wp_tNot, wp_Chain, wp_tChain, wp_Next, wp_Brk, wp_Cont, wp_RetN, wp_Ret, wp_Expr, wp_sIf, wp_Asg, wp_sSub, wp_sPar, wp_sAug, wp_For, wp_Comp, wp_Settle, wp_Make, wp_MakeK, wp_Fld, wp_FldS, wp_MethC, wp_InC, wp_tInC, wp_EqC, wp_tEqC, wp_LenC, wp_TxtC, wp_jNil, wp_jCons, wp_Joined, wp_Fmt, wp_Calm, wp_Cval, wp_Meth, wp_Ix, wp_MakeR, wp_MakeRK, wp_aStar, wp_MakeS, wp_EnumU, wp_ListS, wp_iSeq, wp_Range1, wp_Range2, wp_tYes, wf_ok, rd_cons0, rd_cons, got_some, orGot_some, orGot_none, asB_bl, asI_int, asS_str, asOne_one, asTwo_two, wp_sPar3, asThree_three, wp_Prop, wp_NeC, wp_tNeC, wp_MethK, wp_DGet, wp_DHas, wp_tDHas, wp_DPutU, wp_ListDS, wp_ListTS, wp_DcS, wp_IndexC, wp_sAugL, wp_CatLS, wp_SortSet, wp_SortSetS, bName, List.set_cons_succ, List.set_cons_zero, List.append_nil, List.length_cons, List.length_nil, Nat.zero_add, Nat.reduceAdd, true_and, and_true, if_true, if_false, Bool.false_eq_true, Bool.not_true, Bool.not_false, List.take_zero, List.drop_zero, nil_appD, ix]
      have ad : orO (oInt0 fun i j => i + j) oCatS [dicQ q, lstQ q] (.int n) (.int 1) = some (.int ((n + 1 : Nat) : Int)) := rfl
      rw [wp_Seq]
      simp only [wp_C, wp_Var, wp_Bin, wp_Cmp, wp_Un, wp_CallB, wp_Sl, wp_oNone, wp_oSome, wp_aNil, wp_aCons, wp_Tup, wp_Lst, wp_LstS, wp_And, wp_Or, wp_Not, wp_If, wp_CallF, wp_CallK, wp_tVal, wp_tCmp, wp_tAnd, wp_tOr, wp_tNot, wp_Chain, wp_tChain, wp_Next, wp_Brk, wp_Cont, wp_RetN, wp_Ret, wp_Expr, wp_sIf, wp_Asg, wp_sSub, wp_sPar, wp_sAug, wp_For, wp_Comp, wp_Settle, wp_Make, wp_MakeK, wp_Fld, wp_FldS, wp_MethC, wp_InC, wp_tInC, wp_EqC, wp_tEqC, wp_LenC, wp_TxtC, wp_jNil, wp_jCons, wp_Joined, wp_Fmt, wp_Calm, wp_Cval, wp_Meth, wp_Ix, wp_MakeR, wp_MakeRK, wp_aStar, wp_MakeS, wp_EnumU, wp_ListS, wp_iSeq, wp_Range1, wp_Range2, wp_tYes, wf_ok, rd_cons0, rd_cons, got_some, orGot_some, orGot_none, asB_bl, asI_int, asS_str, asOne_one, asTwo_two, wp_sPar3, asThree_three, wp_Prop, wp_NeC, wp_tNeC, wp_MethK, wp_DGet, wp_DHas, wp_tDHas, wp_DPutU, wp_ListDS, wp_ListTS, wp_DcS, wp_IndexC, wp_sAugL, wp_CatLS, wp_SortSet, wp_SortSetS, bName, List.set_cons_succ, List.set_cons_zero, List.append_nil, List.length_cons, List.length_nil, Nat.zero_add, Nat.reduceAdd, true_and, and_true, if_true, if_false, Bool.false_eq_true, Bool.not_true, Bool.not_false, List.take_zero, List.drop_zero, nil_appD, ad]
      rw [wp_Seq]
      have ing : inB [dicQ q, lstQ q] (keyT x.1) (.str (txt goal)) = some (decide (x.1 ∈ goal)) := in_sgt
      simp only [wp_C, wp_Var, wp_Bin, wp_Cmp, wp_Un, wp_CallB, wp_Sl, wp_oNone, wp_oSome, wp_aNil, wp_aCons, wp_Tup, wp_Lst, wp_LstS, wp_And, wp_Or, wp_Not, wp_If, wp_CallF, wp_CallK, wp_tVal, wp_tCmp, wp_tAnd, wp_tOr, wp_tNot, wp_Chain, wp_tChain, wp_Next, wp_Brk, wp_Cont, wp_RetN, wp_Ret, wp_Expr, wp_sIf, wp_Asg, wp_sSub, wp_sPar, wp_sAug, wp_For, wp_Comp, wp_Settle, wp_Make, wp_MakeK, wp_Fld, wp_FldS, wp_MethC, wp_InC, wp_tInC, wp_EqC, wp_tEqC, wp_LenC, wp_TxtC, wp_jNil, wp_jCons, wp_Joined, wp_Fmt, wp_Calm, wp_Cval, wp_Meth, wp_Ix, wp_MakeR, wp_MakeRK, wp_aStar, wp_MakeS, wp_EnumU, wp_ListS, wp_iSeq, wp_Range1, wp_Range2, wp_tYes, wf_ok, rd_cons0, rd_cons, got_some, orGot_some, orGot_none, asB_bl, asI_int, asS_str, asOne_one, asTwo_two, wp_sPar3, asThree_three, wp_Prop, wp_NeC, wp_tNeC, wp_MethK, wp_DGet, wp_DHas, wp_tDHas, wp_DPutU, wp_ListDS, wp_ListTS, wp_DcS, wp_IndexC, wp_sAugL, wp_CatLS, wp_SortSet, wp_SortSetS, bName, List.set_cons_succ, List.set_cons_zero, List.append_nil, List.length_cons, List.length_nil, Nat.zero_add, Nat.reduceAdd, true_and, and_true, if_true, if_false, Bool.false_eq_true, Bool.not_true, Bool.not_false, List.take_zero, List.drop_zero, nil_appD, ing]
      by_cases g : x.1 ∈ goal
      · rw [if_pos (decide_eq_true g)]
        have dg : oDGet [dicQ q, lstQ q] (.ref 0) (keyT x.1) = some (wayD x.2) := by
          show (some (Sum.inr (txt [x.1]) : Key)).bind (fun k => dGet k (q.map fun x => keyT x.1) (q.map fun x => wayD x.2)) = _
          rw [Option.bind_some, dGet_q, find_nd hq.nd hx]; rfl
        have lo : ∀ S, orL oListOf oListOfT S [wayD x.2] = some (wayD x.2) := fun S => rfl
        simp only [wp_C, wp_Var, wp_Bin, wp_Cmp, wp_Un, wp_CallB, wp_Sl, wp_oNone, wp_oSome, wp_aNil, wp_aCons, wp_Tup, wp_Lst, wp_LstS, wp_And, wp_Or, wp_Not, wp_If, wp_CallF, wp_CallK, wp_tVal, wp_tCmp, wp_tAnd, wp_tOr, wp_tNot, wp_Chain, wp_tChain, wp_Next, wp_Brk, wp_Cont, wp_RetN, wp_Ret, wp_Expr, wp_sIf, wp_Asg, wp_sSub, wp_sPar, wp_sAug, wp_For, wp_Comp, wp_Settle, wp_Make, wp_MakeK, wp_Fld, wp_FldS, wp_MethC, wp_InC, wp_tInC, wp_EqC, wp_tEqC, wp_LenC, wp_TxtC, wp_jNil, wp_jCons, wp_Joined, wp_Fmt, wp_Calm, wp_Cval, wp_Meth, wp_Ix, wp_MakeR, wp_MakeRK, wp_aStar, wp_MakeS, wp_EnumU, wp_ListS, wp_iSeq, wp_Range1, wp_Range2, wp_tYes, wf_ok, rd_cons0, rd_cons, got_some, orGot_some, orGot_none, asB_bl, asI_int, asS_str, asOne_one, asTwo_two, wp_sPar3, asThree_three, wp_Prop, wp_NeC, wp_tNeC, wp_MethK, wp_DGet, wp_DHas, wp_tDHas, wp_DPutU, wp_ListDS, wp_ListTS, wp_DcS, wp_IndexC, wp_sAugL, wp_CatLS, wp_SortSet, wp_SortSetS, bName, List.set_cons_succ, List.set_cons_zero, List.append_nil, List.length_cons, List.length_nil, Nat.zero_add, Nat.reduceAdd, true_and, and_true, if_true, if_false, Bool.false_eq_true, Bool.not_true, Bool.not_false, List.take_zero, List.drop_zero, nil_appD, dg, lo]
        refine ⟨some x.2, ⟨fun p e => ?_, fun e => by cases e⟩, rfl⟩
        cases e
        obtain ⟨s, hs, hc⟩ := hq.ch x (List.mem_of_getElem? hx)
        exact ⟨bf_found hq hd hx g, z2 x (List.mem_of_getElem? hx), s, hs, x.1, g, hc⟩
      · rw [if_neg (by simpa using g)]
        have fk : ∀ S, fldD fc_kept_rules "kept_rules" S (rulesD cs) = some (.lst (cs.map chD)) := fun S => rules_fld_kept
        have vl : vlst (.lst (cs.map chD)) = some (cs.map chD) := rfl
        simp only [wp_C, wp_Var, wp_Bin, wp_Cmp, wp_Un, wp_CallB, wp_Sl, wp_oNone, wp_oSome, wp_aNil, wp_aCons, wp_Tup, wp_Lst, wp_LstS, wp_And, wp_Or, wp_Not, wp_If, wp_CallF, wp_CallK, wp_tVal, wp_tCmp, wp_tAnd, wp_tOr, wp_tNot, wp_Chain, wp_tChain, wp_Next, wp_Brk, wp_Cont, wp_RetN, wp_Ret, wp_Expr, wp_sIf, wp_Asg, wp_sSub, wp_sPar, wp_sAug, wp_For, wp_Comp, wp_Settle, wp_Make, wp_MakeK, wp_Fld, wp_FldS, wp_MethC, wp_InC, wp_tInC, wp_EqC, wp_tEqC, wp_LenC, wp_TxtC, wp_jNil, wp_jCons, wp_Joined, wp_Fmt, wp_Calm, wp_Cval, wp_Meth, wp_Ix, wp_MakeR, wp_MakeRK, wp_aStar, wp_MakeS, wp_EnumU, wp_ListS, wp_iSeq, wp_Range1, wp_Range2, wp_tYes, wf_ok, rd_cons0, rd_cons, got_some, orGot_some, orGot_none, asB_bl, asI_int, asS_str, asOne_one, asTwo_two, wp_sPar3, asThree_three, wp_Prop, wp_NeC, wp_tNeC, wp_MethK, wp_DGet, wp_DHas, wp_tDHas, wp_DPutU, wp_ListDS, wp_ListTS, wp_DcS, wp_IndexC, wp_sAugL, wp_CatLS, wp_SortSet, wp_SortSetS, bName, List.set_cons_succ, List.set_cons_zero, List.append_nil, List.length_cons, List.length_nil, Nat.zero_add, Nat.reduceAdd, true_and, and_true, if_true, if_false, Bool.false_eq_true, Bool.not_true, Bool.not_false, List.take_zero, List.drop_zero, nil_appD, fk, Option.bind_some, vl]
        -- the rules, one by one
        refine wp_loop (fun xs r T => ∃ (q : BQ) (m : Nat) (x8 x9 x10 x11 : Option D), xs = (enumD (cs.map chD)).drop m ∧ r = [some (rulesD cs), some (.str (txt st)), some (.str (txt goal)), some (.ref 0), some (.ref 1), some (.int ((n + 1 : Nat) : Int)), some (keyT x.1), none, x8, x9, x10, x11] ∧ T = [dicQ q, lstQ q] ∧ BfI cs st q ∧ doneB cs goal q n ∧ q[n]? = some x ∧ (∀ y ∈ q, y.2.length ≤ x.2.length + 1) ∧ ∀ (i : Nat) (r : Ch), i < m → cs[i]? = some r → r.1 = x.1 → ∃ y ∈ q, y.1 = r.2.1 ∧ y.2.length ≤ x.2.length + 1) _ _ _ ⟨q, 0, x8, x9, x10, x11, rfl, rfl, rfl, hq, hd, hx, ht x hx, fun i r hi => absurd hi (Nat.not_lt_zero _)⟩ ?_ ?_
        · rintro r T ⟨q, m, x8, x9, x10, x11, hxs, rfl, rfl, hq, hd, hx, ht, hr⟩
          have hm : cs.length ≤ m := by
            have := List.drop_eq_nil_iff.mp hxs.symm
            rw [enumD_len, List.length_map] at this
            exact this
          obtain ⟨z1, z2⟩ := bf_size hq
          have cn : n < q.length := (List.getElem?_eq_some_iff.mp hx).1
          refine ⟨100 - (n + 1), by omega, q, n + 1, _, x8, x9, x10, x11, rfl, rfl, hq, fun i y hi hy => ?_, by omega, fun y hy z hz => ?_, rfl⟩
          · by_cases e : i = n
            · subst e
              rw [hx] at hy; cases hy
              refine ⟨g, fun r hr' e => ?_⟩
              obtain ⟨j, hj, rfl⟩ := List.getElem_of_mem hr'
              exact hr j _ (by omega) (List.getElem?_eq_getElem hj) e
            · exact hd i y (by omega) hy
          · have := ht z hz
            obtain ⟨h1, e1⟩ := List.getElem?_eq_some_iff.mp hx
            obtain ⟨h2, e2⟩ := List.getElem?_eq_some_iff.mp hy
            have := List.pairwise_iff_getElem.mp hq.mono n (n + 1) h1 h2 (by omega)
            rw [e1, e2] at this
            omega
        · rintro y ys r T ⟨q, m, x8, x9, x10, x11, hxs, rfl, rfl, hq, hd, hx, ht, hr⟩
          obtain ⟨z1, z2⟩ := bf_size hq
          have hm : m < (enumD (cs.map chD)).length := by
            by_cases c : m < (enumD (cs.map chD)).length
            · exact c
            · rw [List.drop_eq_nil_of_le (by omega)] at hxs; cases hxs
          rw [List.drop_eq_getElem_cons hm] at hxs
          obtain ⟨hy, hys⟩ := List.cons.inj hxs
          obtain ⟨y0, hy0, e0⟩ := enumD_get (List.getElem?_eq_getElem hm)
          rw [List.getElem?_map] at hy0
          obtain ⟨rl, hrl, rfl⟩ := Option.map_eq_some_iff.mp hy0
          rw [e0] at hy
          subst hy
          refine ⟨_, rfl, ?_⟩
          have e1 : eqB [dicQ q, lstQ q] (.str (txt [rl.1])) (keyT x.1) = some (decide ([rl.1] = [x.1])) := eqB_txt
          have dh : oDHas [dicQ q, lstQ q] (.str (txt [rl.2.1])) (.ref 0) = some (decide (rl.2.1 ∈ q.map (·.1))) := by
            show some (dGet (.inr (txt [rl.2.1])) (q.map fun x => keyT x.1) (q.map fun x => wayD x.2)).isSome = _
            rw [dGet_q, Option.isSome_map, find_none]
          have old : rl.1 = x.1 → rl.2.1 ∈ q.map (·.1) → ∃ y ∈ q, y.1 = rl.2.1 ∧ y.2.length ≤ x.2.length + 1 := fun _ hin => by
            obtain ⟨y, hy, e⟩ := List.mem_map.mp hin
            exact ⟨y, hy, e, ht y hy⟩
          have next : ∀ (q' : BQ), (∀ y ∈ q, y ∈ q') → (rl.1 = x.1 → ∃ y ∈ q', y.1 = rl.2.1 ∧ y.2.length ≤ x.2.length + 1) → ∀ (i : Nat) (r : Ch), i < m + 1 → cs[i]? = some r → r.1 = x.1 → ∃ y ∈ q', y.1 = r.2.1 ∧ y.2.length ≤ x.2.length + 1 := fun q' sub hnew i r hi hir e => by
            by_cases c : i = m
            · subst c; rw [hrl] at hir; cases hir; exact hnew e
            · obtain ⟨y, hy, h1⟩ := hr i r (by omega) hir e
              exact ⟨y, sub y hy, h1⟩
          simp only [wp_C, wp_Var, wp_Bin, wp_Cmp, wp_Un, wp_CallB, wp_Sl, wp_oNone, wp_oSome, wp_aNil, wp_aCons, wp_Tup, wp_Lst, wp_LstS, wp_And, wp_Or, wp_Not, wp_If, wp_CallF, wp_CallK, wp_tVal, wp_tCmp, wp_tAnd, wp_tOr, wp_tNot, wp_Chain, wp_tChain, wp_Next, wp_Brk, wp_Cont, wp_RetN, wp_Ret, wp_Expr, wp_sIf, wp_Asg, wp_sSub, wp_sPar, wp_sAug, wp_For, wp_Comp, wp_Settle, wp_Make, wp_MakeK, wp_Fld, wp_FldS, wp_MethC, wp_InC, wp_tInC, wp_EqC, wp_tEqC, wp_LenC, wp_TxtC, wp_jNil, wp_jCons, wp_Joined, wp_Fmt, wp_Calm, wp_Cval, wp_Meth, wp_Ix, wp_MakeR, wp_MakeRK, wp_aStar, wp_MakeS, wp_EnumU, wp_ListS, wp_iSeq, wp_Range1, wp_Range2, wp_tYes, wf_ok, rd_cons0, rd_cons, got_some, orGot_some, orGot_none, asB_bl, asI_int, asS_str, asOne_one, asTwo_two, wp_sPar3, asThree_three, wp_Prop, wp_NeC, wp_tNeC, wp_MethK, wp_DGet, wp_DHas, wp_tDHas, wp_DPutU, wp_ListDS, wp_ListTS, wp_DcS, wp_IndexC, wp_sAugL, wp_CatLS, wp_SortSet, wp_SortSetS, bName, List.set_cons_succ, List.set_cons_zero, List.append_nil, List.length_cons, List.length_nil, Nat.zero_add, Nat.reduceAdd, true_and, and_true, if_true, if_false, Bool.false_eq_true, Bool.not_true, Bool.not_false, List.take_zero, List.drop_zero, nil_appD, e1, dh]
          by_cases c1 : rl.1 = x.1
          · simp only [c1, decide_true, wp_C, wp_Var, wp_Bin, wp_Cmp, wp_Un, wp_CallB, wp_Sl, wp_oNone, wp_oSome, wp_aNil, wp_aCons, wp_Tup, wp_Lst, wp_LstS, wp_And, wp_Or, wp_Not, wp_If, wp_CallF, wp_CallK, wp_tVal, wp_tCmp, wp_tAnd, wp_tOr, wp_tNot, wp_Chain, wp_tChain, wp_Next, wp_Brk, wp_Cont, wp_RetN, wp_Ret, wp_Expr, wp_sIf, wp_Asg, wp_sSub, wp_sPar, wp_sAug, wp_For, wp_Comp, wp_Settle, wp_Make, wp_MakeK, wp_Fld, wp_FldS, wp_MethC, wp_InC, wp_tInC, wp_EqC, wp_tEqC, wp_LenC, wp_TxtC, wp_jNil, wp_jCons, wp_Joined, wp_Fmt, wp_Calm, wp_Cval, wp_Meth, wp_Ix, wp_MakeR, wp_MakeRK, wp_aStar, wp_MakeS, wp_EnumU, wp_ListS, wp_iSeq, wp_Range1, wp_Range2, wp_tYes, wf_ok, rd_cons0, rd_cons, got_some, orGot_some, orGot_none, asB_bl, asI_int, asS_str, asOne_one, asTwo_two, wp_sPar3, asThree_three, wp_Prop, wp_NeC, wp_tNeC, wp_MethK, wp_DGet, wp_DHas, wp_tDHas, wp_DPutU, wp_ListDS, wp_ListTS, wp_DcS, wp_IndexC, wp_sAugL, wp_CatLS, wp_SortSet, wp_SortSetS, bName, List.set_cons_succ, List.set_cons_zero, List.append_nil, List.length_cons, List.length_nil, Nat.zero_add, Nat.reduceAdd, true_and, and_true, if_true, if_false, Bool.false_eq_true, Bool.not_true, Bool.not_false, List.take_zero, List.drop_zero, nil_appD]
            by_cases c2 : rl.2.1 ∈ q.map (·.1)
            · simp only [decide_eq_true c2, wp_C, wp_Var, wp_Bin, wp_Cmp, wp_Un, wp_CallB, wp_Sl, wp_oNone, wp_oSome, wp_aNil, wp_aCons, wp_Tup, wp_Lst, wp_LstS, wp_And, wp_Or, wp_Not, wp_If, wp_CallF, wp_CallK, wp_tVal, wp_tCmp, wp_tAnd, wp_tOr, wp_tNot, wp_Chain, wp_tChain, wp_Next, wp_Brk, wp_Cont, wp_RetN, wp_Ret, wp_Expr, wp_sIf, wp_Asg, wp_sSub, wp_sPar, wp_sAug, wp_For, wp_Comp, wp_Settle, wp_Make, wp_MakeK, wp_Fld, wp_FldS, wp_MethC, wp_InC, wp_tInC, wp_EqC, wp_tEqC, wp_LenC, wp_TxtC, wp_jNil, wp_jCons, wp_Joined, wp_Fmt, wp_Calm, wp_Cval, wp_Meth, wp_Ix, wp_MakeR, wp_MakeRK, wp_aStar, wp_MakeS, wp_EnumU, wp_ListS, wp_iSeq, wp_Range1, wp_Range2, wp_tYes, wf_ok, rd_cons0, rd_cons, got_some, orGot_some, orGot_none, asB_bl, asI_int, asS_str, asOne_one, asTwo_two, wp_sPar3, asThree_three, wp_Prop, wp_NeC, wp_tNeC, wp_MethK, wp_DGet, wp_DHas, wp_tDHas, wp_DPutU, wp_ListDS, wp_ListTS, wp_DcS, wp_IndexC, wp_sAugL, wp_CatLS, wp_SortSet, wp_SortSetS, bName, List.set_cons_succ, List.set_cons_zero, List.append_nil, List.length_cons, List.length_nil, Nat.zero_add, Nat.reduceAdd, true_and, and_true, if_true, if_false, Bool.false_eq_true, Bool.not_true, Bool.not_false, List.take_zero, List.drop_zero, nil_appD, bne_self_eq_false]
              exact ⟨q, m + 1, _, _, _, _, hys, rfl, rfl, hq, hd, hx, ht, next q (fun _ h => h) fun e => old e c2⟩
            · have dg : oDGet [dicQ q, lstQ q] (.ref 0) (keyT x.1) = some (wayD x.2) := by
                show (some (Sum.inr (txt [x.1]) : Key)).bind (fun k => dGet k (q.map fun x => keyT x.1) (q.map fun x => wayD x.2)) = _
                rw [Option.bind_some, dGet_q, find_nd hq.nd hx]; rfl
              have l2 := z2 x (List.mem_of_getElem? hx)
              have ad : ∀ S, oAdd S (wayD x.2) (.lst [.int (m : Int)]) = some (wayD (x.2 ++ [m])) := fun S => by
                unfold wayD
                rw [oAdd_lst (by simp; omega)]
                simp
              have hnew := bf_add hq hx hrl c1 c2 ht
              have pu : oDPut [dicQ q, lstQ q] (.ref 0) (.str (txt [rl.2.1])) (wayD (x.2 ++ [m])) = some [dicQ (q ++ [(rl.2.1, x.2 ++ [m])]), lstQ q] := by
                show (if (q.map fun x => keyT x.1).length < sizeLine then (some (Sum.inr (txt [rl.2.1]) : Key)).map _ else none) = _
                rw [if_pos (lt_big (by rw [List.length_map]; omega)), Option.map_some, dPut_new c2]
                rfl
              have ap : mAppend [dicQ (q ++ [(rl.2.1, x.2 ++ [m])]), lstQ q] (.ref 1) [.str (txt [rl.2.1])] = some (.non, [dicQ (q ++ [(rl.2.1, x.2 ++ [m])]), lstQ (q ++ [(rl.2.1, x.2 ++ [m])])]) := by
                show (if (q.map fun x => keyT x.1).length < sizeLine then some _ else none) = _
                rw [if_pos (lt_big (by rw [List.length_map]; omega))]
                simp [lstQ, keyT]
              have il : isLst [dicQ (q ++ [(rl.2.1, x.2 ++ [m])]), lstQ q] (.ref 1) = true := rfl
              have bn : (false != true) = true := rfl
              simp only [decide_eq_false c2, bn, wp_C, wp_Var, wp_Bin, wp_Cmp, wp_Un, wp_CallB, wp_Sl, wp_oNone, wp_oSome, wp_aNil, wp_aCons, wp_Tup, wp_Lst, wp_LstS, wp_And, wp_Or, wp_Not, wp_If, wp_CallF, wp_CallK, wp_tVal, wp_tCmp, wp_tAnd, wp_tOr, wp_tNot, wp_Chain, wp_tChain, wp_Next, wp_Brk, wp_Cont, wp_RetN, wp_Ret, wp_Expr, wp_sIf, wp_Asg, wp_sSub, wp_sPar, wp_sAug, wp_For, wp_Comp, wp_Settle, wp_Make, wp_MakeK, wp_Fld, wp_FldS, wp_MethC, wp_InC, wp_tInC, wp_EqC, wp_tEqC, wp_LenC, wp_TxtC, wp_jNil, wp_jCons, wp_Joined, wp_Fmt, wp_Calm, wp_Cval, wp_Meth, wp_Ix, wp_MakeR, wp_MakeRK, wp_aStar, wp_MakeS, wp_EnumU, wp_ListS, wp_iSeq, wp_Range1, wp_Range2, wp_tYes, wf_ok, rd_cons0, rd_cons, got_some, orGot_some, orGot_none, asB_bl, asI_int, asS_str, asOne_one, asTwo_two, wp_sPar3, asThree_three, wp_Prop, wp_NeC, wp_tNeC, wp_MethK, wp_DGet, wp_DHas, wp_tDHas, wp_DPutU, wp_ListDS, wp_ListTS, wp_DcS, wp_IndexC, wp_sAugL, wp_CatLS, wp_SortSet, wp_SortSetS, bName, List.set_cons_succ, List.set_cons_zero, List.append_nil, List.length_cons, List.length_nil, Nat.zero_add, Nat.reduceAdd, true_and, and_true, if_true, if_false, Bool.false_eq_true, Bool.not_true, Bool.not_false, List.take_zero, List.drop_zero, nil_appD]
              rw [wp_Seq]
              simp only [wp_C, wp_Var, wp_Bin, wp_Cmp, wp_Un, wp_CallB, wp_Sl, wp_oNone, wp_oSome, wp_aNil, wp_aCons, wp_Tup, wp_Lst, wp_LstS, wp_And, wp_Or, wp_Not, wp_If, wp_CallF, wp_CallK, wp_tVal, wp_tCmp, wp_tAnd, wp_tOr, wp_tNot, wp_Chain, wp_tChain, wp_Next, wp_Brk, wp_Cont, wp_RetN, wp_Ret, wp_Expr, wp_sIf, wp_Asg, wp_sSub, wp_sPar, wp_sAug, wp_For, wp_Comp, wp_Settle, wp_Make, wp_MakeK, wp_Fld, wp_FldS, wp_MethC, wp_InC, wp_tInC, wp_EqC, wp_tEqC, wp_LenC, wp_TxtC, wp_jNil, wp_jCons, wp_Joined, wp_Fmt, wp_Calm, wp_Cval, wp_Meth, wp_Ix, wp_MakeR, wp_MakeRK, wp_aStar, wp_MakeS, wp_EnumU, wp_ListS, wp_iSeq, wp_Range1, wp_Range2, wp_tYes, wf_ok, rd_cons0, rd_cons, got_some, orGot_some, orGot_none, asB_bl, asI_int, asS_str, asOne_one, asTwo_two, wp_sPar3, asThree_three, wp_Prop, wp_NeC, wp_tNeC, wp_MethK, wp_DGet, wp_DHas, wp_tDHas, wp_DPutU, wp_ListDS, wp_ListTS, wp_DcS, wp_IndexC, wp_sAugL, wp_CatLS, wp_SortSet, wp_SortSetS, bName, List.set_cons_succ, List.set_cons_zero, List.append_nil, List.length_cons, List.length_nil, Nat.zero_add, Nat.reduceAdd, true_and, and_true, if_true, if_false, Bool.false_eq_true, Bool.not_true, Bool.not_false, List.take_zero, List.drop_zero, nil_appD, dg]
              refine ⟨sz_le (by simp), ?_⟩
              simp only [ad, got_some, pu, wp_C, wp_Var, wp_Bin, wp_Cmp, wp_Un, wp_CallB, wp_Sl, wp_oNone, wp_oSome, wp_aNil, wp_aCons, wp_Tup, wp_Lst, wp_LstS, wp_And, wp_Or, wp_Not, wp_If, wp_CallF, wp_CallK, wp_tVal, wp_tCmp, wp_tAnd, wp_tOr, wp_tNot, wp_Chain, wp_tChain, wp_Next, wp_Brk, wp_Cont, wp_RetN, wp_Ret, wp_Expr, wp_sIf, wp_Asg, wp_sSub, wp_sPar, wp_sAug, wp_For, wp_Comp, wp_Settle, wp_Make, wp_MakeK, wp_Fld, wp_FldS, wp_MethC, wp_InC, wp_tInC, wp_EqC, wp_tEqC, wp_LenC, wp_TxtC, wp_jNil, wp_jCons, wp_Joined, wp_Fmt, wp_Calm, wp_Cval, wp_Meth, wp_Ix, wp_MakeR, wp_MakeRK, wp_aStar, wp_MakeS, wp_EnumU, wp_ListS, wp_iSeq, wp_Range1, wp_Range2, wp_tYes, wf_ok, rd_cons0, rd_cons, got_some, orGot_some, orGot_none, asB_bl, asI_int, asS_str, asOne_one, asTwo_two, wp_sPar3, asThree_three, wp_Prop, wp_NeC, wp_tNeC, wp_MethK, wp_DGet, wp_DHas, wp_tDHas, wp_DPutU, wp_ListDS, wp_ListTS, wp_DcS, wp_IndexC, wp_sAugL, wp_CatLS, wp_SortSet, wp_SortSetS, bName, List.set_cons_succ, List.set_cons_zero, List.append_nil, List.length_cons, List.length_nil, Nat.zero_add, Nat.reduceAdd, true_and, and_true, if_true, if_false, Bool.false_eq_true, Bool.not_true, Bool.not_false, List.take_zero, List.drop_zero, nil_appD, il, ap]
              have xin : (q ++ [(rl.2.1, x.2 ++ [m])])[n]? = some x := by
                rw [List.getElem?_append_left (List.getElem?_eq_some_iff.mp hx).1]; exact hx
              refine ⟨q ++ [(rl.2.1, x.2 ++ [m])], m + 1, _, _, _, _, hys, rfl, rfl, hnew, fun i y hi hy => ?_, xin, fun y hy => ?_, next _ (fun y hy => List.mem_append_left _ hy) fun e => ⟨_, List.mem_append_right _ (List.mem_singleton_self _), rfl, by simp⟩⟩
              · rw [List.getElem?_append_left (by have := (List.getElem?_eq_some_iff.mp hx).1; omega)] at hy
                obtain ⟨d1, d2⟩ := hd i y hi hy
                refine ⟨d1, fun r hr e => ?_⟩
                obtain ⟨z, hz, h1⟩ := d2 r hr e
                exact ⟨z, List.mem_append_left _ hz, h1⟩
              · rcases List.mem_append.mp hy with hy | hy
                · exact ht y hy
                · cases List.mem_singleton.mp hy; simp
          · have c1' : ¬ [rl.1] = [x.1] := by simpa using c1
            simp only [c1', decide_false, wp_C, wp_Var, wp_Bin, wp_Cmp, wp_Un, wp_CallB, wp_Sl, wp_oNone, wp_oSome, wp_aNil, wp_aCons, wp_Tup, wp_Lst, wp_LstS, wp_And, wp_Or, wp_Not, wp_If, wp_CallF, wp_CallK, wp_tVal, wp_tCmp, wp_tAnd, wp_tOr, wp_tNot, wp_Chain, wp_tChain, wp_Next, wp_Brk, wp_Cont, wp_RetN, wp_Ret, wp_Expr, wp_sIf, wp_Asg, wp_sSub, wp_sPar, wp_sAug, wp_For, wp_Comp, wp_Settle, wp_Make, wp_MakeK, wp_Fld, wp_FldS, wp_MethC, wp_InC, wp_tInC, wp_EqC, wp_tEqC, wp_LenC, wp_TxtC, wp_jNil, wp_jCons, wp_Joined, wp_Fmt, wp_Calm, wp_Cval, wp_Meth, wp_Ix, wp_MakeR, wp_MakeRK, wp_aStar, wp_MakeS, wp_EnumU, wp_ListS, wp_iSeq, wp_Range1, wp_Range2, wp_tYes, wf_ok, rd_cons0, rd_cons, got_some, orGot_some, orGot_none, asB_bl, asI_int, asS_str, asOne_one, asTwo_two, wp_sPar3, asThree_three, wp_Prop, wp_NeC, wp_tNeC, wp_MethK, wp_DGet, wp_DHas, wp_tDHas, wp_DPutU, wp_ListDS, wp_ListTS, wp_DcS, wp_IndexC, wp_sAugL, wp_CatLS, wp_SortSet, wp_SortSetS, bName, List.set_cons_succ, List.set_cons_zero, List.append_nil, List.length_cons, List.length_nil, Nat.zero_add, Nat.reduceAdd, true_and, and_true, if_true, if_false, Bool.false_eq_true, Bool.not_true, Bool.not_false, List.take_zero, List.drop_zero, nil_appD]
            exact ⟨q, m + 1, _, _, _, _, hys, rfl, rfl, hq, hd, hx, ht, next q (fun _ h => h) fun e => absurd e c1⟩
    · rw [if_neg (by simpa using c)]
      have e : n = q.length := by omega
      subst e
      exact ⟨none, ⟨fun p e => (nomatch e), fun _ k g hg => bf_none hq hd k g hg⟩, rfl⟩
  -- a pure def
  cases q : fb_rules_chain (startE 12 [rulesD cs, .str (txt st), .str (txt goal)]) [] with
  | ok a r S1 =>
    rw [q] at key
    obtain ⟨o, ho, rfl⟩ := (show ∃ o, ChainO cs st goal o ∧ a = .rt (chainR o) from key)
    refine ⟨o, ho, pur_flat ?_ (by simp [bndL, rules_bndD, bnd]) ?_⟩
    · cases o
      · rfl
      · exact way_bnd
    · rw [q]; rfl
  | er x r S1 => rw [q] at key; exact key.elim
  | no => rw [q] at key; exact key.elim
/-! ### letters in lists, filters -/
theorem flats_keys : ∀ l : List Nat, flatDs (l.map keyT) = some (l.map fun c => V.str (txt [c]))
  | [] => rfl
  | a :: l => by
    have ih := flats_keys l
    show (match flatD (keyT a), flatDs (l.map keyT) with
      | some x, some y => some (x :: y)
      | _, _ => none) = _
    rw [ih]; rfl
theorem inV_keys {c : Nat} : ∀ l : List Nat, inV (V.str (txt [c])) (l.map fun c => V.str (txt [c])) = decide (c ∈ l)
  | [] => rfl
  | a :: l => by
    have ih := inV_keys (c := c) l
    unfold inV at ih ⊢
    simp only [List.map_cons, List.any_cons, ih]
    have e : eqV (V.str (txt [a])) (V.str (txt [c])) = decide (a = c) := by
      show (txt [a] == txt [c]) = _
      by_cases h : a = c
      · subst h; simp
      · have : ¬ txt [a] = txt [c] := fun e => h (by have := txt_inj.mp e; simpa using this)
        simp [h, this]
    rw [e]
    by_cases h : a = c
    · subst h; simp
    · have h' : ¬ c = a := fun e => h e.symm
      simp [h, h']
theorem in_keys {S : Sto} {c : Nat} {l : List Nat} : inB S (keyT c) (.lst (l.map keyT)) = some (decide (c ∈ l)) := by
  have e1 : inSB S (keyT c) (.lst (l.map keyT)) = none := rfl
  have al : (l.map fun c => V.str (txt [c])).all flatV = true := by
    rw [List.all_map, List.all_eq_true]; intro _ _; rfl
  unfold inB orB
  rw [e1]
  show inFB S (keyT c) (.lst (l.map keyT)) = _
  have sq : seqOf S (.lst (l.map keyT)) = some (l.map keyT) := rfl
  have fx : flatD (keyT c) = some (.str (txt [c])) := rfl
  have fv : flatV (.str (txt [c])) = true := rfl
  simp only [inFB, sq, fx, flats_keys, if_pos (And.intro fv al), inV_keys]
theorem comp_filter {i : Nat} {tt : TF} {fe : EF} {r : Env} {vs : List Nat} {S : Sto} {α : Type} (f g : α → D) (p : α → Bool) : ∀ {xs : List α}, (∀ x ∈ xs, wp (tt ((wipeE r vs).set i (some (f x))) S) (fun b r' S' => b = p x ∧ r' = (wipeE r vs).set i (some (f x)) ∧ S' = S) fun _ _ _ => False) → (∀ x ∈ xs, p x = true → wp (fe ((wipeE r vs).set i (some (f x))) S) (fun y _ S' => y = g x ∧ S' = S) fun _ _ _ => False) → compF (bName i) tt fe r vs (xs.map f) S = .ok ((xs.filter p).map g) r S
  | [], _, _ => rfl
  | x :: xs, h, k => by
    have h1 := h x (List.mem_cons_self ..)
    have h2 := comp_filter f g p (xs := xs) (fun y hy => h y (List.mem_cons_of_mem _ hy)) fun y hy => k y (List.mem_cons_of_mem _ hy)
    cases q : tt ((wipeE r vs).set i (some (f x))) S with
    | ok b r' S' =>
      rw [q] at h1
      obtain ⟨rfl, rfl, rfl⟩ := h1
      cases c : p x
      · simp only [List.map_cons, compF, bName, R.calm, R.bind, q, c, Bool.false_eq_true, if_false, h2, List.filter_cons_of_neg (show ¬ p x = true by rw [c]; decide)]
      · have k1 := k x (List.mem_cons_self ..) c
        cases q2 : fe ((wipeE r vs).set i (some (f x))) S' with
        | ok y r2 S2 =>
          rw [q2] at k1
          obtain ⟨rfl, rfl⟩ := k1
          simp only [List.map_cons, compF, bName, R.calm, R.bind, q, c, if_true, q2, h2, List.filter_cons_of_pos c]
        | er y r2 S2 => rw [q2] at k1; exact k1.elim
        | no => rw [q2] at k1; exact k1.elim
    | er y r' S' => rw [q] at h1; exact h1.elim
    | no => rw [q] at h1; exact h1.elim
/-! ### letters that rules lead to -/
/-- texts of letters, in order, none twice -/
theorem sortT_let {L A : List Nat} (hA : A.Pairwise (· < ·)) (h : ∀ c, c ∈ A ↔ c ∈ L) : sortT (L.map fun c => txt [c]) = A.map fun c => txt [c] := by
  refine ord_uniq (sortT_ord _) ?_ fun k => sortT_mem.trans ?_
  · refine List.pairwise_map.mpr (hA.imp fun {a b} q => ?_)
    show decide ((txt [a]).cps.toList < (txt [b]).cps.toList) = true
    rw [txt_cps, txt_cps]
    exact decide_eq_true (.rel q)
  · simp only [List.mem_map]
    exact ⟨fun ⟨c, hc, e⟩ => ⟨c, (h c).mpr hc, e⟩, fun ⟨c, hc, e⟩ => ⟨c, (h c).mp hc, e⟩⟩
/-- the letters that at most so many rules lead to, ascending -/
noncomputable def arL (cs : List Ch) (st : List Nat) (n : Nat) : List Nat := (List.range' 97 26).filter fun c => @decide (rchW cs st n c) (Classical.propDecidable _)
/-- all of them -/
noncomputable def ledL (cs : List Ch) (st : List Nat) : List Nat := (List.range' 97 26).filter fun c => @decide (∃ n, rchW cs st n c) (Classical.propDecidable _)
theorem rchW_abc {cs : List Ch} {st : List Nat} (h : RulesO cs) (hs : ∀ c ∈ st, 97 ≤ c ∧ c < 123) : ∀ {n c : Nat}, rchW cs st n c → 97 ≤ c ∧ c < 123
  | 0, c, hc => hs c hc
  | n + 1, c, hc => by
    rcases hc with hc | ⟨r, hr, _, rfl⟩
    · exact rchW_abc h hs hc
    · exact ⟨(h.ok r hr).b1, (h.ok r hr).b2⟩
theorem arL_mem {cs : List Ch} {st : List Nat} {n c : Nat} (h : RulesO cs) (hs : ∀ c ∈ st, 97 ≤ c ∧ c < 123) : c ∈ arL cs st n ↔ rchW cs st n c := by
  unfold arL
  rw [List.mem_filter, @decide_eq_true_eq _ (Classical.propDecidable _), mem_abc]
  exact ⟨fun z => z.2, fun z => ⟨rchW_abc h hs z, z⟩⟩
theorem ledL_mem {cs : List Ch} {st : List Nat} {c : Nat} (h : RulesO cs) (hs : ∀ c ∈ st, 97 ≤ c ∧ c < 123) : c ∈ ledL cs st ↔ ∃ n, rchW cs st n c := by
  unfold ledL
  rw [List.mem_filter, @decide_eq_true_eq _ (Classical.propDecidable _), mem_abc]
  exact ⟨fun z => z.2, fun ⟨n, z⟩ => ⟨rchW_abc h hs z, n, z⟩⟩
theorem abc_asc : (List.range' 97 26).Pairwise (· < ·) := by decide
theorem arL_asc {cs : List Ch} {st : List Nat} {n : Nat} : (arL cs st n).Pairwise (· < ·) := abc_asc.filter _
theorem ledL_asc {cs : List Ch} {st : List Nat} : (ledL cs st).Pairwise (· < ·) := abc_asc.filter _
theorem asc_uniq {A B : List Nat} (hA : A.Pairwise (· < ·)) (hB : B.Pairwise (· < ·)) (h : ∀ c, c ∈ A ↔ c ∈ B) : A = B := by
  have n1 := hA.imp fun {a b} (q : a < b) => Nat.ne_of_lt q
  have n2 := hB.imp fun {a b} (q : a < b) => Nat.ne_of_lt q
  exact List.Perm.eq_of_pairwise (le := (· < ·)) (fun a b _ _ q q' => absurd q' (Nat.lt_asymm q)) hA hB ((List.perm_ext_iff_of_nodup n1 n2).mpr h)
theorem strs_keys {l : List Nat} : strsD (l.map keyT) = some (l.map fun c => txt [c]) := by
  have := strsD_txt (l.map fun c => [c])
  rw [List.map_map, List.map_map] at this
  exact this
theorem txts_keys {S : Sto} {l : List Nat} : txtsOf S (.lst (l.map keyT)) = some (l.map fun c => txt [c]) := by
  show (some (l.map keyT)).bind strsD = _
  rw [Option.bind_some, strs_keys]
theorem txts_txt {S : Sto} {l : List Nat} : txtsOf S (.str (txt l)) = some (l.map fun c => txt [c]) := rfl
theorem keys_back {A : List Nat} : (A.map fun c => txt [c]).map D.str = A.map keyT := by simp [Function.comp_def, keyT]
/-- the law's own closure -/
theorem around_ok {cs : List Ch} {st : List Nat} {n : Nat} {S : Sto} (h : RulesO cs) (hs : ∀ c ∈ st, 97 ≤ c ∧ c < 123) (hl : st.length ≤ 26) (hn : n ≤ 100) : m_law_around [.lst (cs.map chD), .str (txt st), .int n] S = .ok (.lst ((arL cs st n).map keyT)) S := by
  refine pur_flat ?_ (by simp [bndL, bnd, rulesL_bnd]) ?_
  · simp only [bnd]
    exact bndL_of fun x hx => by
      obtain ⟨y, _, rfl⟩ := List.mem_map.mp hx; rfl
  have n8 := h.n8
  have e0 : startE 6 [.lst (cs.map chD), .str (txt st), .int n] = [some (.lst (cs.map chD)), some (.str (txt st)), some (.int n), none, none, none] := rfl
  rw [e0]
  unfold fb_law_around
  have al : ∀ k, (arL cs st k).length ≤ 26 := fun k => by
    have := List.length_filter_le (fun c => @decide (rchW cs st k c) (Classical.propDecidable _)) (List.range' 97 26)
    simpa [arL] using this
  have s0 : sortT (st.map fun c => txt [c]) = (arL cs st 0).map fun c => txt [c] := sortT_let arL_asc fun c => arL_mem h hs
  rw [wp_Seq]
  simp only [wp_C, wp_Var, wp_Bin, wp_Cmp, wp_Un, wp_CallB, wp_Sl, wp_oNone, wp_oSome, wp_aNil, wp_aCons, wp_Tup, wp_Lst, wp_LstS, wp_And, wp_Or, wp_Not, wp_If, wp_CallF, wp_CallK, wp_tVal, wp_tCmp, wp_tAnd, wp_tOr, wp_tNot, wp_Chain, wp_tChain, wp_Next, wp_Brk, wp_Cont, wp_RetN, wp_Ret, wp_Expr, wp_sIf, wp_Asg, wp_sSub, wp_sPar, wp_sAug, wp_For, wp_Comp, wp_Settle, wp_Make, wp_MakeK, wp_Fld, wp_FldS, wp_MethC, wp_InC, wp_tInC, wp_EqC, wp_tEqC, wp_LenC, wp_TxtC, wp_jNil, wp_jCons, wp_Joined, wp_Fmt, wp_Calm, wp_Cval, wp_Meth, wp_Ix, wp_MakeR, wp_MakeRK, wp_aStar, wp_MakeS, wp_EnumU, wp_ListS, wp_iSeq, wp_Range1, wp_Range2, wp_tYes, wf_ok, rd_cons0, rd_cons, got_some, orGot_some, orGot_none, asB_bl, asI_int, asS_str, asOne_one, asTwo_two, wp_sPar3, asThree_three, wp_Prop, wp_NeC, wp_tNeC, wp_MethK, wp_DGet, wp_DHas, wp_tDHas, wp_DPutU, wp_ListDS, wp_ListTS, wp_DcS, wp_IndexC, wp_sAugL, wp_CatLS, wp_SortSet, wp_SortSetS, bName, List.set_cons_succ, List.set_cons_zero, List.append_nil, List.length_cons, List.length_nil, Nat.zero_add, Nat.reduceAdd, true_and, and_true, if_true, if_false, Bool.false_eq_true, Bool.not_true, Bool.not_false, List.take_zero, List.drop_zero, nil_appD, txts_txt, List.length_map, s0, keys_back]
  refine ⟨by omega, ?_⟩
  have rn : rng1 [.int n] = some (rangeD 0 n) := by rw [rng1_int (by omega) (by omega)]; rfl
  rw [wp_Seq]
  simp only [wp_C, wp_Var, wp_Bin, wp_Cmp, wp_Un, wp_CallB, wp_Sl, wp_oNone, wp_oSome, wp_aNil, wp_aCons, wp_Tup, wp_Lst, wp_LstS, wp_And, wp_Or, wp_Not, wp_If, wp_CallF, wp_CallK, wp_tVal, wp_tCmp, wp_tAnd, wp_tOr, wp_tNot, wp_Chain, wp_tChain, wp_Next, wp_Brk, wp_Cont, wp_RetN, wp_Ret, wp_Expr, wp_sIf, wp_Asg, wp_sSub, wp_sPar, wp_sAug, wp_For, wp_Comp, wp_Settle, wp_Make, wp_MakeK, wp_Fld, wp_FldS, wp_MethC, wp_InC, wp_tInC, wp_EqC, wp_tEqC, wp_LenC, wp_TxtC, wp_jNil, wp_jCons, wp_Joined, wp_Fmt, wp_Calm, wp_Cval, wp_Meth, wp_Ix, wp_MakeR, wp_MakeRK, wp_aStar, wp_MakeS, wp_EnumU, wp_ListS, wp_iSeq, wp_Range1, wp_Range2, wp_tYes, wf_ok, rd_cons0, rd_cons, got_some, orGot_some, orGot_none, asB_bl, asI_int, asS_str, asOne_one, asTwo_two, wp_sPar3, asThree_three, wp_Prop, wp_NeC, wp_tNeC, wp_MethK, wp_DGet, wp_DHas, wp_tDHas, wp_DPutU, wp_ListDS, wp_ListTS, wp_DcS, wp_IndexC, wp_sAugL, wp_CatLS, wp_SortSet, wp_SortSetS, bName, List.set_cons_succ, List.set_cons_zero, List.append_nil, List.length_cons, List.length_nil, Nat.zero_add, Nat.reduceAdd, true_and, and_true, if_true, if_false, Bool.false_eq_true, Bool.not_true, Bool.not_false, List.take_zero, List.drop_zero, nil_appD, rn]
  refine wp_loop (fun xs r T => ∃ (k : Nat) (x4 : Option D), xs.length + k = n ∧ r = [some (.lst (cs.map chD)), some (.str (txt st)), some (.int n), some (.lst ((arL cs st k).map keyT)), x4, none] ∧ T = []) _ _ _ ⟨0, none, by simp [rangeD], rfl, rfl⟩ ?_ ?_
  · rintro r T ⟨k, x4, hk, rfl, rfl⟩
    simp at hk
    subst hk
    simp only [wp_C, wp_Var, wp_Bin, wp_Cmp, wp_Un, wp_CallB, wp_Sl, wp_oNone, wp_oSome, wp_aNil, wp_aCons, wp_Tup, wp_Lst, wp_LstS, wp_And, wp_Or, wp_Not, wp_If, wp_CallF, wp_CallK, wp_tVal, wp_tCmp, wp_tAnd, wp_tOr, wp_tNot, wp_Chain, wp_tChain, wp_Next, wp_Brk, wp_Cont, wp_RetN, wp_Ret, wp_Expr, wp_sIf, wp_Asg, wp_sSub, wp_sPar, wp_sAug, wp_For, wp_Comp, wp_Settle, wp_Make, wp_MakeK, wp_Fld, wp_FldS, wp_MethC, wp_InC, wp_tInC, wp_EqC, wp_tEqC, wp_LenC, wp_TxtC, wp_jNil, wp_jCons, wp_Joined, wp_Fmt, wp_Calm, wp_Cval, wp_Meth, wp_Ix, wp_MakeR, wp_MakeRK, wp_aStar, wp_MakeS, wp_EnumU, wp_ListS, wp_iSeq, wp_Range1, wp_Range2, wp_tYes, wf_ok, rd_cons0, rd_cons, got_some, orGot_some, orGot_none, asB_bl, asI_int, asS_str, asOne_one, asTwo_two, wp_sPar3, asThree_three, wp_Prop, wp_NeC, wp_tNeC, wp_MethK, wp_DGet, wp_DHas, wp_tDHas, wp_DPutU, wp_ListDS, wp_ListTS, wp_DcS, wp_IndexC, wp_sAugL, wp_CatLS, wp_SortSet, wp_SortSetS, bName, List.set_cons_succ, List.set_cons_zero, List.append_nil, List.length_cons, List.length_nil, Nat.zero_add, Nat.reduceAdd, true_and, and_true, if_true, if_false, Bool.false_eq_true, Bool.not_true, Bool.not_false, List.take_zero, List.drop_zero, nil_appD]
  · rintro x xs r T ⟨k, x4, hk, rfl, rfl⟩
    simp at hk
    refine ⟨_, rfl, ?_⟩
    have cm := fun (x : Option D) => comp_filter (i := 5) (tt := tCmp inB (eIx (eVar 5) (eC (.int 0))) (eVar 3)) (fe := eIx (eVar 5) (eC (.int 1))) (r := [some (.lst (cs.map chD)), some (.str (txt st)), some (.int n), some (.lst ((arL cs st k).map keyT)), x, none]) (vs := [5]) (S := []) chD (fun c => keyT c.2.1) (fun c => decide (c.1 ∈ arL cs st k)) (xs := cs) (fun c _ => by
      have y0 : ∀ S, oIx S (chD c) (.int 0) = some (keyT c.1) := fun _ => rfl
      simp only [wp_C, wp_Var, wp_Bin, wp_Cmp, wp_Un, wp_CallB, wp_Sl, wp_oNone, wp_oSome, wp_aNil, wp_aCons, wp_Tup, wp_Lst, wp_LstS, wp_And, wp_Or, wp_Not, wp_If, wp_CallF, wp_CallK, wp_tVal, wp_tCmp, wp_tAnd, wp_tOr, wp_tNot, wp_Chain, wp_tChain, wp_Next, wp_Brk, wp_Cont, wp_RetN, wp_Ret, wp_Expr, wp_sIf, wp_Asg, wp_sSub, wp_sPar, wp_sAug, wp_For, wp_Comp, wp_Settle, wp_Make, wp_MakeK, wp_Fld, wp_FldS, wp_MethC, wp_InC, wp_tInC, wp_EqC, wp_tEqC, wp_LenC, wp_TxtC, wp_jNil, wp_jCons, wp_Joined, wp_Fmt, wp_Calm, wp_Cval, wp_Meth, wp_Ix, wp_MakeR, wp_MakeRK, wp_aStar, wp_MakeS, wp_EnumU, wp_ListS, wp_iSeq, wp_Range1, wp_Range2, wp_tYes, wf_ok, rd_cons0, rd_cons, got_some, orGot_some, orGot_none, asB_bl, asI_int, asS_str, asOne_one, asTwo_two, wp_sPar3, asThree_three, wp_Prop, wp_NeC, wp_tNeC, wp_MethK, wp_DGet, wp_DHas, wp_tDHas, wp_DPutU, wp_ListDS, wp_ListTS, wp_DcS, wp_IndexC, wp_sAugL, wp_CatLS, wp_SortSet, wp_SortSetS, bName, List.set_cons_succ, List.set_cons_zero, List.append_nil, List.length_cons, List.length_nil, Nat.zero_add, Nat.reduceAdd, true_and, and_true, if_true, if_false, Bool.false_eq_true, Bool.not_true, Bool.not_false, List.take_zero, List.drop_zero, nil_appD, wipeE, y0, in_keys]) (fun c _ _ => by
      have y1 : ∀ S, oIx S (chD c) (.int 1) = some (keyT c.2.1) := fun _ => rfl
      simp only [wp_C, wp_Var, wp_Bin, wp_Cmp, wp_Un, wp_CallB, wp_Sl, wp_oNone, wp_oSome, wp_aNil, wp_aCons, wp_Tup, wp_Lst, wp_LstS, wp_And, wp_Or, wp_Not, wp_If, wp_CallF, wp_CallK, wp_tVal, wp_tCmp, wp_tAnd, wp_tOr, wp_tNot, wp_Chain, wp_tChain, wp_Next, wp_Brk, wp_Cont, wp_RetN, wp_Ret, wp_Expr, wp_sIf, wp_Asg, wp_sSub, wp_sPar, wp_sAug, wp_For, wp_Comp, wp_Settle, wp_Make, wp_MakeK, wp_Fld, wp_FldS, wp_MethC, wp_InC, wp_tInC, wp_EqC, wp_tEqC, wp_LenC, wp_TxtC, wp_jNil, wp_jCons, wp_Joined, wp_Fmt, wp_Calm, wp_Cval, wp_Meth, wp_Ix, wp_MakeR, wp_MakeRK, wp_aStar, wp_MakeS, wp_EnumU, wp_ListS, wp_iSeq, wp_Range1, wp_Range2, wp_tYes, wf_ok, rd_cons0, rd_cons, got_some, orGot_some, orGot_none, asB_bl, asI_int, asS_str, asOne_one, asTwo_two, wp_sPar3, asThree_three, wp_Prop, wp_NeC, wp_tNeC, wp_MethK, wp_DGet, wp_DHas, wp_tDHas, wp_DPutU, wp_ListDS, wp_ListTS, wp_DcS, wp_IndexC, wp_sAugL, wp_CatLS, wp_SortSet, wp_SortSetS, bName, List.set_cons_succ, List.set_cons_zero, List.append_nil, List.length_cons, List.length_nil, Nat.zero_add, Nat.reduceAdd, true_and, and_true, if_true, if_false, Bool.false_eq_true, Bool.not_true, Bool.not_false, List.take_zero, List.drop_zero, nil_appD, wipeE, y1])
    have it : itemsOf (.lst (cs.map chD)) = some (cs.map chD) := rfl
    have fl := List.length_filter_le (fun c : Ch => decide (c.1 ∈ arL cs st k)) cs
    have ak := al k
    have eq : (arL cs st k).map keyT ++ (cs.filter fun c => decide (c.1 ∈ arL cs st k)).map (fun c => keyT c.2.1) = (arL cs st k ++ (cs.filter fun c => decide (c.1 ∈ arL cs st k)).map (·.2.1)).map keyT := by
      rw [List.map_append, List.map_map]; rfl
    have s1 : sortT ((arL cs st k ++ (cs.filter fun c => decide (c.1 ∈ arL cs st k)).map (·.2.1)).map fun c => txt [c]) = (arL cs st (k + 1)).map fun c => txt [c] := sortT_let arL_asc fun c => by
      rw [arL_mem h hs]
      show rchW cs st k c ∨ (∃ r ∈ cs, rchW cs st k r.1 ∧ r.2.1 = c) ↔ _
      simp only [List.mem_append, List.mem_map, List.mem_filter, arL_mem h hs, decide_eq_true_eq]
      constructor
      · rintro (h | ⟨r, h1, h2, h3⟩)
        · exact .inl h
        · exact .inr ⟨r, ⟨h1, h2⟩, h3⟩
      · rintro (h | ⟨r, ⟨h1, h2⟩, h3⟩)
        · exact .inl h
        · exact .inr ⟨r, h1, h2, h3⟩
    simp only [wp_C, wp_Var, wp_Bin, wp_Cmp, wp_Un, wp_CallB, wp_Sl, wp_oNone, wp_oSome, wp_aNil, wp_aCons, wp_Tup, wp_Lst, wp_LstS, wp_And, wp_Or, wp_Not, wp_If, wp_CallF, wp_CallK, wp_tVal, wp_tCmp, wp_tAnd, wp_tOr, wp_tNot, wp_Chain, wp_tChain, wp_Next, wp_Brk, wp_Cont, wp_RetN, wp_Ret, wp_Expr, wp_sIf, wp_Asg, wp_sSub, wp_sPar, wp_sAug, wp_For, wp_Comp, wp_Settle, wp_Make, wp_MakeK, wp_Fld, wp_FldS, wp_MethC, wp_InC, wp_tInC, wp_EqC, wp_tEqC, wp_LenC, wp_TxtC, wp_jNil, wp_jCons, wp_Joined, wp_Fmt, wp_Calm, wp_Cval, wp_Meth, wp_Ix, wp_MakeR, wp_MakeRK, wp_aStar, wp_MakeS, wp_EnumU, wp_ListS, wp_iSeq, wp_Range1, wp_Range2, wp_tYes, wf_ok, rd_cons0, rd_cons, got_some, orGot_some, orGot_none, asB_bl, asI_int, asS_str, asOne_one, asTwo_two, wp_sPar3, asThree_three, wp_Prop, wp_NeC, wp_tNeC, wp_MethK, wp_DGet, wp_DHas, wp_tDHas, wp_DPutU, wp_ListDS, wp_ListTS, wp_DcS, wp_IndexC, wp_sAugL, wp_CatLS, wp_SortSet, wp_SortSetS, bName, List.set_cons_succ, List.set_cons_zero, List.append_nil, List.length_cons, List.length_nil, Nat.zero_add, Nat.reduceAdd, true_and, and_true, if_true, if_false, Bool.false_eq_true, Bool.not_true, Bool.not_false, List.take_zero, List.drop_zero, nil_appD, it, List.length_map]
    refine ⟨lt_big (by omega), ?_⟩
    rw [cm]
    simp only [wp_C, wp_Var, wp_Bin, wp_Cmp, wp_Un, wp_CallB, wp_Sl, wp_oNone, wp_oSome, wp_aNil, wp_aCons, wp_Tup, wp_Lst, wp_LstS, wp_And, wp_Or, wp_Not, wp_If, wp_CallF, wp_CallK, wp_tVal, wp_tCmp, wp_tAnd, wp_tOr, wp_tNot, wp_Chain, wp_tChain, wp_Next, wp_Brk, wp_Cont, wp_RetN, wp_Ret, wp_Expr, wp_sIf, wp_Asg, wp_sSub, wp_sPar, wp_sAug, wp_For, wp_Comp, wp_Settle, wp_Make, wp_MakeK, wp_Fld, wp_FldS, wp_MethC, wp_InC, wp_tInC, wp_EqC, wp_tEqC, wp_LenC, wp_TxtC, wp_jNil, wp_jCons, wp_Joined, wp_Fmt, wp_Calm, wp_Cval, wp_Meth, wp_Ix, wp_MakeR, wp_MakeRK, wp_aStar, wp_MakeS, wp_EnumU, wp_ListS, wp_iSeq, wp_Range1, wp_Range2, wp_tYes, wf_ok, rd_cons0, rd_cons, got_some, orGot_some, orGot_none, asB_bl, asI_int, asS_str, asOne_one, asTwo_two, wp_sPar3, asThree_three, wp_Prop, wp_NeC, wp_tNeC, wp_MethK, wp_DGet, wp_DHas, wp_tDHas, wp_DPutU, wp_ListDS, wp_ListTS, wp_DcS, wp_IndexC, wp_sAugL, wp_CatLS, wp_SortSet, wp_SortSetS, bName, List.set_cons_succ, List.set_cons_zero, List.append_nil, List.length_cons, List.length_nil, Nat.zero_add, Nat.reduceAdd, true_and, and_true, if_true, if_false, Bool.false_eq_true, Bool.not_true, Bool.not_false, List.take_zero, List.drop_zero, nil_appD, wp_ok]
    rw [oAdd_lst (by simp only [List.length_map]; omega), eq]
    simp only [wp_C, wp_Var, wp_Bin, wp_Cmp, wp_Un, wp_CallB, wp_Sl, wp_oNone, wp_oSome, wp_aNil, wp_aCons, wp_Tup, wp_Lst, wp_LstS, wp_And, wp_Or, wp_Not, wp_If, wp_CallF, wp_CallK, wp_tVal, wp_tCmp, wp_tAnd, wp_tOr, wp_tNot, wp_Chain, wp_tChain, wp_Next, wp_Brk, wp_Cont, wp_RetN, wp_Ret, wp_Expr, wp_sIf, wp_Asg, wp_sSub, wp_sPar, wp_sAug, wp_For, wp_Comp, wp_Settle, wp_Make, wp_MakeK, wp_Fld, wp_FldS, wp_MethC, wp_InC, wp_tInC, wp_EqC, wp_tEqC, wp_LenC, wp_TxtC, wp_jNil, wp_jCons, wp_Joined, wp_Fmt, wp_Calm, wp_Cval, wp_Meth, wp_Ix, wp_MakeR, wp_MakeRK, wp_aStar, wp_MakeS, wp_EnumU, wp_ListS, wp_iSeq, wp_Range1, wp_Range2, wp_tYes, wf_ok, rd_cons0, rd_cons, got_some, orGot_some, orGot_none, asB_bl, asI_int, asS_str, asOne_one, asTwo_two, wp_sPar3, asThree_three, wp_Prop, wp_NeC, wp_tNeC, wp_MethK, wp_DGet, wp_DHas, wp_tDHas, wp_DPutU, wp_ListDS, wp_ListTS, wp_DcS, wp_IndexC, wp_sAugL, wp_CatLS, wp_SortSet, wp_SortSetS, bName, List.set_cons_succ, List.set_cons_zero, List.append_nil, List.length_cons, List.length_nil, Nat.zero_add, Nat.reduceAdd, true_and, and_true, if_true, if_false, Bool.false_eq_true, Bool.not_true, Bool.not_false, List.take_zero, List.drop_zero, nil_appD, txts_keys, List.length_map, s1, keys_back]
    refine ⟨by simp only [List.length_append, List.length_map]; omega, k + 1, _, by omega, rfl⟩
/-! ### led: all letters that rules lead to -/
structure LedI (cs : List Ch) (st F W : List Nat) (ex : Nat → Prop) : Prop where
  nd : F.Nodup
  sub : ∀ c ∈ W, c ∈ F
  rch : ∀ c ∈ F, ∃ n, rchW cs st n c
  st0 : ∀ c ∈ st, c ∈ F
  done : ∀ c ∈ F, c ∉ W → ¬ ex c → ∀ r ∈ cs, r.1 = c → r.2.1 ∈ F
theorem led_size {cs : List Ch} {st F W : List Nat} {ex : Nat → Prop} (h : RulesO cs) (hs : ∀ c ∈ st, 97 ≤ c ∧ c < 123) (i : LedI cs st F W ex) : F.length ≤ 26 := by
  have := nd_len (m := List.range' 97 26) i.nd fun c hc => by
    obtain ⟨n, hn⟩ := i.rch c hc
    exact mem_abc.mpr (rchW_abc h hs hn)
  simpa using this
theorem led_end {cs : List Ch} {st F : List Nat} (h : RulesO cs) (hs : ∀ c ∈ st, 97 ≤ c ∧ c < 123) (i : LedI cs st F [] fun _ => False) : sortT (F.map fun c => txt [c]) = (ledL cs st).map fun c => txt [c] := sortT_let ledL_asc fun c => by
  rw [ledL_mem h hs]
  refine ⟨?_, i.rch c⟩
  rintro ⟨n, hn⟩
  have go : ∀ (n c : Nat), rchW cs st n c → c ∈ F := by
    intro n
    induction n with
    | zero => exact fun c hn => i.st0 c hn
    | succ n ih =>
      intro c hn
      rcases hn with hn | ⟨r, hr, hn, rfl⟩
      · exact ih c hn
      · exact i.done r.1 (ih r.1 hn) (by simp) (fun z => z) r hr rfl
  exact go n c hn
theorem inkeys_of {S : Sto} {c : Nat} {l : List Nat} {d : D} (e1 : inSB S (keyT c) d = none) (sq : seqOf S d = some (l.map keyT)) : inB S (keyT c) d = some (decide (c ∈ l)) := by
  have al : (l.map fun c => V.str (txt [c])).all flatV = true := by
    rw [List.all_map, List.all_eq_true]; intro _ _; rfl
  unfold inB orB
  rw [e1]
  show inFB S (keyT c) d = _
  have fx : flatD (keyT c) = some (.str (txt [c])) := rfl
  have fv : flatV (.str (txt [c])) = true := rfl
  simp only [inFB, sq, fx, flats_keys, if_pos (And.intro fv al), inV_keys]
theorem keys_data {l : List Nat} (h : ∀ c ∈ l, c < 128) : dataB 60 (.lst (l.map keyT)) = true := by
  simp only [dataB, List.all_eq_true]
  intro x hx
  obtain ⟨c, hc, rfl⟩ := List.mem_map.mp hx
  exact txt_ok (by simpa using h c hc)
theorem led_ok {cs : List Ch} {st : List Nat} {S : Sto} (h : RulesO cs) (hs : ∀ c ∈ st, 97 ≤ c ∧ c < 123) (hl : st.length ≤ 26) : m_rules_led [rulesD cs, .str (txt st)] S = .ok (.str (txt (ledL cs st))) S := by
  refine pur_flat rfl (by simp [bndL, rules_bndD, bnd]) ?_
  have n8 := h.n8
  have e0 : startE 8 [rulesD cs, .str (txt st)] = [some (rulesD cs), some (.str (txt st)), none, none, none, none, none, none] := rfl
  rw [e0]
  unfold fb_rules_led
  have s0 : sortT (st.map fun c => txt [c]) = (arL cs st 0).map fun c => txt [c] := sortT_let arL_asc fun c => arL_mem h hs
  have lo : orL oListOf oListOfT [] [.str (txt st)] = some (.lst (st.map keyT)) := by
    have e1 : oListOf [] [.str (txt st)] = none := rfl
    have e2 : oListOfT [] [.str (txt st)] = some (.lst (signsD (txt st))) := if_pos (sz_le (by rw [txt_len]; omega))
    have e3 : signsD (txt st) = st.map keyT := by
      unfold signsD; rw [txt_cps]; rfl
    unfold orL
    rw [e1, e2, e3]
  have t0 : txtsOf [] (.lst (st.map keyT)) = some (st.map fun c => txt [c]) := txts_keys
  rw [wp_Seq]
  simp only [wp_C, wp_Var, wp_Bin, wp_Cmp, wp_Un, wp_CallB, wp_Sl, wp_oNone, wp_oSome, wp_aNil, wp_aCons, wp_Tup, wp_Lst, wp_LstS, wp_And, wp_Or, wp_Not, wp_If, wp_CallF, wp_CallK, wp_tVal, wp_tCmp, wp_tAnd, wp_tOr, wp_tNot, wp_Chain, wp_tChain, wp_Next, wp_Brk, wp_Cont, wp_RetN, wp_Ret, wp_Expr, wp_sIf, wp_Asg, wp_sSub, wp_sPar, wp_sAug, wp_For, wp_Comp, wp_Settle, wp_Make, wp_MakeK, wp_Fld, wp_FldS, wp_MethC, wp_InC, wp_tInC, wp_EqC, wp_tEqC, wp_LenC, wp_TxtC, wp_jNil, wp_jCons, wp_Joined, wp_Fmt, wp_Calm, wp_Cval, wp_Meth, wp_Ix, wp_MakeR, wp_MakeRK, wp_aStar, wp_MakeS, wp_EnumU, wp_ListS, wp_iSeq, wp_Range1, wp_Range2, wp_tYes, wf_ok, rd_cons0, rd_cons, got_some, orGot_some, orGot_none, asB_bl, asI_int, asS_str, asOne_one, asTwo_two, wp_sPar3, asThree_three, wp_Prop, wp_NeC, wp_tNeC, wp_MethK, wp_DGet, wp_DHas, wp_tDHas, wp_DPutU, wp_ListDS, wp_ListTS, wp_DcS, wp_IndexC, wp_sAugL, wp_CatLS, wp_SortSet, wp_SortSetS, bName, List.set_cons_succ, List.set_cons_zero, List.append_nil, List.length_cons, List.length_nil, Nat.zero_add, Nat.reduceAdd, true_and, and_true, if_true, if_false, Bool.false_eq_true, Bool.not_true, Bool.not_false, List.take_zero, List.drop_zero, nil_appD, lo, t0, List.length_map, s0, keys_back]
  refine ⟨by omega, ?_⟩
  rw [wp_Seq]
  have sq0 : ∀ xs, seqOf ([] ++ [AO.lst xs]) (.ref 0) = some xs := fun _ => rfl
  simp only [wp_C, wp_Var, wp_Bin, wp_Cmp, wp_Un, wp_CallB, wp_Sl, wp_oNone, wp_oSome, wp_aNil, wp_aCons, wp_Tup, wp_Lst, wp_LstS, wp_And, wp_Or, wp_Not, wp_If, wp_CallF, wp_CallK, wp_tVal, wp_tCmp, wp_tAnd, wp_tOr, wp_tNot, wp_Chain, wp_tChain, wp_Next, wp_Brk, wp_Cont, wp_RetN, wp_Ret, wp_Expr, wp_sIf, wp_Asg, wp_sSub, wp_sPar, wp_sAug, wp_For, wp_Comp, wp_Settle, wp_Make, wp_MakeK, wp_Fld, wp_FldS, wp_MethC, wp_InC, wp_tInC, wp_EqC, wp_tEqC, wp_LenC, wp_TxtC, wp_jNil, wp_jCons, wp_Joined, wp_Fmt, wp_Calm, wp_Cval, wp_Meth, wp_Ix, wp_MakeR, wp_MakeRK, wp_aStar, wp_MakeS, wp_EnumU, wp_ListS, wp_iSeq, wp_Range1, wp_Range2, wp_tYes, wf_ok, rd_cons0, rd_cons, got_some, orGot_some, orGot_none, asB_bl, asI_int, asS_str, asOne_one, asTwo_two, wp_sPar3, asThree_three, wp_Prop, wp_NeC, wp_tNeC, wp_MethK, wp_DGet, wp_DHas, wp_tDHas, wp_DPutU, wp_ListDS, wp_ListTS, wp_DcS, wp_IndexC, wp_sAugL, wp_CatLS, wp_SortSet, wp_SortSetS, bName, List.set_cons_succ, List.set_cons_zero, List.append_nil, List.length_cons, List.length_nil, Nat.zero_add, Nat.reduceAdd, true_and, and_true, if_true, if_false, Bool.false_eq_true, Bool.not_true, Bool.not_false, List.take_zero, List.drop_zero, nil_appD, Option.bind_some, sq0]
  have sizF : ∀ {F W ex}, LedI cs st F W ex → F.length ≤ 26 := fun i => led_size h hs i
  have abc : ∀ {F W ex}, LedI cs st F W ex → (∀ c ∈ F, 97 ≤ c ∧ c < 123) := fun i c hc => by
    obtain ⟨n, hn⟩ := i.rch c hc
    exact rchW_abc h hs hn
  have i0 : LedI cs st (arL cs st 0) (arL cs st 0) fun _ => False := ⟨arL_asc.imp fun q => Nat.ne_of_lt q, fun _ h => h, fun c hc => ⟨0, (arL_mem h hs).mp hc⟩, fun c hc => (arL_mem h hs).mpr hc, fun c h1 h2 => absurd h1 h2⟩
  rw [wp_Seq]
  refine wp_while (fun k r T => ∃ (F W : List Nat) (x4 x5 x6 x7 : Option D), r = [some (rulesD cs), some (.str (txt st)), some (.ref 0), some (.ref 1), x4, x5, x6, x7] ∧ T = [.lst (F.map keyT), .lst (W.map keyT)] ∧ LedI cs st F W (fun _ => False) ∧ W.length ≤ F.length ∧ W.length + 26 - F.length ≤ k) 1000000 100 _ _ ?_ (by decide) ?_
  · exact ⟨arL cs st 0, arL cs st 0, none, none, none, none, rfl, rfl, i0, Nat.le_refl _, by omega⟩
  rintro k r T ⟨F, W, x4, x5, x6, x7, rfl, rfl, hI, hW, hk⟩
  have h26 := sizF hI
  have w128 : ∀ c ∈ W, c < 128 := fun c hc => by have := abc hI c (hI.sub c hc); omega
  have ne : notB eqB [.lst (F.map keyT), .lst (W.map keyT)] (.ref 1) (.lst []) = some (!W.isEmpty) := by
    have e1 : eqB [.lst (F.map keyT), .lst (W.map keyT)] (.ref 1) (.lst []) = eqB [.lst (F.map keyT), .lst (W.map keyT)] (.lst (W.map keyT)) (.lst []) := rfl
    unfold notB
    rw [e1, eqB_empty (keys_data w128)]
    cases W <;> rfl
  simp only [wp_C, wp_Var, wp_Bin, wp_Cmp, wp_Un, wp_CallB, wp_Sl, wp_oNone, wp_oSome, wp_aNil, wp_aCons, wp_Tup, wp_Lst, wp_LstS, wp_And, wp_Or, wp_Not, wp_If, wp_CallF, wp_CallK, wp_tVal, wp_tCmp, wp_tAnd, wp_tOr, wp_tNot, wp_Chain, wp_tChain, wp_Next, wp_Brk, wp_Cont, wp_RetN, wp_Ret, wp_Expr, wp_sIf, wp_Asg, wp_sSub, wp_sPar, wp_sAug, wp_For, wp_Comp, wp_Settle, wp_Make, wp_MakeK, wp_Fld, wp_FldS, wp_MethC, wp_InC, wp_tInC, wp_EqC, wp_tEqC, wp_LenC, wp_TxtC, wp_jNil, wp_jCons, wp_Joined, wp_Fmt, wp_Calm, wp_Cval, wp_Meth, wp_Ix, wp_MakeR, wp_MakeRK, wp_aStar, wp_MakeS, wp_EnumU, wp_ListS, wp_iSeq, wp_Range1, wp_Range2, wp_tYes, wf_ok, rd_cons0, rd_cons, got_some, orGot_some, orGot_none, asB_bl, asI_int, asS_str, asOne_one, asTwo_two, wp_sPar3, asThree_three, wp_Prop, wp_NeC, wp_tNeC, wp_MethK, wp_DGet, wp_DHas, wp_tDHas, wp_DPutU, wp_ListDS, wp_ListTS, wp_DcS, wp_IndexC, wp_sAugL, wp_CatLS, wp_SortSet, wp_SortSetS, bName, List.set_cons_succ, List.set_cons_zero, List.append_nil, List.length_cons, List.length_nil, Nat.zero_add, Nat.reduceAdd, true_and, and_true, if_true, if_false, Bool.false_eq_true, Bool.not_true, Bool.not_false, List.take_zero, List.drop_zero, nil_appD, ne]
  refine ⟨sz_le (by simp), ?_⟩
  by_cases c : W = []
  · subst c
    have e1 : (!([] : List Nat).isEmpty) = false := rfl
    simp only [e1, wp_C, wp_Var, wp_Bin, wp_Cmp, wp_Un, wp_CallB, wp_Sl, wp_oNone, wp_oSome, wp_aNil, wp_aCons, wp_Tup, wp_Lst, wp_LstS, wp_And, wp_Or, wp_Not, wp_If, wp_CallF, wp_CallK, wp_tVal, wp_tCmp, wp_tAnd, wp_tOr, wp_tNot, wp_Chain, wp_tChain, wp_Next, wp_Brk, wp_Cont, wp_RetN, wp_Ret, wp_Expr, wp_sIf, wp_Asg, wp_sSub, wp_sPar, wp_sAug, wp_For, wp_Comp, wp_Settle, wp_Make, wp_MakeK, wp_Fld, wp_FldS, wp_MethC, wp_InC, wp_tInC, wp_EqC, wp_tEqC, wp_LenC, wp_TxtC, wp_jNil, wp_jCons, wp_Joined, wp_Fmt, wp_Calm, wp_Cval, wp_Meth, wp_Ix, wp_MakeR, wp_MakeRK, wp_aStar, wp_MakeS, wp_EnumU, wp_ListS, wp_iSeq, wp_Range1, wp_Range2, wp_tYes, wf_ok, rd_cons0, rd_cons, got_some, orGot_some, orGot_none, asB_bl, asI_int, asS_str, asOne_one, asTwo_two, wp_sPar3, asThree_three, wp_Prop, wp_NeC, wp_tNeC, wp_MethK, wp_DGet, wp_DHas, wp_tDHas, wp_DPutU, wp_ListDS, wp_ListTS, wp_DcS, wp_IndexC, wp_sAugL, wp_CatLS, wp_SortSet, wp_SortSetS, bName, List.set_cons_succ, List.set_cons_zero, List.append_nil, List.length_cons, List.length_nil, Nat.zero_add, Nat.reduceAdd, true_and, and_true, if_true, if_false, Bool.false_eq_true, Bool.not_true, Bool.not_false, List.take_zero, List.drop_zero, nil_appD]
    have so : oSorted [.lst (F.map keyT), .lst (([] : List Nat).map keyT)] [.ref 0] = some (.lst ((ledL cs st).map keyT)) := by
      show ((some (F.map keyT)).bind strsD).bind _ = _
      rw [Option.bind_some, strs_keys, Option.bind_some]
      have nd : (F.map fun c => txt [c]).Nodup := List.pairwise_map.mpr (hI.nd.imp fun {a b} q e => q (by
        have := txt_inj.mp e
        simpa using this))
      rw [if_pos ⟨nd, by rw [List.length_map]; omega⟩, led_end h hs hI, keys_back]
    have mj : mJoin [.lst (F.map keyT), .lst (([] : List Nat).map keyT)] (.str (txt [])) [.lst ((ledL cs st).map keyT)] = some (.str (txt (ledL cs st)), [.lst (F.map keyT), .lst (([] : List Nat).map keyT)]) := by
      have := mJoin_txt (S := [.lst (F.map keyT), .lst (([] : List Nat).map keyT)]) (s := []) (xs := (ledL cs st).map fun c => [c]) (d := .lst ((ledL cs st).map keyT)) (by
        show some ((ledL cs st).map keyT) = _
        rw [List.map_map]; rfl) (by
        have hn : (ledL cs st).length ≤ 26 := by
          have := List.length_filter_le (fun c => @decide (∃ n, rchW cs st n c) (Classical.propDecidable _)) (List.range' 97 26)
          simpa [ledL] using this
        have : ∀ l : List Nat, ((l.map fun c => [c]).map (·.length)).sum = l.length := fun l => by
          induction l with
          | nil => rfl
          | cons a l ih => simp at ih ⊢; omega
        rw [this]
        simp only [List.length_map, List.length_nil, Nat.mul_zero]
        omega)
      rw [joinL_sg] at this
      exact this
    simp only [lit_nil, wp_C, wp_Var, wp_Bin, wp_Cmp, wp_Un, wp_CallB, wp_Sl, wp_oNone, wp_oSome, wp_aNil, wp_aCons, wp_Tup, wp_Lst, wp_LstS, wp_And, wp_Or, wp_Not, wp_If, wp_CallF, wp_CallK, wp_tVal, wp_tCmp, wp_tAnd, wp_tOr, wp_tNot, wp_Chain, wp_tChain, wp_Next, wp_Brk, wp_Cont, wp_RetN, wp_Ret, wp_Expr, wp_sIf, wp_Asg, wp_sSub, wp_sPar, wp_sAug, wp_For, wp_Comp, wp_Settle, wp_Make, wp_MakeK, wp_Fld, wp_FldS, wp_MethC, wp_InC, wp_tInC, wp_EqC, wp_tEqC, wp_LenC, wp_TxtC, wp_jNil, wp_jCons, wp_Joined, wp_Fmt, wp_Calm, wp_Cval, wp_Meth, wp_Ix, wp_MakeR, wp_MakeRK, wp_aStar, wp_MakeS, wp_EnumU, wp_ListS, wp_iSeq, wp_Range1, wp_Range2, wp_tYes, wf_ok, rd_cons0, rd_cons, got_some, orGot_some, orGot_none, asB_bl, asI_int, asS_str, asOne_one, asTwo_two, wp_sPar3, asThree_three, wp_Prop, wp_NeC, wp_tNeC, wp_MethK, wp_DGet, wp_DHas, wp_tDHas, wp_DPutU, wp_ListDS, wp_ListTS, wp_DcS, wp_IndexC, wp_sAugL, wp_CatLS, wp_SortSet, wp_SortSetS, bName, List.set_cons_succ, List.set_cons_zero, List.append_nil, List.length_cons, List.length_nil, Nat.zero_add, Nat.reduceAdd, true_and, and_true, if_true, if_false, Bool.false_eq_true, Bool.not_true, Bool.not_false, List.take_zero, List.drop_zero, nil_appD, so, mj, isStr]
  · obtain ⟨W', x, rfl⟩ : ∃ W' x, W = W' ++ [x] := ⟨W.dropLast, W.getLast c, (List.dropLast_concat_getLast c).symm⟩
    have e1 : (!(W' ++ [x]).isEmpty) = true := by simp
    simp only [e1, wp_C, wp_Var, wp_Bin, wp_Cmp, wp_Un, wp_CallB, wp_Sl, wp_oNone, wp_oSome, wp_aNil, wp_aCons, wp_Tup, wp_Lst, wp_LstS, wp_And, wp_Or, wp_Not, wp_If, wp_CallF, wp_CallK, wp_tVal, wp_tCmp, wp_tAnd, wp_tOr, wp_tNot, wp_Chain, wp_tChain, wp_Next, wp_Brk, wp_Cont, wp_RetN, wp_Ret, wp_Expr, wp_sIf, wp_Asg, wp_sSub, wp_sPar, wp_sAug, wp_For, wp_Comp, wp_Settle, wp_Make, wp_MakeK, wp_Fld, wp_FldS, wp_MethC, wp_InC, wp_tInC, wp_EqC, wp_tEqC, wp_LenC, wp_TxtC, wp_jNil, wp_jCons, wp_Joined, wp_Fmt, wp_Calm, wp_Cval, wp_Meth, wp_Ix, wp_MakeR, wp_MakeRK, wp_aStar, wp_MakeS, wp_EnumU, wp_ListS, wp_iSeq, wp_Range1, wp_Range2, wp_tYes, wf_ok, rd_cons0, rd_cons, got_some, orGot_some, orGot_none, asB_bl, asI_int, asS_str, asOne_one, asTwo_two, wp_sPar3, asThree_three, wp_Prop, wp_NeC, wp_tNeC, wp_MethK, wp_DGet, wp_DHas, wp_tDHas, wp_DPutU, wp_ListDS, wp_ListTS, wp_DcS, wp_IndexC, wp_sAugL, wp_CatLS, wp_SortSet, wp_SortSetS, bName, List.set_cons_succ, List.set_cons_zero, List.append_nil, List.length_cons, List.length_nil, Nat.zero_add, Nat.reduceAdd, true_and, and_true, if_true, if_false, Bool.false_eq_true, Bool.not_true, Bool.not_false, List.take_zero, List.drop_zero, nil_appD]
    have pp : mPop [.lst (F.map keyT), .lst ((W' ++ [x]).map keyT)] (.ref 1) [] = some (keyT x, [.lst (F.map keyT), .lst (W'.map keyT)]) := by
      show ((((W' ++ [x]).map keyT)[((W' ++ [x]).map keyT).length - 1]?).map fun y => (y, [AO.lst (F.map keyT), AO.lst (((W' ++ [x]).map keyT).dropLast)])) = _
      simp
    have il : isLst [.lst (F.map keyT), .lst ((W' ++ [x]).map keyT)] (.ref 1) = true := rfl
    rw [wp_Seq]
    simp only [wp_C, wp_Var, wp_Bin, wp_Cmp, wp_Un, wp_CallB, wp_Sl, wp_oNone, wp_oSome, wp_aNil, wp_aCons, wp_Tup, wp_Lst, wp_LstS, wp_And, wp_Or, wp_Not, wp_If, wp_CallF, wp_CallK, wp_tVal, wp_tCmp, wp_tAnd, wp_tOr, wp_tNot, wp_Chain, wp_tChain, wp_Next, wp_Brk, wp_Cont, wp_RetN, wp_Ret, wp_Expr, wp_sIf, wp_Asg, wp_sSub, wp_sPar, wp_sAug, wp_For, wp_Comp, wp_Settle, wp_Make, wp_MakeK, wp_Fld, wp_FldS, wp_MethC, wp_InC, wp_tInC, wp_EqC, wp_tEqC, wp_LenC, wp_TxtC, wp_jNil, wp_jCons, wp_Joined, wp_Fmt, wp_Calm, wp_Cval, wp_Meth, wp_Ix, wp_MakeR, wp_MakeRK, wp_aStar, wp_MakeS, wp_EnumU, wp_ListS, wp_iSeq, wp_Range1, wp_Range2, wp_tYes, wf_ok, rd_cons0, rd_cons, got_some, orGot_some, orGot_none, asB_bl, asI_int, asS_str, asOne_one, asTwo_two, wp_sPar3, asThree_three, wp_Prop, wp_NeC, wp_tNeC, wp_MethK, wp_DGet, wp_DHas, wp_tDHas, wp_DPutU, wp_ListDS, wp_ListTS, wp_DcS, wp_IndexC, wp_sAugL, wp_CatLS, wp_SortSet, wp_SortSetS, bName, List.set_cons_succ, List.set_cons_zero, List.append_nil, List.length_cons, List.length_nil, Nat.zero_add, Nat.reduceAdd, true_and, and_true, if_true, if_false, Bool.false_eq_true, Bool.not_true, Bool.not_false, List.take_zero, List.drop_zero, nil_appD, il, pp]
    have fk : ∀ S, fldD fc_kept_rules "kept_rules" S (rulesD cs) = some (.lst (cs.map chD)) := fun S => rules_fld_kept
    have it : itemsOf (.lst (cs.map chD)) = some (cs.map chD) := rfl
    simp only [wp_C, wp_Var, wp_Bin, wp_Cmp, wp_Un, wp_CallB, wp_Sl, wp_oNone, wp_oSome, wp_aNil, wp_aCons, wp_Tup, wp_Lst, wp_LstS, wp_And, wp_Or, wp_Not, wp_If, wp_CallF, wp_CallK, wp_tVal, wp_tCmp, wp_tAnd, wp_tOr, wp_tNot, wp_Chain, wp_tChain, wp_Next, wp_Brk, wp_Cont, wp_RetN, wp_Ret, wp_Expr, wp_sIf, wp_Asg, wp_sSub, wp_sPar, wp_sAug, wp_For, wp_Comp, wp_Settle, wp_Make, wp_MakeK, wp_Fld, wp_FldS, wp_MethC, wp_InC, wp_tInC, wp_EqC, wp_tEqC, wp_LenC, wp_TxtC, wp_jNil, wp_jCons, wp_Joined, wp_Fmt, wp_Calm, wp_Cval, wp_Meth, wp_Ix, wp_MakeR, wp_MakeRK, wp_aStar, wp_MakeS, wp_EnumU, wp_ListS, wp_iSeq, wp_Range1, wp_Range2, wp_tYes, wf_ok, rd_cons0, rd_cons, got_some, orGot_some, orGot_none, asB_bl, asI_int, asS_str, asOne_one, asTwo_two, wp_sPar3, asThree_three, wp_Prop, wp_NeC, wp_tNeC, wp_MethK, wp_DGet, wp_DHas, wp_tDHas, wp_DPutU, wp_ListDS, wp_ListTS, wp_DcS, wp_IndexC, wp_sAugL, wp_CatLS, wp_SortSet, wp_SortSetS, bName, List.set_cons_succ, List.set_cons_zero, List.append_nil, List.length_cons, List.length_nil, Nat.zero_add, Nat.reduceAdd, true_and, and_true, if_true, if_false, Bool.false_eq_true, Bool.not_true, Bool.not_false, List.take_zero, List.drop_zero, nil_appD, fk, Option.bind_some, it]
    have hx : x ∈ F := hI.sub x (by simp)
    have hW2 : W'.length + 1 ≤ F.length := by simpa using hW
    refine wp_loop (fun xs r T => ∃ (p q : List Ch) (F2 W2 : List Nat) (x5 x6 x7 : Option D), cs = p ++ q ∧ xs = q.map chD ∧ r = [some (rulesD cs), some (.str (txt st)), some (.ref 0), some (.ref 1), some (keyT x), x5, x6, x7] ∧ T = [.lst (F2.map keyT), .lst (W2.map keyT)] ∧ LedI cs st F2 W2 (fun c => c = x) ∧ W2.length + F.length = W'.length + F2.length ∧ x ∈ F2 ∧ ∀ r ∈ p, r.1 = x → r.2.1 ∈ F2) _ _ _ ⟨[], cs, F, W', x5, x6, x7, rfl, rfl, rfl, rfl, ⟨hI.nd, fun c hc => hI.sub c (List.mem_append_left _ hc), hI.rch, hI.st0, fun c h1 h2 h3 r hr e => hI.done c h1 (by simp only [List.mem_append, List.mem_singleton, not_or]; exact ⟨h2, h3⟩) (fun z => z) r hr e⟩, rfl, hx, fun r hr => absurd hr (List.not_mem_nil)⟩ ?_ ?_
    · rintro r T ⟨p, q, F2, W2, x5, x6, x7, hc, hq, rfl, rfl, hI2, hl2, hx2, hp⟩
      have : q = [] := by simpa using hq.symm
      subst this
      rw [List.append_nil] at hc
      subst hc
      have h262 := sizF hI2
      refine ⟨W2.length + 26 - F2.length, by simp only [List.length_append, List.length_cons, List.length_nil] at hk; omega, F2, W2, _, x5, x6, x7, rfl, rfl, ⟨hI2.nd, hI2.sub, hI2.rch, hI2.st0, fun c h1 h2 _ r hr e => ?_⟩, by omega, Nat.le_refl _⟩
      by_cases ce : c = x
      · exact hp r hr (e.trans ce)
      · exact hI2.done c h1 h2 ce r hr e
    · rintro y ys r T ⟨p, q, F2, W2, x5, x6, x7, hc, hq, rfl, rfl, hI2, hl2, hx2, hp⟩
      cases q with
      | nil => simp at hq
      | cons rl q =>
        simp only [List.map_cons, List.cons.injEq] at hq
        obtain ⟨rfl, rfl⟩ := hq
        have h262 := sizF hI2
        refine ⟨_, rfl, ?_⟩
        have e1 : eqB [.lst (F2.map keyT), .lst (W2.map keyT)] (.str (txt [rl.1])) (keyT x) = some (decide ([rl.1] = [x])) := eqB_txt
        have e2 : notB inB [.lst (F2.map keyT), .lst (W2.map keyT)] (.str (txt [rl.2.1])) (.ref 0) = some (!decide (rl.2.1 ∈ F2)) := by
          unfold notB
          rw [show inB [.lst (F2.map keyT), .lst (W2.map keyT)] (.str (txt [rl.2.1])) (.ref 0) = some (decide (rl.2.1 ∈ F2)) from inkeys_of rfl rfl]; rfl
        have next : ∀ F3 : List Nat, (∀ c ∈ F2, c ∈ F3) → (rl.1 = x → rl.2.1 ∈ F3) → ∀ r ∈ p ++ [rl], r.1 = x → r.2.1 ∈ F3 := fun F3 s1 s2 r hr e => by
          rcases List.mem_append.mp hr with hr | hr
          · exact s1 _ (hp r hr e)
          · cases List.mem_singleton.mp hr; exact s2 e
        simp only [wp_C, wp_Var, wp_Bin, wp_Cmp, wp_Un, wp_CallB, wp_Sl, wp_oNone, wp_oSome, wp_aNil, wp_aCons, wp_Tup, wp_Lst, wp_LstS, wp_And, wp_Or, wp_Not, wp_If, wp_CallF, wp_CallK, wp_tVal, wp_tCmp, wp_tAnd, wp_tOr, wp_tNot, wp_Chain, wp_tChain, wp_Next, wp_Brk, wp_Cont, wp_RetN, wp_Ret, wp_Expr, wp_sIf, wp_Asg, wp_sSub, wp_sPar, wp_sAug, wp_For, wp_Comp, wp_Settle, wp_Make, wp_MakeK, wp_Fld, wp_FldS, wp_MethC, wp_InC, wp_tInC, wp_EqC, wp_tEqC, wp_LenC, wp_TxtC, wp_jNil, wp_jCons, wp_Joined, wp_Fmt, wp_Calm, wp_Cval, wp_Meth, wp_Ix, wp_MakeR, wp_MakeRK, wp_aStar, wp_MakeS, wp_EnumU, wp_ListS, wp_iSeq, wp_Range1, wp_Range2, wp_tYes, wf_ok, rd_cons0, rd_cons, got_some, orGot_some, orGot_none, asB_bl, asI_int, asS_str, asOne_one, asTwo_two, wp_sPar3, asThree_three, wp_Prop, wp_NeC, wp_tNeC, wp_MethK, wp_DGet, wp_DHas, wp_tDHas, wp_DPutU, wp_ListDS, wp_ListTS, wp_DcS, wp_IndexC, wp_sAugL, wp_CatLS, wp_SortSet, wp_SortSetS, bName, List.set_cons_succ, List.set_cons_zero, List.append_nil, List.length_cons, List.length_nil, Nat.zero_add, Nat.reduceAdd, true_and, and_true, if_true, if_false, Bool.false_eq_true, Bool.not_true, Bool.not_false, List.take_zero, List.drop_zero, nil_appD, e1, e2]
        by_cases c1 : rl.1 = x
        · simp only [c1, decide_true, wp_C, wp_Var, wp_Bin, wp_Cmp, wp_Un, wp_CallB, wp_Sl, wp_oNone, wp_oSome, wp_aNil, wp_aCons, wp_Tup, wp_Lst, wp_LstS, wp_And, wp_Or, wp_Not, wp_If, wp_CallF, wp_CallK, wp_tVal, wp_tCmp, wp_tAnd, wp_tOr, wp_tNot, wp_Chain, wp_tChain, wp_Next, wp_Brk, wp_Cont, wp_RetN, wp_Ret, wp_Expr, wp_sIf, wp_Asg, wp_sSub, wp_sPar, wp_sAug, wp_For, wp_Comp, wp_Settle, wp_Make, wp_MakeK, wp_Fld, wp_FldS, wp_MethC, wp_InC, wp_tInC, wp_EqC, wp_tEqC, wp_LenC, wp_TxtC, wp_jNil, wp_jCons, wp_Joined, wp_Fmt, wp_Calm, wp_Cval, wp_Meth, wp_Ix, wp_MakeR, wp_MakeRK, wp_aStar, wp_MakeS, wp_EnumU, wp_ListS, wp_iSeq, wp_Range1, wp_Range2, wp_tYes, wf_ok, rd_cons0, rd_cons, got_some, orGot_some, orGot_none, asB_bl, asI_int, asS_str, asOne_one, asTwo_two, wp_sPar3, asThree_three, wp_Prop, wp_NeC, wp_tNeC, wp_MethK, wp_DGet, wp_DHas, wp_tDHas, wp_DPutU, wp_ListDS, wp_ListTS, wp_DcS, wp_IndexC, wp_sAugL, wp_CatLS, wp_SortSet, wp_SortSetS, bName, List.set_cons_succ, List.set_cons_zero, List.append_nil, List.length_cons, List.length_nil, Nat.zero_add, Nat.reduceAdd, true_and, and_true, if_true, if_false, Bool.false_eq_true, Bool.not_true, Bool.not_false, List.take_zero, List.drop_zero, nil_appD]
          by_cases c2 : rl.2.1 ∈ F2
          · simp only [decide_eq_true c2, wp_C, wp_Var, wp_Bin, wp_Cmp, wp_Un, wp_CallB, wp_Sl, wp_oNone, wp_oSome, wp_aNil, wp_aCons, wp_Tup, wp_Lst, wp_LstS, wp_And, wp_Or, wp_Not, wp_If, wp_CallF, wp_CallK, wp_tVal, wp_tCmp, wp_tAnd, wp_tOr, wp_tNot, wp_Chain, wp_tChain, wp_Next, wp_Brk, wp_Cont, wp_RetN, wp_Ret, wp_Expr, wp_sIf, wp_Asg, wp_sSub, wp_sPar, wp_sAug, wp_For, wp_Comp, wp_Settle, wp_Make, wp_MakeK, wp_Fld, wp_FldS, wp_MethC, wp_InC, wp_tInC, wp_EqC, wp_tEqC, wp_LenC, wp_TxtC, wp_jNil, wp_jCons, wp_Joined, wp_Fmt, wp_Calm, wp_Cval, wp_Meth, wp_Ix, wp_MakeR, wp_MakeRK, wp_aStar, wp_MakeS, wp_EnumU, wp_ListS, wp_iSeq, wp_Range1, wp_Range2, wp_tYes, wf_ok, rd_cons0, rd_cons, got_some, orGot_some, orGot_none, asB_bl, asI_int, asS_str, asOne_one, asTwo_two, wp_sPar3, asThree_three, wp_Prop, wp_NeC, wp_tNeC, wp_MethK, wp_DGet, wp_DHas, wp_tDHas, wp_DPutU, wp_ListDS, wp_ListTS, wp_DcS, wp_IndexC, wp_sAugL, wp_CatLS, wp_SortSet, wp_SortSetS, bName, List.set_cons_succ, List.set_cons_zero, List.append_nil, List.length_cons, List.length_nil, Nat.zero_add, Nat.reduceAdd, true_and, and_true, if_true, if_false, Bool.false_eq_true, Bool.not_true, Bool.not_false, List.take_zero, List.drop_zero, nil_appD]
            exact ⟨p ++ [rl], q, F2, W2, _, _, _, by simp [hc], rfl, rfl, rfl, hI2, hl2, hx2, next F2 (fun _ h => h) fun _ => c2⟩
          · have a1 : mAppend [.lst (F2.map keyT), .lst (W2.map keyT)] (.ref 0) [.str (txt [rl.2.1])] = some (.non, [.lst ((F2 ++ [rl.2.1]).map keyT), .lst (W2.map keyT)]) := by
              show (if (F2.map keyT).length < sizeLine then some _ else none) = _
              rw [if_pos (lt_big (by rw [List.length_map]; omega))]
              simp [keyT]
            have a2 : mAppend [.lst ((F2 ++ [rl.2.1]).map keyT), .lst (W2.map keyT)] (.ref 1) [.str (txt [rl.2.1])] = some (.non, [.lst ((F2 ++ [rl.2.1]).map keyT), .lst ((W2 ++ [rl.2.1]).map keyT)]) := by
              show (if (W2.map keyT).length < sizeLine then some _ else none) = _
              rw [if_pos (lt_big (by rw [List.length_map]; omega))]
              simp [keyT]
            have i1 : isLst [.lst (F2.map keyT), .lst (W2.map keyT)] (.ref 0) = true := rfl
            have i2 : isLst [.lst ((F2 ++ [rl.2.1]).map keyT), .lst (W2.map keyT)] (.ref 1) = true := rfl
            simp only [decide_eq_false c2, wp_C, wp_Var, wp_Bin, wp_Cmp, wp_Un, wp_CallB, wp_Sl, wp_oNone, wp_oSome, wp_aNil, wp_aCons, wp_Tup, wp_Lst, wp_LstS, wp_And, wp_Or, wp_Not, wp_If, wp_CallF, wp_CallK, wp_tVal, wp_tCmp, wp_tAnd, wp_tOr, wp_tNot, wp_Chain, wp_tChain, wp_Next, wp_Brk, wp_Cont, wp_RetN, wp_Ret, wp_Expr, wp_sIf, wp_Asg, wp_sSub, wp_sPar, wp_sAug, wp_For, wp_Comp, wp_Settle, wp_Make, wp_MakeK, wp_Fld, wp_FldS, wp_MethC, wp_InC, wp_tInC, wp_EqC, wp_tEqC, wp_LenC, wp_TxtC, wp_jNil, wp_jCons, wp_Joined, wp_Fmt, wp_Calm, wp_Cval, wp_Meth, wp_Ix, wp_MakeR, wp_MakeRK, wp_aStar, wp_MakeS, wp_EnumU, wp_ListS, wp_iSeq, wp_Range1, wp_Range2, wp_tYes, wf_ok, rd_cons0, rd_cons, got_some, orGot_some, orGot_none, asB_bl, asI_int, asS_str, asOne_one, asTwo_two, wp_sPar3, asThree_three, wp_Prop, wp_NeC, wp_tNeC, wp_MethK, wp_DGet, wp_DHas, wp_tDHas, wp_DPutU, wp_ListDS, wp_ListTS, wp_DcS, wp_IndexC, wp_sAugL, wp_CatLS, wp_SortSet, wp_SortSetS, bName, List.set_cons_succ, List.set_cons_zero, List.append_nil, List.length_cons, List.length_nil, Nat.zero_add, Nat.reduceAdd, true_and, and_true, if_true, if_false, Bool.false_eq_true, Bool.not_true, Bool.not_false, List.take_zero, List.drop_zero, nil_appD]
            rw [wp_Seq]
            simp only [wp_C, wp_Var, wp_Bin, wp_Cmp, wp_Un, wp_CallB, wp_Sl, wp_oNone, wp_oSome, wp_aNil, wp_aCons, wp_Tup, wp_Lst, wp_LstS, wp_And, wp_Or, wp_Not, wp_If, wp_CallF, wp_CallK, wp_tVal, wp_tCmp, wp_tAnd, wp_tOr, wp_tNot, wp_Chain, wp_tChain, wp_Next, wp_Brk, wp_Cont, wp_RetN, wp_Ret, wp_Expr, wp_sIf, wp_Asg, wp_sSub, wp_sPar, wp_sAug, wp_For, wp_Comp, wp_Settle, wp_Make, wp_MakeK, wp_Fld, wp_FldS, wp_MethC, wp_InC, wp_tInC, wp_EqC, wp_tEqC, wp_LenC, wp_TxtC, wp_jNil, wp_jCons, wp_Joined, wp_Fmt, wp_Calm, wp_Cval, wp_Meth, wp_Ix, wp_MakeR, wp_MakeRK, wp_aStar, wp_MakeS, wp_EnumU, wp_ListS, wp_iSeq, wp_Range1, wp_Range2, wp_tYes, wf_ok, rd_cons0, rd_cons, got_some, orGot_some, orGot_none, asB_bl, asI_int, asS_str, asOne_one, asTwo_two, wp_sPar3, asThree_three, wp_Prop, wp_NeC, wp_tNeC, wp_MethK, wp_DGet, wp_DHas, wp_tDHas, wp_DPutU, wp_ListDS, wp_ListTS, wp_DcS, wp_IndexC, wp_sAugL, wp_CatLS, wp_SortSet, wp_SortSetS, bName, List.set_cons_succ, List.set_cons_zero, List.append_nil, List.length_cons, List.length_nil, Nat.zero_add, Nat.reduceAdd, true_and, and_true, if_true, if_false, Bool.false_eq_true, Bool.not_true, Bool.not_false, List.take_zero, List.drop_zero, nil_appD, i1, a1, i2, a2]
            have mrl : rl ∈ cs := by rw [hc]; simp
            refine ⟨p ++ [rl], q, F2 ++ [rl.2.1], W2 ++ [rl.2.1], _, _, _, by simp [hc], rfl, rfl, rfl, ⟨?_, ?_, ?_, ?_, ?_⟩, by simp only [List.length_append, List.length_cons, List.length_nil]; omega, List.mem_append_left _ hx2, next _ (fun c hc => List.mem_append_left _ hc) fun _ => by simp⟩
            · refine List.nodup_append.mpr ⟨hI2.nd, by simp, fun a ha b hb e => c2 ?_⟩
              cases List.mem_singleton.mp hb
              exact e ▸ ha
            · intro c hc
              rcases List.mem_append.mp hc with hc | hc
              · exact List.mem_append_left _ (hI2.sub c hc)
              · exact List.mem_append_right _ hc
            · intro c hc
              rcases List.mem_append.mp hc with hc | hc
              · exact hI2.rch c hc
              · cases List.mem_singleton.mp hc
                obtain ⟨n, hn⟩ := hI2.rch x hx2
                exact ⟨n + 1, .inr ⟨rl, mrl, by rw [c1]; exact hn, rfl⟩⟩
            · exact fun c hc => List.mem_append_left _ (hI2.st0 c hc)
            · intro c h1 h2 h3 r hr e
              simp only [List.mem_append, List.mem_singleton, not_or] at h1 h2
              rcases h1 with h1 | h1
              · exact List.mem_append_left _ (hI2.done c h1 h2.1 h3 r hr e)
              · exact absurd h1 h2.2
        · have c1' : ¬ [rl.1] = [x] := by simpa using c1
          simp only [c1', decide_false, wp_C, wp_Var, wp_Bin, wp_Cmp, wp_Un, wp_CallB, wp_Sl, wp_oNone, wp_oSome, wp_aNil, wp_aCons, wp_Tup, wp_Lst, wp_LstS, wp_And, wp_Or, wp_Not, wp_If, wp_CallF, wp_CallK, wp_tVal, wp_tCmp, wp_tAnd, wp_tOr, wp_tNot, wp_Chain, wp_tChain, wp_Next, wp_Brk, wp_Cont, wp_RetN, wp_Ret, wp_Expr, wp_sIf, wp_Asg, wp_sSub, wp_sPar, wp_sAug, wp_For, wp_Comp, wp_Settle, wp_Make, wp_MakeK, wp_Fld, wp_FldS, wp_MethC, wp_InC, wp_tInC, wp_EqC, wp_tEqC, wp_LenC, wp_TxtC, wp_jNil, wp_jCons, wp_Joined, wp_Fmt, wp_Calm, wp_Cval, wp_Meth, wp_Ix, wp_MakeR, wp_MakeRK, wp_aStar, wp_MakeS, wp_EnumU, wp_ListS, wp_iSeq, wp_Range1, wp_Range2, wp_tYes, wf_ok, rd_cons0, rd_cons, got_some, orGot_some, orGot_none, asB_bl, asI_int, asS_str, asOne_one, asTwo_two, wp_sPar3, asThree_three, wp_Prop, wp_NeC, wp_tNeC, wp_MethK, wp_DGet, wp_DHas, wp_tDHas, wp_DPutU, wp_ListDS, wp_ListTS, wp_DcS, wp_IndexC, wp_sAugL, wp_CatLS, wp_SortSet, wp_SortSetS, bName, List.set_cons_succ, List.set_cons_zero, List.append_nil, List.length_cons, List.length_nil, Nat.zero_add, Nat.reduceAdd, true_and, and_true, if_true, if_false, Bool.false_eq_true, Bool.not_true, Bool.not_false, List.take_zero, List.drop_zero, nil_appD]
          exact ⟨p ++ [rl], q, F2, W2, _, _, _, by simp [hc], rfl, rfl, rfl, hI2, hl2, hx2, next F2 (fun _ h => h) fun e => absurd e c1⟩
theorem around_top {cs : List Ch} {st : List Nat} {n : Nat} (h : RulesO cs) (hs : st.Nodup) (ha : ∀ c ∈ st, 97 ≤ c ∧ c < 123) (hl : st.length ≤ 26) (hn : cs.length ≤ n) : arL cs st n = ledL cs st := asc_uniq arL_asc ledL_asc fun c => by
  rw [arL_mem h ha, ledL_mem h ha]
  refine ⟨fun z => ⟨n, z⟩, fun ⟨k, z⟩ => ?_⟩
  obtain ⟨o, ho, _⟩ := chain_ok (S := []) (goal := [c]) h hs hl (by simp)
  cases o with
  | none => exact absurd z (ho.no rfl k c (by simp))
  | some p =>
    obtain ⟨⟨⟨g, hg, hk⟩, _⟩, h2, _⟩ := ho.ok p rfl
    cases List.mem_singleton.mp hg
    exact rchW_mono (Nat.le_trans h2 hn) hk
/-- the counts that lead there -/
noncomputable def goesB (cs : List Ch) (st goal : List Nat) (k : Nat) : Bool := !((arL cs st k).filter fun c => decide (c ∈ goal)).isEmpty
theorem goesB_iff {cs : List Ch} {st goal : List Nat} {k : Nat} (h : RulesO cs) (ha : ∀ c ∈ st, 97 ≤ c ∧ c < 123) : goesB cs st goal k = true ↔ ∃ g ∈ goal, rchW cs st k g := by
  unfold goesB
  rw [Bool.not_eq_true', ← Bool.not_eq_true, List.isEmpty_iff, List.filter_eq_nil_iff]
  simp only [decide_eq_true_eq, Classical.not_forall, Classical.not_not, arL_mem h ha]
  exact ⟨fun ⟨c, h1, h2⟩ => ⟨c, h2, h1⟩, fun ⟨c, h1, h2⟩ => ⟨c, h2, h1⟩⟩
theorem keys_ne {S : Sto} {l : List Nat} (h : ∀ c ∈ l, c < 128) : eqB S (.lst (l.map keyT)) (.lst []) = some l.isEmpty := by
  rw [eqB_empty (keys_data h)]
  cases l <;> rfl
theorem filter_keys {i : Nat} {j : Nat} {r : Env} {S : Sto} {l goal : List Nat} (hi : ∀ d, ((wipeE r [i]).set i (some d))[i]? = some (some d)) (hj : ∀ d, ((wipeE r [i]).set i (some d))[j]? = some (some (.str (txt goal)))) : compF (bName i) (tCmp inB (eVar i) (eVar j)) (eVar i) r [i] (l.map keyT) S = .ok ((l.filter fun c => decide (c ∈ goal)).map keyT) r S :=
  comp_filter (i := i) keyT keyT (fun c => decide (c ∈ goal)) (xs := l) (fun c _ => by
    have ev : eVar i ((wipeE r [i]).set i (some (keyT c))) S = .ok (keyT c) ((wipeE r [i]).set i (some (keyT c))) S := by simp only [eVar, hi]
    have ej : eVar j ((wipeE r [i]).set i (some (keyT c))) S = .ok (.str (txt goal)) ((wipeE r [i]).set i (some (keyT c))) S := by simp only [eVar, hj]
    have ii : inB S (keyT c) (.str (txt goal)) = some (decide (c ∈ goal)) := in_sgt
    simp only [tCmp, R.bind, ev, ej, ii]
    exact ⟨rfl, rfl, rfl⟩) (fun c _ _ => by
    have ev : eVar i ((wipeE r [i]).set i (some (keyT c))) S = .ok (keyT c) ((wipeE r [i]).set i (some (keyT c))) S := by simp only [eVar, hi]
    rw [ev]
    exact ⟨rfl, rfl⟩)
theorem ints_data {L : List Nat} : dataB 60 (.lst (L.map fun i : Nat => .int (i : Int))) = true := by
  simp only [dataB, List.all_eq_true]
  intro x hx
  obtain ⟨c, hc, rfl⟩ := List.mem_map.mp hx
  rfl
theorem ints_ne {S : Sto} {L : List Nat} : eqB S (.lst (L.map fun i : Nat => .int (i : Int))) (.lst []) = some L.isEmpty := by
  rw [eqB_empty ints_data]
  cases L <;> rfl
theorem way_same {S : Sto} {p : List Nat} : notB eqB S (wayD p) (wayD p) = some false := by
  unfold notB
  rw [show eqB S (wayD p) (wayD p) = some true from eqB_self ints_data rfl]; rfl
theorem law_number_ok {a b c : Int} {S : Sto} (h1 : b ≤ a) (h2 : a ≤ c) : m_law_number [.int a, .int b, .int c] S = .ok (.bl true) S := by
  refine pur_flat rfl rfl ?_
  have e0 : startE 3 [.int a, .int b, .int c] = [some (.int a), some (.int b), some (.int c)] := rfl
  rw [e0]
  unfold fb_law_number
  have i1 : oIsi0 [] [.int a, .ty "int"] = some (.bl true) := rfl
  have i2 : oIsi0 [] [.int a, .ty "bool"] = some (.bl false) := rfl
  simp only [wp_C, wp_Var, wp_Bin, wp_Cmp, wp_Un, wp_CallB, wp_Sl, wp_oNone, wp_oSome, wp_aNil, wp_aCons, wp_Tup, wp_Lst, wp_LstS, wp_And, wp_Or, wp_Not, wp_If, wp_CallF, wp_CallK, wp_tVal, wp_tCmp, wp_tAnd, wp_tOr, wp_tNot, wp_Chain, wp_tChain, wp_Next, wp_Brk, wp_Cont, wp_RetN, wp_Ret, wp_Expr, wp_sIf, wp_Asg, wp_sSub, wp_sPar, wp_sAug, wp_For, wp_Comp, wp_Settle, wp_Make, wp_MakeK, wp_Fld, wp_FldS, wp_MethC, wp_InC, wp_tInC, wp_EqC, wp_tEqC, wp_LenC, wp_TxtC, wp_jNil, wp_jCons, wp_Joined, wp_Fmt, wp_Calm, wp_Cval, wp_Meth, wp_Ix, wp_MakeR, wp_MakeRK, wp_aStar, wp_MakeS, wp_EnumU, wp_ListS, wp_iSeq, wp_Range1, wp_Range2, wp_tYes, wf_ok, rd_cons0, rd_cons, got_some, orGot_some, orGot_none, asB_bl, asI_int, asS_str, asOne_one, asTwo_two, wp_sPar3, asThree_three, wp_Prop, wp_NeC, wp_tNeC, wp_MethK, wp_DGet, wp_DHas, wp_tDHas, wp_DPutU, wp_ListDS, wp_ListTS, wp_DcS, wp_IndexC, wp_sAugL, wp_CatLS, wp_SortSet, wp_SortSetS, bName, List.set_cons_succ, List.set_cons_zero, List.append_nil, List.length_cons, List.length_nil, Nat.zero_add, Nat.reduceAdd, true_and, and_true, if_true, if_false, Bool.false_eq_true, Bool.not_true, Bool.not_false, List.take_zero, List.drop_zero, nil_appD, i1, i2, leB_int, decide_eq_true h1, decide_eq_true h2]
theorem least_head {P : Nat → Bool} {k : Nat} (hk : P k = true) (hn : ∀ j, j < k → P j = false) (h7 : k < 7) : ∃ l, (List.range 7).filter P = k :: l := by
  have e : List.range 7 = List.range k ++ k :: (List.range' (k + 1) (6 - k)) := by
    rw [List.range_eq_range', List.range_eq_range', ← List.range'_succ]
    rw [show (7 : Nat) = k + (6 - k + 1) by omega, ← List.range'_append_1]
    simp
  rw [e, List.filter_append, List.filter_eq_nil_iff.mpr (fun j hj => by
    rw [hn j (List.mem_range.mp hj)]; decide), List.nil_append, List.filter_cons_of_pos hk]
  exact ⟨_, rfl⟩
theorem law_run (ns : List Int) (hl : ns.length ≤ 63) : ∃ S, m_law [.fz (ns.map .int)] [] = .ok (.bl true) S := by
  have key : wf (m_law [.fz (ns.map .int)] []) (fun d _ => d = .bl true) fun _ _ => False := by
    refine wf_end ?_
    have hbag := bag_ok (c := 5784) (ns := ns) (S := []) (Z := fun _ _ => False) (by decide) (by decide) hl
    revert hbag
    generalize D.fz (ns.map .int) = s
    intro hbag
    refine wp_seq ?_
    have e1 : startE 16 [s] = [some s, none, none, none, none, none, none, none, none, none, none, none, none, none, none, none] := rfl
    rw [e1]
    simp only [wp_C, wp_Var, wp_Bin, wp_Cmp, wp_Un, wp_CallB, wp_Sl, wp_oNone, wp_oSome, wp_aNil, wp_aCons, wp_Tup, wp_Lst, wp_LstS, wp_And, wp_Or, wp_Not, wp_If, wp_CallF, wp_CallK, wp_tVal, wp_tCmp, wp_tAnd, wp_tOr, wp_tNot, wp_Chain, wp_tChain, wp_Next, wp_Brk, wp_Cont, wp_RetN, wp_Ret, wp_Expr, wp_sIf, wp_Asg, wp_sSub, wp_sPar, wp_sAug, wp_For, wp_Comp, wp_Settle, wp_Make, wp_MakeK, wp_Fld, wp_FldS, wp_MethC, wp_InC, wp_tInC, wp_EqC, wp_tEqC, wp_LenC, wp_TxtC, wp_jNil, wp_jCons, wp_Joined, wp_Fmt, wp_Calm, wp_Cval, wp_Meth, wp_Ix, wp_MakeR, wp_MakeRK, wp_aStar, wp_MakeS, wp_EnumU, wp_ListS, wp_iSeq, wp_Range1, wp_Range2, wp_tYes, wf_ok, rd_cons0, rd_cons, got_some, orGot_some, orGot_none, asB_bl, asI_int, asS_str, asOne_one, asTwo_two, wp_sPar3, asThree_three, wp_Prop, wp_NeC, wp_tNeC, wp_MethK, wp_DGet, wp_DHas, wp_tDHas, wp_DPutU, wp_ListDS, wp_ListTS, wp_DcS, wp_IndexC, wp_sAugL, wp_CatLS, wp_SortSet, wp_SortSetS, bName, List.set_cons_succ, List.set_cons_zero, List.append_nil, List.length_cons, List.length_nil, Nat.zero_add, Nat.reduceAdd, true_and, and_true, if_true, if_false, Bool.false_eq_true, Bool.not_true, Bool.not_false, List.take_zero, List.drop_zero, nil_appD]
    refine wf_imp hbag ?_ (fun _ _ z => z)
    rintro d S ⟨rfl, o, hB, rfl⟩
    rw [List.nil_append]
    refine wp_seq ?_
    have r6 : rng1 [.int 6] = some (rangeD 0 6) := rng1_int (by decide) (by decide)
    have ri : ∀ {cs : List Ch} {o : AO}, RulesO cs → m_rules_init [.ref 1, .tup (cs.map chD)] ([o] ++ [.ins "Rules" [] []]) = .ok .non ([o] ++ [rulesO cs]) := fun {cs o} h => rules_init_ok (S := [o]) h
    have f1 : ∀ {cs : List Ch} {o : AO}, fz 1 ([o] ++ [rulesO cs]) 60 (.ref 1) = rulesD cs := fz_1 rules_bnd
    have bo : ∀ {o : AO}, BagO o → ([o].all (bndO 1)) = true := fun h => by simp [bag_bnd h]
    have lk1 : ∀ {cs : List Ch}, (rulesN.zip (rulesV cs)).lookup ("led" : Str) = none := fun {cs} => by kernel_rfl
    have lk2 : ∀ {cs : List Ch}, (rulesN.zip (rulesV cs)).lookup ("chain" : Str) = none := fun {cs} => by kernel_rfl
    simp only [wp_C, wp_Var, wp_Bin, wp_Cmp, wp_Un, wp_CallB, wp_Sl, wp_oNone, wp_oSome, wp_aNil, wp_aCons, wp_Tup, wp_Lst, wp_LstS, wp_And, wp_Or, wp_Not, wp_If, wp_CallF, wp_CallK, wp_tVal, wp_tCmp, wp_tAnd, wp_tOr, wp_tNot, wp_Chain, wp_tChain, wp_Next, wp_Brk, wp_Cont, wp_RetN, wp_Ret, wp_Expr, wp_sIf, wp_Asg, wp_sSub, wp_sPar, wp_sAug, wp_For, wp_Comp, wp_Settle, wp_Make, wp_MakeK, wp_Fld, wp_FldS, wp_MethC, wp_InC, wp_tInC, wp_EqC, wp_tEqC, wp_LenC, wp_TxtC, wp_jNil, wp_jCons, wp_Joined, wp_Fmt, wp_Calm, wp_Cval, wp_Meth, wp_Ix, wp_MakeR, wp_MakeRK, wp_aStar, wp_MakeS, wp_EnumU, wp_ListS, wp_iSeq, wp_Range1, wp_Range2, wp_tYes, wf_ok, rd_cons0, rd_cons, got_some, orGot_some, orGot_none, asB_bl, asI_int, asS_str, asOne_one, asTwo_two, wp_sPar3, asThree_three, wp_Prop, wp_NeC, wp_tNeC, wp_MethK, wp_DGet, wp_DHas, wp_tDHas, wp_DPutU, wp_ListDS, wp_ListTS, wp_DcS, wp_IndexC, wp_sAugL, wp_CatLS, wp_SortSet, wp_SortSetS, bName, List.set_cons_succ, List.set_cons_zero, List.append_nil, List.length_cons, List.length_nil, Nat.zero_add, Nat.reduceAdd, true_and, and_true, if_true, if_false, Bool.false_eq_true, Bool.not_true, Bool.not_false, List.take_zero, List.drop_zero, nil_appD, r6]
    refine wp_loop (fun _ r S => ∃ x2 x3 x4 x5 x6 x7 x8 x9 x10 x11 x12 o, r = [some s, some (.ref 0), x2, x3, x4, x5, x6, x7, x8, x9, x10, x11, x12, none, none, none] ∧ S = [o] ∧ BagO o) _ _ _ ⟨none, none, none, none, none, none, none, none, none, none, none, o, rfl, rfl, hB⟩ ?_ ?_
    · rintro r S ⟨x2, x3, x4, x5, x6, x7, x8, x9, x10, x11, x12, o, rfl, rfl, hB⟩
      have ea : ("a" : Str) = txt [97] := by kernel_rfl
      have eb : ("b" : Str) = txt [98] := by kernel_rfl
      have ec : ("c" : Str) = txt [99] := by kernel_rfl
      let cs : List Ch := [(97, 98, true), (98, 99, false)]
      have hc : RulesO cs := ⟨by decide, fun c hc => by
        simp only [cs, List.mem_cons, List.not_mem_nil, or_false] at hc
        rcases hc with rfl | rfl <;> exact ⟨by decide, by decide, by decide, by decide⟩⟩
      have h0 : RulesO [] := ⟨by decide, by simp⟩
      have ri2 : m_rules_init [.ref 1, .tup [.tup [.str (txt [97]), .str (txt [98]), .bl true], .tup [.str (txt [98]), .str (txt [99]), .bl false]]] ([o] ++ [.ins "Rules" [] []]) = .ok .non ([o] ++ [rulesO cs]) := ri (cs := cs) hc
      have ri0 : m_rules_init [.ref 1, .tup []] ([o] ++ [.ins "Rules" [] []]) = .ok .non ([o] ++ [rulesO []]) := ri (cs := []) h0
      have c1 : m_rules_chain [rulesD cs, .str (txt [97]), .str (txt [99])] [o] = .ok (.lst [.int 0, .int 1]) [o] := by
        obtain ⟨f, ho, e⟩ := chain_ok (S := [o]) (cs := cs) (st := [97]) (goal := [99]) hc (by simp) (by simp) (by simp)
        rw [e]
        cases f with
        | none => exact absurd (show rchW cs [97] 2 99 from .inr ⟨(98, 99, false), by simp [cs], .inr ⟨(97, 98, true), by simp [cs], by simp [rchW], rfl⟩, rfl⟩) (ho.no rfl 2 99 (by simp))
        | some p =>
          obtain ⟨_, h2, s1, hs1, g1, hg1, hch⟩ := ho.ok p rfl
          cases List.mem_singleton.mp hs1
          cases List.mem_singleton.mp hg1
          have z : ∀ (i : Nat) (r : Ch), cs[i]? = some r → (r = (97, 98, true) ∧ i = 0) ∨ (r = (98, 99, false) ∧ i = 1) := fun i r h => by
            match i, h with
            | 0, h => exact .inl ⟨(Option.some.inj h).symm, rfl⟩
            | 1, h => exact .inr ⟨(Option.some.inj h).symm, rfl⟩
            | n + 2, h => simp [cs] at h
          match p, h2, hch with
          | [], _, hch => exact absurd (show (97 : Nat) = 99 from hch) (by decide)
          | [i], _, ⟨r, hr, e1, e2⟩ =>
            rcases z i r hr with ⟨rfl, _⟩ | ⟨rfl, _⟩
            · exact absurd (show (98 : Nat) = 99 from e2) (by decide)
            · exact absurd e1 (by decide)
          | [i, j], _, ⟨r, hr, e1, r', hr', e2, e3⟩ =>
            rcases z i r hr with ⟨rfl, rfl⟩ | ⟨rfl, _⟩
            · rcases z j r' hr' with ⟨rfl, _⟩ | ⟨rfl, rfl⟩
              · exact absurd e2 (by decide)
              · rfl
            · exact absurd e1 (by decide)
          | _ :: _ :: _ :: _, h2, _ => simp [cs] at h2
      have c0 : m_rules_chain [rulesD [], .str (txt [97]), .str (txt [98])] [o] = .ok .non [o] := by
        obtain ⟨f, ho, e⟩ := chain_ok (S := [o]) (cs := []) (st := [97]) (goal := [98]) h0 (by simp) (by simp) (by simp)
        rw [e]
        cases f with
        | none => rfl
        | some p =>
          obtain ⟨_, h2, s1, hs1, g1, hg1, hch⟩ := ho.ok p rfl
          cases List.mem_singleton.mp hs1
          cases List.mem_singleton.mp hg1
          cases p with
          | nil => exact absurd (show (97 : Nat) = 98 from hch) (by decide)
          | cons _ _ => simp at h2
      have n3 : 3 ≤ sizeLine := sz_le (by decide)
      have n2 : 2 ≤ sizeLine := sz_le (by decide)
      have n0 : 0 ≤ sizeLine := sz_le (by decide)
      have es : eqB [o] (.lst [.int 0, .int 1]) (.lst [.int 0, .int 1]) = some true := rfl
      have inn : isB [o] .non .non = some true := rfl
      simp only [wp_Seq, wp_C, wp_Var, wp_Bin, wp_Cmp, wp_Un, wp_CallB, wp_Sl, wp_oNone, wp_oSome, wp_aNil, wp_aCons, wp_Tup, wp_Lst, wp_LstS, wp_And, wp_Or, wp_Not, wp_If, wp_CallF, wp_CallK, wp_tVal, wp_tCmp, wp_tAnd, wp_tOr, wp_tNot, wp_Chain, wp_tChain, wp_Next, wp_Brk, wp_Cont, wp_RetN, wp_Ret, wp_Expr, wp_sIf, wp_Asg, wp_sSub, wp_sPar, wp_sAug, wp_For, wp_Comp, wp_Settle, wp_Make, wp_MakeK, wp_Fld, wp_FldS, wp_MethC, wp_InC, wp_tInC, wp_EqC, wp_tEqC, wp_LenC, wp_TxtC, wp_jNil, wp_jCons, wp_Joined, wp_Fmt, wp_Calm, wp_Cval, wp_Meth, wp_Ix, wp_MakeR, wp_MakeRK, wp_aStar, wp_MakeS, wp_EnumU, wp_ListS, wp_iSeq, wp_Range1, wp_Range2, wp_tYes, wf_ok, rd_cons0, rd_cons, got_some, orGot_some, orGot_none, asB_bl, asI_int, asS_str, asOne_one, asTwo_two, wp_sPar3, asThree_three, wp_Prop, wp_NeC, wp_tNeC, wp_MethK, wp_DGet, wp_DHas, wp_tDHas, wp_DPutU, wp_ListDS, wp_ListTS, wp_DcS, wp_IndexC, wp_sAugL, wp_CatLS, wp_SortSet, wp_SortSetS, bName, List.set_cons_succ, List.set_cons_zero, List.append_nil, List.length_cons, List.length_nil, Nat.zero_add, Nat.reduceAdd, true_and, and_true, if_true, if_false, Bool.false_eq_true, Bool.not_true, Bool.not_false, List.take_zero, List.drop_zero, nil_appD, ea, eb, ec, ri2, f1, tk_1, rules_bndD, rules_ins, lk2, c1, es, ri0, c0, inn, n3, n2, n0]
      simp [bag_bnd hB]
    clear hB hbag hl o ns
    rintro x xs r S ⟨x2, x3, x4, x5, x6, x7, x8, x9, x10, x11, x12, o, rfl, rfl, hB⟩
    refine ⟨_, rfl, ?_⟩
    rw [wp_Seq]
    simp only [wp_C, wp_Var, wp_Bin, wp_Cmp, wp_Un, wp_CallB, wp_Sl, wp_oNone, wp_oSome, wp_aNil, wp_aCons, wp_Tup, wp_Lst, wp_LstS, wp_And, wp_Or, wp_Not, wp_If, wp_CallF, wp_CallK, wp_tVal, wp_tCmp, wp_tAnd, wp_tOr, wp_tNot, wp_Chain, wp_tChain, wp_Next, wp_Brk, wp_Cont, wp_RetN, wp_Ret, wp_Expr, wp_sIf, wp_Asg, wp_sSub, wp_sPar, wp_sAug, wp_For, wp_Comp, wp_Settle, wp_Make, wp_MakeK, wp_Fld, wp_FldS, wp_MethC, wp_InC, wp_tInC, wp_EqC, wp_tEqC, wp_LenC, wp_TxtC, wp_jNil, wp_jCons, wp_Joined, wp_Fmt, wp_Calm, wp_Cval, wp_Meth, wp_Ix, wp_MakeR, wp_MakeRK, wp_aStar, wp_MakeS, wp_EnumU, wp_ListS, wp_iSeq, wp_Range1, wp_Range2, wp_tYes, wf_ok, rd_cons0, rd_cons, got_some, orGot_some, orGot_none, asB_bl, asI_int, asS_str, asOne_one, asTwo_two, wp_sPar3, asThree_three, wp_Prop, wp_NeC, wp_tNeC, wp_MethK, wp_DGet, wp_DHas, wp_tDHas, wp_DPutU, wp_ListDS, wp_ListTS, wp_DcS, wp_IndexC, wp_sAugL, wp_CatLS, wp_SortSet, wp_SortSetS, bName, List.set_cons_succ, List.set_cons_zero, List.append_nil, List.length_cons, List.length_nil, Nat.zero_add, Nat.reduceAdd, true_and, and_true, if_true, if_false, Bool.false_eq_true, Bool.not_true, Bool.not_false, List.take_zero, List.drop_zero, nil_appD]
    refine wf_imp (states_ok (Z := fun _ _ => False) (most := 5) hB (by decide) (by decide)) ?_ (fun _ _ z => z)
    intro d S hh
    obtain ⟨st, o, rfl, hst, n1, nm, hB, rfl⟩ := hh
    -- the rules
    rw [wp_Seq]
    simp only [wp_C, wp_Var, wp_Bin, wp_Cmp, wp_Un, wp_CallB, wp_Sl, wp_oNone, wp_oSome, wp_aNil, wp_aCons, wp_Tup, wp_Lst, wp_LstS, wp_And, wp_Or, wp_Not, wp_If, wp_CallF, wp_CallK, wp_tVal, wp_tCmp, wp_tAnd, wp_tOr, wp_tNot, wp_Chain, wp_tChain, wp_Next, wp_Brk, wp_Cont, wp_RetN, wp_Ret, wp_Expr, wp_sIf, wp_Asg, wp_sSub, wp_sPar, wp_sAug, wp_For, wp_Comp, wp_Settle, wp_Make, wp_MakeK, wp_Fld, wp_FldS, wp_MethC, wp_InC, wp_tInC, wp_EqC, wp_tEqC, wp_LenC, wp_TxtC, wp_jNil, wp_jCons, wp_Joined, wp_Fmt, wp_Calm, wp_Cval, wp_Meth, wp_Ix, wp_MakeR, wp_MakeRK, wp_aStar, wp_MakeS, wp_EnumU, wp_ListS, wp_iSeq, wp_Range1, wp_Range2, wp_tYes, wf_ok, rd_cons0, rd_cons, got_some, orGot_some, orGot_none, asB_bl, asI_int, asS_str, asOne_one, asTwo_two, wp_sPar3, asThree_three, wp_Prop, wp_NeC, wp_tNeC, wp_MethK, wp_DGet, wp_DHas, wp_tDHas, wp_DPutU, wp_ListDS, wp_ListTS, wp_DcS, wp_IndexC, wp_sAugL, wp_CatLS, wp_SortSet, wp_SortSetS, bName, List.set_cons_succ, List.set_cons_zero, List.append_nil, List.length_cons, List.length_nil, Nat.zero_add, Nat.reduceAdd, true_and, and_true, if_true, if_false, Bool.false_eq_true, Bool.not_true, Bool.not_false, List.take_zero, List.drop_zero, nil_appD]
    refine draw_to hB (by decide) (by decide) fun w o hw0 hw1 hB => ?_
    have rn : rng1 [.int w] = some ((List.range w.toNat).map fun i : Nat => .int (i : Int)) := by
      rw [rng1_int (by omega) (by omega), ← rangeD_map]
    have pl : ∀ {o : AO} {Q : D → Sto → Prop}, BagO o → (∀ c o', c ∈ st → BagO o' → Q (.str (txt [c])) [o']) → wf (m_law_pick [.ref 0, .str (txt st)] [o]) Q (fun _ _ => False) := fun hB k =>
      wf_imp (pick_txt (T := []) (Z := fun _ _ => False) hB (by omega) (by omega)) (fun d S ⟨c, hc, e, o', h, e'⟩ => by subst e e'; exact k c o' hc h) (fun _ _ z => z)
    simp only [wp_C, wp_Var, wp_Bin, wp_Cmp, wp_Un, wp_CallB, wp_Sl, wp_oNone, wp_oSome, wp_aNil, wp_aCons, wp_Tup, wp_Lst, wp_LstS, wp_And, wp_Or, wp_Not, wp_If, wp_CallF, wp_CallK, wp_tVal, wp_tCmp, wp_tAnd, wp_tOr, wp_tNot, wp_Chain, wp_tChain, wp_Next, wp_Brk, wp_Cont, wp_RetN, wp_Ret, wp_Expr, wp_sIf, wp_Asg, wp_sSub, wp_sPar, wp_sAug, wp_For, wp_Comp, wp_Settle, wp_Make, wp_MakeK, wp_Fld, wp_FldS, wp_MethC, wp_InC, wp_tInC, wp_EqC, wp_tEqC, wp_LenC, wp_TxtC, wp_jNil, wp_jCons, wp_Joined, wp_Fmt, wp_Calm, wp_Cval, wp_Meth, wp_Ix, wp_MakeR, wp_MakeRK, wp_aStar, wp_MakeS, wp_EnumU, wp_ListS, wp_iSeq, wp_Range1, wp_Range2, wp_tYes, wf_ok, rd_cons0, rd_cons, got_some, orGot_some, orGot_none, asB_bl, asI_int, asS_str, asOne_one, asTwo_two, wp_sPar3, asThree_three, wp_Prop, wp_NeC, wp_tNeC, wp_MethK, wp_DGet, wp_DHas, wp_tDHas, wp_DPutU, wp_ListDS, wp_ListTS, wp_DcS, wp_IndexC, wp_sAugL, wp_CatLS, wp_SortSet, wp_SortSetS, bName, List.set_cons_succ, List.set_cons_zero, List.append_nil, List.length_cons, List.length_nil, Nat.zero_add, Nat.reduceAdd, true_and, and_true, if_true, if_false, Bool.false_eq_true, Bool.not_true, Bool.not_false, List.take_zero, List.drop_zero, nil_appD, rn]
    refine ⟨by rw [List.length_map, List.length_range]; exact Nat.lt_of_lt_of_le (m := 4000000) (by omega) sz_big, comp_to (T := []) (fun i : Nat => .int (i : Int)) chD (fun _ (c : Ch) => c.1 ∈ st ∧ c.2.1 ∈ st) (List.range w.toNat) hB ?_ fun cs o hch hB => ?_⟩
    · intro i o hi hB
      simp only [wp_C, wp_Var, wp_Bin, wp_Cmp, wp_Un, wp_CallB, wp_Sl, wp_oNone, wp_oSome, wp_aNil, wp_aCons, wp_Tup, wp_Lst, wp_LstS, wp_And, wp_Or, wp_Not, wp_If, wp_CallF, wp_CallK, wp_tVal, wp_tCmp, wp_tAnd, wp_tOr, wp_tNot, wp_Chain, wp_tChain, wp_Next, wp_Brk, wp_Cont, wp_RetN, wp_Ret, wp_Expr, wp_sIf, wp_Asg, wp_sSub, wp_sPar, wp_sAug, wp_For, wp_Comp, wp_Settle, wp_Make, wp_MakeK, wp_Fld, wp_FldS, wp_MethC, wp_InC, wp_tInC, wp_EqC, wp_tEqC, wp_LenC, wp_TxtC, wp_jNil, wp_jCons, wp_Joined, wp_Fmt, wp_Calm, wp_Cval, wp_Meth, wp_Ix, wp_MakeR, wp_MakeRK, wp_aStar, wp_MakeS, wp_EnumU, wp_ListS, wp_iSeq, wp_Range1, wp_Range2, wp_tYes, wf_ok, rd_cons0, rd_cons, got_some, orGot_some, orGot_none, asB_bl, asI_int, asS_str, asOne_one, asTwo_two, wp_sPar3, asThree_three, wp_Prop, wp_NeC, wp_tNeC, wp_MethK, wp_DGet, wp_DHas, wp_tDHas, wp_DPutU, wp_ListDS, wp_ListTS, wp_DcS, wp_IndexC, wp_sAugL, wp_CatLS, wp_SortSet, wp_SortSetS, bName, List.set_cons_succ, List.set_cons_zero, List.append_nil, List.length_cons, List.length_nil, Nat.zero_add, Nat.reduceAdd, true_and, and_true, if_true, if_false, Bool.false_eq_true, Bool.not_true, Bool.not_false, List.take_zero, List.drop_zero, nil_appD, wipeE]
      refine pl hB fun a o ha hB => pl hB fun b o hb hB => draw_to hB (by decide) (by decide) fun v o hv0 hv1 hB => ?_
      simp only [wp_C, wp_Var, wp_Bin, wp_Cmp, wp_Un, wp_CallB, wp_Sl, wp_oNone, wp_oSome, wp_aNil, wp_aCons, wp_Tup, wp_Lst, wp_LstS, wp_And, wp_Or, wp_Not, wp_If, wp_CallF, wp_CallK, wp_tVal, wp_tCmp, wp_tAnd, wp_tOr, wp_tNot, wp_Chain, wp_tChain, wp_Next, wp_Brk, wp_Cont, wp_RetN, wp_Ret, wp_Expr, wp_sIf, wp_Asg, wp_sSub, wp_sPar, wp_sAug, wp_For, wp_Comp, wp_Settle, wp_Make, wp_MakeK, wp_Fld, wp_FldS, wp_MethC, wp_InC, wp_tInC, wp_EqC, wp_tEqC, wp_LenC, wp_TxtC, wp_jNil, wp_jCons, wp_Joined, wp_Fmt, wp_Calm, wp_Cval, wp_Meth, wp_Ix, wp_MakeR, wp_MakeRK, wp_aStar, wp_MakeS, wp_EnumU, wp_ListS, wp_iSeq, wp_Range1, wp_Range2, wp_tYes, wf_ok, rd_cons0, rd_cons, got_some, orGot_some, orGot_none, asB_bl, asI_int, asS_str, asOne_one, asTwo_two, wp_sPar3, asThree_three, wp_Prop, wp_NeC, wp_tNeC, wp_MethK, wp_DGet, wp_DHas, wp_tDHas, wp_DPutU, wp_ListDS, wp_ListTS, wp_DcS, wp_IndexC, wp_sAugL, wp_CatLS, wp_SortSet, wp_SortSetS, bName, List.set_cons_succ, List.set_cons_zero, List.append_nil, List.length_cons, List.length_nil, Nat.zero_add, Nat.reduceAdd, true_and, and_true, if_true, if_false, Bool.false_eq_true, Bool.not_true, Bool.not_false, List.take_zero, List.drop_zero, nil_appD, eqB_int]
      exact ⟨sz_le (by simp), (a, b, _), o, rfl, ⟨ha, hb⟩, hB, rfl⟩
    have lch : cs.length ≤ 4 := by have := hch.length; rw [List.length_range] at this; omega
    have hr : RulesO cs := ⟨by omega, fun c hc => by
      obtain ⟨_, _, h1, h2⟩ := pair_mem hch c hc
      obtain ⟨a1, a2⟩ := hst.abc _ h1
      obtain ⟨b1, b2⟩ := hst.abc _ h2
      exact ⟨a1, a2, b1, b2⟩⟩
    clear hch rn hw0 hw1 w pl
    have n5 : st.length ≤ 5 := by omega
    -- starts and goals
    rw [wp_Seq]
    simp only [wp_C, wp_Var, wp_Bin, wp_Cmp, wp_Un, wp_CallB, wp_Sl, wp_oNone, wp_oSome, wp_aNil, wp_aCons, wp_Tup, wp_Lst, wp_LstS, wp_And, wp_Or, wp_Not, wp_If, wp_CallF, wp_CallK, wp_tVal, wp_tCmp, wp_tAnd, wp_tOr, wp_tNot, wp_Chain, wp_tChain, wp_Next, wp_Brk, wp_Cont, wp_RetN, wp_Ret, wp_Expr, wp_sIf, wp_Asg, wp_sSub, wp_sPar, wp_sAug, wp_For, wp_Comp, wp_Settle, wp_Make, wp_MakeK, wp_Fld, wp_FldS, wp_MethC, wp_InC, wp_tInC, wp_EqC, wp_tEqC, wp_LenC, wp_TxtC, wp_jNil, wp_jCons, wp_Joined, wp_Fmt, wp_Calm, wp_Cval, wp_Meth, wp_Ix, wp_MakeR, wp_MakeRK, wp_aStar, wp_MakeS, wp_EnumU, wp_ListS, wp_iSeq, wp_Range1, wp_Range2, wp_tYes, wf_ok, rd_cons0, rd_cons, got_some, orGot_some, orGot_none, asB_bl, asI_int, asS_str, asOne_one, asTwo_two, wp_sPar3, asThree_three, wp_Prop, wp_NeC, wp_tNeC, wp_MethK, wp_DGet, wp_DHas, wp_tDHas, wp_DPutU, wp_ListDS, wp_ListTS, wp_DcS, wp_IndexC, wp_sAugL, wp_CatLS, wp_SortSet, wp_SortSetS, bName, List.set_cons_succ, List.set_cons_zero, List.append_nil, List.length_cons, List.length_nil, Nat.zero_add, Nat.reduceAdd, true_and, and_true, if_true, if_false, Bool.false_eq_true, Bool.not_true, Bool.not_false, List.take_zero, List.drop_zero, nil_appD, law_rules_ok hr lch]
    refine wf_imp (some_ok (Z := fun _ _ => False) hB n1 (by omega)) ?_ (fun _ _ z => z.elim)
    intro d S hh
    obtain ⟨sa, o, rfl, hsa, s1, hB, rfl⟩ := hh
    refine wf_imp (some_ok (Z := fun _ _ => False) hB n1 (by omega)) ?_ (fun _ _ z => z.elim)
    intro d S hh
    obtain ⟨ga, o, rfl, hga, g1, hB, rfl⟩ := hh
    refine ⟨sz_le (by simp), ?_⟩
    have ls := (hst.sub hsa)
    have lg := (hst.sub hga)
    have l5 := hsa.length_le
    have l5g := hga.length_le
    have nds : sa.Nodup := ls.asc.imp fun q => Nat.ne_of_lt q
    have b3 : ∀ x y z : D, bTup 3 (bCons (bName 8) (bCons (bName 9) (bCons (bName 10) bNil))) (.tup [x, y, z]) = fun r => some (((r.set 8 (some x)).set 9 (some y)).set 10 (some z)) := fun _ _ _ => rfl
    simp only [b3, wp_C, wp_Var, wp_Bin, wp_Cmp, wp_Un, wp_CallB, wp_Sl, wp_oNone, wp_oSome, wp_aNil, wp_aCons, wp_Tup, wp_Lst, wp_LstS, wp_And, wp_Or, wp_Not, wp_If, wp_CallF, wp_CallK, wp_tVal, wp_tCmp, wp_tAnd, wp_tOr, wp_tNot, wp_Chain, wp_tChain, wp_Next, wp_Brk, wp_Cont, wp_RetN, wp_Ret, wp_Expr, wp_sIf, wp_Asg, wp_sSub, wp_sPar, wp_sAug, wp_For, wp_Comp, wp_Settle, wp_Make, wp_MakeK, wp_Fld, wp_FldS, wp_MethC, wp_InC, wp_tInC, wp_EqC, wp_tEqC, wp_LenC, wp_TxtC, wp_jNil, wp_jCons, wp_Joined, wp_Fmt, wp_Calm, wp_Cval, wp_Meth, wp_Ix, wp_MakeR, wp_MakeRK, wp_aStar, wp_MakeS, wp_EnumU, wp_ListS, wp_iSeq, wp_Range1, wp_Range2, wp_tYes, wf_ok, rd_cons0, rd_cons, got_some, orGot_some, orGot_none, asB_bl, asI_int, asS_str, asOne_one, asTwo_two, wp_sPar3, asThree_three, wp_Prop, wp_NeC, wp_tNeC, wp_MethK, wp_DGet, wp_DHas, wp_tDHas, wp_DPutU, wp_ListDS, wp_ListTS, wp_DcS, wp_IndexC, wp_sAugL, wp_CatLS, wp_SortSet, wp_SortSetS, bName, List.set_cons_succ, List.set_cons_zero, List.append_nil, List.length_cons, List.length_nil, Nat.zero_add, Nat.reduceAdd, true_and, and_true, if_true, if_false, Bool.false_eq_true, Bool.not_true, Bool.not_false, List.take_zero, List.drop_zero, nil_appD]
    have t26 : 26 ≤ sizeLine := sz_le (by decide)
    have ar : ∀ (k : Nat) (S : Sto), k ≤ 100 → m_law_around [.lst (cs.map chD), .str (txt sa), .int k] S = .ok (.lst ((arL cs sa k).map keyT)) S := fun k S hk => around_ok hr ls.abc (by omega) hk
    have ar6 : ∀ (S : Sto), m_law_around [.lst (cs.map chD), .str (txt sa), .int 6] S = .ok (.lst ((ledL cs sa).map keyT)) S := fun S => by
      rw [← around_top hr nds ls.abc (by omega) (n := 6) (by omega)]; exact ar 6 S (by decide)
    have ml : ∀ S, mJoin S (.str (txt [])) [.lst ((ledL cs sa).map keyT)] = some (.str (txt (ledL cs sa)), S) := fun S => by
      have := mJoin_txt (S := S) (s := []) (xs := (ledL cs sa).map fun c => [c]) (d := .lst ((ledL cs sa).map keyT)) (by
        show some ((ledL cs sa).map keyT) = _
        rw [List.map_map]; rfl) (by
        have hn : (ledL cs sa).length ≤ 26 := by
          have := List.length_filter_le (fun c => @decide (∃ n, rchW cs sa n c) (Classical.propDecidable _)) (List.range' 97 26)
          simpa [ledL] using this
        have : ∀ l : List Nat, ((l.map fun c => [c]).map (·.length)).sum = l.length := fun l => by
          induction l with
          | nil => rfl
          | cons a l ih => simp at ih ⊢; omega
        rw [this]
        simp only [List.length_map, List.length_nil, Nat.mul_zero]
        omega)
      rw [joinL_sg] at this
      exact this
    rw [wp_Seq]
    simp only [lit_nil, wp_C, wp_Var, wp_Bin, wp_Cmp, wp_Un, wp_CallB, wp_Sl, wp_oNone, wp_oSome, wp_aNil, wp_aCons, wp_Tup, wp_Lst, wp_LstS, wp_And, wp_Or, wp_Not, wp_If, wp_CallF, wp_CallK, wp_tVal, wp_tCmp, wp_tAnd, wp_tOr, wp_tNot, wp_Chain, wp_tChain, wp_Next, wp_Brk, wp_Cont, wp_RetN, wp_Ret, wp_Expr, wp_sIf, wp_Asg, wp_sSub, wp_sPar, wp_sAug, wp_For, wp_Comp, wp_Settle, wp_Make, wp_MakeK, wp_Fld, wp_FldS, wp_MethC, wp_InC, wp_tInC, wp_EqC, wp_tEqC, wp_LenC, wp_TxtC, wp_jNil, wp_jCons, wp_Joined, wp_Fmt, wp_Calm, wp_Cval, wp_Meth, wp_Ix, wp_MakeR, wp_MakeRK, wp_aStar, wp_MakeS, wp_EnumU, wp_ListS, wp_iSeq, wp_Range1, wp_Range2, wp_tYes, wf_ok, rd_cons0, rd_cons, got_some, orGot_some, orGot_none, asB_bl, asI_int, asS_str, asOne_one, asTwo_two, wp_sPar3, asThree_three, wp_Prop, wp_NeC, wp_tNeC, wp_MethK, wp_DGet, wp_DHas, wp_tDHas, wp_DPutU, wp_ListDS, wp_ListTS, wp_DcS, wp_IndexC, wp_sAugL, wp_CatLS, wp_SortSet, wp_SortSetS, bName, List.set_cons_succ, List.set_cons_zero, List.append_nil, List.length_cons, List.length_nil, Nat.zero_add, Nat.reduceAdd, true_and, and_true, if_true, if_false, Bool.false_eq_true, Bool.not_true, Bool.not_false, List.take_zero, List.drop_zero, nil_appD, ar6, ml, isStr]
    -- led
    have nil0 : ledL cs [] = [] := by
      unfold ledL
      rw [List.filter_eq_nil_iff]
      rintro c _ hc
      obtain ⟨n, hn⟩ := @of_decide_eq_true _ (Classical.propDecidable _) hc
      have : ∀ n c, ¬ rchW cs [] n c := fun n => by
        induction n with
        | zero => exact fun c h => (nomatch h)
        | succ n ih => rintro c (h | ⟨r, _, h, _⟩) <;> exact ih _ h
      exact this n c hn
    have le1 : ∀ {S : Sto}, m_rules_led [rulesD cs, .str (txt sa)] S = .ok (.str (txt (ledL cs sa))) S := fun {S} => led_ok hr ls.abc (by omega)
    have le0 : ∀ {S : Sto}, m_rules_led [rulesD cs, .str (txt [])] S = .ok (.str (txt [])) S := fun {S} => by
      have := led_ok (S := S) (st := []) hr (fun c h => nomatch h) (by simp)
      rwa [nil0] at this
    have kc1 : ∀ x y : D, kc_rules_led_0_states [x] [y] = [x, y] := fun _ _ => rfl
    have kc2 : ∀ x y z : D, kc_rules_chain_0_goals_starts [x] [y, z] = [x, z, y] := fun _ _ _ => rfl
    have sm : ∀ {S : Sto} (x : D), plainD 6 x = true → m_law_same 6 [x, x] S = .ok (.bl true) S := fun x hx => same_ok 6 x x _ hx hx rfl
    rw [wp_Seq]
    simp only [lit_nil, wp_C, wp_Var, wp_Bin, wp_Cmp, wp_Un, wp_CallB, wp_Sl, wp_oNone, wp_oSome, wp_aNil, wp_aCons, wp_Tup, wp_Lst, wp_LstS, wp_And, wp_Or, wp_Not, wp_If, wp_CallF, wp_CallK, wp_tVal, wp_tCmp, wp_tAnd, wp_tOr, wp_tNot, wp_Chain, wp_tChain, wp_Next, wp_Brk, wp_Cont, wp_RetN, wp_Ret, wp_Expr, wp_sIf, wp_Asg, wp_sSub, wp_sPar, wp_sAug, wp_For, wp_Comp, wp_Settle, wp_Make, wp_MakeK, wp_Fld, wp_FldS, wp_MethC, wp_InC, wp_tInC, wp_EqC, wp_tEqC, wp_LenC, wp_TxtC, wp_jNil, wp_jCons, wp_Joined, wp_Fmt, wp_Calm, wp_Cval, wp_Meth, wp_Ix, wp_MakeR, wp_MakeRK, wp_aStar, wp_MakeS, wp_EnumU, wp_ListS, wp_iSeq, wp_Range1, wp_Range2, wp_tYes, wf_ok, rd_cons0, rd_cons, got_some, orGot_some, orGot_none, asB_bl, asI_int, asS_str, asOne_one, asTwo_two, wp_sPar3, asThree_three, wp_Prop, wp_NeC, wp_tNeC, wp_MethK, wp_DGet, wp_DHas, wp_tDHas, wp_DPutU, wp_ListDS, wp_ListTS, wp_DcS, wp_IndexC, wp_sAugL, wp_CatLS, wp_SortSet, wp_SortSetS, bName, List.set_cons_succ, List.set_cons_zero, List.append_nil, List.length_cons, List.length_nil, Nat.zero_add, Nat.reduceAdd, true_and, and_true, if_true, if_false, Bool.false_eq_true, Bool.not_true, Bool.not_false, List.take_zero, List.drop_zero, nil_appD, rules_ins, lk1, le1, le0, kc1]
    refine ⟨sz_le (by simp), sz_le (by simp), ?_⟩
    rw [sm _ (by rfl)]
    simp only [wp_C, wp_Var, wp_Bin, wp_Cmp, wp_Un, wp_CallB, wp_Sl, wp_oNone, wp_oSome, wp_aNil, wp_aCons, wp_Tup, wp_Lst, wp_LstS, wp_And, wp_Or, wp_Not, wp_If, wp_CallF, wp_CallK, wp_tVal, wp_tCmp, wp_tAnd, wp_tOr, wp_tNot, wp_Chain, wp_tChain, wp_Next, wp_Brk, wp_Cont, wp_RetN, wp_Ret, wp_Expr, wp_sIf, wp_Asg, wp_sSub, wp_sPar, wp_sAug, wp_For, wp_Comp, wp_Settle, wp_Make, wp_MakeK, wp_Fld, wp_FldS, wp_MethC, wp_InC, wp_tInC, wp_EqC, wp_tEqC, wp_LenC, wp_TxtC, wp_jNil, wp_jCons, wp_Joined, wp_Fmt, wp_Calm, wp_Cval, wp_Meth, wp_Ix, wp_MakeR, wp_MakeRK, wp_aStar, wp_MakeS, wp_EnumU, wp_ListS, wp_iSeq, wp_Range1, wp_Range2, wp_tYes, wf_ok, rd_cons0, rd_cons, got_some, orGot_some, orGot_none, asB_bl, asI_int, asS_str, asOne_one, asTwo_two, wp_sPar3, asThree_three, wp_Prop, wp_NeC, wp_tNeC, wp_MethK, wp_DGet, wp_DHas, wp_tDHas, wp_DPutU, wp_ListDS, wp_ListTS, wp_DcS, wp_IndexC, wp_sAugL, wp_CatLS, wp_SortSet, wp_SortSetS, bName, List.set_cons_succ, List.set_cons_zero, List.append_nil, List.length_cons, List.length_nil, Nat.zero_add, Nat.reduceAdd, true_and, and_true, if_true, if_false, Bool.false_eq_true, Bool.not_true, Bool.not_false, List.take_zero, List.drop_zero, nil_appD]
    -- chain
    obtain ⟨found, ho, fo⟩ := chain_ok (S := [o]) (goal := ga) hr nds (by omega) (by omega)
    rw [wp_Seq]
    simp only [wp_C, wp_Var, wp_Bin, wp_Cmp, wp_Un, wp_CallB, wp_Sl, wp_oNone, wp_oSome, wp_aNil, wp_aCons, wp_Tup, wp_Lst, wp_LstS, wp_And, wp_Or, wp_Not, wp_If, wp_CallF, wp_CallK, wp_tVal, wp_tCmp, wp_tAnd, wp_tOr, wp_tNot, wp_Chain, wp_tChain, wp_Next, wp_Brk, wp_Cont, wp_RetN, wp_Ret, wp_Expr, wp_sIf, wp_Asg, wp_sSub, wp_sPar, wp_sAug, wp_For, wp_Comp, wp_Settle, wp_Make, wp_MakeK, wp_Fld, wp_FldS, wp_MethC, wp_InC, wp_tInC, wp_EqC, wp_tEqC, wp_LenC, wp_TxtC, wp_jNil, wp_jCons, wp_Joined, wp_Fmt, wp_Calm, wp_Cval, wp_Meth, wp_Ix, wp_MakeR, wp_MakeRK, wp_aStar, wp_MakeS, wp_EnumU, wp_ListS, wp_iSeq, wp_Range1, wp_Range2, wp_tYes, wf_ok, rd_cons0, rd_cons, got_some, orGot_some, orGot_none, asB_bl, asI_int, asS_str, asOne_one, asTwo_two, wp_sPar3, asThree_three, wp_Prop, wp_NeC, wp_tNeC, wp_MethK, wp_DGet, wp_DHas, wp_tDHas, wp_DPutU, wp_ListDS, wp_ListTS, wp_DcS, wp_IndexC, wp_sAugL, wp_CatLS, wp_SortSet, wp_SortSetS, bName, List.set_cons_succ, List.set_cons_zero, List.append_nil, List.length_cons, List.length_nil, Nat.zero_add, Nat.reduceAdd, true_and, and_true, if_true, if_false, Bool.false_eq_true, Bool.not_true, Bool.not_false, List.take_zero, List.drop_zero, nil_appD, rules_ins, lk2, fo]
    rw [wp_Seq]
    have r7 : rng1 [.int 7] = some ((List.range 7).map fun i : Nat => .int (i : Int)) := by rw [← rangeD_map]; rfl
    have al : ∀ k, (arL cs sa k).length ≤ 26 := fun k => by
      have := List.length_filter_le (fun c => @decide (rchW cs sa k c) (Classical.propDecidable _)) (List.range' 97 26)
      simpa [arL] using this
    have a128 : ∀ k, ∀ c ∈ (arL cs sa k).filter (fun c => decide (c ∈ ga)), c < 128 := fun k c hc => by
      have := rchW_abc hr ls.abc ((arL_mem hr ls.abc).mp (List.mem_filter.mp hc).1); omega
    have ne : ∀ (k : Nat) (S : Sto), notB eqB S (.lst (((arL cs sa k).filter fun c => decide (c ∈ ga)).map keyT)) (.lst []) = some (goesB cs sa ga k) := fun k S => by
      unfold notB
      rw [keys_ne (a128 k)]; rfl
    have itk : ∀ l : List Nat, itemsOf (.lst (l.map keyT)) = some (l.map keyT) := fun _ => rfl
    simp only [wp_C, wp_Var, wp_Bin, wp_Cmp, wp_Un, wp_CallB, wp_Sl, wp_oNone, wp_oSome, wp_aNil, wp_aCons, wp_Tup, wp_Lst, wp_LstS, wp_And, wp_Or, wp_Not, wp_If, wp_CallF, wp_CallK, wp_tVal, wp_tCmp, wp_tAnd, wp_tOr, wp_tNot, wp_Chain, wp_tChain, wp_Next, wp_Brk, wp_Cont, wp_RetN, wp_Ret, wp_Expr, wp_sIf, wp_Asg, wp_sSub, wp_sPar, wp_sAug, wp_For, wp_Comp, wp_Settle, wp_Make, wp_MakeK, wp_Fld, wp_FldS, wp_MethC, wp_InC, wp_tInC, wp_EqC, wp_tEqC, wp_LenC, wp_TxtC, wp_jNil, wp_jCons, wp_Joined, wp_Fmt, wp_Calm, wp_Cval, wp_Meth, wp_Ix, wp_MakeR, wp_MakeRK, wp_aStar, wp_MakeS, wp_EnumU, wp_ListS, wp_iSeq, wp_Range1, wp_Range2, wp_tYes, wf_ok, rd_cons0, rd_cons, got_some, orGot_some, orGot_none, asB_bl, asI_int, asS_str, asOne_one, asTwo_two, wp_sPar3, asThree_three, wp_Prop, wp_NeC, wp_tNeC, wp_MethK, wp_DGet, wp_DHas, wp_tDHas, wp_DPutU, wp_ListDS, wp_ListTS, wp_DcS, wp_IndexC, wp_sAugL, wp_CatLS, wp_SortSet, wp_SortSetS, bName, List.set_cons_succ, List.set_cons_zero, List.append_nil, List.length_cons, List.length_nil, Nat.zero_add, Nat.reduceAdd, true_and, and_true, if_true, if_false, Bool.false_eq_true, Bool.not_true, Bool.not_false, List.take_zero, List.drop_zero, nil_appD, r7]
    refine ⟨by simp [lt_big], ?_⟩
    rw [comp_filter (i := 14) (fun i : Nat => .int (i : Int)) (fun i : Nat => .int (i : Int)) (goesB cs sa ga) (xs := List.range 7) (fun k hk => by
      have hk7 : k < 7 := List.mem_range.mp hk
      simp only [wp_C, wp_Var, wp_Bin, wp_Cmp, wp_Un, wp_CallB, wp_Sl, wp_oNone, wp_oSome, wp_aNil, wp_aCons, wp_Tup, wp_Lst, wp_LstS, wp_And, wp_Or, wp_Not, wp_If, wp_CallF, wp_CallK, wp_tVal, wp_tCmp, wp_tAnd, wp_tOr, wp_tNot, wp_Chain, wp_tChain, wp_Next, wp_Brk, wp_Cont, wp_RetN, wp_Ret, wp_Expr, wp_sIf, wp_Asg, wp_sSub, wp_sPar, wp_sAug, wp_For, wp_Comp, wp_Settle, wp_Make, wp_MakeK, wp_Fld, wp_FldS, wp_MethC, wp_InC, wp_tInC, wp_EqC, wp_tEqC, wp_LenC, wp_TxtC, wp_jNil, wp_jCons, wp_Joined, wp_Fmt, wp_Calm, wp_Cval, wp_Meth, wp_Ix, wp_MakeR, wp_MakeRK, wp_aStar, wp_MakeS, wp_EnumU, wp_ListS, wp_iSeq, wp_Range1, wp_Range2, wp_tYes, wf_ok, rd_cons0, rd_cons, got_some, orGot_some, orGot_none, asB_bl, asI_int, asS_str, asOne_one, asTwo_two, wp_sPar3, asThree_three, wp_Prop, wp_NeC, wp_tNeC, wp_MethK, wp_DGet, wp_DHas, wp_tDHas, wp_DPutU, wp_ListDS, wp_ListTS, wp_DcS, wp_IndexC, wp_sAugL, wp_CatLS, wp_SortSet, wp_SortSetS, bName, List.set_cons_succ, List.set_cons_zero, List.append_nil, List.length_cons, List.length_nil, Nat.zero_add, Nat.reduceAdd, true_and, and_true, if_true, if_false, Bool.false_eq_true, Bool.not_true, Bool.not_false, List.take_zero, List.drop_zero, nil_appD, wipeE, ar k _ (by omega), itk]
      refine ⟨lt_big (by rw [List.length_map]; have := al k; omega), ?_⟩
      rw [filter_keys (j := 10) (fun _ => rfl) (fun _ => rfl)]
      simp only [wp_C, wp_Var, wp_Bin, wp_Cmp, wp_Un, wp_CallB, wp_Sl, wp_oNone, wp_oSome, wp_aNil, wp_aCons, wp_Tup, wp_Lst, wp_LstS, wp_And, wp_Or, wp_Not, wp_If, wp_CallF, wp_CallK, wp_tVal, wp_tCmp, wp_tAnd, wp_tOr, wp_tNot, wp_Chain, wp_tChain, wp_Next, wp_Brk, wp_Cont, wp_RetN, wp_Ret, wp_Expr, wp_sIf, wp_Asg, wp_sSub, wp_sPar, wp_sAug, wp_For, wp_Comp, wp_Settle, wp_Make, wp_MakeK, wp_Fld, wp_FldS, wp_MethC, wp_InC, wp_tInC, wp_EqC, wp_tEqC, wp_LenC, wp_TxtC, wp_jNil, wp_jCons, wp_Joined, wp_Fmt, wp_Calm, wp_Cval, wp_Meth, wp_Ix, wp_MakeR, wp_MakeRK, wp_aStar, wp_MakeS, wp_EnumU, wp_ListS, wp_iSeq, wp_Range1, wp_Range2, wp_tYes, wf_ok, rd_cons0, rd_cons, got_some, orGot_some, orGot_none, asB_bl, asI_int, asS_str, asOne_one, asTwo_two, wp_sPar3, asThree_three, wp_Prop, wp_NeC, wp_tNeC, wp_MethK, wp_DGet, wp_DHas, wp_tDHas, wp_DPutU, wp_ListDS, wp_ListTS, wp_DcS, wp_IndexC, wp_sAugL, wp_CatLS, wp_SortSet, wp_SortSetS, bName, List.set_cons_succ, List.set_cons_zero, List.append_nil, List.length_cons, List.length_nil, Nat.zero_add, Nat.reduceAdd, true_and, and_true, if_true, if_false, Bool.false_eq_true, Bool.not_true, Bool.not_false, List.take_zero, List.drop_zero, nil_appD, wp_ok, ne]
      exact sz_le (by simp)) (fun k hk _ => by
      simp only [wp_C, wp_Var, wp_Bin, wp_Cmp, wp_Un, wp_CallB, wp_Sl, wp_oNone, wp_oSome, wp_aNil, wp_aCons, wp_Tup, wp_Lst, wp_LstS, wp_And, wp_Or, wp_Not, wp_If, wp_CallF, wp_CallK, wp_tVal, wp_tCmp, wp_tAnd, wp_tOr, wp_tNot, wp_Chain, wp_tChain, wp_Next, wp_Brk, wp_Cont, wp_RetN, wp_Ret, wp_Expr, wp_sIf, wp_Asg, wp_sSub, wp_sPar, wp_sAug, wp_For, wp_Comp, wp_Settle, wp_Make, wp_MakeK, wp_Fld, wp_FldS, wp_MethC, wp_InC, wp_tInC, wp_EqC, wp_tEqC, wp_LenC, wp_TxtC, wp_jNil, wp_jCons, wp_Joined, wp_Fmt, wp_Calm, wp_Cval, wp_Meth, wp_Ix, wp_MakeR, wp_MakeRK, wp_aStar, wp_MakeS, wp_EnumU, wp_ListS, wp_iSeq, wp_Range1, wp_Range2, wp_tYes, wf_ok, rd_cons0, rd_cons, got_some, orGot_some, orGot_none, asB_bl, asI_int, asS_str, asOne_one, asTwo_two, wp_sPar3, asThree_three, wp_Prop, wp_NeC, wp_tNeC, wp_MethK, wp_DGet, wp_DHas, wp_tDHas, wp_DPutU, wp_ListDS, wp_ListTS, wp_DcS, wp_IndexC, wp_sAugL, wp_CatLS, wp_SortSet, wp_SortSetS, bName, List.set_cons_succ, List.set_cons_zero, List.append_nil, List.length_cons, List.length_nil, Nat.zero_add, Nat.reduceAdd, true_and, and_true, if_true, if_false, Bool.false_eq_true, Bool.not_true, Bool.not_false, List.take_zero, List.drop_zero, nil_appD, wipeE])]
    simp only [wp_C, wp_Var, wp_Bin, wp_Cmp, wp_Un, wp_CallB, wp_Sl, wp_oNone, wp_oSome, wp_aNil, wp_aCons, wp_Tup, wp_Lst, wp_LstS, wp_And, wp_Or, wp_Not, wp_If, wp_CallF, wp_CallK, wp_tVal, wp_tCmp, wp_tAnd, wp_tOr, wp_tNot, wp_Chain, wp_tChain, wp_Next, wp_Brk, wp_Cont, wp_RetN, wp_Ret, wp_Expr, wp_sIf, wp_Asg, wp_sSub, wp_sPar, wp_sAug, wp_For, wp_Comp, wp_Settle, wp_Make, wp_MakeK, wp_Fld, wp_FldS, wp_MethC, wp_InC, wp_tInC, wp_EqC, wp_tEqC, wp_LenC, wp_TxtC, wp_jNil, wp_jCons, wp_Joined, wp_Fmt, wp_Calm, wp_Cval, wp_Meth, wp_Ix, wp_MakeR, wp_MakeRK, wp_aStar, wp_MakeS, wp_EnumU, wp_ListS, wp_iSeq, wp_Range1, wp_Range2, wp_tYes, wf_ok, rd_cons0, rd_cons, got_some, orGot_some, orGot_none, asB_bl, asI_int, asS_str, asOne_one, asTwo_two, wp_sPar3, asThree_three, wp_Prop, wp_NeC, wp_tNeC, wp_MethK, wp_DGet, wp_DHas, wp_tDHas, wp_DPutU, wp_ListDS, wp_ListTS, wp_DcS, wp_IndexC, wp_sAugL, wp_CatLS, wp_SortSet, wp_SortSetS, bName, List.set_cons_succ, List.set_cons_zero, List.append_nil, List.length_cons, List.length_nil, Nat.zero_add, Nat.reduceAdd, true_and, and_true, if_true, if_false, Bool.false_eq_true, Bool.not_true, Bool.not_false, List.take_zero, List.drop_zero, nil_appD, wp_ok]
    have gk := fun k => goesB_iff (k := k) (goal := ga) hr ls.abc
    rw [wp_Seq]
    cases found with
    | none =>
      have l0 : (List.range 7).filter (goesB cs sa ga) = [] := by
        rw [List.filter_eq_nil_iff]
        intro k _ h
        obtain ⟨g, hg, hk⟩ := (gk k).mp h
        exact ho.no rfl k g hg hk
      have isn : ∀ S : Sto, isB S .non .non = some true := fun _ => rfl
      have nsn : ∀ S : Sto, notB isB S .non .non = some false := fun _ => rfl
      have nnn : ∀ S : Sto, notB eqB S .non .non = some false := fun _ => rfl
      have nbb : ∀ S : Sto, notB eqB S (.bl true) (.bl true) = some false := fun _ => rfl
      have ee : ∀ S : Sto, eqB S (.lst []) (.lst []) = some true := fun _ => rfl
      simp only [chainR] at fo ⊢
      simp only [wp_C, wp_Var, wp_Bin, wp_Cmp, wp_Un, wp_CallB, wp_Sl, wp_oNone, wp_oSome, wp_aNil, wp_aCons, wp_Tup, wp_Lst, wp_LstS, wp_And, wp_Or, wp_Not, wp_If, wp_CallF, wp_CallK, wp_tVal, wp_tCmp, wp_tAnd, wp_tOr, wp_tNot, wp_Chain, wp_tChain, wp_Next, wp_Brk, wp_Cont, wp_RetN, wp_Ret, wp_Expr, wp_sIf, wp_Asg, wp_sSub, wp_sPar, wp_sAug, wp_For, wp_Comp, wp_Settle, wp_Make, wp_MakeK, wp_Fld, wp_FldS, wp_MethC, wp_InC, wp_tInC, wp_EqC, wp_tEqC, wp_LenC, wp_TxtC, wp_jNil, wp_jCons, wp_Joined, wp_Fmt, wp_Calm, wp_Cval, wp_Meth, wp_Ix, wp_MakeR, wp_MakeRK, wp_aStar, wp_MakeS, wp_EnumU, wp_ListS, wp_iSeq, wp_Range1, wp_Range2, wp_tYes, wf_ok, rd_cons0, rd_cons, got_some, orGot_some, orGot_none, asB_bl, asI_int, asS_str, asOne_one, asTwo_two, wp_sPar3, asThree_three, wp_Prop, wp_NeC, wp_tNeC, wp_MethK, wp_DGet, wp_DHas, wp_tDHas, wp_DPutU, wp_ListDS, wp_ListTS, wp_DcS, wp_IndexC, wp_sAugL, wp_CatLS, wp_SortSet, wp_SortSetS, bName, List.set_cons_succ, List.set_cons_zero, List.append_nil, List.length_cons, List.length_nil, Nat.zero_add, Nat.reduceAdd, true_and, and_true, if_true, if_false, Bool.false_eq_true, Bool.not_true, Bool.not_false, List.take_zero, List.drop_zero, nil_appD, l0, List.map_nil, ee, isn, nnn, nbb, rules_ins, lk2, kc2, fo, nsn]
      exact ⟨sz_le (by simp), _, _, _, _, _, _, _, _, _, _, _, o, rfl, rfl, hB⟩
    | some p =>
      obtain ⟨d1, d2, s0, hs0, g0, hg0, hch⟩ := ho.ok p rfl
      obtain ⟨lt, hlt⟩ := least_head (P := goesB cs sa ga) (k := p.length) ((gk _).mpr d1.at_) (fun j hj => by
        rw [← Bool.not_eq_true, gk]
        rintro ⟨g, hg, h⟩
        exact d1.no j hj g hg h) (by omega)
      have isn : ∀ S : Sto, isB S (wayD p) .non = some false := fun _ => rfl
      have nsn : ∀ S : Sto, notB isB S (wayD p) .non = some true := fun _ => rfl
      have nbb : ∀ S : Sto, notB eqB S (.bl false) (.bl false) = some false := fun _ => rfl
      have ee : ∀ S : Sto, eqB S (.lst ((p.length :: lt).map fun i : Nat => .int (i : Int))) (.lst []) = some false := fun _ => ints_ne
      have il : ∀ S : Sto, oIsi0 S [wayD p, .ty "list"] = some (.bl true) := fun _ => rfl
      have ln : ∀ S : Sto, oLen S [wayD p] = some (.int p.length) := fun S => by
        show some (D.int (p.map fun i : Nat => D.int (i : Int)).length) = _
        rw [List.length_map]
      have x0 : ∀ S : Sto, oIx S (.lst ((p.length :: lt).map fun i : Nat => .int (i : Int))) (.int 0) = some (.int p.length) := fun S => by
        have : oIx S (.lst ((p.length :: lt).map fun i : Nat => .int (i : Int))) (.int 0) = atI ((p.length :: lt).map fun i : Nat => .int (i : Int)) ((0 : Nat) : Int) := rfl
        rw [this, atI_nat (by simp)]
        rfl
      have nii : ∀ (S : Sto) (i : Int), notB eqB S (.int i) (.int i) = some false := fun S i => by
        unfold notB; rw [eqB_int, decide_eq_true rfl]; rfl
      have lo : ∀ S, orL oListOf oListOfT S [.str (txt sa)] = some (.lst (sa.map keyT)) := fun S => by
        have e1 : oListOf S [.str (txt sa)] = none := rfl
        have e2 : oListOfT S [.str (txt sa)] = some (.lst (signsD (txt sa))) := if_pos (sz_le (by rw [txt_len]; omega))
        have e3 : signsD (txt sa) = sa.map keyT := by
          unfold signsD; rw [txt_cps]; rfl
        unfold orL
        rw [e1, e2, e3]
      have itw : itemsOf (wayD p) = some (p.map fun i : Nat => .int (i : Int)) := rfl
      simp only [chainR] at fo ⊢
      simp only [wp_C, wp_Var, wp_Bin, wp_Cmp, wp_Un, wp_CallB, wp_Sl, wp_oNone, wp_oSome, wp_aNil, wp_aCons, wp_Tup, wp_Lst, wp_LstS, wp_And, wp_Or, wp_Not, wp_If, wp_CallF, wp_CallK, wp_tVal, wp_tCmp, wp_tAnd, wp_tOr, wp_tNot, wp_Chain, wp_tChain, wp_Next, wp_Brk, wp_Cont, wp_RetN, wp_Ret, wp_Expr, wp_sIf, wp_Asg, wp_sSub, wp_sPar, wp_sAug, wp_For, wp_Comp, wp_Settle, wp_Make, wp_MakeK, wp_Fld, wp_FldS, wp_MethC, wp_InC, wp_tInC, wp_EqC, wp_tEqC, wp_LenC, wp_TxtC, wp_jNil, wp_jCons, wp_Joined, wp_Fmt, wp_Calm, wp_Cval, wp_Meth, wp_Ix, wp_MakeR, wp_MakeRK, wp_aStar, wp_MakeS, wp_EnumU, wp_ListS, wp_iSeq, wp_Range1, wp_Range2, wp_tYes, wf_ok, rd_cons0, rd_cons, got_some, orGot_some, orGot_none, asB_bl, asI_int, asS_str, asOne_one, asTwo_two, wp_sPar3, asThree_three, wp_Prop, wp_NeC, wp_tNeC, wp_MethK, wp_DGet, wp_DHas, wp_tDHas, wp_DPutU, wp_ListDS, wp_ListTS, wp_DcS, wp_IndexC, wp_sAugL, wp_CatLS, wp_SortSet, wp_SortSetS, bName, List.set_cons_succ, List.set_cons_zero, List.append_nil, List.length_cons, List.length_nil, Nat.zero_add, Nat.reduceAdd, true_and, and_true, if_true, if_false, Bool.false_eq_true, Bool.not_true, Bool.not_false, List.take_zero, List.drop_zero, nil_appD, hlt, ee, isn, way_same, nbb, rules_ins, lk2, kc2, fo, nsn]
      refine ⟨sz_le (by simp), ?_⟩
      rw [wp_Seq]
      simp only [wp_C, wp_Var, wp_Bin, wp_Cmp, wp_Un, wp_CallB, wp_Sl, wp_oNone, wp_oSome, wp_aNil, wp_aCons, wp_Tup, wp_Lst, wp_LstS, wp_And, wp_Or, wp_Not, wp_If, wp_CallF, wp_CallK, wp_tVal, wp_tCmp, wp_tAnd, wp_tOr, wp_tNot, wp_Chain, wp_tChain, wp_Next, wp_Brk, wp_Cont, wp_RetN, wp_Ret, wp_Expr, wp_sIf, wp_Asg, wp_sSub, wp_sPar, wp_sAug, wp_For, wp_Comp, wp_Settle, wp_Make, wp_MakeK, wp_Fld, wp_FldS, wp_MethC, wp_InC, wp_tInC, wp_EqC, wp_tEqC, wp_LenC, wp_TxtC, wp_jNil, wp_jCons, wp_Joined, wp_Fmt, wp_Calm, wp_Cval, wp_Meth, wp_Ix, wp_MakeR, wp_MakeRK, wp_aStar, wp_MakeS, wp_EnumU, wp_ListS, wp_iSeq, wp_Range1, wp_Range2, wp_tYes, wf_ok, rd_cons0, rd_cons, got_some, orGot_some, orGot_none, asB_bl, asI_int, asS_str, asOne_one, asTwo_two, wp_sPar3, asThree_three, wp_Prop, wp_NeC, wp_tNeC, wp_MethK, wp_DGet, wp_DHas, wp_tDHas, wp_DPutU, wp_ListDS, wp_ListTS, wp_DcS, wp_IndexC, wp_sAugL, wp_CatLS, wp_SortSet, wp_SortSetS, bName, List.set_cons_succ, List.set_cons_zero, List.append_nil, List.length_cons, List.length_nil, Nat.zero_add, Nat.reduceAdd, true_and, and_true, if_true, if_false, Bool.false_eq_true, Bool.not_true, Bool.not_false, List.take_zero, List.drop_zero, nil_appD, il, ln, x0, nii]
      rw [wp_Seq]
      simp only [wp_C, wp_Var, wp_Bin, wp_Cmp, wp_Un, wp_CallB, wp_Sl, wp_oNone, wp_oSome, wp_aNil, wp_aCons, wp_Tup, wp_Lst, wp_LstS, wp_And, wp_Or, wp_Not, wp_If, wp_CallF, wp_CallK, wp_tVal, wp_tCmp, wp_tAnd, wp_tOr, wp_tNot, wp_Chain, wp_tChain, wp_Next, wp_Brk, wp_Cont, wp_RetN, wp_Ret, wp_Expr, wp_sIf, wp_Asg, wp_sSub, wp_sPar, wp_sAug, wp_For, wp_Comp, wp_Settle, wp_Make, wp_MakeK, wp_Fld, wp_FldS, wp_MethC, wp_InC, wp_tInC, wp_EqC, wp_tEqC, wp_LenC, wp_TxtC, wp_jNil, wp_jCons, wp_Joined, wp_Fmt, wp_Calm, wp_Cval, wp_Meth, wp_Ix, wp_MakeR, wp_MakeRK, wp_aStar, wp_MakeS, wp_EnumU, wp_ListS, wp_iSeq, wp_Range1, wp_Range2, wp_tYes, wf_ok, rd_cons0, rd_cons, got_some, orGot_some, orGot_none, asB_bl, asI_int, asS_str, asOne_one, asTwo_two, wp_sPar3, asThree_three, wp_Prop, wp_NeC, wp_tNeC, wp_MethK, wp_DGet, wp_DHas, wp_tDHas, wp_DPutU, wp_ListDS, wp_ListTS, wp_DcS, wp_IndexC, wp_sAugL, wp_CatLS, wp_SortSet, wp_SortSetS, bName, List.set_cons_succ, List.set_cons_zero, List.append_nil, List.length_cons, List.length_nil, Nat.zero_add, Nat.reduceAdd, true_and, and_true, if_true, if_false, Bool.false_eq_true, Bool.not_true, Bool.not_false, List.take_zero, List.drop_zero, nil_appD, lo]
      rw [wp_Seq]
      simp only [wp_C, wp_Var, wp_Bin, wp_Cmp, wp_Un, wp_CallB, wp_Sl, wp_oNone, wp_oSome, wp_aNil, wp_aCons, wp_Tup, wp_Lst, wp_LstS, wp_And, wp_Or, wp_Not, wp_If, wp_CallF, wp_CallK, wp_tVal, wp_tCmp, wp_tAnd, wp_tOr, wp_tNot, wp_Chain, wp_tChain, wp_Next, wp_Brk, wp_Cont, wp_RetN, wp_Ret, wp_Expr, wp_sIf, wp_Asg, wp_sSub, wp_sPar, wp_sAug, wp_For, wp_Comp, wp_Settle, wp_Make, wp_MakeK, wp_Fld, wp_FldS, wp_MethC, wp_InC, wp_tInC, wp_EqC, wp_tEqC, wp_LenC, wp_TxtC, wp_jNil, wp_jCons, wp_Joined, wp_Fmt, wp_Calm, wp_Cval, wp_Meth, wp_Ix, wp_MakeR, wp_MakeRK, wp_aStar, wp_MakeS, wp_EnumU, wp_ListS, wp_iSeq, wp_Range1, wp_Range2, wp_tYes, wf_ok, rd_cons0, rd_cons, got_some, orGot_some, orGot_none, asB_bl, asI_int, asS_str, asOne_one, asTwo_two, wp_sPar3, asThree_three, wp_Prop, wp_NeC, wp_tNeC, wp_MethK, wp_DGet, wp_DHas, wp_tDHas, wp_DPutU, wp_ListDS, wp_ListTS, wp_DcS, wp_IndexC, wp_sAugL, wp_CatLS, wp_SortSet, wp_SortSetS, bName, List.set_cons_succ, List.set_cons_zero, List.append_nil, List.length_cons, List.length_nil, Nat.zero_add, Nat.reduceAdd, true_and, and_true, if_true, if_false, Bool.false_eq_true, Bool.not_true, Bool.not_false, List.take_zero, List.drop_zero, nil_appD, itw]
      have lcs : ∀ S : Sto, oLen S [.lst (cs.map chD)] = some (.int cs.length) := fun S => by
        show some (D.int (cs.map chD).length) = _
        rw [List.length_map]
      refine wp_loop (fun xs r T => ∃ (p' H : List Nat) (x12 : Option D), xs = p'.map (fun i : Nat => .int (i : Int)) ∧ r = [some s, some (.ref 0), some x, some (.str (txt st)), some (.lst (cs.map chD)), some (.str (txt (ledL cs sa))), some (wayD p), some (.lst ((p.length :: lt).map fun i : Nat => .int (i : Int))), some (rulesD cs), some (.str (txt sa)), some (.str (txt ga)), some (.lst (H.map keyT)), x12, none, none, none] ∧ T = [o] ∧ H.length ≤ 26 ∧ (∀ c ∈ H, c < 128) ∧ ∃ s1 ∈ H, isCh cs s1 p' g0) _ _ _ ⟨p, sa, x12, rfl, rfl, rfl, by omega, fun c hc => by have := ls.abc c hc; omega, s0, hs0, hch⟩ ?_ ?_
      · rintro r T ⟨p', H, x12, hp, rfl, rfl, hH, h128, s1, hs1, hch⟩
        have : p' = [] := by simpa using hp.symm
        subst this
        have hch : s1 = g0 := hch
        subst hch
        have f0 : ((H.filter fun c => decide (c ∈ ga)).isEmpty) = false := by
          rw [← Bool.not_eq_true, List.isEmpty_iff, List.filter_eq_nil_iff]
          intro h
          exact h s1 hs1 (decide_eq_true hg0)
        have kn : ∀ S, eqB S (.lst ((H.filter fun c => decide (c ∈ ga)).map keyT)) (.lst []) = some false := fun S => by
          rw [keys_ne (fun c hc => h128 c (List.mem_filter.mp hc).1), f0]
        simp only [wp_C, wp_Var, wp_Bin, wp_Cmp, wp_Un, wp_CallB, wp_Sl, wp_oNone, wp_oSome, wp_aNil, wp_aCons, wp_Tup, wp_Lst, wp_LstS, wp_And, wp_Or, wp_Not, wp_If, wp_CallF, wp_CallK, wp_tVal, wp_tCmp, wp_tAnd, wp_tOr, wp_tNot, wp_Chain, wp_tChain, wp_Next, wp_Brk, wp_Cont, wp_RetN, wp_Ret, wp_Expr, wp_sIf, wp_Asg, wp_sSub, wp_sPar, wp_sAug, wp_For, wp_Comp, wp_Settle, wp_Make, wp_MakeK, wp_Fld, wp_FldS, wp_MethC, wp_InC, wp_tInC, wp_EqC, wp_tEqC, wp_LenC, wp_TxtC, wp_jNil, wp_jCons, wp_Joined, wp_Fmt, wp_Calm, wp_Cval, wp_Meth, wp_Ix, wp_MakeR, wp_MakeRK, wp_aStar, wp_MakeS, wp_EnumU, wp_ListS, wp_iSeq, wp_Range1, wp_Range2, wp_tYes, wf_ok, rd_cons0, rd_cons, got_some, orGot_some, orGot_none, asB_bl, asI_int, asS_str, asOne_one, asTwo_two, wp_sPar3, asThree_three, wp_Prop, wp_NeC, wp_tNeC, wp_MethK, wp_DGet, wp_DHas, wp_tDHas, wp_DPutU, wp_ListDS, wp_ListTS, wp_DcS, wp_IndexC, wp_sAugL, wp_CatLS, wp_SortSet, wp_SortSetS, bName, List.set_cons_succ, List.set_cons_zero, List.append_nil, List.length_cons, List.length_nil, Nat.zero_add, Nat.reduceAdd, true_and, and_true, if_true, if_false, Bool.false_eq_true, Bool.not_true, Bool.not_false, List.take_zero, List.drop_zero, nil_appD, itk, List.length_map]
        refine ⟨lt_big (by omega), ?_⟩
        rw [filter_keys (j := 10) (fun _ => rfl) (fun _ => rfl)]
        simp only [wp_C, wp_Var, wp_Bin, wp_Cmp, wp_Un, wp_CallB, wp_Sl, wp_oNone, wp_oSome, wp_aNil, wp_aCons, wp_Tup, wp_Lst, wp_LstS, wp_And, wp_Or, wp_Not, wp_If, wp_CallF, wp_CallK, wp_tVal, wp_tCmp, wp_tAnd, wp_tOr, wp_tNot, wp_Chain, wp_tChain, wp_Next, wp_Brk, wp_Cont, wp_RetN, wp_Ret, wp_Expr, wp_sIf, wp_Asg, wp_sSub, wp_sPar, wp_sAug, wp_For, wp_Comp, wp_Settle, wp_Make, wp_MakeK, wp_Fld, wp_FldS, wp_MethC, wp_InC, wp_tInC, wp_EqC, wp_tEqC, wp_LenC, wp_TxtC, wp_jNil, wp_jCons, wp_Joined, wp_Fmt, wp_Calm, wp_Cval, wp_Meth, wp_Ix, wp_MakeR, wp_MakeRK, wp_aStar, wp_MakeS, wp_EnumU, wp_ListS, wp_iSeq, wp_Range1, wp_Range2, wp_tYes, wf_ok, rd_cons0, rd_cons, got_some, orGot_some, orGot_none, asB_bl, asI_int, asS_str, asOne_one, asTwo_two, wp_sPar3, asThree_three, wp_Prop, wp_NeC, wp_tNeC, wp_MethK, wp_DGet, wp_DHas, wp_tDHas, wp_DPutU, wp_ListDS, wp_ListTS, wp_DcS, wp_IndexC, wp_sAugL, wp_CatLS, wp_SortSet, wp_SortSetS, bName, List.set_cons_succ, List.set_cons_zero, List.append_nil, List.length_cons, List.length_nil, Nat.zero_add, Nat.reduceAdd, true_and, and_true, if_true, if_false, Bool.false_eq_true, Bool.not_true, Bool.not_false, List.take_zero, List.drop_zero, nil_appD, wp_ok, kn]
        exact ⟨sz_le (by simp), _, _, _, _, _, _, _, _, _, _, _, o, rfl, rfl, hB⟩
      · rintro y ys r T ⟨p', H, x12, hp, rfl, rfl, hH, h128, s1, hs1, hch⟩
        cases p' with
        | nil => simp at hp
        | cons i p' =>
          simp only [List.map_cons, List.cons.injEq] at hp
          obtain ⟨rfl, rfl⟩ := hp
          obtain ⟨rl, hrl, e1, hch⟩ := hch
          subst e1
          obtain ⟨hi, ei⟩ := List.getElem?_eq_some_iff.mp hrl
          refine ⟨_, rfl, ?_⟩
          have xi : ∀ S : Sto, oIx S (.lst (cs.map chD)) (.int (i : Int)) = some (chD rl) := fun S => by
            have : oIx S (.lst (cs.map chD)) (.int (i : Int)) = atI (cs.map chD) (i : Int) := rfl
            rw [this, atI_nat (by rw [List.length_map]; exact hi), List.getElem_map, ei]
          have y0 : ∀ S, oIx S (chD rl) (.int 0) = some (keyT rl.1) := fun _ => rfl
          have y1 : ∀ S, oIx S (chD rl) (.int 1) = some (keyT rl.2.1) := fun _ => rfl
          have ni : ∀ S, notB inB S (keyT rl.1) (.lst (H.map keyT)) = some false := fun S => by
            unfold notB; rw [in_keys, decide_eq_true hs1]; rfl
          have rb := hr.ok rl (List.mem_of_getElem? hrl)
          have nb : ∀ S : Sto, m_law_number [.int (i : Int), .int 0, .int ((cs.length : Int) - 1)] S = .ok (.bl true) S := fun S => law_number_ok (by omega) (by omega)
          rw [wp_Seq]
          simp only [wp_C, wp_Var, wp_Bin, wp_Cmp, wp_Un, wp_CallB, wp_Sl, wp_oNone, wp_oSome, wp_aNil, wp_aCons, wp_Tup, wp_Lst, wp_LstS, wp_And, wp_Or, wp_Not, wp_If, wp_CallF, wp_CallK, wp_tVal, wp_tCmp, wp_tAnd, wp_tOr, wp_tNot, wp_Chain, wp_tChain, wp_Next, wp_Brk, wp_Cont, wp_RetN, wp_Ret, wp_Expr, wp_sIf, wp_Asg, wp_sSub, wp_sPar, wp_sAug, wp_For, wp_Comp, wp_Settle, wp_Make, wp_MakeK, wp_Fld, wp_FldS, wp_MethC, wp_InC, wp_tInC, wp_EqC, wp_tEqC, wp_LenC, wp_TxtC, wp_jNil, wp_jCons, wp_Joined, wp_Fmt, wp_Calm, wp_Cval, wp_Meth, wp_Ix, wp_MakeR, wp_MakeRK, wp_aStar, wp_MakeS, wp_EnumU, wp_ListS, wp_iSeq, wp_Range1, wp_Range2, wp_tYes, wf_ok, rd_cons0, rd_cons, got_some, orGot_some, orGot_none, asB_bl, asI_int, asS_str, asOne_one, asTwo_two, wp_sPar3, asThree_three, wp_Prop, wp_NeC, wp_tNeC, wp_MethK, wp_DGet, wp_DHas, wp_tDHas, wp_DPutU, wp_ListDS, wp_ListTS, wp_DcS, wp_IndexC, wp_sAugL, wp_CatLS, wp_SortSet, wp_SortSetS, bName, List.set_cons_succ, List.set_cons_zero, List.append_nil, List.length_cons, List.length_nil, Nat.zero_add, Nat.reduceAdd, true_and, and_true, if_true, if_false, Bool.false_eq_true, Bool.not_true, Bool.not_false, List.take_zero, List.drop_zero, nil_appD, lcs, oSub_int, nb, xi, y0, ni, y1]
          exact ⟨sz_le (by simp), p', [rl.2.1], _, rfl, rfl, by simp, fun c hc => by
            cases List.mem_singleton.mp hc
            have := rb.b2; omega, rl.2.1, by simp, hch⟩
  cases q : m_law [.fz (ns.map .int)] [] with
  | ok d S => rw [q] at key; exact ⟨S, by rw [show d = .bl true from key]⟩
  | er d S => rw [q] at key; exact key.elim
  | no => rw [q] at key; exact key.elim
end L2.U.K12
open PySem PySem.W PySem.Calls PyProof.Rows in
theorem PySem.Challenge.cw_untilnone_k12_whole_chains_of_rules_holds : PySem.Challenge.rw_untilnone_k12_whole_chains_of_rules.Holds := by
  w_on; o_law
  refine HandSHeadRun.head_any (r := OpenLaw.row PySem.Challenge.rw_untilnone_k12_whole_chains_of_rules) (q := view (OpenLaw.row PySem.Challenge.rw_untilnone_k12_whole_chains_of_rules).prog [22]) (H := L2.U.K12.hk) (ob := L2.U.K12.ob) (M := 12000) (loose := L2.U.K12.loose) (d := HandSHeadRun.topDef (OpenLaw.row PySem.Challenge.rw_untilnone_k12_whole_chains_of_rules).prog 22) (kwd := []) L2.U.K12.ob_eq
    (by kernel_rfl) (fun s => by kernel_rfl) L2.U.K12.run (by kernel_rfl) (by kernel_rfl) (by kernel_rfl) (by rfl) (by first | assumption | decide +kernel) (by decide +kernel) ⟨rfl, rfl, rfl, rfl, rfl, by decide +kernel⟩ ?hw ?hc
  case hw => w_witness2
  case hc =>
    refine L2.U.walk_U (l := PySem.Challenge.rw_untilnone_k12_whole_chains_of_rules) (n := 63) (k := 8) (x := "_law_script") rfl (by decide) (by kernel_rfl) ⟨rfl, by decide, by decide⟩ ?F
    intro w mg fa h Y G hmg0
    obtain ⟨K, KX, c⟩ := Y
    have hmg : mg ("law" : PySem.Str) = some (.ref fa) := by
      have e : (HandSHeadRun.topDef (OpenLaw.row PySem.Challenge.rw_untilnone_k12_whole_chains_of_rules).prog 22).name = ("law" : PySem.Str) := by kernel_rfl
      rw [← e]
      exact hmg0
    have N := L2.U.Nm.of KX G
    obtain ⟨fd, F⟩ := c.def_ 21
    have e2 := hmg.symm.trans (L2.U.glo_at N (L2.U.K12.gl_of c.chk) 13)
    cases e2
    exact ⟨K, fd, L2.U.K12.m_law, KX, fun s v => L2.FunD.bindsA (ps := ["_law_script"]) F (fun _ _ _ _ _ _ us h => by match us, h with | [_], _ => rfl) s [v] rfl, fun ns hl => L2.U.K12.law_run ns hl, fun base _ _ => L2.U.K12.fn_law c N F⟩
